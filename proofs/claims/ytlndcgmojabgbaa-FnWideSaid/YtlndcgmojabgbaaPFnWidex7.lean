/- Contracts of Go functions, each with the Lean function that says what it computes: begun by the print, turned by this session. No condition beyond what each theorem states. -/
import Derived.Test.YtlndcgmojabgbaaPFnWidex0
import Derived.Test.YtlndcgmojabgbaaPFnWidex1
import Derived.Test.YtlndcgmojabgbaaPFnWidex2
import Derived.Test.YtlndcgmojabgbaaPFnWidex3
import Derived.Test.YtlndcgmojabgbaaPFnWidex4
import Derived.Test.YtlndcgmojabgbaaPFnWidex6
namespace Go.Proofs.Ytlndcgmojabgbaa.PFnWide
open Go.RowKit Go.Proofs.YtlndcgmojabgbaaW.PrintWords Go.Proofs.YtlndcgmojabgbaaW.PrintLast Go.Proofs.YtlndcgmojabgbaaW.PrintMore
attribute [local go_sem] max2_int min2_int max_two min_two max_three min_three max_four min_four   -- for this text's walks alone
set_option linter.unusedVariables false
set_option linter.unusedSimpArgs false

attribute [local go_sem high] eqA25
/-! ### impl_NegWide: function 17 -/
def impl_NegWide.f (a0_0 : Bool) (a0_1 : Int) (a0_2 : Int) : Option (Bool × Int × Int) := (impl_WideOk.f a0_0 a0_1 a0_2).bind fun t284 => (if t284 = true then ((impl_wideOf.f (!a0_0) a0_1 a0_2).bind fun bt285 => (some (bt285.1, bt285.2.1, bt285.2.2))) else (some (a0_0, a0_1, a0_2)))
set_option maxHeartbeats 8000000 in
set_option maxRecDepth 100000 in
theorem impl_NegWide.calls (a0_0 : Bool) (a0_1 : Int) (a0_2 : Int) (r1 : Bool) (r2 : Int) (r3 : Int) (w : World) (h : impl_NegWide.f a0_0 a0_1 a0_2 = some (r1, r2, r3)) :
    Calls Try.prog 17 #[.agg #[.bool a0_0, .int .u64 a0_1, .int .u64 a0_2]] w fun e w' => e = .returned (.agg #[.bool r1, .int .u64 r2, .int .u64 r3]) ∧ Below w.heap.size w w' := by
  have hu25 := Try.underlying25
  have HB := Aside0.mk (Below.refl w.heap.size w)
  have H : ((impl_WideOk.f a0_0 a0_1 a0_2).bind fun t284 => (if t284 = true then ((impl_wideOf.f (!a0_0) a0_1 a0_2).bind fun bt285 => (some (bt285.1, bt285.2.1, bt285.2.2))) else (some (a0_0, a0_1, a0_2)))) = some (r1, r2, r3) := h
  clear h
  replace H := Option.bind_eq_some_iff.mp H
  obtain ⟨t284, A20, H⟩ := H
  replace H : (if t284 = true then ((impl_wideOf.f (!a0_0) a0_1 a0_2).bind fun bt285 => (some (bt285.1, bt285.2.1, bt285.2.2))) else (some (a0_0, a0_1, a0_2))) = some (r1, r2, r3) := H
  have A2 := Aside0.mk A20
  clear A20
  by_cases c3 : t284 = true
  · subst c3
    have H1 : ((impl_wideOf.f (!a0_0) a0_1 a0_2).bind fun bt285 => (some (bt285.1, bt285.2.1, bt285.2.2))) = some (r1, r2, r3) := by rw [if_pos rfl] at H; exact H
    clear H
    have H := H1
    clear H1
    replace H := Option.bind_eq_some_iff.mp H
    obtain ⟨⟨t285, t286, t287⟩, A40, H⟩ := H
    replace H : (some (t285, t286, t287)) = some (r1, r2, r3) := H
    have A4 := Aside0.mk A40
    clear A40
    simp only [Option.some.injEq, Prod.mk.injEq] at H
    obtain ⟨rfl, rfl, rfl⟩ := H
    go_enter Try.func17, Try.ntmps17
    go_wp2_with (first | ((with_reducible refine gate_dst (N := 1) rfl ?_); refine box_event ?hg (N := 1) ?hd (cs := #[.bool a0_0, .int .u64 a0_1, .int .u64 a0_2]) (t := 25) ?hr ?_; (case hd => rfl); (case hg => rfl); (case hr => first | (go_simp; done) | (go_simp; rfl)); intro gb282 hg w5 hbox hb; have n0_ := Aside0.mk (below_step bel_ hb); have n1_ := Aside0.mk (hbox); have n2_ := Aside0.mk ((by rw [hg]; exact (below_size bel_) : w.heap.size ≤ gb282)); have n3_ := Aside0.mk ((by rw [hg]; exact (below_size bel_) : w.heap.size ≤ gb282)); clear HB; have HB := n0_; have BK282 := n1_; have GW282 := n2_; have GE282 := n3_; clear n0_ n1_ n2_ n3_; clear hb hbox hg) | ((with_reducible refine gate_dst (N := 2) rfl ?_); refine box_event ?hg (N := 2) ?hd (cs := #[.bool false, .int .u64 0, .int .u64 0]) (t := 25) ?hr ?_; (case hd => rfl); (case hg => rfl); (case hr => first | (go_simp; done) | (go_simp; rfl)); intro gb283 hg w6 hbox hb; have n0_ := bb_ (g := gb282) (o := .cells #[.bool a0_0, .int .u64 a0_1, .int .u64 a0_2] 25 (0, 0)) hb; have n1_ := Aside0.mk (below_step bel_ hb); have n2_ := Aside0.mk (hbox); have n3_ := Aside0.mk ((by rw [hg]; exact (below_size bel_) : w.heap.size ≤ gb283)); have n4_ := Aside0.mk ((by rw [hg]; exact (below_size bel_) : w.heap.size ≤ gb283)); have n5_ := nlt_ (g := gb282) (o := .cells #[.bool a0_0, .int .u64 a0_1, .int .u64 a0_2] 25 (0, 0)) hg; have n6_ := ngt_ (g := gb282) (o := .cells #[.bool a0_0, .int .u64 a0_1, .int .u64 a0_2] 25 (0, 0)) hg; clear BK282; clear HB; have BK282 := n0_; have HB := n1_; have BK283 := n2_; have GW283 := n3_; have GE283 := n4_; have NB282_283 := n5_; have NB283_282 := n6_; clear n0_ n1_ n2_ n3_ n4_ n5_ n6_; clear hb hbox hg; have hnb7 := NB282_283.out; have hnc7 := NB283_282.out; have hcz8_0 : w6.cell? ⟨gb282, 0, none⟩ = some (.bool a0_0) := bc_; have hcz8_1 : w6.cell? ⟨gb282, 1, none⟩ = some (.int .u64 a0_1) := bc_; have hcz8_2 : w6.cell? ⟨gb282, 2, none⟩ = some (.int .u64 a0_2) := bc_; have hfz8_0 := blk_frozen BK282.out 0; have hfz8_1 := blk_frozen BK282.out 1; have hfz8_2 := blk_frozen BK282.out 2) | ((with_reducible refine gate_callee (f := 28) rfl ?_); refine goesL_ (some 4) rfl rfl Try.func28 (by kernel_rfl) rfl #[.agg #[.bool a0_0, .int .u64 a0_1, .int .u64 a0_2]] rfl mp_ ?_; (with_reducible refine (impl_WideOk.calls a0_0 a0_1 a0_2 true _ A2.out).mono ?_); rintro e w9 ⟨rfl, hb⟩; refine ⟨_, rfl, ?_⟩; have n0_ := bb_ (g := gb282) (o := .cells #[.bool a0_0, .int .u64 a0_1, .int .u64 a0_2] 25 (0, 0)) hb; have n1_ := bb_ (g := gb283) (o := .cells #[.bool false, .int .u64 0, .int .u64 0] 25 (0, 0)) hb; have n2_ := Aside0.mk (below_step bel_ hb); clear BK282; clear BK283; clear HB; have BK282 := n0_; have BK283 := n1_; have HB := n2_; clear n0_ n1_ n2_; (try clear hb); (try clear hb2); (try clear hk); (try clear hi); have hcz10_0 : w9.cell? ⟨gb282, 0, none⟩ = some (.bool a0_0) := bc_; have hcz10_1 : w9.cell? ⟨gb282, 1, none⟩ = some (.int .u64 a0_1) := bc_; have hcz10_2 : w9.cell? ⟨gb282, 2, none⟩ = some (.int .u64 a0_2) := bc_; have hfz10_0 := blk_frozen BK282.out 0; have hfz10_1 := blk_frozen BK282.out 1; have hfz10_2 := blk_frozen BK282.out 2) | ((with_reducible refine gate_callee (f := 60) rfl ?_); refine goesL_ (some 14) rfl rfl Try.func60 (by kernel_rfl) rfl #[.bool (!a0_0), .int .u64 a0_1, .int .u64 a0_2] rfl mp_ ?_; (with_reducible refine (impl_wideOf.calls (!a0_0) a0_1 a0_2 t285 t286 t287 _ A4.out).mono ?_); rintro e w11 ⟨rfl, hb⟩; refine ⟨_, rfl, ?_⟩; have n0_ := bb_ (g := gb282) (o := .cells #[.bool a0_0, .int .u64 a0_1, .int .u64 a0_2] 25 (0, 0)) hb; have n1_ := bb_ (g := gb283) (o := .cells #[.bool false, .int .u64 0, .int .u64 0] 25 (0, 0)) hb; have n2_ := Aside0.mk (below_step bel_ hb); clear BK282; clear BK283; clear HB; have BK282 := n0_; have BK283 := n1_; have HB := n2_; clear n0_ n1_ n2_; (try clear hb); (try clear hb2); (try clear hk); (try clear hi); have hcz12_0 : w11.cell? ⟨gb283, 0, none⟩ = some (.bool false) := bc_; have hcz12_1 : w11.cell? ⟨gb283, 1, none⟩ = some (.int .u64 0) := bc_; have hcz12_2 : w11.cell? ⟨gb283, 2, none⟩ = some (.int .u64 0) := bc_; have hfz12_0 := blk_frozen BK283.out 0; have hfz12_1 := blk_frozen BK283.out 1; have hfz12_2 := blk_frozen BK283.out 2))
    refine bodyPost_ret (results_cell_row rfl _ _ gb283 25 #[.bool t285, .int .u64 t286, .int .u64 t287] (0, 0) _ rfl (by (with_reducible repeat (first | refine bN_ _ ?_ | refine bd_ ?_ | refine ba_ _ ?_)); refine blk_put (cs := #[.bool t285, .int .u64 t286, .int .u64 0]) ?_ 2 _ rfl; (with_reducible repeat (first | refine bN_ _ ?_ | refine bd_ ?_ | refine ba_ _ ?_)); refine blk_put (cs := #[.bool t285, .int .u64 0, .int .u64 0]) ?_ 1 _ rfl; (with_reducible repeat (first | refine bN_ _ ?_ | refine bd_ ?_ | refine ba_ _ ?_)); refine blk_put (cs := #[.bool false, .int .u64 0, .int .u64 0]) ?_ 0 _ rfl; (with_reducible repeat (first | refine bN_ _ ?_ | refine bd_ ?_ | refine ba_ _ ?_)); exact BK283.out) Try.underlying25 rfl (by kernel_rfl)) rfl ?_
    exact ⟨by first | rfl | (simp [errW_none, errW_some] <;> rfl) | (simp [*, errW_none, errW_some] <;> rfl), by repeat (first | (with_reducible first | exact HB.out | apply below_alloc | apply pw_below_drewN | apply below_drew1 | refine below_set ?_ GE282.out | refine below_set ?_ GE283.out) | exact HB.out)⟩
  · replace c3 := Bool.eq_false_iff.mpr c3
    subst c3
    have H1 : (some (a0_0, a0_1, a0_2)) = some (r1, r2, r3) := by rw [if_neg (show ¬ (false = true) by decide)] at H; exact H
    clear H
    have H := H1
    clear H1
    simp only [Option.some.injEq, Prod.mk.injEq] at H
    obtain ⟨rfl, rfl, rfl⟩ := H
    go_enter Try.func17, Try.ntmps17
    go_wp2_with (first | ((with_reducible refine gate_dst (N := 1) rfl ?_); refine box_event ?hg (N := 1) ?hd (cs := #[.bool a0_0, .int .u64 a0_1, .int .u64 a0_2]) (t := 25) ?hr ?_; (case hd => rfl); (case hg => rfl); (case hr => first | (go_simp; done) | (go_simp; rfl)); intro gb282 hg w13 hbox hb; have n0_ := Aside0.mk (below_step bel_ hb); have n1_ := Aside0.mk (hbox); have n2_ := Aside0.mk ((by rw [hg]; exact (below_size bel_) : w.heap.size ≤ gb282)); have n3_ := Aside0.mk ((by rw [hg]; exact (below_size bel_) : w.heap.size ≤ gb282)); clear HB; have HB := n0_; have BK282 := n1_; have GW282 := n2_; have GE282 := n3_; clear n0_ n1_ n2_ n3_; clear hb hbox hg) | ((with_reducible refine gate_dst (N := 2) rfl ?_); refine box_event ?hg (N := 2) ?hd (cs := #[.bool false, .int .u64 0, .int .u64 0]) (t := 25) ?hr ?_; (case hd => rfl); (case hg => rfl); (case hr => first | (go_simp; done) | (go_simp; rfl)); intro gb283 hg w14 hbox hb; have n0_ := bb_ (g := gb282) (o := .cells #[.bool a0_0, .int .u64 a0_1, .int .u64 a0_2] 25 (0, 0)) hb; have n1_ := Aside0.mk (below_step bel_ hb); have n2_ := Aside0.mk (hbox); have n3_ := Aside0.mk ((by rw [hg]; exact (below_size bel_) : w.heap.size ≤ gb283)); have n4_ := Aside0.mk ((by rw [hg]; exact (below_size bel_) : w.heap.size ≤ gb283)); have n5_ := nlt_ (g := gb282) (o := .cells #[.bool a0_0, .int .u64 a0_1, .int .u64 a0_2] 25 (0, 0)) hg; have n6_ := ngt_ (g := gb282) (o := .cells #[.bool a0_0, .int .u64 a0_1, .int .u64 a0_2] 25 (0, 0)) hg; clear BK282; clear HB; have BK282 := n0_; have HB := n1_; have BK283 := n2_; have GW283 := n3_; have GE283 := n4_; have NB282_283 := n5_; have NB283_282 := n6_; clear n0_ n1_ n2_ n3_ n4_ n5_ n6_; clear hb hbox hg; have hnb15 := NB282_283.out; have hnc15 := NB283_282.out; have hcz16_0 : w14.cell? ⟨gb282, 0, none⟩ = some (.bool a0_0) := bc_; have hcz16_1 : w14.cell? ⟨gb282, 1, none⟩ = some (.int .u64 a0_1) := bc_; have hcz16_2 : w14.cell? ⟨gb282, 2, none⟩ = some (.int .u64 a0_2) := bc_; have hfz16_0 := blk_frozen BK282.out 0; have hfz16_1 := blk_frozen BK282.out 1; have hfz16_2 := blk_frozen BK282.out 2) | ((with_reducible refine gate_callee (f := 28) rfl ?_); refine goesL_ (some 4) rfl rfl Try.func28 (by kernel_rfl) rfl #[.agg #[.bool a0_0, .int .u64 a0_1, .int .u64 a0_2]] rfl mp_ ?_; (with_reducible refine (impl_WideOk.calls a0_0 a0_1 a0_2 false _ A2.out).mono ?_); rintro e w17 ⟨rfl, hb⟩; refine ⟨_, rfl, ?_⟩; have n0_ := bb_ (g := gb282) (o := .cells #[.bool a0_0, .int .u64 a0_1, .int .u64 a0_2] 25 (0, 0)) hb; have n1_ := bb_ (g := gb283) (o := .cells #[.bool false, .int .u64 0, .int .u64 0] 25 (0, 0)) hb; have n2_ := Aside0.mk (below_step bel_ hb); clear BK282; clear BK283; clear HB; have BK282 := n0_; have BK283 := n1_; have HB := n2_; clear n0_ n1_ n2_; (try clear hb); (try clear hb2); (try clear hk); (try clear hi); have hcz18_0 : w17.cell? ⟨gb282, 0, none⟩ = some (.bool a0_0) := bc_; have hcz18_1 : w17.cell? ⟨gb282, 1, none⟩ = some (.int .u64 a0_1) := bc_; have hcz18_2 : w17.cell? ⟨gb282, 2, none⟩ = some (.int .u64 a0_2) := bc_; have hfz18_0 := blk_frozen BK282.out 0; have hfz18_1 := blk_frozen BK282.out 1; have hfz18_2 := blk_frozen BK282.out 2; have hcz19_0 : w17.cell? ⟨gb283, 0, none⟩ = some (.bool false) := bc_; have hcz19_1 : w17.cell? ⟨gb283, 1, none⟩ = some (.int .u64 0) := bc_; have hcz19_2 : w17.cell? ⟨gb283, 2, none⟩ = some (.int .u64 0) := bc_; have hfz19_0 := blk_frozen BK283.out 0; have hfz19_1 := blk_frozen BK283.out 1; have hfz19_2 := blk_frozen BK283.out 2))
    refine bodyPost_ret (results_cell_row rfl _ _ gb283 25 #[.bool a0_0, .int .u64 a0_1, .int .u64 a0_2] (0, 0) _ rfl (by (with_reducible repeat (first | refine bN_ _ ?_ | refine bd_ ?_ | refine ba_ _ ?_)); refine blk_put (cs := #[.bool a0_0, .int .u64 a0_1, .int .u64 0]) ?_ 2 _ rfl; (with_reducible repeat (first | refine bN_ _ ?_ | refine bd_ ?_ | refine ba_ _ ?_)); refine blk_put (cs := #[.bool a0_0, .int .u64 0, .int .u64 0]) ?_ 1 _ rfl; (with_reducible repeat (first | refine bN_ _ ?_ | refine bd_ ?_ | refine ba_ _ ?_)); refine blk_put (cs := #[.bool false, .int .u64 0, .int .u64 0]) ?_ 0 _ rfl; (with_reducible repeat (first | refine bN_ _ ?_ | refine bd_ ?_ | refine ba_ _ ?_)); exact BK283.out) Try.underlying25 rfl (by kernel_rfl)) rfl ?_
    exact ⟨by first | rfl | (simp [errW_none, errW_some] <;> rfl) | (simp [*, errW_none, errW_some] <;> rfl), by repeat (first | (with_reducible first | exact HB.out | apply below_alloc | apply pw_below_drewN | apply below_drew1 | refine below_set ?_ GE282.out | refine below_set ?_ GE283.out) | exact HB.out)⟩

/-! ### impl_SubWide: function 27 -/
def impl_SubWide.f (k : Nat) (a0_0 : Bool) (a0_1 : Int) (a0_2 : Int) (a1_0 : Bool) (a1_1 : Int) (a1_2 : Int) : Option (Bool × Int × Int × Bool) := (impl_NegWide.f a1_0 a1_1 a1_2).bind fun bt291 => ((impl_AddWide.f k a0_0 a0_1 a0_2 bt291.1 bt291.2.1 bt291.2.2).bind fun bt294 => (some (bt294.1, bt294.2.1, bt294.2.2.1, bt294.2.2.2)))
theorem impl_SubWide.mono : ∀ a0 a1 a2 a3 a4 a5 k, LeO (impl_SubWide.f k a0 a1 a2 a3 a4 a5) (impl_SubWide.f (k + 1) a0 a1 a2 a3 a4 a5) := by
  intro a0 a1 a2 a3 a4 a5 k
  unfold impl_SubWide.f
  repeat' first
      | (with_reducible exact impl_AddWide.mono _ _ _ _ _ _ _)
      | (with_reducible exact LeO.refl _)
      | (with_reducible exact LeO.none _)
      | (with_reducible refine LeO.ite ?_ ?_)
      | (with_reducible refine LeO.bind ?_ (fun _ => ?_))
      | exact impl_AddWide.mono _ _ _ _ _ _ _
      | exact LeO.none _
      | refine LeO.ite ?_ ?_
      | refine LeO.bind ?_ (fun _ => ?_)
def impl_SubWide.T1 : Bool × List (List Nat × List Nat) := (true, [([], []), ([], []), ([1], [1]), ([0, 2, 2], [0, 2]), ([3], [3]), ([3], [3]), ([4, 3, 0, 1, 2, 3, 4, 5], [4]), ([5, 6, 0, 1, 2, 3, 4, 5, 6], [5])])
def impl_SubWide.B1 : List Nat := [0, 0, 2, 7, 15, 15, 63, 127]
theorem impl_SubWide.tab1 : rtab .any (opsOf Try.f27 1) = impl_SubWide.T1 := by kernel_rfl
theorem impl_SubWide.bits1 : waitsOk impl_SubWide.T1.2 impl_SubWide.B1 = true := by kernel_rfl
set_option maxHeartbeats 8000000 in
set_option maxRecDepth 100000 in
theorem impl_SubWide.calls (k : Nat) (a0_0 : Bool) (a0_1 : Int) (a0_2 : Int) (a1_0 : Bool) (a1_1 : Int) (a1_2 : Int) (r1 : Bool) (r2 : Int) (r3 : Int) (r4 : Bool) (w : World) (h : impl_SubWide.f k a0_0 a0_1 a0_2 a1_0 a1_1 a1_2 = some (r1, r2, r3, r4)) :
    Calls Try.prog 27 #[.agg #[.bool a0_0, .int .u64 a0_1, .int .u64 a0_2], .agg #[.bool a1_0, .int .u64 a1_1, .int .u64 a1_2]] w fun e w' => e = .returned (.tuple #[.agg #[.bool r1, .int .u64 r2, .int .u64 r3], .bool r4]) ∧ Below w.heap.size w w' := by
  have hu25 := Try.underlying25
  have HB := Aside0.mk (Below.refl w.heap.size w)
  have H : ((impl_NegWide.f a1_0 a1_1 a1_2).bind fun bt291 => ((impl_AddWide.f k a0_0 a0_1 a0_2 bt291.1 bt291.2.1 bt291.2.2).bind fun bt294 => (some (bt294.1, bt294.2.1, bt294.2.2.1, bt294.2.2.2)))) = some (r1, r2, r3, r4) := h
  clear h
  replace H := Option.bind_eq_some_iff.mp H
  obtain ⟨⟨t291, t292, t293⟩, A30, H⟩ := H
  replace H : ((impl_AddWide.f k a0_0 a0_1 a0_2 t291 t292 t293).bind fun bt294 => (some (bt294.1, bt294.2.1, bt294.2.2.1, bt294.2.2.2))) = some (r1, r2, r3, r4) := H
  have A3 := Aside0.mk A30
  clear A30
  replace H := Option.bind_eq_some_iff.mp H
  obtain ⟨⟨t294, t295, t296, t297⟩, A40, H⟩ := H
  replace H : (some (t294, t295, t296, t297)) = some (r1, r2, r3, r4) := H
  have A4 := Aside0.mk A40
  clear A40
  simp only [Option.some.injEq, Prod.mk.injEq] at H
  obtain ⟨rfl, rfl, rfl, rfl⟩ := H
  go_enter Try.func27, Try.ntmps27
  try go_wp2_with (first | ((with_reducible refine gate_dst (N := 2) rfl ?_); refine box_event ?hg (N := 2) ?hd (cs := #[.bool a0_0, .int .u64 a0_1, .int .u64 a0_2]) (t := 25) ?hr ?_; (case hd => rfl); (case hg => rfl); (case hr => first | (go_simp; done) | (go_simp; rfl)); intro gb288 hg w5 hbox hb; have n0_ := Aside0.mk (below_step bel_ hb); have n1_ := Aside0.mk (hbox); have n2_ := Aside0.mk ((by rw [hg]; exact (below_size bel_) : w.heap.size ≤ gb288)); have n3_ := Aside0.mk ((by rw [hg]; exact (below_size bel_) : w.heap.size ≤ gb288)); clear HB; have HB := n0_; have BK288 := n1_; have GW288 := n2_; have GE288 := n3_; clear n0_ n1_ n2_ n3_; clear hb hbox hg) | ((with_reducible refine gate_dst (N := 3) rfl ?_); refine box_event ?hg (N := 3) ?hd (cs := #[.bool a1_0, .int .u64 a1_1, .int .u64 a1_2]) (t := 25) ?hr ?_; (case hd => rfl); (case hg => rfl); (case hr => first | (go_simp; done) | (go_simp; rfl)); intro gb289 hg w6 hbox hb; have n0_ := bb_ (g := gb288) (o := .cells #[.bool a0_0, .int .u64 a0_1, .int .u64 a0_2] 25 (0, 0)) hb; have n1_ := Aside0.mk (below_step bel_ hb); have n2_ := Aside0.mk (hbox); have n3_ := Aside0.mk ((by rw [hg]; exact (below_size bel_) : w.heap.size ≤ gb289)); have n4_ := Aside0.mk ((by rw [hg]; exact (below_size bel_) : w.heap.size ≤ gb289)); have n5_ := nlt_ (g := gb288) (o := .cells #[.bool a0_0, .int .u64 a0_1, .int .u64 a0_2] 25 (0, 0)) hg; have n6_ := ngt_ (g := gb288) (o := .cells #[.bool a0_0, .int .u64 a0_1, .int .u64 a0_2] 25 (0, 0)) hg; clear BK288; clear HB; have BK288 := n0_; have HB := n1_; have BK289 := n2_; have GW289 := n3_; have GE289 := n4_; have NB288_289 := n5_; have NB289_288 := n6_; clear n0_ n1_ n2_ n3_ n4_ n5_ n6_; clear hb hbox hg) | ((with_reducible refine gate_dst (N := 4) rfl ?_); refine box_event ?hg (N := 4) ?hd (cs := #[.bool false, .int .u64 0, .int .u64 0]) (t := 25) ?hr ?_; (case hd => rfl); (case hg => rfl); (case hr => first | (go_simp; done) | (go_simp; rfl)); intro gb290 hg w7 hbox hb; have n0_ := bb_ (g := gb288) (o := .cells #[.bool a0_0, .int .u64 a0_1, .int .u64 a0_2] 25 (0, 0)) hb; have n1_ := bb_ (g := gb289) (o := .cells #[.bool a1_0, .int .u64 a1_1, .int .u64 a1_2] 25 (0, 0)) hb; have n2_ := Aside0.mk (below_step bel_ hb); have n3_ := Aside0.mk (hbox); have n4_ := Aside0.mk ((by rw [hg]; exact (below_size bel_) : w.heap.size ≤ gb290)); have n5_ := Aside0.mk ((by rw [hg]; exact (below_size bel_) : w.heap.size ≤ gb290)); have n6_ := nlt_ (g := gb288) (o := .cells #[.bool a0_0, .int .u64 a0_1, .int .u64 a0_2] 25 (0, 0)) hg; have n7_ := ngt_ (g := gb288) (o := .cells #[.bool a0_0, .int .u64 a0_1, .int .u64 a0_2] 25 (0, 0)) hg; have n8_ := nlt_ (g := gb289) (o := .cells #[.bool a1_0, .int .u64 a1_1, .int .u64 a1_2] 25 (0, 0)) hg; have n9_ := ngt_ (g := gb289) (o := .cells #[.bool a1_0, .int .u64 a1_1, .int .u64 a1_2] 25 (0, 0)) hg; clear BK288; clear BK289; clear HB; have BK288 := n0_; have BK289 := n1_; have HB := n2_; have BK290 := n3_; have GW290 := n4_; have GE290 := n5_; have NB288_290 := n6_; have NB290_288 := n7_; have NB289_290 := n8_; have NB290_289 := n9_; clear n0_ n1_ n2_ n3_ n4_ n5_ n6_ n7_ n8_ n9_; clear hb hbox hg))
  have n0_ := Aside0.mk (blk_drew BK288.out)
  have n1_ := Aside0.mk (blk_drew BK289.out)
  have n2_ := Aside0.mk (blk_drew BK290.out)
  have n3_ := Aside0.mk (below_drew1 HB.out)
  clear BK288
  clear BK289
  clear BK290
  clear HB
  have BK288 := n0_
  have BK289 := n1_
  have BK290 := n2_
  have HB := n3_
  clear n0_ n1_ n2_ n3_
  refine start_ (n := 8) (S := fun w' => w'.cell? ⟨gb288, 0, none⟩ = some (.bool a0_0) ∧ w'.cell? ⟨gb288, 1, none⟩ = some (.int .u64 a0_1) ∧ w'.cell? ⟨gb288, 2, none⟩ = some (.int .u64 a0_2) ∧ w'.cell? ⟨gb289, 0, none⟩ = some (.bool a1_0) ∧ w'.cell? ⟨gb289, 1, none⟩ = some (.int .u64 a1_1) ∧ w'.cell? ⟨gb289, 2, none⟩ = some (.int .u64 a1_2)) (ds := []) #[false, false, false, false, false, false, false, false] (by kernel_rfl) rfl rfl ⟨bc_, bc_, bc_, bc_, bc_, bc_⟩ (fun hHeld => ?_); refine with_tabW impl_SubWide.tab1 impl_SubWide.bits1 (fun HT_ HW_ => ?_)
  generalize w7.drew = w8 at BK288 BK289 BK290 HB hHeld ⊢
  refine take_ (i := 0) (N := some 6) (v := ?_) (a' := ?_) #[true, false, false, false, false, false, false, false] rfl rfl (take_ofW HT_.out HW_.out (by kernel_rfl)) (fun _ _ _ h => h) (Or.inl ⟨by rfl, ?_⟩) hHeld ?_ ?_
  rotate_left
  · rintro w' ⟨s0, s1, s2, s3, s4, s5⟩
    go_simp
    with_reducible rfl
  rotate_left
  · simp only [Act.put, la_, lb_, lc_, i64_w, i32_w]
    rfl
  refine take_ (i := 1) (N := some 7) (v := ?_) (a' := ?_) #[true, true, false, false, false, false, false, false] rfl rfl (take_ofW HT_.out HW_.out (by kernel_rfl)) (fun _ _ _ h => h) (Or.inl ⟨by rfl, ?_⟩) hHeld ?_ ?_
  rotate_left
  · rintro w' ⟨s0, s1, s2, s3, s4, s5⟩
    go_simp
    with_reducible rfl
  rotate_left
  · simp only [Act.put, la_, lb_, lc_, i64_w, i32_w]
    rfl
  refine one_ (i := 2) (N := some 8) #[true, true, true, false, false, false, false, false] rfl rfl (one_of HT_.out (by kernel_rfl)) (by decide) (fun K hK => ?_)
  refine goes_ Try.func17 (by kernel_rfl) rfl #[.agg #[.bool a1_0, .int .u64 a1_1, .int .u64 a1_2]] (by rfl) rfl rfl mp_ ?_
  with_reducible refine (impl_NegWide.calls a1_0 a1_1 a1_2 t291 t292 t293 _ A3.out).mono ?_
  rintro e w9 ⟨rfl, hb⟩
  refine ⟨_, rfl, ?_⟩
  have n0_ := bb_ (g := gb288) (o := .cells #[.bool a0_0, .int .u64 a0_1, .int .u64 a0_2] 25 (0, 0)) hb
  have n1_ := bb_ (g := gb289) (o := .cells #[.bool a1_0, .int .u64 a1_1, .int .u64 a1_2] 25 (0, 0)) hb
  have n2_ := bb_ (g := gb290) (o := .cells #[.bool false, .int .u64 0, .int .u64 0] 25 (0, 0)) hb
  have n3_ := Aside0.mk (below_step bel_ hb)
  clear BK288
  clear BK289
  clear BK290
  clear HB
  have BK288 := n0_
  have BK289 := n1_
  have BK290 := n2_
  have HB := n3_
  clear n0_ n1_ n2_ n3_
  (try clear hb)
  (try clear hb2)
  (try clear hk)
  (try clear hi)
  refine hK.out _ _ ⟨bc_, bc_, bc_, bc_, bc_, bc_⟩ (fun hHeld => ?_)
  clear hK K
  refine norm_ (a' := ?_) ?_ ?_
  rotate_left
  · show Act.put _ (some 8) _ = _
    simp only [Act.put, la_, lb_, lc_, i64_w, i32_w]
    rfl
  refine one_ (i := 3) (N := some 9) #[true, true, true, true, false, false, false, false] rfl rfl (one_of HT_.out (by kernel_rfl)) (by decide) (fun K hK => ?_)
  refine goes_ Try.func25 (by kernel_rfl) rfl #[.agg #[.bool a0_0, .int .u64 a0_1, .int .u64 a0_2], .agg #[.bool t291, .int .u64 t292, .int .u64 t293]] (by rfl) rfl rfl mp_ ?_
  with_reducible refine (impl_AddWide.calls k a0_0 a0_1 a0_2 t291 t292 t293 t294 t295 t296 t297 _ A4.out).mono ?_
  rintro e w10 ⟨rfl, hb⟩
  refine ⟨_, rfl, ?_⟩
  have n0_ := bb_ (g := gb288) (o := .cells #[.bool a0_0, .int .u64 a0_1, .int .u64 a0_2] 25 (0, 0)) hb
  have n1_ := bb_ (g := gb289) (o := .cells #[.bool a1_0, .int .u64 a1_1, .int .u64 a1_2] 25 (0, 0)) hb
  have n2_ := bb_ (g := gb290) (o := .cells #[.bool false, .int .u64 0, .int .u64 0] 25 (0, 0)) hb
  have n3_ := Aside0.mk (below_step bel_ hb)
  clear BK288
  clear BK289
  clear BK290
  clear HB
  have BK288 := n0_
  have BK289 := n1_
  have BK290 := n2_
  have HB := n3_
  clear n0_ n1_ n2_ n3_
  (try clear hb)
  (try clear hb2)
  (try clear hk)
  (try clear hi)
  refine hK.out _ _ ⟨bc_, bc_, bc_, bc_, bc_, bc_⟩ (fun hHeld => ?_)
  clear hK K
  refine norm_ (a' := ?_) ?_ ?_
  rotate_left
  · show Act.put _ (some 9) _ = _
    simp only [Act.put, la_, lb_, lc_, i64_w, i32_w]
    rfl
  refine pure_ (i := 4) (N := some 10) (v := ?_) (a' := ?_) #[true, true, true, true, true, false, false, false] rfl rfl (any_of HT_.out (by kernel_rfl)) (fun _ _ _ h => h) (Or.inl ⟨by rfl, ?_⟩) ?_ ?_
  rotate_left
  · intro w'
    go_simp
    with_reducible rfl
  rotate_left
  · simp only [Act.put, la_, lb_, lc_, i64_w, i32_w]
    rfl
  refine pure_ (i := 5) (N := some 11) (v := ?_) (a' := ?_) #[true, true, true, true, true, true, false, false] rfl rfl (any_of HT_.out (by kernel_rfl)) (fun _ _ _ h => h) (Or.inl ⟨by rfl, ?_⟩) ?_ ?_
  rotate_left
  · intro w'
    go_simp
    with_reducible rfl
  rotate_left
  · simp only [Act.put, la_, lb_, lc_, i64_w, i32_w]
    rfl
  refine one_ (i := 6) (N := none) #[true, true, true, true, true, true, true, false] rfl rfl (one_of HT_.out (by kernel_rfl)) (by decide) (fun K hK => ?_)
  have hs11 : w10.cell? ⟨gb290, 0, none⟩ = some (.bool false) := (blk_cell BK290.out 0).trans rfl
  have hfs11 := blk_frozen BK290.out 0
  have hns11_0 := NB288_290.out
  have hns11_1 := NB289_290.out
  have hms11_0 := NB290_288.out
  have hms11_1 := NB290_289.out
  have hs12 : w10.cell? ⟨gb290, 1, none⟩ = some (.int .u64 0) := (blk_cell BK290.out 1).trans rfl
  have hfs12 := blk_frozen BK290.out 1
  have hns12_0 := NB288_290.out
  have hns12_1 := NB289_290.out
  have hms12_0 := NB290_288.out
  have hms12_1 := NB290_289.out
  have hs13 : w10.cell? ⟨gb290, 2, none⟩ = some (.int .u64 0) := (blk_cell BK290.out 2).trans rfl
  have hfs13 := blk_frozen BK290.out 2
  have hns13_0 := NB288_290.out
  have hns13_1 := NB289_290.out
  have hms13_0 := NB290_288.out
  have hms13_1 := NB290_289.out
  refine skip_ (w1 := ?_) (by rfl) rfl ?_ ?_
  rotate_left
  · go_simp
    rfl
  refine hK.out _ _ ⟨((cell_far (p := ⟨gb290, _, none⟩) NB288_290.out _).trans (((cell_far (p := ⟨gb290, _, none⟩) NB288_290.out _).trans (((cell_far (p := ⟨gb290, _, none⟩) NB288_290.out _).trans (hHeld.1)))))), ((cell_far (p := ⟨gb290, _, none⟩) NB288_290.out _).trans (((cell_far (p := ⟨gb290, _, none⟩) NB288_290.out _).trans (((cell_far (p := ⟨gb290, _, none⟩) NB288_290.out _).trans (hHeld.2.1)))))), ((cell_far (p := ⟨gb290, _, none⟩) NB288_290.out _).trans (((cell_far (p := ⟨gb290, _, none⟩) NB288_290.out _).trans (((cell_far (p := ⟨gb290, _, none⟩) NB288_290.out _).trans (hHeld.2.2.1)))))), ((cell_far (p := ⟨gb290, _, none⟩) NB289_290.out _).trans (((cell_far (p := ⟨gb290, _, none⟩) NB289_290.out _).trans (((cell_far (p := ⟨gb290, _, none⟩) NB289_290.out _).trans (hHeld.2.2.2.1)))))), ((cell_far (p := ⟨gb290, _, none⟩) NB289_290.out _).trans (((cell_far (p := ⟨gb290, _, none⟩) NB289_290.out _).trans (((cell_far (p := ⟨gb290, _, none⟩) NB289_290.out _).trans (hHeld.2.2.2.2.1)))))), ((cell_far (p := ⟨gb290, _, none⟩) NB289_290.out _).trans (((cell_far (p := ⟨gb290, _, none⟩) NB289_290.out _).trans (((cell_far (p := ⟨gb290, _, none⟩) NB289_290.out _).trans (hHeld.2.2.2.2.2))))))⟩ (fun hHeld => ?_)
  clear hK K
  refine pure_ (i := 7) (N := some 5) (v := ?_) (a' := ?_) #[true, true, true, true, true, true, true, true] rfl rfl (any_of HT_.out (by kernel_rfl)) (fun _ _ _ h => h) (Or.inl ⟨by rfl, ?_⟩) ?_ ?_
  rotate_left
  · intro w'
    go_simp
    with_reducible rfl
  rotate_left
  · simp only [Act.put, la_, lb_, lc_, i64_w, i32_w]
    rfl
  refine done_ (done_of HT_.out (by kernel_rfl)) ?_
  try go_wp2
  refine bodyPost_ret (results_ct rfl _ _ gb290 25 #[.bool t294, .int .u64 t295, .int .u64 t296] (0, 0) _ rfl (by (with_reducible repeat (first | refine bN_ _ ?_ | refine bd_ ?_ | refine ba_ _ ?_)); refine blk_put (cs := #[.bool t294, .int .u64 t295, .int .u64 0]) ?_ 2 _ rfl; (with_reducible repeat (first | refine bN_ _ ?_ | refine bd_ ?_ | refine ba_ _ ?_)); refine blk_put (cs := #[.bool t294, .int .u64 0, .int .u64 0]) ?_ 1 _ rfl; (with_reducible repeat (first | refine bN_ _ ?_ | refine bd_ ?_ | refine ba_ _ ?_)); refine blk_put (cs := #[.bool false, .int .u64 0, .int .u64 0]) ?_ 0 _ rfl; (with_reducible repeat (first | refine bN_ _ ?_ | refine bd_ ?_ | refine ba_ _ ?_)); exact BK290.out) Try.underlying25 rfl (by kernel_rfl)) rfl ?_
  exact ⟨by first | rfl | (simp [errW_none, errW_some] <;> rfl) | (simp [*, errW_none, errW_some] <;> rfl), by repeat (first | (with_reducible first | exact HB.out | apply below_alloc | apply pw_below_drewN | apply below_drew1 | refine below_set ?_ GE288.out | refine below_set ?_ GE289.out | refine below_set ?_ GE290.out) | exact HB.out)⟩

/-! ### laws_FnWide: function 6 -/
def laws_FnWide.j0 : Nat → Bool → Bool → Bool → Int → Int → Bool → Int → Int → Bool → Int → Int → Option (Bool)
  | 0, _, _, _, _, _, _, _, _, _, _, _ => none
  | k + 1, x6, x50, x306000, x306001, x306002, x307000, x307001, x307002, x312000, x312001, x312002 => if x50 = true then (some false) else (if x6 = true then ((impl_SubWide.f k x312000 x312001 x312002 x307000 x307001 x307002).bind fun bt322 => ((impl_WideOk.f x312000 x312001 x312002).bind fun t327 => (if t327 = true then ((spec_WideOk.f x312000 x312001 x312002).bind fun t328 => (if t328 = true then (if bt322.2.2.2 = true then (some (bt322.1 == x306000 && (bt322.2.1 == x306001 && (bt322.2.2.1 == x306002)))) else (some false)) else (some false))) else (some false)))) else (some (!x312000 && (x312001 == 0 && (x312002 == 0)))))
def laws_FnWide.f (k : Nat) (l0 : List Int) : Option (Bool) := (laws_big.f l0).bind fun t298 => (if t298 = true then (some true) else ((spec_DrawAddWide.f k l0).bind fun bt299 => ((impl_AddWide.f k bt299.1 bt299.2.1 bt299.2.2.1 bt299.2.2.2.1 bt299.2.2.2.2.1 bt299.2.2.2.2.2).bind fun bt307 => ((impl_AddWide.f k bt299.2.2.2.1 bt299.2.2.2.2.1 bt299.2.2.2.2.2 bt299.1 bt299.2.1 bt299.2.2.1).bind fun bt312 => ((spec_AddWide.f k bt299.1 bt299.2.1 bt299.2.2.1 bt299.2.2.2.1 bt299.2.2.2.2.1 bt299.2.2.2.2.2).bind fun bt317 => (if (bt307.2.2.2 != bt317.2.2.2) = true then (laws_FnWide.j0 k bt307.2.2.2 true bt299.1 bt299.2.1 bt299.2.2.1 bt299.2.2.2.1 bt299.2.2.2.2.1 bt299.2.2.2.2.2 bt307.1 bt307.2.1 bt307.2.2.1) else (if (bt312.2.2.2 != bt307.2.2.2) = true then (laws_FnWide.j0 k bt307.2.2.2 true bt299.1 bt299.2.1 bt299.2.2.1 bt299.2.2.2.1 bt299.2.2.2.2.1 bt299.2.2.2.2.2 bt307.1 bt307.2.1 bt307.2.2.1) else (laws_FnWide.j0 k bt307.2.2.2 (!(bt307.1 == bt312.1) || (!(bt307.2.1 == bt312.2.1) || (!(bt307.2.2.1 == bt312.2.2.1)))) bt299.1 bt299.2.1 bt299.2.2.1 bt299.2.2.2.1 bt299.2.2.2.2.1 bt299.2.2.2.2.2 bt307.1 bt307.2.1 bt307.2.2.1))))))))
theorem laws_FnWide.mono_l : ∀ k, (∀ y0 y1 y2 y3 y4 y5 y6 y7 y8 y9 y10, LeO (laws_FnWide.j0 k y0 y1 y2 y3 y4 y5 y6 y7 y8 y9 y10) (laws_FnWide.j0 (k + 1) y0 y1 y2 y3 y4 y5 y6 y7 y8 y9 y10))
  | 0 => fun _ _ _ _ _ _ _ _ _ _ _ r h => by simp [laws_FnWide.j0] at h
  | k + 1 => by
    have ih0 := laws_FnWide.mono_l k
    · intro y0 y1 y2 y3 y4 y5 y6 y7 y8 y9 y10
      unfold laws_FnWide.j0
      repeat' first
      | (with_reducible exact ih0 _ _ _ _ _ _ _ _ _ _ _)
      | (with_reducible exact impl_AddWide.mono _ _ _ _ _ _ _)
      | (with_reducible exact impl_SubWide.mono _ _ _ _ _ _ _)
      | (with_reducible exact spec_AddWide.mono _ _ _ _ _ _ _)
      | (with_reducible exact spec_DrawAddWide.mono _ _)
      | (with_reducible exact LeO.refl _)
      | (with_reducible exact LeO.none _)
      | (with_reducible refine LeO.ite ?_ ?_)
      | (with_reducible refine LeO.bind ?_ (fun _ => ?_))
      | exact ih0 _ _ _ _ _ _ _ _ _ _ _
      | exact impl_AddWide.mono _ _ _ _ _ _ _
      | exact impl_SubWide.mono _ _ _ _ _ _ _
      | exact spec_AddWide.mono _ _ _ _ _ _ _
      | exact spec_DrawAddWide.mono _ _
      | exact LeO.none _
      | refine LeO.ite ?_ ?_
      | refine LeO.bind ?_ (fun _ => ?_)
theorem laws_FnWide.mono : ∀ a0 k, LeO (laws_FnWide.f k a0) (laws_FnWide.f (k + 1) a0) := by
  intro a0 k
  have ih0 := laws_FnWide.mono_l k
  unfold laws_FnWide.f
  repeat' first
      | (with_reducible exact ih0 _ _ _ _ _ _ _ _ _ _ _)
      | (with_reducible exact impl_AddWide.mono _ _ _ _ _ _ _)
      | (with_reducible exact impl_SubWide.mono _ _ _ _ _ _ _)
      | (with_reducible exact spec_AddWide.mono _ _ _ _ _ _ _)
      | (with_reducible exact spec_DrawAddWide.mono _ _)
      | (with_reducible exact LeO.refl _)
      | (with_reducible exact LeO.none _)
      | (with_reducible refine LeO.ite ?_ ?_)
      | (with_reducible refine LeO.bind ?_ (fun _ => ?_))
      | exact ih0 _ _ _ _ _ _ _ _ _ _ _
      | exact impl_AddWide.mono _ _ _ _ _ _ _
      | exact impl_SubWide.mono _ _ _ _ _ _ _
      | exact spec_AddWide.mono _ _ _ _ _ _ _
      | exact spec_DrawAddWide.mono _ _
      | exact LeO.none _
      | refine LeO.ite ?_ ?_
      | refine LeO.bind ?_ (fun _ => ?_)
set_option maxHeartbeats 8000000 in
set_option maxRecDepth 100000 in
theorem laws_FnWide.calls (k : Nat) (A0 : Option Addr) (c0 : Nat) (l0 : List Int) (r : Bool) (w : World) (hr0 : Kd.C (Kd.int .u8) w A0 l0.length l0) (hc0 : l0.length ≤ c0) (h : laws_FnWide.f k l0 = some r) (hrt : Aside0 (r = true)) :
    Calls Try.prog 6 #[.slice A0 l0.length c0] w fun e w' => e = .returned (.bool r) ∧ Below w.heap.size w w' := by
  have hu25 := Try.underlying25
  have HR0 := Aside0.mk hr0
  have HC0 := Aside0.mk hc0
  clear hr0 hc0
  have HB := Aside0.mk (Below.refl w.heap.size w)
  have H : ((laws_big.f l0).bind fun t298 => (if t298 = true then (some true) else ((spec_DrawAddWide.f k l0).bind fun bt299 => ((impl_AddWide.f k bt299.1 bt299.2.1 bt299.2.2.1 bt299.2.2.2.1 bt299.2.2.2.2.1 bt299.2.2.2.2.2).bind fun bt307 => ((impl_AddWide.f k bt299.2.2.2.1 bt299.2.2.2.2.1 bt299.2.2.2.2.2 bt299.1 bt299.2.1 bt299.2.2.1).bind fun bt312 => ((spec_AddWide.f k bt299.1 bt299.2.1 bt299.2.2.1 bt299.2.2.2.1 bt299.2.2.2.2.1 bt299.2.2.2.2.2).bind fun bt317 => (if (bt307.2.2.2 != bt317.2.2.2) = true then (laws_FnWide.j0 k bt307.2.2.2 true bt299.1 bt299.2.1 bt299.2.2.1 bt299.2.2.2.1 bt299.2.2.2.2.1 bt299.2.2.2.2.2 bt307.1 bt307.2.1 bt307.2.2.1) else (if (bt312.2.2.2 != bt307.2.2.2) = true then (laws_FnWide.j0 k bt307.2.2.2 true bt299.1 bt299.2.1 bt299.2.2.1 bt299.2.2.2.1 bt299.2.2.2.2.1 bt299.2.2.2.2.2 bt307.1 bt307.2.1 bt307.2.2.1) else (laws_FnWide.j0 k bt307.2.2.2 (!(bt307.1 == bt312.1) || (!(bt307.2.1 == bt312.2.1) || (!(bt307.2.2.1 == bt312.2.2.1)))) bt299.1 bt299.2.1 bt299.2.2.1 bt299.2.2.2.1 bt299.2.2.2.2.1 bt299.2.2.2.2.2 bt307.1 bt307.2.1 bt307.2.2.1))))))))) = some r := h
  clear h
  replace H := Option.bind_eq_some_iff.mp H
  obtain ⟨t298, A20, H⟩ := H
  replace H : (if t298 = true then (some true) else ((spec_DrawAddWide.f k l0).bind fun bt299 => ((impl_AddWide.f k bt299.1 bt299.2.1 bt299.2.2.1 bt299.2.2.2.1 bt299.2.2.2.2.1 bt299.2.2.2.2.2).bind fun bt307 => ((impl_AddWide.f k bt299.2.2.2.1 bt299.2.2.2.2.1 bt299.2.2.2.2.2 bt299.1 bt299.2.1 bt299.2.2.1).bind fun bt312 => ((spec_AddWide.f k bt299.1 bt299.2.1 bt299.2.2.1 bt299.2.2.2.1 bt299.2.2.2.2.1 bt299.2.2.2.2.2).bind fun bt317 => (if (bt307.2.2.2 != bt317.2.2.2) = true then (laws_FnWide.j0 k bt307.2.2.2 true bt299.1 bt299.2.1 bt299.2.2.1 bt299.2.2.2.1 bt299.2.2.2.2.1 bt299.2.2.2.2.2 bt307.1 bt307.2.1 bt307.2.2.1) else (if (bt312.2.2.2 != bt307.2.2.2) = true then (laws_FnWide.j0 k bt307.2.2.2 true bt299.1 bt299.2.1 bt299.2.2.1 bt299.2.2.2.1 bt299.2.2.2.2.1 bt299.2.2.2.2.2 bt307.1 bt307.2.1 bt307.2.2.1) else (laws_FnWide.j0 k bt307.2.2.2 (!(bt307.1 == bt312.1) || (!(bt307.2.1 == bt312.2.1) || (!(bt307.2.2.1 == bt312.2.2.1)))) bt299.1 bt299.2.1 bt299.2.2.1 bt299.2.2.2.1 bt299.2.2.2.2.1 bt299.2.2.2.2.2 bt307.1 bt307.2.1 bt307.2.2.1)))))))) = some r := H
  have A2 := Aside0.mk A20
  clear A20
  by_cases c3 : t298 = true
  · subst c3
    have H1 : (some true) = some r := by rw [if_pos rfl] at H; exact H
    clear H
    have H := H1
    clear H1
    obtain rfl := Option.some.inj H
    go_enter Try.func6, Try.ntmps6
    go_wp2_with (first | ((with_reducible refine gate_callee (f := 23) rfl ?_); refine goesL_ (some 14) rfl rfl Try.func23 (by kernel_rfl) rfl #[.slice A0 l0.length c0] rfl mp_ ?_; (with_reducible refine (laws_big.calls _ _ l0 true _ ?side1 ?side2 A2.out).mono ?_); (case side1 => repeat (first | exact HR0.out | (with_reducible refine Kd.C_alloc ?_ _) | (with_reducible refine Kd.C_drewN ?_ _) | (with_reducible refine Kd.C_drew ?_))); (case side2 => exact HC0.out); rintro e w' ⟨rfl, ⟨nd, rfl⟩⟩; refine ⟨_, rfl, ?_⟩))
    go_ret
    exact ⟨by first | rfl | (simp [errW_none, errW_some] <;> rfl) | (simp [*, errW_none, errW_some] <;> rfl), by repeat (first | (with_reducible first | exact HB.out | apply below_alloc | apply pw_below_drewN | apply below_drew1) | exact HB.out)⟩
  · replace c3 := Bool.eq_false_iff.mpr c3
    subst c3
    have H1 : ((spec_DrawAddWide.f k l0).bind fun bt299 => ((impl_AddWide.f k bt299.1 bt299.2.1 bt299.2.2.1 bt299.2.2.2.1 bt299.2.2.2.2.1 bt299.2.2.2.2.2).bind fun bt307 => ((impl_AddWide.f k bt299.2.2.2.1 bt299.2.2.2.2.1 bt299.2.2.2.2.2 bt299.1 bt299.2.1 bt299.2.2.1).bind fun bt312 => ((spec_AddWide.f k bt299.1 bt299.2.1 bt299.2.2.1 bt299.2.2.2.1 bt299.2.2.2.2.1 bt299.2.2.2.2.2).bind fun bt317 => (if (bt307.2.2.2 != bt317.2.2.2) = true then (laws_FnWide.j0 k bt307.2.2.2 true bt299.1 bt299.2.1 bt299.2.2.1 bt299.2.2.2.1 bt299.2.2.2.2.1 bt299.2.2.2.2.2 bt307.1 bt307.2.1 bt307.2.2.1) else (if (bt312.2.2.2 != bt307.2.2.2) = true then (laws_FnWide.j0 k bt307.2.2.2 true bt299.1 bt299.2.1 bt299.2.2.1 bt299.2.2.2.1 bt299.2.2.2.2.1 bt299.2.2.2.2.2 bt307.1 bt307.2.1 bt307.2.2.1) else (laws_FnWide.j0 k bt307.2.2.2 (!(bt307.1 == bt312.1) || (!(bt307.2.1 == bt312.2.1) || (!(bt307.2.2.1 == bt312.2.2.1)))) bt299.1 bt299.2.1 bt299.2.2.1 bt299.2.2.2.1 bt299.2.2.2.2.1 bt299.2.2.2.2.2 bt307.1 bt307.2.1 bt307.2.2.1))))))) = some r := by rw [if_neg (show ¬ (false = true) by decide)] at H; exact H
    clear H
    have H := H1
    clear H1
    replace H := Option.bind_eq_some_iff.mp H
    obtain ⟨⟨t299, t300, t301, t302, t303, t304⟩, A40, H⟩ := H
    replace H : ((impl_AddWide.f k t299 t300 t301 t302 t303 t304).bind fun bt307 => ((impl_AddWide.f k t302 t303 t304 t299 t300 t301).bind fun bt312 => ((spec_AddWide.f k t299 t300 t301 t302 t303 t304).bind fun bt317 => (if (bt307.2.2.2 != bt317.2.2.2) = true then (laws_FnWide.j0 k bt307.2.2.2 true t299 t300 t301 t302 t303 t304 bt307.1 bt307.2.1 bt307.2.2.1) else (if (bt312.2.2.2 != bt307.2.2.2) = true then (laws_FnWide.j0 k bt307.2.2.2 true t299 t300 t301 t302 t303 t304 bt307.1 bt307.2.1 bt307.2.2.1) else (laws_FnWide.j0 k bt307.2.2.2 (!(bt307.1 == bt312.1) || (!(bt307.2.1 == bt312.2.1) || (!(bt307.2.2.1 == bt312.2.2.1)))) t299 t300 t301 t302 t303 t304 bt307.1 bt307.2.1 bt307.2.2.1)))))) = some r := H
    have A4 := Aside0.mk A40
    clear A40
    replace H := Option.bind_eq_some_iff.mp H
    obtain ⟨⟨t307, t308, t309, t310⟩, A50, H⟩ := H
    replace H : ((impl_AddWide.f k t302 t303 t304 t299 t300 t301).bind fun bt312 => ((spec_AddWide.f k t299 t300 t301 t302 t303 t304).bind fun bt317 => (if (t310 != bt317.2.2.2) = true then (laws_FnWide.j0 k t310 true t299 t300 t301 t302 t303 t304 t307 t308 t309) else (if (bt312.2.2.2 != t310) = true then (laws_FnWide.j0 k t310 true t299 t300 t301 t302 t303 t304 t307 t308 t309) else (laws_FnWide.j0 k t310 (!(t307 == bt312.1) || (!(t308 == bt312.2.1) || (!(t309 == bt312.2.2.1)))) t299 t300 t301 t302 t303 t304 t307 t308 t309))))) = some r := H
    have A5 := Aside0.mk A50
    clear A50
    replace H := Option.bind_eq_some_iff.mp H
    obtain ⟨⟨t312, t313, t314, t315⟩, A60, H⟩ := H
    replace H : ((spec_AddWide.f k t299 t300 t301 t302 t303 t304).bind fun bt317 => (if (t310 != bt317.2.2.2) = true then (laws_FnWide.j0 k t310 true t299 t300 t301 t302 t303 t304 t307 t308 t309) else (if (t315 != t310) = true then (laws_FnWide.j0 k t310 true t299 t300 t301 t302 t303 t304 t307 t308 t309) else (laws_FnWide.j0 k t310 (!(t307 == t312) || (!(t308 == t313) || (!(t309 == t314)))) t299 t300 t301 t302 t303 t304 t307 t308 t309)))) = some r := H
    have A6 := Aside0.mk A60
    clear A60
    replace H := Option.bind_eq_some_iff.mp H
    obtain ⟨⟨t317, t318, t319, t320⟩, A70, H⟩ := H
    replace H : (if (t310 != t320) = true then (laws_FnWide.j0 k t310 true t299 t300 t301 t302 t303 t304 t307 t308 t309) else (if (t315 != t310) = true then (laws_FnWide.j0 k t310 true t299 t300 t301 t302 t303 t304 t307 t308 t309) else (laws_FnWide.j0 k t310 (!(t307 == t312) || (!(t308 == t313) || (!(t309 == t314)))) t299 t300 t301 t302 t303 t304 t307 t308 t309))) = some r := H
    have A7 := Aside0.mk A70
    clear A70
    have HC8 := Aside0.mk H
    clear H
    go_enter Try.func6, Try.ntmps6
    go_upto_region 7 with (first | ((with_reducible refine gate_callee (f := 23) rfl ?_); refine goesL_ (some 14) rfl rfl Try.func23 (by kernel_rfl) rfl #[.slice A0 l0.length c0] rfl mp_ ?_; (with_reducible refine (laws_big.calls _ _ l0 false _ ?side1 ?side2 A2.out).mono ?_); (case side1 => repeat (first | exact HR0.out | (with_reducible refine Kd.C_alloc ?_ _) | (with_reducible refine Kd.C_drewN ?_ _) | (with_reducible refine Kd.C_drew ?_))); (case side2 => exact HC0.out); rintro e w' ⟨rfl, ⟨nd, rfl⟩⟩; refine ⟨_, rfl, ?_⟩) | ((with_reducible refine gate_callee (f := 24) rfl ?_); refine goesL_ (some 17) rfl rfl Try.func24 (by kernel_rfl) rfl #[.slice A0 l0.length c0] rfl mp_ ?_; (with_reducible refine (spec_DrawAddWide.calls k _ _ l0 t299 t300 t301 t302 t303 t304 _ ?side1 ?side2 A4.out).mono ?_); (case side1 => repeat (first | exact HR0.out | (with_reducible refine Kd.C_alloc ?_ _) | (with_reducible refine Kd.C_drewN ?_ _) | (with_reducible refine Kd.C_drew ?_))); (case side2 => exact HC0.out); rintro e w9 ⟨rfl, hb⟩; refine ⟨_, rfl, ?_⟩; have n0_ := Aside0.mk (below_step bel_ hb); clear HB; have HB := n0_; clear n0_; (try clear hb); (try clear hb2); (try clear hk); (try clear hi)) | ((with_reducible refine gate_dst (N := 3) rfl ?_); refine box_event ?hg (N := 3) ?hd (cs := #[.bool false, .int .u64 0, .int .u64 0]) (t := 25) ?hr ?_; (case hd => rfl); (case hg => rfl); (case hr => first | (go_simp; done) | (go_simp; rfl)); intro gb305 hg w10 hbox hb; have n0_ := Aside0.mk (below_step bel_ hb); have n1_ := Aside0.mk (hbox); have n2_ := Aside0.mk ((by rw [hg]; exact (below_size bel_) : w.heap.size ≤ gb305)); have n3_ := Aside0.mk ((by rw [hg]; exact (below_size bel_) : w.heap.size ≤ gb305)); clear HB; have HB := n0_; have BK305 := n1_; have GW305 := n2_; have GE305 := n3_; clear n0_ n1_ n2_ n3_; clear hb hbox hg) | ((with_reducible refine gate_dst (N := 4) rfl ?_); refine box_event ?hg (N := 4) ?hd (cs := #[.bool false, .int .u64 0, .int .u64 0]) (t := 25) ?hr ?_; (case hd => rfl); (case hg => rfl); (case hr => first | (go_simp; done) | (go_simp; rfl)); intro gb306 hg w11 hbox hb; have n0_ := bb_ (g := gb305) (o := .cells #[.bool false, .int .u64 0, .int .u64 0] 25 (0, 0)) hb; have n1_ := Aside0.mk (below_step bel_ hb); have n2_ := Aside0.mk (hbox); have n3_ := Aside0.mk ((by rw [hg]; exact (below_size bel_) : w.heap.size ≤ gb306)); have n4_ := Aside0.mk ((by rw [hg]; exact (below_size bel_) : w.heap.size ≤ gb306)); have n5_ := nlt_ (g := gb305) (o := .cells #[.bool false, .int .u64 0, .int .u64 0] 25 (0, 0)) hg; have n6_ := ngt_ (g := gb305) (o := .cells #[.bool false, .int .u64 0, .int .u64 0] 25 (0, 0)) hg; clear BK305; clear HB; have BK305 := n0_; have HB := n1_; have BK306 := n2_; have GW306 := n3_; have GE306 := n4_; have NB305_306 := n5_; have NB306_305 := n6_; clear n0_ n1_ n2_ n3_ n4_ n5_ n6_; clear hb hbox hg; have hnb12 := NB305_306.out; have hnc12 := NB306_305.out; have hcz13_0 : w11.cell? ⟨gb305, 0, none⟩ = some (.bool false) := bc_; have hcz13_1 : w11.cell? ⟨gb305, 1, none⟩ = some (.int .u64 0) := bc_; have hcz13_2 : w11.cell? ⟨gb305, 2, none⟩ = some (.int .u64 0) := bc_; have hfz13_0 := blk_frozen BK305.out 0; have hfz13_1 := blk_frozen BK305.out 1; have hfz13_2 := blk_frozen BK305.out 2; have hcz14_0 : w11.cell? ⟨gb306, 0, none⟩ = some (.bool false) := bc_; have hcz14_1 : w11.cell? ⟨gb306, 1, none⟩ = some (.int .u64 0) := bc_; have hcz14_2 : w11.cell? ⟨gb306, 2, none⟩ = some (.int .u64 0) := bc_; have hfz14_0 := blk_frozen BK306.out 0; have hfz14_1 := blk_frozen BK306.out 1; have hfz14_2 := blk_frozen BK306.out 2) | ((with_reducible refine gate_callee (f := 25) rfl ?_); refine goesL_ (some 23) rfl rfl Try.func25 (by kernel_rfl) rfl #[.agg #[.bool t299, .int .u64 t300, .int .u64 t301], .agg #[.bool t302, .int .u64 t303, .int .u64 t304]] rfl mp_ ?_; (with_reducible refine (impl_AddWide.calls k t299 t300 t301 t302 t303 t304 t307 t308 t309 t310 _ A5.out).mono ?_); rintro e w15 ⟨rfl, hb⟩; refine ⟨_, rfl, ?_⟩; have n0_ := Aside0.mk (blk_below (g := gb305) (o := .cells #[.bool t299, .int .u64 t300, .int .u64 t301] 25 (0, 0)) (by (with_reducible repeat (first | refine bN_ _ ?_ | refine bd_ ?_ | refine ba_ _ ?_)); refine blk_far ?_ NB305_306.out _; (with_reducible repeat (first | refine bN_ _ ?_ | refine bd_ ?_ | refine ba_ _ ?_)); refine blk_far ?_ NB305_306.out _; (with_reducible repeat (first | refine bN_ _ ?_ | refine bd_ ?_ | refine ba_ _ ?_)); refine blk_far ?_ NB305_306.out _; (with_reducible repeat (first | refine bN_ _ ?_ | refine bd_ ?_ | refine ba_ _ ?_)); refine blk_put (cs := #[.bool t299, .int .u64 t300, .int .u64 0]) ?_ 2 _ rfl; (with_reducible repeat (first | refine bN_ _ ?_ | refine bd_ ?_ | refine ba_ _ ?_)); refine blk_put (cs := #[.bool t299, .int .u64 0, .int .u64 0]) ?_ 1 _ rfl; (with_reducible repeat (first | refine bN_ _ ?_ | refine bd_ ?_ | refine ba_ _ ?_)); refine blk_put (cs := #[.bool false, .int .u64 0, .int .u64 0]) ?_ 0 _ rfl; (with_reducible repeat (first | refine bN_ _ ?_ | refine bd_ ?_ | refine ba_ _ ?_)); exact BK305.out) hb); have n1_ := Aside0.mk (blk_below (g := gb306) (o := .cells #[.bool t302, .int .u64 t303, .int .u64 t304] 25 (0, 0)) (by (with_reducible repeat (first | refine bN_ _ ?_ | refine bd_ ?_ | refine ba_ _ ?_)); refine blk_put (cs := #[.bool t302, .int .u64 t303, .int .u64 0]) ?_ 2 _ rfl; (with_reducible repeat (first | refine bN_ _ ?_ | refine bd_ ?_ | refine ba_ _ ?_)); refine blk_put (cs := #[.bool t302, .int .u64 0, .int .u64 0]) ?_ 1 _ rfl; (with_reducible repeat (first | refine bN_ _ ?_ | refine bd_ ?_ | refine ba_ _ ?_)); refine blk_put (cs := #[.bool false, .int .u64 0, .int .u64 0]) ?_ 0 _ rfl; (with_reducible repeat (first | refine bN_ _ ?_ | refine bd_ ?_ | refine ba_ _ ?_)); refine blk_far ?_ NB306_305.out _; (with_reducible repeat (first | refine bN_ _ ?_ | refine bd_ ?_ | refine ba_ _ ?_)); refine blk_far ?_ NB306_305.out _; (with_reducible repeat (first | refine bN_ _ ?_ | refine bd_ ?_ | refine ba_ _ ?_)); refine blk_far ?_ NB306_305.out _; (with_reducible repeat (first | refine bN_ _ ?_ | refine bd_ ?_ | refine ba_ _ ?_)); exact BK306.out) hb); have n2_ := Aside0.mk (below_step bel_ hb); clear BK305; clear BK306; clear HB; have BK305 := n0_; have BK306 := n1_; have HB := n2_; clear n0_ n1_ n2_; (try clear hb); (try clear hb2); (try clear hk); (try clear hi)) | ((with_reducible refine gate_dst (N := 5) rfl ?_); refine box_event ?hg (N := 5) ?hd (cs := #[.bool false, .int .u64 0, .int .u64 0]) (t := 25) ?hr ?_; (case hd => rfl); (case hg => rfl); (case hr => first | (go_simp; done) | (go_simp; rfl)); intro gb311 hg w16 hbox hb; have n0_ := bb_ (g := gb305) (o := .cells #[.bool t299, .int .u64 t300, .int .u64 t301] 25 (0, 0)) hb; have n1_ := bb_ (g := gb306) (o := .cells #[.bool t302, .int .u64 t303, .int .u64 t304] 25 (0, 0)) hb; have n2_ := Aside0.mk (below_step bel_ hb); have n3_ := Aside0.mk (hbox); have n4_ := Aside0.mk ((by rw [hg]; exact (below_size bel_) : w.heap.size ≤ gb311)); have n5_ := Aside0.mk ((by rw [hg]; exact (below_size bel_) : w.heap.size ≤ gb311)); have n6_ := nlt_ (g := gb305) (o := .cells #[.bool t299, .int .u64 t300, .int .u64 t301] 25 (0, 0)) hg; have n7_ := ngt_ (g := gb305) (o := .cells #[.bool t299, .int .u64 t300, .int .u64 t301] 25 (0, 0)) hg; have n8_ := nlt_ (g := gb306) (o := .cells #[.bool t302, .int .u64 t303, .int .u64 t304] 25 (0, 0)) hg; have n9_ := ngt_ (g := gb306) (o := .cells #[.bool t302, .int .u64 t303, .int .u64 t304] 25 (0, 0)) hg; clear BK305; clear BK306; clear HB; have BK305 := n0_; have BK306 := n1_; have HB := n2_; have BK311 := n3_; have GW311 := n4_; have GE311 := n5_; have NB305_311 := n6_; have NB311_305 := n7_; have NB306_311 := n8_; have NB311_306 := n9_; clear n0_ n1_ n2_ n3_ n4_ n5_ n6_ n7_ n8_ n9_; clear hb hbox hg; have hnb17 := NB311_305.out; have hnc17 := NB305_311.out; have hnb18 := NB311_306.out; have hnc18 := NB306_311.out; have hcz19_0 : w16.cell? ⟨gb311, 0, none⟩ = some (.bool false) := bc_; have hcz19_1 : w16.cell? ⟨gb311, 1, none⟩ = some (.int .u64 0) := bc_; have hcz19_2 : w16.cell? ⟨gb311, 2, none⟩ = some (.int .u64 0) := bc_; have hfz19_0 := blk_frozen BK311.out 0; have hfz19_1 := blk_frozen BK311.out 1; have hfz19_2 := blk_frozen BK311.out 2; have hcz20_0 : w16.cell? ⟨gb306, 0, none⟩ = some (.bool t302) := bc_; have hcz20_1 : w16.cell? ⟨gb306, 1, none⟩ = some (.int .u64 t303) := bc_; have hcz20_2 : w16.cell? ⟨gb306, 2, none⟩ = some (.int .u64 t304) := bc_; have hfz20_0 := blk_frozen BK306.out 0; have hfz20_1 := blk_frozen BK306.out 1; have hfz20_2 := blk_frozen BK306.out 2; have hcz21_0 : w16.cell? ⟨gb305, 0, none⟩ = some (.bool t299) := bc_; have hcz21_1 : w16.cell? ⟨gb305, 1, none⟩ = some (.int .u64 t300) := bc_; have hcz21_2 : w16.cell? ⟨gb305, 2, none⟩ = some (.int .u64 t301) := bc_; have hfz21_0 := blk_frozen BK305.out 0; have hfz21_1 := blk_frozen BK305.out 1; have hfz21_2 := blk_frozen BK305.out 2) | ((with_reducible refine gate_callee (f := 25) rfl ?_); refine goesL_ (some 29) rfl rfl Try.func25 (by kernel_rfl) rfl #[.agg #[.bool t302, .int .u64 t303, .int .u64 t304], .agg #[.bool t299, .int .u64 t300, .int .u64 t301]] rfl mp_ ?_; (with_reducible refine (impl_AddWide.calls k t302 t303 t304 t299 t300 t301 t312 t313 t314 t315 _ A6.out).mono ?_); rintro e w22 ⟨rfl, hb⟩; refine ⟨_, rfl, ?_⟩; have n0_ := Aside0.mk (blk_below (g := gb305) (o := .cells #[.bool t299, .int .u64 t300, .int .u64 t301] 25 (0, 0)) (by (with_reducible repeat (first | refine bN_ _ ?_ | refine bd_ ?_ | refine ba_ _ ?_)); refine blk_far ?_ NB305_311.out _; (with_reducible repeat (first | refine bN_ _ ?_ | refine bd_ ?_ | refine ba_ _ ?_)); refine blk_far ?_ NB305_311.out _; (with_reducible repeat (first | refine bN_ _ ?_ | refine bd_ ?_ | refine ba_ _ ?_)); refine blk_far ?_ NB305_311.out _; (with_reducible repeat (first | refine bN_ _ ?_ | refine bd_ ?_ | refine ba_ _ ?_)); exact BK305.out) hb); have n1_ := Aside0.mk (blk_below (g := gb306) (o := .cells #[.bool t302, .int .u64 t303, .int .u64 t304] 25 (0, 0)) (by (with_reducible repeat (first | refine bN_ _ ?_ | refine bd_ ?_ | refine ba_ _ ?_)); refine blk_far ?_ NB306_311.out _; (with_reducible repeat (first | refine bN_ _ ?_ | refine bd_ ?_ | refine ba_ _ ?_)); refine blk_far ?_ NB306_311.out _; (with_reducible repeat (first | refine bN_ _ ?_ | refine bd_ ?_ | refine ba_ _ ?_)); refine blk_far ?_ NB306_311.out _; (with_reducible repeat (first | refine bN_ _ ?_ | refine bd_ ?_ | refine ba_ _ ?_)); exact BK306.out) hb); have n2_ := Aside0.mk (blk_below (g := gb311) (o := .cells #[.bool t307, .int .u64 t308, .int .u64 t309] 25 (0, 0)) (by (with_reducible repeat (first | refine bN_ _ ?_ | refine bd_ ?_ | refine ba_ _ ?_)); refine blk_put (cs := #[.bool t307, .int .u64 t308, .int .u64 0]) ?_ 2 _ rfl; (with_reducible repeat (first | refine bN_ _ ?_ | refine bd_ ?_ | refine ba_ _ ?_)); refine blk_put (cs := #[.bool t307, .int .u64 0, .int .u64 0]) ?_ 1 _ rfl; (with_reducible repeat (first | refine bN_ _ ?_ | refine bd_ ?_ | refine ba_ _ ?_)); refine blk_put (cs := #[.bool false, .int .u64 0, .int .u64 0]) ?_ 0 _ rfl; (with_reducible repeat (first | refine bN_ _ ?_ | refine bd_ ?_ | refine ba_ _ ?_)); exact BK311.out) hb); have n3_ := Aside0.mk (below_step bel_ hb); clear BK305; clear BK306; clear BK311; clear HB; have BK305 := n0_; have BK306 := n1_; have BK311 := n2_; have HB := n3_; clear n0_ n1_ n2_ n3_; (try clear hb); (try clear hb2); (try clear hk); (try clear hi)) | ((with_reducible refine gate_dst (N := 7) rfl ?_); refine box_event ?hg (N := 7) ?hd (cs := #[.bool false, .int .u64 0, .int .u64 0]) (t := 25) ?hr ?_; (case hd => rfl); (case hg => rfl); (case hr => first | (go_simp; done) | (go_simp; rfl)); intro gb316 hg w23 hbox hb; have n0_ := bb_ (g := gb305) (o := .cells #[.bool t299, .int .u64 t300, .int .u64 t301] 25 (0, 0)) hb; have n1_ := bb_ (g := gb306) (o := .cells #[.bool t302, .int .u64 t303, .int .u64 t304] 25 (0, 0)) hb; have n2_ := bb_ (g := gb311) (o := .cells #[.bool t307, .int .u64 t308, .int .u64 t309] 25 (0, 0)) hb; have n3_ := Aside0.mk (below_step bel_ hb); have n4_ := Aside0.mk (hbox); have n5_ := Aside0.mk ((by rw [hg]; exact (below_size bel_) : w.heap.size ≤ gb316)); have n6_ := Aside0.mk ((by rw [hg]; exact (below_size bel_) : w.heap.size ≤ gb316)); have n7_ := nlt_ (g := gb305) (o := .cells #[.bool t299, .int .u64 t300, .int .u64 t301] 25 (0, 0)) hg; have n8_ := ngt_ (g := gb305) (o := .cells #[.bool t299, .int .u64 t300, .int .u64 t301] 25 (0, 0)) hg; have n9_ := nlt_ (g := gb306) (o := .cells #[.bool t302, .int .u64 t303, .int .u64 t304] 25 (0, 0)) hg; have n10_ := ngt_ (g := gb306) (o := .cells #[.bool t302, .int .u64 t303, .int .u64 t304] 25 (0, 0)) hg; have n11_ := nlt_ (g := gb311) (o := .cells #[.bool t307, .int .u64 t308, .int .u64 t309] 25 (0, 0)) hg; have n12_ := ngt_ (g := gb311) (o := .cells #[.bool t307, .int .u64 t308, .int .u64 t309] 25 (0, 0)) hg; clear BK305; clear BK306; clear BK311; clear HB; have BK305 := n0_; have BK306 := n1_; have BK311 := n2_; have HB := n3_; have BK316 := n4_; have GW316 := n5_; have GE316 := n6_; have NB305_316 := n7_; have NB316_305 := n8_; have NB306_316 := n9_; have NB316_306 := n10_; have NB311_316 := n11_; have NB316_311 := n12_; clear n0_ n1_ n2_ n3_ n4_ n5_ n6_ n7_ n8_ n9_ n10_ n11_ n12_; clear hb hbox hg; have hnb24 := NB316_305.out; have hnc24 := NB305_316.out; have hnb25 := NB316_306.out; have hnc25 := NB306_316.out; have hnb26 := NB316_311.out; have hnc26 := NB311_316.out; have hcz27_0 : w23.cell? ⟨gb316, 0, none⟩ = some (.bool false) := bc_; have hcz27_1 : w23.cell? ⟨gb316, 1, none⟩ = some (.int .u64 0) := bc_; have hcz27_2 : w23.cell? ⟨gb316, 2, none⟩ = some (.int .u64 0) := bc_; have hfz27_0 := blk_frozen BK316.out 0; have hfz27_1 := blk_frozen BK316.out 1; have hfz27_2 := blk_frozen BK316.out 2; have hcz28_0 : w23.cell? ⟨gb305, 0, none⟩ = some (.bool t299) := bc_; have hcz28_1 : w23.cell? ⟨gb305, 1, none⟩ = some (.int .u64 t300) := bc_; have hcz28_2 : w23.cell? ⟨gb305, 2, none⟩ = some (.int .u64 t301) := bc_; have hfz28_0 := blk_frozen BK305.out 0; have hfz28_1 := blk_frozen BK305.out 1; have hfz28_2 := blk_frozen BK305.out 2; have hcz29_0 : w23.cell? ⟨gb306, 0, none⟩ = some (.bool t302) := bc_; have hcz29_1 : w23.cell? ⟨gb306, 1, none⟩ = some (.int .u64 t303) := bc_; have hcz29_2 : w23.cell? ⟨gb306, 2, none⟩ = some (.int .u64 t304) := bc_; have hfz29_0 := blk_frozen BK306.out 0; have hfz29_1 := blk_frozen BK306.out 1; have hfz29_2 := blk_frozen BK306.out 2) | ((with_reducible refine gate_callee (f := 26) rfl ?_); refine goesL_ (some 35) rfl rfl Try.func26 (by kernel_rfl) rfl #[.agg #[.bool t299, .int .u64 t300, .int .u64 t301], .agg #[.bool t302, .int .u64 t303, .int .u64 t304]] rfl mp_ ?_; (with_reducible refine (spec_AddWide.calls k t299 t300 t301 t302 t303 t304 t317 t318 t319 t320 _ A7.out).mono ?_); rintro e w30 ⟨rfl, hb⟩; refine ⟨_, rfl, ?_⟩; have n0_ := Aside0.mk (blk_below (g := gb305) (o := .cells #[.bool t299, .int .u64 t300, .int .u64 t301] 25 (0, 0)) (by (with_reducible repeat (first | refine bN_ _ ?_ | refine bd_ ?_ | refine ba_ _ ?_)); refine blk_far ?_ NB305_316.out _; (with_reducible repeat (first | refine bN_ _ ?_ | refine bd_ ?_ | refine ba_ _ ?_)); refine blk_far ?_ NB305_316.out _; (with_reducible repeat (first | refine bN_ _ ?_ | refine bd_ ?_ | refine ba_ _ ?_)); refine blk_far ?_ NB305_316.out _; (with_reducible repeat (first | refine bN_ _ ?_ | refine bd_ ?_ | refine ba_ _ ?_)); exact BK305.out) hb); have n1_ := Aside0.mk (blk_below (g := gb306) (o := .cells #[.bool t302, .int .u64 t303, .int .u64 t304] 25 (0, 0)) (by (with_reducible repeat (first | refine bN_ _ ?_ | refine bd_ ?_ | refine ba_ _ ?_)); refine blk_far ?_ NB306_316.out _; (with_reducible repeat (first | refine bN_ _ ?_ | refine bd_ ?_ | refine ba_ _ ?_)); refine blk_far ?_ NB306_316.out _; (with_reducible repeat (first | refine bN_ _ ?_ | refine bd_ ?_ | refine ba_ _ ?_)); refine blk_far ?_ NB306_316.out _; (with_reducible repeat (first | refine bN_ _ ?_ | refine bd_ ?_ | refine ba_ _ ?_)); exact BK306.out) hb); have n2_ := Aside0.mk (blk_below (g := gb311) (o := .cells #[.bool t307, .int .u64 t308, .int .u64 t309] 25 (0, 0)) (by (with_reducible repeat (first | refine bN_ _ ?_ | refine bd_ ?_ | refine ba_ _ ?_)); refine blk_far ?_ NB311_316.out _; (with_reducible repeat (first | refine bN_ _ ?_ | refine bd_ ?_ | refine ba_ _ ?_)); refine blk_far ?_ NB311_316.out _; (with_reducible repeat (first | refine bN_ _ ?_ | refine bd_ ?_ | refine ba_ _ ?_)); refine blk_far ?_ NB311_316.out _; (with_reducible repeat (first | refine bN_ _ ?_ | refine bd_ ?_ | refine ba_ _ ?_)); exact BK311.out) hb); have n3_ := Aside0.mk (blk_below (g := gb316) (o := .cells #[.bool t312, .int .u64 t313, .int .u64 t314] 25 (0, 0)) (by (with_reducible repeat (first | refine bN_ _ ?_ | refine bd_ ?_ | refine ba_ _ ?_)); refine blk_put (cs := #[.bool t312, .int .u64 t313, .int .u64 0]) ?_ 2 _ rfl; (with_reducible repeat (first | refine bN_ _ ?_ | refine bd_ ?_ | refine ba_ _ ?_)); refine blk_put (cs := #[.bool t312, .int .u64 0, .int .u64 0]) ?_ 1 _ rfl; (with_reducible repeat (first | refine bN_ _ ?_ | refine bd_ ?_ | refine ba_ _ ?_)); refine blk_put (cs := #[.bool false, .int .u64 0, .int .u64 0]) ?_ 0 _ rfl; (with_reducible repeat (first | refine bN_ _ ?_ | refine bd_ ?_ | refine ba_ _ ?_)); exact BK316.out) hb); have n4_ := Aside0.mk (below_step bel_ hb); clear BK305; clear BK306; clear BK311; clear BK316; clear HB; have BK305 := n0_; have BK306 := n1_; have BK311 := n2_; have BK316 := n3_; have HB := n4_; clear n0_ n1_ n2_ n3_ n4_; (try clear hb); (try clear hb2); (try clear hk); (try clear hi)) | ((with_reducible refine gate_dst (N := 9) rfl ?_); refine box_event ?hg (N := 9) ?hd (cs := #[.bool false, .int .u64 0, .int .u64 0]) (t := 25) ?hr ?_; (case hd => rfl); (case hg => rfl); (case hr => first | (go_simp; done) | (go_simp; rfl)); intro gb321 hg w31 hbox hb; have n0_ := bb_ (g := gb305) (o := .cells #[.bool t299, .int .u64 t300, .int .u64 t301] 25 (0, 0)) hb; have n1_ := bb_ (g := gb306) (o := .cells #[.bool t302, .int .u64 t303, .int .u64 t304] 25 (0, 0)) hb; have n2_ := bb_ (g := gb311) (o := .cells #[.bool t307, .int .u64 t308, .int .u64 t309] 25 (0, 0)) hb; have n3_ := bb_ (g := gb316) (o := .cells #[.bool t312, .int .u64 t313, .int .u64 t314] 25 (0, 0)) hb; have n4_ := Aside0.mk (below_step bel_ hb); have n5_ := Aside0.mk (hbox); have n6_ := Aside0.mk ((by rw [hg]; exact (below_size bel_) : w.heap.size ≤ gb321)); have n7_ := Aside0.mk ((by rw [hg]; exact (below_size bel_) : w.heap.size ≤ gb321)); have n8_ := nlt_ (g := gb305) (o := .cells #[.bool t299, .int .u64 t300, .int .u64 t301] 25 (0, 0)) hg; have n9_ := ngt_ (g := gb305) (o := .cells #[.bool t299, .int .u64 t300, .int .u64 t301] 25 (0, 0)) hg; have n10_ := nlt_ (g := gb306) (o := .cells #[.bool t302, .int .u64 t303, .int .u64 t304] 25 (0, 0)) hg; have n11_ := ngt_ (g := gb306) (o := .cells #[.bool t302, .int .u64 t303, .int .u64 t304] 25 (0, 0)) hg; have n12_ := nlt_ (g := gb311) (o := .cells #[.bool t307, .int .u64 t308, .int .u64 t309] 25 (0, 0)) hg; have n13_ := ngt_ (g := gb311) (o := .cells #[.bool t307, .int .u64 t308, .int .u64 t309] 25 (0, 0)) hg; have n14_ := nlt_ (g := gb316) (o := .cells #[.bool t312, .int .u64 t313, .int .u64 t314] 25 (0, 0)) hg; have n15_ := ngt_ (g := gb316) (o := .cells #[.bool t312, .int .u64 t313, .int .u64 t314] 25 (0, 0)) hg; clear BK305; clear BK306; clear BK311; clear BK316; clear HB; have BK305 := n0_; have BK306 := n1_; have BK311 := n2_; have BK316 := n3_; have HB := n4_; have BK321 := n5_; have GW321 := n6_; have GE321 := n7_; have NB305_321 := n8_; have NB321_305 := n9_; have NB306_321 := n10_; have NB321_306 := n11_; have NB311_321 := n12_; have NB321_311 := n13_; have NB316_321 := n14_; have NB321_316 := n15_; clear n0_ n1_ n2_ n3_ n4_ n5_ n6_ n7_ n8_ n9_ n10_ n11_ n12_ n13_ n14_ n15_; clear hb hbox hg; have hnb32 := NB321_305.out; have hnc32 := NB305_321.out; have hnb33 := NB321_306.out; have hnc33 := NB306_321.out; have hnb34 := NB321_311.out; have hnc34 := NB311_321.out; have hnb35 := NB321_316.out; have hnc35 := NB316_321.out; have hcz36_0 : w31.cell? ⟨gb321, 0, none⟩ = some (.bool false) := bc_; have hcz36_1 : w31.cell? ⟨gb321, 1, none⟩ = some (.int .u64 0) := bc_; have hcz36_2 : w31.cell? ⟨gb321, 2, none⟩ = some (.int .u64 0) := bc_; have hfz36_0 := blk_frozen BK321.out 0; have hfz36_1 := blk_frozen BK321.out 1; have hfz36_2 := blk_frozen BK321.out 2))
    (try simp only [Act.put, la_, lb_, lc_])
    go_cut [50] (fun v50 wc => ∃ (kq : Nat) (x50_7 : Bool), v50 = .bool x50_7 ∧ Aside0 (laws_FnWide.j0 kq t310 x50_7 t299 t300 t301 t302 t303 t304 t307 t308 t309 = some r) ∧ Aside0 (kq ≤ k) ∧ Aside0 (wc.heap[gb305]? = some (.cells #[.bool t299, .int .u64 t300, .int .u64 t301] 25 (0, 0))) ∧ Aside0 (wc.heap[gb306]? = some (.cells #[.bool t302, .int .u64 t303, .int .u64 t304] 25 (0, 0))) ∧ Aside0 (wc.heap[gb311]? = some (.cells #[.bool t307, .int .u64 t308, .int .u64 t309] 25 (0, 0))) ∧ Aside0 (wc.heap[gb316]? = some (.cells #[.bool t312, .int .u64 t313, .int .u64 t314] 25 (0, 0))) ∧ Aside0 (wc.heap[gb321]? = some (.cells #[.bool t317, .int .u64 t318, .int .u64 t319] 25 (0, 0))) ∧ Aside0 (Below w.heap.size w wc))
    case first =>
      have H := HC8.out
      clear HC8
      by_cases c37 : (t310 != t320) = true
      · rw [if_pos c37] at H
        have c37b0 : (t310 != t320) = true := c37
        (try (have c37b1 : decide (t310 = t320) = false := by simpa using c37))
        (try (have c37b2 : (t310 == t320) = false := by simpa using c37))
        (try (have c37b3 : ¬ (t310 = t320) := by simpa using c37))
        clear c37
        (first | rw [c37b0] | (simp only [i64_w, i32_w]; rw [c37b0]) | skip)
        have H' := Aside0.mk H
        clear H
        go_wp2
        go_meet
        case rel => exact ⟨_, (true), (by first | rfl | (simp; done) | (simp [*]; done)), H', ⟨by first | omega | exact Nat.le_refl _⟩, ⟨by (with_reducible repeat (first | refine bN_ _ ?_ | refine bd_ ?_ | refine ba_ _ ?_)); refine blk_far ?_ NB305_321.out _; (with_reducible repeat (first | refine bN_ _ ?_ | refine bd_ ?_ | refine ba_ _ ?_)); refine blk_far ?_ NB305_321.out _; (with_reducible repeat (first | refine bN_ _ ?_ | refine bd_ ?_ | refine ba_ _ ?_)); refine blk_far ?_ NB305_321.out _; (with_reducible repeat (first | refine bN_ _ ?_ | refine bd_ ?_ | refine ba_ _ ?_)); exact BK305.out⟩, ⟨by (with_reducible repeat (first | refine bN_ _ ?_ | refine bd_ ?_ | refine ba_ _ ?_)); refine blk_far ?_ NB306_321.out _; (with_reducible repeat (first | refine bN_ _ ?_ | refine bd_ ?_ | refine ba_ _ ?_)); refine blk_far ?_ NB306_321.out _; (with_reducible repeat (first | refine bN_ _ ?_ | refine bd_ ?_ | refine ba_ _ ?_)); refine blk_far ?_ NB306_321.out _; (with_reducible repeat (first | refine bN_ _ ?_ | refine bd_ ?_ | refine ba_ _ ?_)); exact BK306.out⟩, ⟨by (with_reducible repeat (first | refine bN_ _ ?_ | refine bd_ ?_ | refine ba_ _ ?_)); refine blk_far ?_ NB311_321.out _; (with_reducible repeat (first | refine bN_ _ ?_ | refine bd_ ?_ | refine ba_ _ ?_)); refine blk_far ?_ NB311_321.out _; (with_reducible repeat (first | refine bN_ _ ?_ | refine bd_ ?_ | refine ba_ _ ?_)); refine blk_far ?_ NB311_321.out _; (with_reducible repeat (first | refine bN_ _ ?_ | refine bd_ ?_ | refine ba_ _ ?_)); exact BK311.out⟩, ⟨by (with_reducible repeat (first | refine bN_ _ ?_ | refine bd_ ?_ | refine ba_ _ ?_)); refine blk_far ?_ NB316_321.out _; (with_reducible repeat (first | refine bN_ _ ?_ | refine bd_ ?_ | refine ba_ _ ?_)); refine blk_far ?_ NB316_321.out _; (with_reducible repeat (first | refine bN_ _ ?_ | refine bd_ ?_ | refine ba_ _ ?_)); refine blk_far ?_ NB316_321.out _; (with_reducible repeat (first | refine bN_ _ ?_ | refine bd_ ?_ | refine ba_ _ ?_)); exact BK316.out⟩, ⟨by (with_reducible repeat (first | refine bN_ _ ?_ | refine bd_ ?_ | refine ba_ _ ?_)); refine blk_put (cs := #[.bool t317, .int .u64 t318, .int .u64 0]) ?_ 2 _ rfl; (with_reducible repeat (first | refine bN_ _ ?_ | refine bd_ ?_ | refine ba_ _ ?_)); refine blk_put (cs := #[.bool t317, .int .u64 0, .int .u64 0]) ?_ 1 _ rfl; (with_reducible repeat (first | refine bN_ _ ?_ | refine bd_ ?_ | refine ba_ _ ?_)); refine blk_put (cs := #[.bool false, .int .u64 0, .int .u64 0]) ?_ 0 _ rfl; (with_reducible repeat (first | refine bN_ _ ?_ | refine bd_ ?_ | refine ba_ _ ?_)); exact BK321.out⟩, ⟨by repeat (first | (with_reducible first | exact HB.out | apply below_alloc | apply pw_below_drewN | apply below_drew1 | refine below_set ?_ GE305.out | refine below_set ?_ GE306.out | refine below_set ?_ GE311.out | refine below_set ?_ GE316.out | refine below_set ?_ GE321.out) | exact HB.out)⟩⟩
      · rw [if_neg c37] at H
        have c37b0 : (t310 != t320) = false := by simpa using c37
        (try (have c37b1 : decide (t310 = t320) = true := by simpa using c37))
        (try (have c37b2 : (t310 == t320) = true := by simpa using c37))
        clear c37
        (first | rw [c37b0] | (simp only [i64_w, i32_w]; rw [c37b0]) | skip)
        by_cases c38 : (t315 != t310) = true
        · rw [if_pos c38] at H
          have c38b0 : (t315 != t310) = true := c38
          (try (have c38b1 : decide (t315 = t310) = false := by simpa using c38))
          (try (have c38b2 : (t315 == t310) = false := by simpa using c38))
          (try (have c38b3 : ¬ (t315 = t310) := by simpa using c38))
          clear c38
          have H' := Aside0.mk H
          clear H
          go_wp2
          go_meet
          case rel => exact ⟨_, (true), (by first | rfl | (simp; done) | (simp [*]; done)), H', ⟨by first | omega | exact Nat.le_refl _⟩, ⟨by (with_reducible repeat (first | refine bN_ _ ?_ | refine bd_ ?_ | refine ba_ _ ?_)); refine blk_far ?_ NB305_321.out _; (with_reducible repeat (first | refine bN_ _ ?_ | refine bd_ ?_ | refine ba_ _ ?_)); refine blk_far ?_ NB305_321.out _; (with_reducible repeat (first | refine bN_ _ ?_ | refine bd_ ?_ | refine ba_ _ ?_)); refine blk_far ?_ NB305_321.out _; (with_reducible repeat (first | refine bN_ _ ?_ | refine bd_ ?_ | refine ba_ _ ?_)); exact BK305.out⟩, ⟨by (with_reducible repeat (first | refine bN_ _ ?_ | refine bd_ ?_ | refine ba_ _ ?_)); refine blk_far ?_ NB306_321.out _; (with_reducible repeat (first | refine bN_ _ ?_ | refine bd_ ?_ | refine ba_ _ ?_)); refine blk_far ?_ NB306_321.out _; (with_reducible repeat (first | refine bN_ _ ?_ | refine bd_ ?_ | refine ba_ _ ?_)); refine blk_far ?_ NB306_321.out _; (with_reducible repeat (first | refine bN_ _ ?_ | refine bd_ ?_ | refine ba_ _ ?_)); exact BK306.out⟩, ⟨by (with_reducible repeat (first | refine bN_ _ ?_ | refine bd_ ?_ | refine ba_ _ ?_)); refine blk_far ?_ NB311_321.out _; (with_reducible repeat (first | refine bN_ _ ?_ | refine bd_ ?_ | refine ba_ _ ?_)); refine blk_far ?_ NB311_321.out _; (with_reducible repeat (first | refine bN_ _ ?_ | refine bd_ ?_ | refine ba_ _ ?_)); refine blk_far ?_ NB311_321.out _; (with_reducible repeat (first | refine bN_ _ ?_ | refine bd_ ?_ | refine ba_ _ ?_)); exact BK311.out⟩, ⟨by (with_reducible repeat (first | refine bN_ _ ?_ | refine bd_ ?_ | refine ba_ _ ?_)); refine blk_far ?_ NB316_321.out _; (with_reducible repeat (first | refine bN_ _ ?_ | refine bd_ ?_ | refine ba_ _ ?_)); refine blk_far ?_ NB316_321.out _; (with_reducible repeat (first | refine bN_ _ ?_ | refine bd_ ?_ | refine ba_ _ ?_)); refine blk_far ?_ NB316_321.out _; (with_reducible repeat (first | refine bN_ _ ?_ | refine bd_ ?_ | refine ba_ _ ?_)); exact BK316.out⟩, ⟨by (with_reducible repeat (first | refine bN_ _ ?_ | refine bd_ ?_ | refine ba_ _ ?_)); refine blk_put (cs := #[.bool t317, .int .u64 t318, .int .u64 0]) ?_ 2 _ rfl; (with_reducible repeat (first | refine bN_ _ ?_ | refine bd_ ?_ | refine ba_ _ ?_)); refine blk_put (cs := #[.bool t317, .int .u64 0, .int .u64 0]) ?_ 1 _ rfl; (with_reducible repeat (first | refine bN_ _ ?_ | refine bd_ ?_ | refine ba_ _ ?_)); refine blk_put (cs := #[.bool false, .int .u64 0, .int .u64 0]) ?_ 0 _ rfl; (with_reducible repeat (first | refine bN_ _ ?_ | refine bd_ ?_ | refine ba_ _ ?_)); exact BK321.out⟩, ⟨by repeat (first | (with_reducible first | exact HB.out | apply below_alloc | apply pw_below_drewN | apply below_drew1 | refine below_set ?_ GE305.out | refine below_set ?_ GE306.out | refine below_set ?_ GE311.out | refine below_set ?_ GE316.out | refine below_set ?_ GE321.out) | exact HB.out)⟩⟩
        · rw [if_neg c38] at H
          have c38b0 : (t315 != t310) = false := by simpa using c38
          (try (have c38b1 : decide (t315 = t310) = true := by simpa using c38))
          (try (have c38b2 : (t315 == t310) = true := by simpa using c38))
          clear c38
          have H' := Aside0.mk H
          clear H
          have hnb39 := NB311_305.out
          have hnc39 := NB305_311.out
          have hnb40 := NB311_306.out
          have hnc40 := NB306_311.out
          have hnb41 := NB311_316.out
          have hnc41 := NB316_311.out
          have hnb42 := NB311_321.out
          have hnc42 := NB321_311.out
          have hcz43_0 : w31.cell? ⟨gb311, 0, none⟩ = some (.bool t307) := bc_
          have hcz43_1 : w31.cell? ⟨gb311, 1, none⟩ = some (.int .u64 t308) := bc_
          have hcz43_2 : w31.cell? ⟨gb311, 2, none⟩ = some (.int .u64 t309) := bc_
          have hfz43_0 := blk_frozen BK311.out 0
          have hfz43_1 := blk_frozen BK311.out 1
          have hfz43_2 := blk_frozen BK311.out 2
          have hnb44 := NB316_305.out
          have hnc44 := NB305_316.out
          have hnb45 := NB316_306.out
          have hnc45 := NB306_316.out
          have hnb46 := NB316_321.out
          have hnc46 := NB321_316.out
          have hcz47_0 : w31.cell? ⟨gb316, 0, none⟩ = some (.bool t312) := bc_
          have hcz47_1 : w31.cell? ⟨gb316, 1, none⟩ = some (.int .u64 t313) := bc_
          have hcz47_2 : w31.cell? ⟨gb316, 2, none⟩ = some (.int .u64 t314) := bc_
          have hfz47_0 := blk_frozen BK316.out 0
          have hfz47_1 := blk_frozen BK316.out 1
          have hfz47_2 := blk_frozen BK316.out 2
          go_wp2
          go_meet
          case rel => exact ⟨_, ((!(t307 == t312) || (!(t308 == t313) || (!(t309 == t314))))), (by first | rfl | (simp; done) | (simp [*]; done)), H', ⟨by first | omega | exact Nat.le_refl _⟩, ⟨by (with_reducible repeat (first | refine bN_ _ ?_ | refine bd_ ?_ | refine ba_ _ ?_)); refine blk_far ?_ NB305_321.out _; (with_reducible repeat (first | refine bN_ _ ?_ | refine bd_ ?_ | refine ba_ _ ?_)); refine blk_far ?_ NB305_321.out _; (with_reducible repeat (first | refine bN_ _ ?_ | refine bd_ ?_ | refine ba_ _ ?_)); refine blk_far ?_ NB305_321.out _; (with_reducible repeat (first | refine bN_ _ ?_ | refine bd_ ?_ | refine ba_ _ ?_)); exact BK305.out⟩, ⟨by (with_reducible repeat (first | refine bN_ _ ?_ | refine bd_ ?_ | refine ba_ _ ?_)); refine blk_far ?_ NB306_321.out _; (with_reducible repeat (first | refine bN_ _ ?_ | refine bd_ ?_ | refine ba_ _ ?_)); refine blk_far ?_ NB306_321.out _; (with_reducible repeat (first | refine bN_ _ ?_ | refine bd_ ?_ | refine ba_ _ ?_)); refine blk_far ?_ NB306_321.out _; (with_reducible repeat (first | refine bN_ _ ?_ | refine bd_ ?_ | refine ba_ _ ?_)); exact BK306.out⟩, ⟨by (with_reducible repeat (first | refine bN_ _ ?_ | refine bd_ ?_ | refine ba_ _ ?_)); refine blk_far ?_ NB311_321.out _; (with_reducible repeat (first | refine bN_ _ ?_ | refine bd_ ?_ | refine ba_ _ ?_)); refine blk_far ?_ NB311_321.out _; (with_reducible repeat (first | refine bN_ _ ?_ | refine bd_ ?_ | refine ba_ _ ?_)); refine blk_far ?_ NB311_321.out _; (with_reducible repeat (first | refine bN_ _ ?_ | refine bd_ ?_ | refine ba_ _ ?_)); exact BK311.out⟩, ⟨by (with_reducible repeat (first | refine bN_ _ ?_ | refine bd_ ?_ | refine ba_ _ ?_)); refine blk_far ?_ NB316_321.out _; (with_reducible repeat (first | refine bN_ _ ?_ | refine bd_ ?_ | refine ba_ _ ?_)); refine blk_far ?_ NB316_321.out _; (with_reducible repeat (first | refine bN_ _ ?_ | refine bd_ ?_ | refine ba_ _ ?_)); refine blk_far ?_ NB316_321.out _; (with_reducible repeat (first | refine bN_ _ ?_ | refine bd_ ?_ | refine ba_ _ ?_)); exact BK316.out⟩, ⟨by (with_reducible repeat (first | refine bN_ _ ?_ | refine bd_ ?_ | refine ba_ _ ?_)); refine blk_put (cs := #[.bool t317, .int .u64 t318, .int .u64 0]) ?_ 2 _ rfl; (with_reducible repeat (first | refine bN_ _ ?_ | refine bd_ ?_ | refine ba_ _ ?_)); refine blk_put (cs := #[.bool t317, .int .u64 0, .int .u64 0]) ?_ 1 _ rfl; (with_reducible repeat (first | refine bN_ _ ?_ | refine bd_ ?_ | refine ba_ _ ?_)); refine blk_put (cs := #[.bool false, .int .u64 0, .int .u64 0]) ?_ 0 _ rfl; (with_reducible repeat (first | refine bN_ _ ?_ | refine bd_ ?_ | refine ba_ _ ?_)); exact BK321.out⟩, ⟨by repeat (first | (with_reducible first | exact HB.out | apply below_alloc | apply pw_below_drewN | apply below_drew1 | refine below_set ?_ GE305.out | refine below_set ?_ GE306.out | refine below_set ?_ GE311.out | refine below_set ?_ GE316.out | refine below_set ?_ GE321.out) | exact HB.out)⟩⟩
    case rest =>
      clear HC8
      try clear c1
      try clear c2
      try clear p2
      try clear c3
      try clear c4
      try clear c6
      try clear c12
      try clear c17
      try clear c18
      try clear c23
      try clear c24
      try clear c25
      try clear c26
      try clear c32
      try clear c33
      try clear c34
      try clear c35
      try clear c37
      try clear c37b0
      try clear c37b1
      try clear c37b2
      try clear c38
      try clear c38b0
      try clear c38b1
      try clear c38b2
      try clear c39
      try clear c40
      try clear c41
      try clear c42
      try clear c44
      try clear c45
      try clear c46
      try clear hcz13_0
      try clear hcz13_1
      try clear hcz13_2
      try clear hcz14_0
      try clear hcz14_1
      try clear hcz14_2
      try clear hcz19_0
      try clear hcz19_1
      try clear hcz19_2
      try clear hcz20_0
      try clear hcz20_1
      try clear hcz20_2
      try clear hcz21_0
      try clear hcz21_1
      try clear hcz21_2
      try clear hcz27_0
      try clear hcz27_1
      try clear hcz27_2
      try clear hcz28_0
      try clear hcz28_1
      try clear hcz28_2
      try clear hcz29_0
      try clear hcz29_1
      try clear hcz29_2
      try clear hcz36_0
      try clear hcz36_1
      try clear hcz36_2
      try clear hcz43_0
      try clear hcz43_1
      try clear hcz43_2
      try clear hcz47_0
      try clear hcz47_1
      try clear hcz47_2
      try clear hfz13_0
      try clear hfz13_1
      try clear hfz13_2
      try clear hfz14_0
      try clear hfz14_1
      try clear hfz14_2
      try clear hfz19_0
      try clear hfz19_1
      try clear hfz19_2
      try clear hfz20_0
      try clear hfz20_1
      try clear hfz20_2
      try clear hfz21_0
      try clear hfz21_1
      try clear hfz21_2
      try clear hfz27_0
      try clear hfz27_1
      try clear hfz27_2
      try clear hfz28_0
      try clear hfz28_1
      try clear hfz28_2
      try clear hfz29_0
      try clear hfz29_1
      try clear hfz29_2
      try clear hfz36_0
      try clear hfz36_1
      try clear hfz36_2
      try clear hfz43_0
      try clear hfz43_1
      try clear hfz43_2
      try clear hfz47_0
      try clear hfz47_1
      try clear hfz47_2
      obtain ⟨kq, x50_7, rfl, HA, HJ7, BK305, BK306, BK311, BK316, BK321, HB⟩ := hcut
      cases kq with
      | zero => exact absurd HA.out (by simp [laws_FnWide.j0])
      | succ kj7 =>
        have H := HA.out
        clear HA
        simp only [laws_FnWide.j0] at H
        by_cases c48 : x50_7 = true
        · subst c48
          have H1 : (some false) = some r := by rw [if_pos rfl] at H; exact H
          clear H
          have H := H1
          clear H1
          exact absurd ((Option.some.inj H).trans hrt.out) (by decide)
        · replace c48 := Bool.eq_false_iff.mpr c48
          subst c48
          have H1 : (if t310 = true then ((impl_SubWide.f kj7 t307 t308 t309 t302 t303 t304).bind fun bt322 => ((impl_WideOk.f t307 t308 t309).bind fun t327 => (if t327 = true then ((spec_WideOk.f t307 t308 t309).bind fun t328 => (if t328 = true then (if bt322.2.2.2 = true then (some (bt322.1 == t299 && (bt322.2.1 == t300 && (bt322.2.2.1 == t301)))) else (some false)) else (some false))) else (some false)))) else (some (!t307 && (t308 == 0 && (t309 == 0))))) = some r := by rw [if_neg (show ¬ (false = true) by decide)] at H; exact H
          clear H
          have H := H1
          clear H1
          by_cases c49 : t310 = true
          · subst c49
            have H1 : ((impl_SubWide.f kj7 t307 t308 t309 t302 t303 t304).bind fun bt322 => ((impl_WideOk.f t307 t308 t309).bind fun t327 => (if t327 = true then ((spec_WideOk.f t307 t308 t309).bind fun t328 => (if t328 = true then (if bt322.2.2.2 = true then (some (bt322.1 == t299 && (bt322.2.1 == t300 && (bt322.2.2.1 == t301)))) else (some false)) else (some false))) else (some false)))) = some r := by rw [if_pos rfl] at H; exact H
            clear H
            have H := H1
            clear H1
            replace H := Option.bind_eq_some_iff.mp H
            obtain ⟨⟨t322, t323, t324, t325⟩, A500, H⟩ := H
            replace H : ((impl_WideOk.f t307 t308 t309).bind fun t327 => (if t327 = true then ((spec_WideOk.f t307 t308 t309).bind fun t328 => (if t328 = true then (if t325 = true then (some (t322 == t299 && (t323 == t300 && (t324 == t301)))) else (some false)) else (some false))) else (some false))) = some r := H
            have A50 := Aside0.mk A500
            clear A500
            replace H := Option.bind_eq_some_iff.mp H
            obtain ⟨t327, A510, H⟩ := H
            replace H : (if t327 = true then ((spec_WideOk.f t307 t308 t309).bind fun t328 => (if t328 = true then (if t325 = true then (some (t322 == t299 && (t323 == t300 && (t324 == t301)))) else (some false)) else (some false))) else (some false)) = some r := H
            have A51 := Aside0.mk A510
            clear A510
            by_cases c52 : t327 = true
            · subst c52
              have H1 : ((spec_WideOk.f t307 t308 t309).bind fun t328 => (if t328 = true then (if t325 = true then (some (t322 == t299 && (t323 == t300 && (t324 == t301)))) else (some false)) else (some false))) = some r := by rw [if_pos rfl] at H; exact H
              clear H
              have H := H1
              clear H1
              replace H := Option.bind_eq_some_iff.mp H
              obtain ⟨t328, A530, H⟩ := H
              replace H : (if t328 = true then (if t325 = true then (some (t322 == t299 && (t323 == t300 && (t324 == t301)))) else (some false)) else (some false)) = some r := H
              have A53 := Aside0.mk A530
              clear A530
              by_cases c54 : t328 = true
              · subst c54
                have H1 : (if t325 = true then (some (t322 == t299 && (t323 == t300 && (t324 == t301)))) else (some false)) = some r := by rw [if_pos rfl] at H; exact H
                clear H
                have H := H1
                clear H1
                by_cases c55 : t325 = true
                · subst c55
                  have H1 : (some (t322 == t299 && (t323 == t300 && (t324 == t301)))) = some r := by rw [if_pos rfl] at H; exact H
                  clear H
                  have H := H1
                  clear H1
                  obtain rfl := Option.some.inj H
                  have hnb56 := NB311_305.out
                  have hnc56 := NB305_311.out
                  have hnb57 := NB311_306.out
                  have hnc57 := NB306_311.out
                  have hnb58 := NB311_316.out
                  have hnc58 := NB316_311.out
                  have hnb59 := NB311_321.out
                  have hnc59 := NB321_311.out
                  have hcz60_0 : wc.cell? ⟨gb311, 0, none⟩ = some (.bool t307) := bc_
                  have hcz60_1 : wc.cell? ⟨gb311, 1, none⟩ = some (.int .u64 t308) := bc_
                  have hcz60_2 : wc.cell? ⟨gb311, 2, none⟩ = some (.int .u64 t309) := bc_
                  have hfz60_0 := blk_frozen BK311.out 0
                  have hfz60_1 := blk_frozen BK311.out 1
                  have hfz60_2 := blk_frozen BK311.out 2
                  have hnb61 := NB306_305.out
                  have hnc61 := NB305_306.out
                  have hnb62 := NB306_316.out
                  have hnc62 := NB316_306.out
                  have hnb63 := NB306_321.out
                  have hnc63 := NB321_306.out
                  have hcz64_0 : wc.cell? ⟨gb306, 0, none⟩ = some (.bool t302) := bc_
                  have hcz64_1 : wc.cell? ⟨gb306, 1, none⟩ = some (.int .u64 t303) := bc_
                  have hcz64_2 : wc.cell? ⟨gb306, 2, none⟩ = some (.int .u64 t304) := bc_
                  have hfz64_0 := blk_frozen BK306.out 0
                  have hfz64_1 := blk_frozen BK306.out 1
                  have hfz64_2 := blk_frozen BK306.out 2
                  go_wp2_with (first | ((with_reducible refine gate_callee (f := 27) rfl ?_); refine goesL_ (some 59) rfl rfl Try.func27 (by kernel_rfl) rfl #[.agg #[.bool t307, .int .u64 t308, .int .u64 t309], .agg #[.bool t302, .int .u64 t303, .int .u64 t304]] rfl mp_ ?_; (with_reducible refine (impl_SubWide.calls kj7 t307 t308 t309 t302 t303 t304 t322 t323 t324 true _ A50.out).mono ?_); rintro e w65 ⟨rfl, hb⟩; refine ⟨_, rfl, ?_⟩; have n0_ := bb_ (g := gb305) (o := .cells #[.bool t299, .int .u64 t300, .int .u64 t301] 25 (0, 0)) hb; have n1_ := bb_ (g := gb306) (o := .cells #[.bool t302, .int .u64 t303, .int .u64 t304] 25 (0, 0)) hb; have n2_ := bb_ (g := gb311) (o := .cells #[.bool t307, .int .u64 t308, .int .u64 t309] 25 (0, 0)) hb; have n3_ := bb_ (g := gb316) (o := .cells #[.bool t312, .int .u64 t313, .int .u64 t314] 25 (0, 0)) hb; have n4_ := bb_ (g := gb321) (o := .cells #[.bool t317, .int .u64 t318, .int .u64 t319] 25 (0, 0)) hb; have n5_ := Aside0.mk (below_step bel_ hb); clear BK305; clear BK306; clear BK311; clear BK316; clear BK321; clear HB; have BK305 := n0_; have BK306 := n1_; have BK311 := n2_; have BK316 := n3_; have BK321 := n4_; have HB := n5_; clear n0_ n1_ n2_ n3_ n4_ n5_; (try clear hb); (try clear hb2); (try clear hk); (try clear hi)) | ((with_reducible refine gate_dst (N := 11) rfl ?_); refine box_event ?hg (N := 11) ?hd (cs := #[.bool false, .int .u64 0, .int .u64 0]) (t := 25) ?hr ?_; (case hd => rfl); (case hg => rfl); (case hr => first | (go_simp; done) | (go_simp; rfl)); intro gb326 hg w66 hbox hb; have n0_ := bb_ (g := gb305) (o := .cells #[.bool t299, .int .u64 t300, .int .u64 t301] 25 (0, 0)) hb; have n1_ := bb_ (g := gb306) (o := .cells #[.bool t302, .int .u64 t303, .int .u64 t304] 25 (0, 0)) hb; have n2_ := bb_ (g := gb311) (o := .cells #[.bool t307, .int .u64 t308, .int .u64 t309] 25 (0, 0)) hb; have n3_ := bb_ (g := gb316) (o := .cells #[.bool t312, .int .u64 t313, .int .u64 t314] 25 (0, 0)) hb; have n4_ := bb_ (g := gb321) (o := .cells #[.bool t317, .int .u64 t318, .int .u64 t319] 25 (0, 0)) hb; have n5_ := Aside0.mk (below_step bel_ hb); have n6_ := Aside0.mk (hbox); have n7_ := Aside0.mk ((by rw [hg]; exact (below_size bel_) : w.heap.size ≤ gb326)); have n8_ := Aside0.mk ((by rw [hg]; exact (below_size bel_) : w.heap.size ≤ gb326)); have n9_ := nlt_ (g := gb305) (o := .cells #[.bool t299, .int .u64 t300, .int .u64 t301] 25 (0, 0)) hg; have n10_ := ngt_ (g := gb305) (o := .cells #[.bool t299, .int .u64 t300, .int .u64 t301] 25 (0, 0)) hg; have n11_ := nlt_ (g := gb306) (o := .cells #[.bool t302, .int .u64 t303, .int .u64 t304] 25 (0, 0)) hg; have n12_ := ngt_ (g := gb306) (o := .cells #[.bool t302, .int .u64 t303, .int .u64 t304] 25 (0, 0)) hg; have n13_ := nlt_ (g := gb311) (o := .cells #[.bool t307, .int .u64 t308, .int .u64 t309] 25 (0, 0)) hg; have n14_ := ngt_ (g := gb311) (o := .cells #[.bool t307, .int .u64 t308, .int .u64 t309] 25 (0, 0)) hg; have n15_ := nlt_ (g := gb316) (o := .cells #[.bool t312, .int .u64 t313, .int .u64 t314] 25 (0, 0)) hg; have n16_ := ngt_ (g := gb316) (o := .cells #[.bool t312, .int .u64 t313, .int .u64 t314] 25 (0, 0)) hg; have n17_ := nlt_ (g := gb321) (o := .cells #[.bool t317, .int .u64 t318, .int .u64 t319] 25 (0, 0)) hg; have n18_ := ngt_ (g := gb321) (o := .cells #[.bool t317, .int .u64 t318, .int .u64 t319] 25 (0, 0)) hg; clear BK305; clear BK306; clear BK311; clear BK316; clear BK321; clear HB; have BK305 := n0_; have BK306 := n1_; have BK311 := n2_; have BK316 := n3_; have BK321 := n4_; have HB := n5_; have BK326 := n6_; have GW326 := n7_; have GE326 := n8_; have NB305_326 := n9_; have NB326_305 := n10_; have NB306_326 := n11_; have NB326_306 := n12_; have NB311_326 := n13_; have NB326_311 := n14_; have NB316_326 := n15_; have NB326_316 := n16_; have NB321_326 := n17_; have NB326_321 := n18_; clear n0_ n1_ n2_ n3_ n4_ n5_ n6_ n7_ n8_ n9_ n10_ n11_ n12_ n13_ n14_ n15_ n16_ n17_ n18_; clear hb hbox hg; have hnb67 := NB326_305.out; have hnc67 := NB305_326.out; have hnb68 := NB326_306.out; have hnc68 := NB306_326.out; have hnb69 := NB326_311.out; have hnc69 := NB311_326.out; have hnb70 := NB326_316.out; have hnc70 := NB316_326.out; have hnb71 := NB326_321.out; have hnc71 := NB321_326.out; have hcz72_0 : w66.cell? ⟨gb326, 0, none⟩ = some (.bool false) := bc_; have hcz72_1 : w66.cell? ⟨gb326, 1, none⟩ = some (.int .u64 0) := bc_; have hcz72_2 : w66.cell? ⟨gb326, 2, none⟩ = some (.int .u64 0) := bc_; have hfz72_0 := blk_frozen BK326.out 0; have hfz72_1 := blk_frozen BK326.out 1; have hfz72_2 := blk_frozen BK326.out 2; have hcz73_0 : w66.cell? ⟨gb311, 0, none⟩ = some (.bool t307) := bc_; have hcz73_1 : w66.cell? ⟨gb311, 1, none⟩ = some (.int .u64 t308) := bc_; have hcz73_2 : w66.cell? ⟨gb311, 2, none⟩ = some (.int .u64 t309) := bc_; have hfz73_0 := blk_frozen BK311.out 0; have hfz73_1 := blk_frozen BK311.out 1; have hfz73_2 := blk_frozen BK311.out 2) | ((with_reducible refine gate_callee (f := 28) rfl ?_); refine goesL_ (some 63) rfl rfl Try.func28 (by kernel_rfl) rfl #[.agg #[.bool t307, .int .u64 t308, .int .u64 t309]] rfl mp_ ?_; (with_reducible refine (impl_WideOk.calls t307 t308 t309 true _ A51.out).mono ?_); rintro e w74 ⟨rfl, hb⟩; refine ⟨_, rfl, ?_⟩; have n0_ := Aside0.mk (blk_below (g := gb305) (o := .cells #[.bool t299, .int .u64 t300, .int .u64 t301] 25 (0, 0)) (by (with_reducible repeat (first | refine bN_ _ ?_ | refine bd_ ?_ | refine ba_ _ ?_)); refine blk_far ?_ NB305_326.out _; (with_reducible repeat (first | refine bN_ _ ?_ | refine bd_ ?_ | refine ba_ _ ?_)); refine blk_far ?_ NB305_326.out _; (with_reducible repeat (first | refine bN_ _ ?_ | refine bd_ ?_ | refine ba_ _ ?_)); refine blk_far ?_ NB305_326.out _; (with_reducible repeat (first | refine bN_ _ ?_ | refine bd_ ?_ | refine ba_ _ ?_)); exact BK305.out) hb); have n1_ := Aside0.mk (blk_below (g := gb306) (o := .cells #[.bool t302, .int .u64 t303, .int .u64 t304] 25 (0, 0)) (by (with_reducible repeat (first | refine bN_ _ ?_ | refine bd_ ?_ | refine ba_ _ ?_)); refine blk_far ?_ NB306_326.out _; (with_reducible repeat (first | refine bN_ _ ?_ | refine bd_ ?_ | refine ba_ _ ?_)); refine blk_far ?_ NB306_326.out _; (with_reducible repeat (first | refine bN_ _ ?_ | refine bd_ ?_ | refine ba_ _ ?_)); refine blk_far ?_ NB306_326.out _; (with_reducible repeat (first | refine bN_ _ ?_ | refine bd_ ?_ | refine ba_ _ ?_)); exact BK306.out) hb); have n2_ := Aside0.mk (blk_below (g := gb311) (o := .cells #[.bool t307, .int .u64 t308, .int .u64 t309] 25 (0, 0)) (by (with_reducible repeat (first | refine bN_ _ ?_ | refine bd_ ?_ | refine ba_ _ ?_)); refine blk_far ?_ NB311_326.out _; (with_reducible repeat (first | refine bN_ _ ?_ | refine bd_ ?_ | refine ba_ _ ?_)); refine blk_far ?_ NB311_326.out _; (with_reducible repeat (first | refine bN_ _ ?_ | refine bd_ ?_ | refine ba_ _ ?_)); refine blk_far ?_ NB311_326.out _; (with_reducible repeat (first | refine bN_ _ ?_ | refine bd_ ?_ | refine ba_ _ ?_)); exact BK311.out) hb); have n3_ := Aside0.mk (blk_below (g := gb316) (o := .cells #[.bool t312, .int .u64 t313, .int .u64 t314] 25 (0, 0)) (by (with_reducible repeat (first | refine bN_ _ ?_ | refine bd_ ?_ | refine ba_ _ ?_)); refine blk_far ?_ NB316_326.out _; (with_reducible repeat (first | refine bN_ _ ?_ | refine bd_ ?_ | refine ba_ _ ?_)); refine blk_far ?_ NB316_326.out _; (with_reducible repeat (first | refine bN_ _ ?_ | refine bd_ ?_ | refine ba_ _ ?_)); refine blk_far ?_ NB316_326.out _; (with_reducible repeat (first | refine bN_ _ ?_ | refine bd_ ?_ | refine ba_ _ ?_)); exact BK316.out) hb); have n4_ := Aside0.mk (blk_below (g := gb321) (o := .cells #[.bool t317, .int .u64 t318, .int .u64 t319] 25 (0, 0)) (by (with_reducible repeat (first | refine bN_ _ ?_ | refine bd_ ?_ | refine ba_ _ ?_)); refine blk_far ?_ NB321_326.out _; (with_reducible repeat (first | refine bN_ _ ?_ | refine bd_ ?_ | refine ba_ _ ?_)); refine blk_far ?_ NB321_326.out _; (with_reducible repeat (first | refine bN_ _ ?_ | refine bd_ ?_ | refine ba_ _ ?_)); refine blk_far ?_ NB321_326.out _; (with_reducible repeat (first | refine bN_ _ ?_ | refine bd_ ?_ | refine ba_ _ ?_)); exact BK321.out) hb); have n5_ := Aside0.mk (blk_below (g := gb326) (o := .cells #[.bool t322, .int .u64 t323, .int .u64 t324] 25 (0, 0)) (by (with_reducible repeat (first | refine bN_ _ ?_ | refine bd_ ?_ | refine ba_ _ ?_)); refine blk_put (cs := #[.bool t322, .int .u64 t323, .int .u64 0]) ?_ 2 _ rfl; (with_reducible repeat (first | refine bN_ _ ?_ | refine bd_ ?_ | refine ba_ _ ?_)); refine blk_put (cs := #[.bool t322, .int .u64 0, .int .u64 0]) ?_ 1 _ rfl; (with_reducible repeat (first | refine bN_ _ ?_ | refine bd_ ?_ | refine ba_ _ ?_)); refine blk_put (cs := #[.bool false, .int .u64 0, .int .u64 0]) ?_ 0 _ rfl; (with_reducible repeat (first | refine bN_ _ ?_ | refine bd_ ?_ | refine ba_ _ ?_)); exact BK326.out) hb); have n6_ := Aside0.mk (below_step bel_ hb); clear BK305; clear BK306; clear BK311; clear BK316; clear BK321; clear BK326; clear HB; have BK305 := n0_; have BK306 := n1_; have BK311 := n2_; have BK316 := n3_; have BK321 := n4_; have BK326 := n5_; have HB := n6_; clear n0_ n1_ n2_ n3_ n4_ n5_ n6_; (try clear hb); (try clear hb2); (try clear hk); (try clear hi); have hcz75_0 : w74.cell? ⟨gb311, 0, none⟩ = some (.bool t307) := bc_; have hcz75_1 : w74.cell? ⟨gb311, 1, none⟩ = some (.int .u64 t308) := bc_; have hcz75_2 : w74.cell? ⟨gb311, 2, none⟩ = some (.int .u64 t309) := bc_; have hfz75_0 := blk_frozen BK311.out 0; have hfz75_1 := blk_frozen BK311.out 1; have hfz75_2 := blk_frozen BK311.out 2) | (go_at_call 29; (with_reducible refine (spec_WideOk.calls t307 t308 t309 true _ A53.out).mono ?_); rintro e w76 ⟨rfl, hb⟩; have n0_ := bb_ (g := gb305) (o := .cells #[.bool t299, .int .u64 t300, .int .u64 t301] 25 (0, 0)) hb; have n1_ := bb_ (g := gb306) (o := .cells #[.bool t302, .int .u64 t303, .int .u64 t304] 25 (0, 0)) hb; have n2_ := bb_ (g := gb311) (o := .cells #[.bool t307, .int .u64 t308, .int .u64 t309] 25 (0, 0)) hb; have n3_ := bb_ (g := gb316) (o := .cells #[.bool t312, .int .u64 t313, .int .u64 t314] 25 (0, 0)) hb; have n4_ := bb_ (g := gb321) (o := .cells #[.bool t317, .int .u64 t318, .int .u64 t319] 25 (0, 0)) hb; have n5_ := bb_ (g := gb326) (o := .cells #[.bool t322, .int .u64 t323, .int .u64 t324] 25 (0, 0)) hb; have n6_ := Aside0.mk (below_step bel_ hb); clear BK305; clear BK306; clear BK311; clear BK316; clear BK321; clear BK326; clear HB; have BK305 := n0_; have BK306 := n1_; have BK311 := n2_; have BK316 := n3_; have BK321 := n4_; have BK326 := n5_; have HB := n6_; clear n0_ n1_ n2_ n3_ n4_ n5_ n6_; (try clear hb); (try clear hb2); (try clear hk); (try clear hi); have hcz77_0 : w76.cell? ⟨gb326, 0, none⟩ = some (.bool t322) := bc_; have hcz77_1 : w76.cell? ⟨gb326, 1, none⟩ = some (.int .u64 t323) := bc_; have hcz77_2 : w76.cell? ⟨gb326, 2, none⟩ = some (.int .u64 t324) := bc_; have hfz77_0 := blk_frozen BK326.out 0; have hfz77_1 := blk_frozen BK326.out 1; have hfz77_2 := blk_frozen BK326.out 2; have hnb78 := NB305_316.out; have hnc78 := NB316_305.out; have hnb79 := NB305_321.out; have hnc79 := NB321_305.out; have hcz80_0 : w76.cell? ⟨gb305, 0, none⟩ = some (.bool t299) := bc_; have hcz80_1 : w76.cell? ⟨gb305, 1, none⟩ = some (.int .u64 t300) := bc_; have hcz80_2 : w76.cell? ⟨gb305, 2, none⟩ = some (.int .u64 t301) := bc_; have hfz80_0 := blk_frozen BK305.out 0; have hfz80_1 := blk_frozen BK305.out 1; have hfz80_2 := blk_frozen BK305.out 2))
                  go_ret
                  exact ⟨by first | rfl | (simp [errW_none, errW_some] <;> rfl) | (simp [*, errW_none, errW_some] <;> rfl), by repeat (first | (with_reducible first | exact HB.out | apply below_alloc | apply pw_below_drewN | apply below_drew1 | refine below_set ?_ GE305.out | refine below_set ?_ GE306.out | refine below_set ?_ GE311.out | refine below_set ?_ GE316.out | refine below_set ?_ GE321.out | refine below_set ?_ GE326.out) | exact HB.out)⟩
                · replace c55 := Bool.eq_false_iff.mpr c55
                  subst c55
                  have H1 : (some false) = some r := by rw [if_neg (show ¬ (false = true) by decide)] at H; exact H
                  clear H
                  have H := H1
                  clear H1
                  exact absurd ((Option.some.inj H).trans hrt.out) (by decide)
              · replace c54 := Bool.eq_false_iff.mpr c54
                subst c54
                have H1 : (some false) = some r := by rw [if_neg (show ¬ (false = true) by decide)] at H; exact H
                clear H
                have H := H1
                clear H1
                exact absurd ((Option.some.inj H).trans hrt.out) (by decide)
            · replace c52 := Bool.eq_false_iff.mpr c52
              subst c52
              have H1 : (some false) = some r := by rw [if_neg (show ¬ (false = true) by decide)] at H; exact H
              clear H
              have H := H1
              clear H1
              exact absurd ((Option.some.inj H).trans hrt.out) (by decide)
          · replace c49 := Bool.eq_false_iff.mpr c49
            subst c49
            have H1 : (some (!t307 && (t308 == 0 && (t309 == 0)))) = some r := by rw [if_neg (show ¬ (false = true) by decide)] at H; exact H
            clear H
            have H := H1
            clear H1
            obtain rfl := Option.some.inj H
            have hnb81 := NB311_305.out
            have hnc81 := NB305_311.out
            have hnb82 := NB311_306.out
            have hnc82 := NB306_311.out
            have hnb83 := NB311_316.out
            have hnc83 := NB316_311.out
            have hnb84 := NB311_321.out
            have hnc84 := NB321_311.out
            have hcz85_0 : wc.cell? ⟨gb311, 0, none⟩ = some (.bool t307) := bc_
            have hcz85_1 : wc.cell? ⟨gb311, 1, none⟩ = some (.int .u64 t308) := bc_
            have hcz85_2 : wc.cell? ⟨gb311, 2, none⟩ = some (.int .u64 t309) := bc_
            have hfz85_0 := blk_frozen BK311.out 0
            have hfz85_1 := blk_frozen BK311.out 1
            have hfz85_2 := blk_frozen BK311.out 2
            go_wp2
            go_ret
            exact ⟨by first | rfl | (simp [errW_none, errW_some] <;> rfl) | (simp [*, errW_none, errW_some] <;> rfl), by repeat (first | (with_reducible first | exact HB.out | apply below_alloc | apply pw_below_drewN | apply below_drew1 | refine below_set ?_ GE305.out | refine below_set ?_ GE306.out | refine below_set ?_ GE311.out | refine below_set ?_ GE316.out | refine below_set ?_ GE321.out) | exact HB.out)⟩

/-- THE ONE PURE STATEMENT of laws_FnWide: yours. -/
def laws_FnWide.Pure : Prop := ∀ (l0 : List Int), l0.length ≤ maxLen → l0.length * 1 ≤ 140737488351232 → (∀ x ∈ l0, (Lit.int .u8 x).wf = true) → ∃ k, laws_FnWide.f k l0 = some true
theorem laws_FnWide.walk (P : laws_FnWide.Pure) (a0 : Option Addr) (len0 cap0 : Nat) (z0 : List Int) (w : World) (w0 : (a0 = none ∧ len0 = 0 ∧ cap0 = 0 ∧ z0 = []) ∨ ∃ x, a0 = some x ∧ len0 ≤ cap0 ∧ cap0 ≤ maxLen ∧ z0.length = cap0 ∧ (∀ i, i < z0.length → w.cell? (x.add i) = some (.int .u8 (z0.getD i 0))) ∧ ∀ n ∈ z0, (Lit.int .u8 n).wf = true) (y0 : len0 * 1 ≤ 140737488351232) :
    Calls Try.prog 6 #[.slice a0 len0 cap0] w fun e w' => e = .returned (.bool true) ∧ Below w.heap.size w w' := by
  obtain ⟨l0, rfl, hr0, hm0, hw0, hc0⟩ := ReadsInt.ofRowC w0
  obtain ⟨k, h⟩ := P l0 hm0 y0 hw0
  refine (laws_FnWide.calls k _ _ l0 true w (Kd.C_of_reads (d := (0 : Int)) (h1 := fun _ => rfl) hr0) hc0 h ⟨rfl⟩).mono ?_
  rintro e w' ⟨rfl, hd⟩
  exact ⟨rfl, hd⟩

end Go.Proofs.Ytlndcgmojabgbaa.PFnWide
