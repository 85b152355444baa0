/- Contracts of Go functions, each with the Lean function that says what it computes: begun by the print, turned by this session. No condition beyond what each theorem states. -/
import Derived.Test.YtodbmgnhcglcnaaPFnWideOrderx0
import Derived.Test.YtodbmgnhcglcnaaPFnWideOrderx3
import Derived.Test.YtodbmgnhcglcnaaPFnWideOrderx4
namespace Go.Proofs.Ytodbmgnhcglcnaa.PFnWideOrder
open Go.RowKit Go.Proofs.YtodbmgnhcglcnaaW.PrintWords Go.Proofs.YtodbmgnhcglcnaaW.PrintLast Go.Proofs.YtodbmgnhcglcnaaW.PrintMore
attribute [local go_sem] max2_int min2_int max_two min_two max_three min_three max_four min_four   -- for this text's walks alone
set_option linter.unusedVariables false
set_option linter.unusedSimpArgs false

/-! ### spec_l3Two: function 41 -/
def spec_l3Two.f (k : Nat) (l0 : List Int) : Option (Bool × Int × Int × Bool × Int × Int) := (spec_l1New.f k l0).bind fun bt252 => ((spec_l3Wide.f k bt252.1 bt252.2.1 bt252.2.2).bind fun bt256 => ((spec_l1Below.f bt252.1 bt256.2.2.2.1 bt256.2.2.2.2 4).bind fun bt262 => (if bt262.1 = 0 then ((spec_NegWide.f bt256.1 bt256.2.1 bt256.2.2.1).bind fun bt265 => (some (bt256.1, bt256.2.1, bt256.2.2.1, bt265.1, bt265.2.1, bt265.2.2))) else (if bt262.1 = 1 then (some (bt256.1, bt256.2.1, bt256.2.2.1, bt256.1, bt256.2.1, bt256.2.2.1)) else ((spec_l3Wide.f k bt252.1 bt262.2.1 bt262.2.2).bind fun bt268 => (some (bt256.1, bt256.2.1, bt256.2.2.1, bt268.1, bt268.2.1, bt268.2.2.1)))))))
theorem spec_l3Two.mono : ∀ a0 k, LeO (spec_l3Two.f k a0) (spec_l3Two.f (k + 1) a0) := by
  intro a0 k
  unfold spec_l3Two.f
  repeat' first
      | (with_reducible exact spec_l1New.mono _ _)
      | (with_reducible exact spec_l3Wide.mono _ _ _ _)
      | (with_reducible exact LeO.refl _)
      | (with_reducible exact LeO.none _)
      | (with_reducible refine LeO.ite ?_ ?_)
      | (with_reducible refine LeO.bind ?_ (fun _ => ?_))
      | exact spec_l1New.mono _ _
      | exact spec_l3Wide.mono _ _ _ _
      | exact LeO.none _
      | refine LeO.ite ?_ ?_
      | refine LeO.bind ?_ (fun _ => ?_)
set_option maxHeartbeats 8000000 in
set_option maxRecDepth 100000 in
theorem spec_l3Two.calls (k : Nat) (A0 : Option Addr) (c0 : Nat) (l0 : List Int) (r1 : Bool) (r2 : Int) (r3 : Int) (r4 : Bool) (r5 : Int) (r6 : Int) (w : World) (hr0 : Kd.C (Kd.int .u8) w A0 l0.length l0) (hc0 : l0.length ≤ c0) (h : spec_l3Two.f k l0 = some (r1, r2, r3, r4, r5, r6)) :
    Calls Try.prog 41 #[.slice A0 l0.length c0] w fun e w' => e = .returned (.tuple #[.agg #[.bool r1, .int .u64 r2, .int .u64 r3], .agg #[.bool r4, .int .u64 r5, .int .u64 r6]]) ∧ Below w.heap.size w w' := by
  have hu30 := Try.underlying30
  have HR0 := Aside0.mk hr0
  have HC0 := Aside0.mk hc0
  clear hr0 hc0
  have HB := Aside0.mk (Below.refl w.heap.size w)
  have H : ((spec_l1New.f k l0).bind fun bt252 => ((spec_l3Wide.f k bt252.1 bt252.2.1 bt252.2.2).bind fun bt256 => ((spec_l1Below.f bt252.1 bt256.2.2.2.1 bt256.2.2.2.2 4).bind fun bt262 => (if bt262.1 = 0 then ((spec_NegWide.f bt256.1 bt256.2.1 bt256.2.2.1).bind fun bt265 => (some (bt256.1, bt256.2.1, bt256.2.2.1, bt265.1, bt265.2.1, bt265.2.2))) else (if bt262.1 = 1 then (some (bt256.1, bt256.2.1, bt256.2.2.1, bt256.1, bt256.2.1, bt256.2.2.1)) else ((spec_l3Wide.f k bt252.1 bt262.2.1 bt262.2.2).bind fun bt268 => (some (bt256.1, bt256.2.1, bt256.2.2.1, bt268.1, bt268.2.1, bt268.2.2.1)))))))) = some (r1, r2, r3, r4, r5, r6) := h
  clear h
  replace H := Option.bind_eq_some_iff.mp H
  obtain ⟨⟨t252, t253, t254⟩, A20, H⟩ := H
  replace H : ((spec_l3Wide.f k t252 t253 t254).bind fun bt256 => ((spec_l1Below.f t252 bt256.2.2.2.1 bt256.2.2.2.2 4).bind fun bt262 => (if bt262.1 = 0 then ((spec_NegWide.f bt256.1 bt256.2.1 bt256.2.2.1).bind fun bt265 => (some (bt256.1, bt256.2.1, bt256.2.2.1, bt265.1, bt265.2.1, bt265.2.2))) else (if bt262.1 = 1 then (some (bt256.1, bt256.2.1, bt256.2.2.1, bt256.1, bt256.2.1, bt256.2.2.1)) else ((spec_l3Wide.f k t252 bt262.2.1 bt262.2.2).bind fun bt268 => (some (bt256.1, bt256.2.1, bt256.2.2.1, bt268.1, bt268.2.1, bt268.2.2.1))))))) = some (r1, r2, r3, r4, r5, r6) := H
  have A2 := Aside0.mk A20
  clear A20
  replace H := Option.bind_eq_some_iff.mp H
  obtain ⟨⟨t256, t257, t258, t259, t260⟩, A30, H⟩ := H
  replace H : ((spec_l1Below.f t252 t259 t260 4).bind fun bt262 => (if bt262.1 = 0 then ((spec_NegWide.f t256 t257 t258).bind fun bt265 => (some (t256, t257, t258, bt265.1, bt265.2.1, bt265.2.2))) else (if bt262.1 = 1 then (some (t256, t257, t258, t256, t257, t258)) else ((spec_l3Wide.f k t252 bt262.2.1 bt262.2.2).bind fun bt268 => (some (t256, t257, t258, bt268.1, bt268.2.1, bt268.2.2.1)))))) = some (r1, r2, r3, r4, r5, r6) := H
  have A3 := Aside0.mk A30
  clear A30
  replace H := Option.bind_eq_some_iff.mp H
  obtain ⟨⟨t262, t263, t264⟩, A40, H⟩ := H
  replace H : (if t262 = 0 then ((spec_NegWide.f t256 t257 t258).bind fun bt265 => (some (t256, t257, t258, bt265.1, bt265.2.1, bt265.2.2))) else (if t262 = 1 then (some (t256, t257, t258, t256, t257, t258)) else ((spec_l3Wide.f k t252 t263 t264).bind fun bt268 => (some (t256, t257, t258, bt268.1, bt268.2.1, bt268.2.2.1))))) = some (r1, r2, r3, r4, r5, r6) := H
  have A4 := Aside0.mk A40
  clear A40
  by_cases c5 : t262 = 0
  · rw [if_pos c5] at H
    have c5b0 : (t262 == 0) = true := beq_iff_eq.mpr c5
    have c5b1 : (t262 != 0) = false := bne_eq_false_iff_eq.mpr c5
    clear c5
    replace H := Option.bind_eq_some_iff.mp H
    obtain ⟨⟨t265, t266, t267⟩, A60, H⟩ := H
    replace H : (some (t256, t257, t258, t265, t266, t267)) = some (r1, r2, r3, r4, r5, r6) := H
    have A6 := Aside0.mk A60
    clear A60
    simp only [Option.some.injEq, Prod.mk.injEq] at H
    obtain ⟨rfl, rfl, rfl, rfl, rfl, rfl⟩ := H
    go_enter Try.func41, Try.ntmps41
    try go_wp2_with (first | ((with_reducible refine gate_dst (N := 2) rfl ?_); refine box_event ?hg (N := 2) ?hd (cs := #[.bool false, .int .u64 0, .int .u64 0]) (t := 30) ?hr ?_; (case hd => rfl); (case hg => rfl); (case hr => first | (go_simp; done) | (go_simp; rfl)); intro gb250 hg w7 hbox hb; have n0_ := Aside0.mk (below_step bel_ hb); have n1_ := Aside0.mk (hbox); have n2_ := Aside0.mk ((by rw [hg]; exact (below_size bel_) : w.heap.size ≤ gb250)); have n3_ := Aside0.mk ((by rw [hg]; exact (below_size bel_) : w.heap.size ≤ gb250)); clear HB; have HB := n0_; have BK250 := n1_; have GW250 := n2_; have GE250 := n3_; clear n0_ n1_ n2_ n3_; clear hb hbox hg) | ((with_reducible refine gate_dst (N := 3) rfl ?_); refine box_event ?hg (N := 3) ?hd (cs := #[.bool false, .int .u64 0, .int .u64 0]) (t := 30) ?hr ?_; (case hd => rfl); (case hg => rfl); (case hr => first | (go_simp; done) | (go_simp; rfl)); intro gb251 hg w8 hbox hb; have n0_ := bb_ (g := gb250) (o := .cells #[.bool false, .int .u64 0, .int .u64 0] 30 (0, 0)) hb; have n1_ := Aside0.mk (below_step bel_ hb); have n2_ := Aside0.mk (hbox); have n3_ := Aside0.mk ((by rw [hg]; exact (below_size bel_) : w.heap.size ≤ gb251)); have n4_ := Aside0.mk ((by rw [hg]; exact (below_size bel_) : w.heap.size ≤ gb251)); have n5_ := nlt_ (g := gb250) (o := .cells #[.bool false, .int .u64 0, .int .u64 0] 30 (0, 0)) hg; have n6_ := ngt_ (g := gb250) (o := .cells #[.bool false, .int .u64 0, .int .u64 0] 30 (0, 0)) hg; clear BK250; clear HB; have BK250 := n0_; have HB := n1_; have BK251 := n2_; have GW251 := n3_; have GE251 := n4_; have NB250_251 := n5_; have NB251_250 := n6_; clear n0_ n1_ n2_ n3_ n4_ n5_ n6_; clear hb hbox hg) | ((with_reducible refine gate_callee (f := 60) rfl ?_); refine goesL_ (some 7) rfl rfl Try.func60 (by kernel_rfl) rfl #[.slice A0 l0.length c0] rfl mp_ ?_; (with_reducible refine (spec_l1New.calls k _ _ l0 t252 t253 t254 w _ ?side1 ?side2 ?side3 A2.out).mono ?_); (case side1 => repeat (first | (with_reducible first | exact HB.out | apply below_alloc | apply pw_below_drewN | apply below_drew1 | refine below_set ?_ GE250.out | refine below_set ?_ GE251.out) | exact HB.out)); (case side2 => exact HR0.out); (case side3 => exact HC0.out); rintro e w9 ⟨g255, rfl, hi, hb, hb2⟩; refine ⟨_, rfl, ?_⟩; have n0_ := Aside0.mk (blk_below (g := gb250) (o := .cells #[.bool false, .int .u64 0, .int .u64 0] 30 (0, 0)) (by (with_reducible repeat (first | refine bN_ _ ?_ | refine bd_ ?_ | refine ba_ _ ?_)); exact BK250.out) hb2); have n1_ := Aside0.mk (blk_below (g := gb251) (o := .cells #[.bool false, .int .u64 0, .int .u64 0] 30 (0, 0)) (by (with_reducible repeat (first | refine bN_ _ ?_ | refine bd_ ?_ | refine ba_ _ ?_)); exact BK251.out) hb2); have n2_ := Aside0.mk (hb); have n3_ := Aside0.mk (hi); have n4_ := Aside0.mk (IsS97.ne_blk hi (blk_below (g := gb250) (o := .cells #[.bool false, .int .u64 0, .int .u64 0] 30 (0, 0)) (by (with_reducible repeat (first | refine bN_ _ ?_ | refine bd_ ?_ | refine ba_ _ ?_)); exact BK250.out) hb2) (by decide)); have n5_ := Aside0.mk (Ne.symm (IsS97.ne_blk hi (blk_below (g := gb250) (o := .cells #[.bool false, .int .u64 0, .int .u64 0] 30 (0, 0)) (by (with_reducible repeat (first | refine bN_ _ ?_ | refine bd_ ?_ | refine ba_ _ ?_)); exact BK250.out) hb2) (by decide))); have n6_ := Aside0.mk (IsS97.ne_blk hi (blk_below (g := gb251) (o := .cells #[.bool false, .int .u64 0, .int .u64 0] 30 (0, 0)) (by (with_reducible repeat (first | refine bN_ _ ?_ | refine bd_ ?_ | refine ba_ _ ?_)); exact BK251.out) hb2) (by decide)); have n7_ := Aside0.mk (Ne.symm (IsS97.ne_blk hi (blk_below (g := gb251) (o := .cells #[.bool false, .int .u64 0, .int .u64 0] 30 (0, 0)) (by (with_reducible repeat (first | refine bN_ _ ?_ | refine bd_ ?_ | refine ba_ _ ?_)); exact BK251.out) hb2) (by decide))); clear BK250; clear BK251; clear HB; have BK250 := n0_; have BK251 := n1_; have HB := n2_; have HI255 := n3_; have NB255_250 := n4_; have NB250_255 := n5_; have NB255_251 := n6_; have NB251_255 := n7_; clear n0_ n1_ n2_ n3_ n4_ n5_ n6_ n7_; (try clear hb); (try clear hb2); (try clear hk); (try clear hi)) | ((with_reducible refine gate_callee (f := 67) rfl ?_); refine goesL_ (some 9) rfl rfl Try.func67 (by kernel_rfl) rfl #[.pointer (some ⟨g255, 0, none⟩)] rfl mp_ ?_; (with_reducible refine (spec_l3Wide.calls k g255 t252 t253 t254 t256 t257 t258 t259 t260 w _ ?side1 ?side2 A3.out).mono ?_); (case side1 => repeat (first | (with_reducible first | exact HI255.out | apply IsS97.alloc | apply IsS97.drewN | apply IsS97.drew | apply IsS97.set_1 | apply IsS97.set_2 | refine IsS97.far ?_ NB255_250.out _ | refine IsS97.far ?_ NB255_251.out _) | exact HI255.out)); (case side2 => repeat (first | (with_reducible first | exact HB.out | apply below_alloc | apply pw_below_drewN | apply below_drew1 | refine below_set ?_ (IsS97.ge HI255.out) | refine below_set ?_ GE250.out | refine below_set ?_ GE251.out) | exact HB.out)); rintro e w10 ⟨rfl, hi, hb, hk⟩; refine ⟨_, rfl, ?_⟩; have n0_ := Aside0.mk (KeepBut.blk hk (g' := gb250) (o := .cells #[.bool false, .int .u64 0, .int .u64 0] 30 (0, 0)) (by (with_reducible repeat (first | refine bN_ _ ?_ | refine bd_ ?_ | refine ba_ _ ?_)); exact BK250.out) NB250_255.out (by simp)); have n1_ := Aside0.mk (KeepBut.blk hk (g' := gb251) (o := .cells #[.bool false, .int .u64 0, .int .u64 0] 30 (0, 0)) (by (with_reducible repeat (first | refine bN_ _ ?_ | refine bd_ ?_ | refine ba_ _ ?_)); exact BK251.out) NB251_255.out (by simp)); have n2_ := Aside0.mk (hb); have n3_ := Aside0.mk (hi); clear BK250; clear BK251; clear HB; clear HI255; have BK250 := n0_; have BK251 := n1_; have HB := n2_; have HI255 := n3_; clear n0_ n1_ n2_ n3_; (try clear hb); (try clear hb2); (try clear hk); (try clear hi)) | ((with_reducible refine gate_dst (N := 5) rfl ?_); refine box_event ?hg (N := 5) ?hd (cs := #[.bool false, .int .u64 0, .int .u64 0]) (t := 30) ?hr ?_; (case hd => rfl); (case hg => rfl); (case hr => first | (go_simp; done) | (go_simp; rfl)); intro gb261 hg w11 hbox hb; have n0_ := bb_ (g := gb250) (o := .cells #[.bool false, .int .u64 0, .int .u64 0] 30 (0, 0)) hb; have n1_ := bb_ (g := gb251) (o := .cells #[.bool false, .int .u64 0, .int .u64 0] 30 (0, 0)) hb; have n2_ := Aside0.mk (IsS97.below (by repeat (first | (with_reducible first | exact HI255.out | apply IsS97.alloc | apply IsS97.drewN | apply IsS97.drew | apply IsS97.set_1 | apply IsS97.set_2 | refine IsS97.far ?_ NB255_250.out _ | refine IsS97.far ?_ NB255_251.out _) | exact HI255.out)) hb); have n3_ := Aside0.mk (below_step (by repeat (first | (with_reducible first | exact HB.out | apply below_alloc | apply pw_below_drewN | apply below_drew1 | refine below_set ?_ (IsS97.ge HI255.out) | refine below_set ?_ GE250.out | refine below_set ?_ GE251.out) | exact HB.out)) hb); have n4_ := Aside0.mk (hbox); have n5_ := Aside0.mk ((by rw [hg]; exact (below_size (by repeat (first | (with_reducible first | exact HB.out | apply below_alloc | apply pw_below_drewN | apply below_drew1 | refine below_set ?_ (IsS97.ge HI255.out) | refine below_set ?_ GE250.out | refine below_set ?_ GE251.out) | exact HB.out))) : w.heap.size ≤ gb261)); have n6_ := Aside0.mk ((by rw [hg]; exact (below_size (by repeat (first | (with_reducible first | exact HB.out | apply below_alloc | apply pw_below_drewN | apply below_drew1 | refine below_set ?_ (IsS97.ge HI255.out) | refine below_set ?_ GE250.out | refine below_set ?_ GE251.out) | exact HB.out))) : w.heap.size ≤ gb261)); have n7_ := nlt_ (g := gb250) (o := .cells #[.bool false, .int .u64 0, .int .u64 0] 30 (0, 0)) hg; have n8_ := ngt_ (g := gb250) (o := .cells #[.bool false, .int .u64 0, .int .u64 0] 30 (0, 0)) hg; have n9_ := nlt_ (g := gb251) (o := .cells #[.bool false, .int .u64 0, .int .u64 0] 30 (0, 0)) hg; have n10_ := ngt_ (g := gb251) (o := .cells #[.bool false, .int .u64 0, .int .u64 0] 30 (0, 0)) hg; have n11_ := Aside0.mk ((by rw [hg]; exact Nat.ne_of_lt (IsS97.lt (show IsS97 w _ g255 t252 t259 t260 from by repeat (first | (with_reducible first | exact HI255.out | apply IsS97.alloc | apply IsS97.drewN | apply IsS97.drew | apply IsS97.set_1 | apply IsS97.set_2 | refine IsS97.far ?_ NB255_250.out _ | refine IsS97.far ?_ NB255_251.out _) | exact HI255.out))) : g255 ≠ gb261)); have n12_ := Aside0.mk ((by rw [hg]; exact Nat.ne_of_gt (IsS97.lt (show IsS97 w _ g255 t252 t259 t260 from by repeat (first | (with_reducible first | exact HI255.out | apply IsS97.alloc | apply IsS97.drewN | apply IsS97.drew | apply IsS97.set_1 | apply IsS97.set_2 | refine IsS97.far ?_ NB255_250.out _ | refine IsS97.far ?_ NB255_251.out _) | exact HI255.out))) : gb261 ≠ g255)); clear BK250; clear BK251; clear HI255; clear HB; have BK250 := n0_; have BK251 := n1_; have HI255 := n2_; have HB := n3_; have BK261 := n4_; have GW261 := n5_; have GE261 := n6_; have NB250_261 := n7_; have NB261_250 := n8_; have NB251_261 := n9_; have NB261_251 := n10_; have NB255_261 := n11_; have NB261_255 := n12_; clear n0_ n1_ n2_ n3_ n4_ n5_ n6_ n7_ n8_ n9_ n10_ n11_ n12_; clear hb hbox hg; have hnb12 := NB261_250.out; have hnc12 := NB250_261.out; have hnb13 := NB261_251.out; have hnc13 := NB251_261.out; have hnb14 := NB261_255.out; have hnc14 := NB255_261.out; have hcz15_0 : w11.cell? ⟨gb261, 0, none⟩ = some (.bool false) := bc_; have hcz15_1 : w11.cell? ⟨gb261, 1, none⟩ = some (.int .u64 0) := bc_; have hcz15_2 : w11.cell? ⟨gb261, 2, none⟩ = some (.int .u64 0) := bc_; have hfz15_0 := blk_frozen BK261.out 0; have hfz15_1 := blk_frozen BK261.out 1; have hfz15_2 := blk_frozen BK261.out 2) | ((with_reducible refine gate_callee (f := 62) rfl ?_); refine goesL_ (some 11) rfl rfl Try.func62 (by kernel_rfl) rfl #[.pointer (some ⟨g255, 0, none⟩), .int .i64 4] rfl mp_ ?_; (with_reducible refine (spec_l1Below.calls g255 t252 t259 t260 4 t262 t263 t264 w _ ?side1 ?side2 A4.out).mono ?_); (case side1 => repeat (first | (with_reducible first | exact HI255.out | apply IsS97.alloc | apply IsS97.drewN | apply IsS97.drew | apply IsS97.set_1 | apply IsS97.set_2 | refine IsS97.far ?_ NB255_250.out _ | refine IsS97.far ?_ NB255_251.out _ | refine IsS97.far ?_ NB255_261.out _) | exact HI255.out)); (case side2 => repeat (first | (with_reducible first | exact HB.out | apply below_alloc | apply pw_below_drewN | apply below_drew1 | refine below_set ?_ (IsS97.ge HI255.out) | refine below_set ?_ GE250.out | refine below_set ?_ GE251.out | refine below_set ?_ GE261.out) | exact HB.out)); rintro e w16 ⟨rfl, hi, hb, hk⟩; refine ⟨_, rfl, ?_⟩; have n0_ := Aside0.mk (KeepBut.blk hk (g' := gb250) (o := .cells #[.bool false, .int .u64 0, .int .u64 0] 30 (0, 0)) (by (with_reducible repeat (first | refine bN_ _ ?_ | refine bd_ ?_ | refine ba_ _ ?_)); refine blk_far ?_ NB250_261.out _; (with_reducible repeat (first | refine bN_ _ ?_ | refine bd_ ?_ | refine ba_ _ ?_)); refine blk_far ?_ NB250_261.out _; (with_reducible repeat (first | refine bN_ _ ?_ | refine bd_ ?_ | refine ba_ _ ?_)); refine blk_far ?_ NB250_261.out _; (with_reducible repeat (first | refine bN_ _ ?_ | refine bd_ ?_ | refine ba_ _ ?_)); exact BK250.out) NB250_255.out (by simp)); have n1_ := Aside0.mk (KeepBut.blk hk (g' := gb251) (o := .cells #[.bool false, .int .u64 0, .int .u64 0] 30 (0, 0)) (by (with_reducible repeat (first | refine bN_ _ ?_ | refine bd_ ?_ | refine ba_ _ ?_)); refine blk_far ?_ NB251_261.out _; (with_reducible repeat (first | refine bN_ _ ?_ | refine bd_ ?_ | refine ba_ _ ?_)); refine blk_far ?_ NB251_261.out _; (with_reducible repeat (first | refine bN_ _ ?_ | refine bd_ ?_ | refine ba_ _ ?_)); refine blk_far ?_ NB251_261.out _; (with_reducible repeat (first | refine bN_ _ ?_ | refine bd_ ?_ | refine ba_ _ ?_)); exact BK251.out) NB251_255.out (by simp)); have n2_ := Aside0.mk (KeepBut.blk hk (g' := gb261) (o := .cells #[.bool t256, .int .u64 t257, .int .u64 t258] 30 (0, 0)) (by (with_reducible repeat (first | refine bN_ _ ?_ | refine bd_ ?_ | refine ba_ _ ?_)); refine blk_put (cs := #[.bool t256, .int .u64 t257, .int .u64 0]) ?_ 2 _ rfl; (with_reducible repeat (first | refine bN_ _ ?_ | refine bd_ ?_ | refine ba_ _ ?_)); refine blk_put (cs := #[.bool t256, .int .u64 0, .int .u64 0]) ?_ 1 _ rfl; (with_reducible repeat (first | refine bN_ _ ?_ | refine bd_ ?_ | refine ba_ _ ?_)); refine blk_put (cs := #[.bool false, .int .u64 0, .int .u64 0]) ?_ 0 _ rfl; (with_reducible repeat (first | refine bN_ _ ?_ | refine bd_ ?_ | refine ba_ _ ?_)); exact BK261.out) NB261_255.out (by simp)); have n3_ := Aside0.mk (hb); have n4_ := Aside0.mk (hi); clear BK250; clear BK251; clear BK261; clear HB; clear HI255; have BK250 := n0_; have BK251 := n1_; have BK261 := n2_; have HB := n3_; have HI255 := n4_; clear n0_ n1_ n2_ n3_ n4_; (try clear hb); (try clear hb2); (try clear hk); (try clear hi)))
    have n0_ := Aside0.mk (blk_drew BK250.out)
    have n1_ := Aside0.mk (blk_drew BK251.out)
    have n2_ := Aside0.mk (blk_drew BK261.out)
    have n3_ := Aside0.mk (IsS97.drew HI255.out)
    have n4_ := Aside0.mk (below_drew1 HB.out)
    clear BK250
    clear BK251
    clear BK261
    clear HI255
    clear HB
    have BK250 := n0_
    have BK251 := n1_
    have BK261 := n2_
    have HI255 := n3_
    have HB := n4_
    clear n0_ n1_ n2_ n3_ n4_
    refine start_ (n := 5) (S := fun w' => w'.cell? ⟨gb261, 0, none⟩ = some (.bool t256) ∧ w'.cell? ⟨gb261, 1, none⟩ = some (.int .u64 t257) ∧ w'.cell? ⟨gb261, 2, none⟩ = some (.int .u64 t258)) (ds := []) #[false, false, false, false, false] (by kernel_rfl) rfl rfl ⟨bc_, bc_, bc_⟩ (fun hHeld => ?_)
    generalize w16.drew = w17 at BK250 BK251 BK261 HI255 HB hHeld ⊢
    refine take_ (i := 0) (N := some 14) (v := ?_) (a' := ?_) #[true, false, false, false, false] rfl rfl (by kernel_rfl) (fun _ _ _ h => h) (Or.inl ⟨by rfl, ?_⟩) hHeld ?_ ?_
    rotate_left
    · rintro w' ⟨s0, s1, s2⟩
      go_simp
      with_reducible rfl
    rotate_left
    · simp only [Act.put, la_, lb_, lc_, i64_w, i32_w]
      rfl
    refine take_ (i := 1) (N := some 15) (v := ?_) (a' := ?_) #[true, true, false, false, false] rfl rfl (by kernel_rfl) (fun _ _ _ h => h) (Or.inl ⟨by rfl, ?_⟩) hHeld ?_ ?_
    rotate_left
    · rintro w' ⟨s0, s1, s2⟩
      go_simp
      with_reducible rfl
    rotate_left
    · simp only [Act.put, la_, lb_, lc_, i64_w, i32_w]
      rfl
    refine one_ (i := 2) (N := some 16) #[true, true, true, false, false] rfl rfl (by kernel_rfl) (by decide) (fun K hK => ?_)
    refine goes_ Try.func68 (by kernel_rfl) rfl #[.agg #[.bool t256, .int .u64 t257, .int .u64 t258]] (by rfl) rfl rfl mp_ ?_
    with_reducible refine (spec_NegWide.calls t256 t257 t258 t265 t266 t267 _ A6.out).mono ?_
    rintro e w18 ⟨rfl, hb⟩
    refine ⟨_, rfl, ?_⟩
    have n0_ := bb_ (g := gb250) (o := .cells #[.bool false, .int .u64 0, .int .u64 0] 30 (0, 0)) hb
    have n1_ := bb_ (g := gb251) (o := .cells #[.bool false, .int .u64 0, .int .u64 0] 30 (0, 0)) hb
    have n2_ := Aside0.mk (IsS97.below (by repeat (first | (with_reducible first | exact HI255.out | apply IsS97.alloc | apply IsS97.drewN | apply IsS97.drew | apply IsS97.set_1 | apply IsS97.set_2 | refine IsS97.far ?_ NB255_250.out _ | refine IsS97.far ?_ NB255_251.out _ | refine IsS97.far ?_ NB255_261.out _) | exact HI255.out)) hb)
    have n3_ := bb_ (g := gb261) (o := .cells #[.bool t256, .int .u64 t257, .int .u64 t258] 30 (0, 0)) hb
    have n4_ := Aside0.mk (below_step (by repeat (first | (with_reducible first | exact HB.out | apply below_alloc | apply pw_below_drewN | apply below_drew1 | refine below_set ?_ (IsS97.ge HI255.out) | refine below_set ?_ GE250.out | refine below_set ?_ GE251.out | refine below_set ?_ GE261.out) | exact HB.out)) hb)
    clear BK250
    clear BK251
    clear HI255
    clear BK261
    clear HB
    have BK250 := n0_
    have BK251 := n1_
    have HI255 := n2_
    have BK261 := n3_
    have HB := n4_
    clear n0_ n1_ n2_ n3_ n4_
    (try clear hb)
    (try clear hb2)
    (try clear hk)
    (try clear hi)
    refine hK.out _ _ ⟨bc_, bc_, bc_⟩ (fun hHeld => ?_)
    clear hK K
    refine norm_ (a' := ?_) ?_ ?_
    rotate_left
    · show Act.put _ (some 16) _ = _
      simp only [Act.put, la_, lb_, lc_, i64_w, i32_w]
      rfl
    refine one_ (i := 3) (N := none) #[true, true, true, true, false] rfl rfl (by kernel_rfl) (by decide) (fun K hK => ?_)
    have hs19 : w18.cell? ⟨gb250, 0, none⟩ = some (.bool false) := (blk_cell BK250.out 0).trans rfl
    have hfs19 := blk_frozen BK250.out 0
    have hns19_1 := NB251_250.out
    have hns19_2 := NB261_250.out
    have hms19_1 := NB250_251.out
    have hms19_2 := NB250_261.out
    have hs20 : w18.cell? ⟨gb250, 1, none⟩ = some (.int .u64 0) := (blk_cell BK250.out 1).trans rfl
    have hfs20 := blk_frozen BK250.out 1
    have hns20_1 := NB251_250.out
    have hns20_2 := NB261_250.out
    have hms20_1 := NB250_251.out
    have hms20_2 := NB250_261.out
    have hs21 : w18.cell? ⟨gb250, 2, none⟩ = some (.int .u64 0) := (blk_cell BK250.out 2).trans rfl
    have hfs21 := blk_frozen BK250.out 2
    have hns21_1 := NB251_250.out
    have hns21_2 := NB261_250.out
    have hms21_1 := NB250_251.out
    have hms21_2 := NB250_261.out
    refine skip_ (w1 := ?_) (by rfl) rfl ?_ ?_
    rotate_left
    · go_simp
      rfl
    refine hK.out _ _ ⟨((cell_far (p := ⟨gb250, _, none⟩) NB261_250.out _).trans (((cell_far (p := ⟨gb250, _, none⟩) NB261_250.out _).trans (((cell_far (p := ⟨gb250, _, none⟩) NB261_250.out _).trans (hHeld.1)))))), ((cell_far (p := ⟨gb250, _, none⟩) NB261_250.out _).trans (((cell_far (p := ⟨gb250, _, none⟩) NB261_250.out _).trans (((cell_far (p := ⟨gb250, _, none⟩) NB261_250.out _).trans (hHeld.2.1)))))), ((cell_far (p := ⟨gb250, _, none⟩) NB261_250.out _).trans (((cell_far (p := ⟨gb250, _, none⟩) NB261_250.out _).trans (((cell_far (p := ⟨gb250, _, none⟩) NB261_250.out _).trans (hHeld.2.2))))))⟩ (fun hHeld => ?_)
    clear hK K
    refine one_ (i := 4) (N := none) #[true, true, true, true, true] rfl rfl (by kernel_rfl) (by decide) (fun K hK => ?_)
    have hs22 : w18.cell? ⟨gb251, 0, none⟩ = some (.bool false) := (blk_cell BK251.out 0).trans rfl
    have hfs22 := blk_frozen BK251.out 0
    have hns22_0 := NB250_251.out
    have hns22_2 := NB261_251.out
    have hms22_0 := NB251_250.out
    have hms22_2 := NB251_261.out
    have hs23 : w18.cell? ⟨gb251, 1, none⟩ = some (.int .u64 0) := (blk_cell BK251.out 1).trans rfl
    have hfs23 := blk_frozen BK251.out 1
    have hns23_0 := NB250_251.out
    have hns23_2 := NB261_251.out
    have hms23_0 := NB251_250.out
    have hms23_2 := NB251_261.out
    have hs24 : w18.cell? ⟨gb251, 2, none⟩ = some (.int .u64 0) := (blk_cell BK251.out 2).trans rfl
    have hfs24 := blk_frozen BK251.out 2
    have hns24_0 := NB250_251.out
    have hns24_2 := NB261_251.out
    have hms24_0 := NB251_250.out
    have hms24_2 := NB251_261.out
    refine skip_ (w1 := ?_) (by rfl) rfl ?_ ?_
    rotate_left
    · go_simp
      rfl
    refine hK.out _ _ ⟨((cell_far (p := ⟨gb251, _, none⟩) NB261_251.out _).trans (((cell_far (p := ⟨gb251, _, none⟩) NB261_251.out _).trans (((cell_far (p := ⟨gb251, _, none⟩) NB261_251.out _).trans (hHeld.1)))))), ((cell_far (p := ⟨gb251, _, none⟩) NB261_251.out _).trans (((cell_far (p := ⟨gb251, _, none⟩) NB261_251.out _).trans (((cell_far (p := ⟨gb251, _, none⟩) NB261_251.out _).trans (hHeld.2.1)))))), ((cell_far (p := ⟨gb251, _, none⟩) NB261_251.out _).trans (((cell_far (p := ⟨gb251, _, none⟩) NB261_251.out _).trans (((cell_far (p := ⟨gb251, _, none⟩) NB261_251.out _).trans (hHeld.2.2))))))⟩ (fun hHeld => ?_)
    clear hK K
    refine done_ (by kernel_rfl) ?_
    try go_wp2
    refine bodyPost_ret (results_cc rfl _ _ gb250 gb251 30 30 #[.bool t256, .int .u64 t257, .int .u64 t258] #[.bool t265, .int .u64 t266, .int .u64 t267] (0, 0) (0, 0) _ _ rfl (by (with_reducible repeat (first | refine bN_ _ ?_ | refine bd_ ?_ | refine ba_ _ ?_)); refine blk_far ?_ NB250_251.out _; (with_reducible repeat (first | refine bN_ _ ?_ | refine bd_ ?_ | refine ba_ _ ?_)); refine blk_far ?_ NB250_251.out _; (with_reducible repeat (first | refine bN_ _ ?_ | refine bd_ ?_ | refine ba_ _ ?_)); refine blk_far ?_ NB250_251.out _; (with_reducible repeat (first | refine bN_ _ ?_ | refine bd_ ?_ | refine ba_ _ ?_)); refine blk_put (cs := #[.bool t256, .int .u64 t257, .int .u64 0]) ?_ 2 _ rfl; (with_reducible repeat (first | refine bN_ _ ?_ | refine bd_ ?_ | refine ba_ _ ?_)); refine blk_put (cs := #[.bool t256, .int .u64 0, .int .u64 0]) ?_ 1 _ rfl; (with_reducible repeat (first | refine bN_ _ ?_ | refine bd_ ?_ | refine ba_ _ ?_)); refine blk_put (cs := #[.bool false, .int .u64 0, .int .u64 0]) ?_ 0 _ rfl; (with_reducible repeat (first | refine bN_ _ ?_ | refine bd_ ?_ | refine ba_ _ ?_)); exact BK250.out) Try.underlying30 rfl (by kernel_rfl) rfl (by (with_reducible repeat (first | refine bN_ _ ?_ | refine bd_ ?_ | refine ba_ _ ?_)); refine blk_put (cs := #[.bool t265, .int .u64 t266, .int .u64 0]) ?_ 2 _ rfl; (with_reducible repeat (first | refine bN_ _ ?_ | refine bd_ ?_ | refine ba_ _ ?_)); refine blk_put (cs := #[.bool t265, .int .u64 0, .int .u64 0]) ?_ 1 _ rfl; (with_reducible repeat (first | refine bN_ _ ?_ | refine bd_ ?_ | refine ba_ _ ?_)); refine blk_put (cs := #[.bool false, .int .u64 0, .int .u64 0]) ?_ 0 _ rfl; (with_reducible repeat (first | refine bN_ _ ?_ | refine bd_ ?_ | refine ba_ _ ?_)); refine blk_far ?_ NB251_250.out _; (with_reducible repeat (first | refine bN_ _ ?_ | refine bd_ ?_ | refine ba_ _ ?_)); refine blk_far ?_ NB251_250.out _; (with_reducible repeat (first | refine bN_ _ ?_ | refine bd_ ?_ | refine ba_ _ ?_)); refine blk_far ?_ NB251_250.out _; (with_reducible repeat (first | refine bN_ _ ?_ | refine bd_ ?_ | refine ba_ _ ?_)); exact BK251.out) Try.underlying30 rfl (by kernel_rfl)) rfl ?_
    exact ⟨by first | rfl | (simp [errW_none, errW_some] <;> rfl) | (simp [*, errW_none, errW_some] <;> rfl), by repeat (first | (with_reducible first | exact HB.out | apply below_alloc | apply pw_below_drewN | apply below_drew1 | refine below_set ?_ (IsS97.ge HI255.out) | refine below_set ?_ GE250.out | refine below_set ?_ GE251.out | refine below_set ?_ GE261.out) | exact HB.out)⟩
  · rw [if_neg c5] at H
    have c5b0 : (t262 == 0) = false := beq_eq_false_iff_ne.mpr c5
    have c5b1 : (t262 != 0) = true := bne_iff_ne.mpr c5
    by_cases c25 : t262 = 1
    · rw [if_pos c25] at H
      have c25b0 : (t262 == 1) = true := beq_iff_eq.mpr c25
      have c25b1 : (t262 != 1) = false := bne_eq_false_iff_eq.mpr c25
      clear c25
      simp only [Option.some.injEq, Prod.mk.injEq] at H
      obtain ⟨rfl, rfl, rfl, rfl, rfl, rfl⟩ := H
      go_enter Try.func41, Try.ntmps41
      try go_wp2_with (first | ((with_reducible refine gate_dst (N := 2) rfl ?_); refine box_event ?hg (N := 2) ?hd (cs := #[.bool false, .int .u64 0, .int .u64 0]) (t := 30) ?hr ?_; (case hd => rfl); (case hg => rfl); (case hr => first | (go_simp; done) | (go_simp; rfl)); intro gb250 hg w26 hbox hb; have n0_ := Aside0.mk (below_step bel_ hb); have n1_ := Aside0.mk (hbox); have n2_ := Aside0.mk ((by rw [hg]; exact (below_size bel_) : w.heap.size ≤ gb250)); have n3_ := Aside0.mk ((by rw [hg]; exact (below_size bel_) : w.heap.size ≤ gb250)); clear HB; have HB := n0_; have BK250 := n1_; have GW250 := n2_; have GE250 := n3_; clear n0_ n1_ n2_ n3_; clear hb hbox hg) | ((with_reducible refine gate_dst (N := 3) rfl ?_); refine box_event ?hg (N := 3) ?hd (cs := #[.bool false, .int .u64 0, .int .u64 0]) (t := 30) ?hr ?_; (case hd => rfl); (case hg => rfl); (case hr => first | (go_simp; done) | (go_simp; rfl)); intro gb251 hg w27 hbox hb; have n0_ := bb_ (g := gb250) (o := .cells #[.bool false, .int .u64 0, .int .u64 0] 30 (0, 0)) hb; have n1_ := Aside0.mk (below_step bel_ hb); have n2_ := Aside0.mk (hbox); have n3_ := Aside0.mk ((by rw [hg]; exact (below_size bel_) : w.heap.size ≤ gb251)); have n4_ := Aside0.mk ((by rw [hg]; exact (below_size bel_) : w.heap.size ≤ gb251)); have n5_ := nlt_ (g := gb250) (o := .cells #[.bool false, .int .u64 0, .int .u64 0] 30 (0, 0)) hg; have n6_ := ngt_ (g := gb250) (o := .cells #[.bool false, .int .u64 0, .int .u64 0] 30 (0, 0)) hg; clear BK250; clear HB; have BK250 := n0_; have HB := n1_; have BK251 := n2_; have GW251 := n3_; have GE251 := n4_; have NB250_251 := n5_; have NB251_250 := n6_; clear n0_ n1_ n2_ n3_ n4_ n5_ n6_; clear hb hbox hg) | ((with_reducible refine gate_callee (f := 60) rfl ?_); refine goesL_ (some 7) rfl rfl Try.func60 (by kernel_rfl) rfl #[.slice A0 l0.length c0] rfl mp_ ?_; (with_reducible refine (spec_l1New.calls k _ _ l0 t252 t253 t254 w _ ?side1 ?side2 ?side3 A2.out).mono ?_); (case side1 => repeat (first | (with_reducible first | exact HB.out | apply below_alloc | apply pw_below_drewN | apply below_drew1 | refine below_set ?_ GE250.out | refine below_set ?_ GE251.out) | exact HB.out)); (case side2 => exact HR0.out); (case side3 => exact HC0.out); rintro e w28 ⟨g255, rfl, hi, hb, hb2⟩; refine ⟨_, rfl, ?_⟩; have n0_ := Aside0.mk (blk_below (g := gb250) (o := .cells #[.bool false, .int .u64 0, .int .u64 0] 30 (0, 0)) (by (with_reducible repeat (first | refine bN_ _ ?_ | refine bd_ ?_ | refine ba_ _ ?_)); exact BK250.out) hb2); have n1_ := Aside0.mk (blk_below (g := gb251) (o := .cells #[.bool false, .int .u64 0, .int .u64 0] 30 (0, 0)) (by (with_reducible repeat (first | refine bN_ _ ?_ | refine bd_ ?_ | refine ba_ _ ?_)); exact BK251.out) hb2); have n2_ := Aside0.mk (hb); have n3_ := Aside0.mk (hi); have n4_ := Aside0.mk (IsS97.ne_blk hi (blk_below (g := gb250) (o := .cells #[.bool false, .int .u64 0, .int .u64 0] 30 (0, 0)) (by (with_reducible repeat (first | refine bN_ _ ?_ | refine bd_ ?_ | refine ba_ _ ?_)); exact BK250.out) hb2) (by decide)); have n5_ := Aside0.mk (Ne.symm (IsS97.ne_blk hi (blk_below (g := gb250) (o := .cells #[.bool false, .int .u64 0, .int .u64 0] 30 (0, 0)) (by (with_reducible repeat (first | refine bN_ _ ?_ | refine bd_ ?_ | refine ba_ _ ?_)); exact BK250.out) hb2) (by decide))); have n6_ := Aside0.mk (IsS97.ne_blk hi (blk_below (g := gb251) (o := .cells #[.bool false, .int .u64 0, .int .u64 0] 30 (0, 0)) (by (with_reducible repeat (first | refine bN_ _ ?_ | refine bd_ ?_ | refine ba_ _ ?_)); exact BK251.out) hb2) (by decide)); have n7_ := Aside0.mk (Ne.symm (IsS97.ne_blk hi (blk_below (g := gb251) (o := .cells #[.bool false, .int .u64 0, .int .u64 0] 30 (0, 0)) (by (with_reducible repeat (first | refine bN_ _ ?_ | refine bd_ ?_ | refine ba_ _ ?_)); exact BK251.out) hb2) (by decide))); clear BK250; clear BK251; clear HB; have BK250 := n0_; have BK251 := n1_; have HB := n2_; have HI255 := n3_; have NB255_250 := n4_; have NB250_255 := n5_; have NB255_251 := n6_; have NB251_255 := n7_; clear n0_ n1_ n2_ n3_ n4_ n5_ n6_ n7_; (try clear hb); (try clear hb2); (try clear hk); (try clear hi)) | ((with_reducible refine gate_callee (f := 67) rfl ?_); refine goesL_ (some 9) rfl rfl Try.func67 (by kernel_rfl) rfl #[.pointer (some ⟨g255, 0, none⟩)] rfl mp_ ?_; (with_reducible refine (spec_l3Wide.calls k g255 t252 t253 t254 t256 t257 t258 t259 t260 w _ ?side1 ?side2 A3.out).mono ?_); (case side1 => repeat (first | (with_reducible first | exact HI255.out | apply IsS97.alloc | apply IsS97.drewN | apply IsS97.drew | apply IsS97.set_1 | apply IsS97.set_2 | refine IsS97.far ?_ NB255_250.out _ | refine IsS97.far ?_ NB255_251.out _) | exact HI255.out)); (case side2 => repeat (first | (with_reducible first | exact HB.out | apply below_alloc | apply pw_below_drewN | apply below_drew1 | refine below_set ?_ (IsS97.ge HI255.out) | refine below_set ?_ GE250.out | refine below_set ?_ GE251.out) | exact HB.out)); rintro e w29 ⟨rfl, hi, hb, hk⟩; refine ⟨_, rfl, ?_⟩; have n0_ := Aside0.mk (KeepBut.blk hk (g' := gb250) (o := .cells #[.bool false, .int .u64 0, .int .u64 0] 30 (0, 0)) (by (with_reducible repeat (first | refine bN_ _ ?_ | refine bd_ ?_ | refine ba_ _ ?_)); exact BK250.out) NB250_255.out (by simp)); have n1_ := Aside0.mk (KeepBut.blk hk (g' := gb251) (o := .cells #[.bool false, .int .u64 0, .int .u64 0] 30 (0, 0)) (by (with_reducible repeat (first | refine bN_ _ ?_ | refine bd_ ?_ | refine ba_ _ ?_)); exact BK251.out) NB251_255.out (by simp)); have n2_ := Aside0.mk (hb); have n3_ := Aside0.mk (hi); clear BK250; clear BK251; clear HB; clear HI255; have BK250 := n0_; have BK251 := n1_; have HB := n2_; have HI255 := n3_; clear n0_ n1_ n2_ n3_; (try clear hb); (try clear hb2); (try clear hk); (try clear hi)) | ((with_reducible refine gate_dst (N := 5) rfl ?_); refine box_event ?hg (N := 5) ?hd (cs := #[.bool false, .int .u64 0, .int .u64 0]) (t := 30) ?hr ?_; (case hd => rfl); (case hg => rfl); (case hr => first | (go_simp; done) | (go_simp; rfl)); intro gb261 hg w30 hbox hb; have n0_ := bb_ (g := gb250) (o := .cells #[.bool false, .int .u64 0, .int .u64 0] 30 (0, 0)) hb; have n1_ := bb_ (g := gb251) (o := .cells #[.bool false, .int .u64 0, .int .u64 0] 30 (0, 0)) hb; have n2_ := Aside0.mk (IsS97.below (by repeat (first | (with_reducible first | exact HI255.out | apply IsS97.alloc | apply IsS97.drewN | apply IsS97.drew | apply IsS97.set_1 | apply IsS97.set_2 | refine IsS97.far ?_ NB255_250.out _ | refine IsS97.far ?_ NB255_251.out _) | exact HI255.out)) hb); have n3_ := Aside0.mk (below_step (by repeat (first | (with_reducible first | exact HB.out | apply below_alloc | apply pw_below_drewN | apply below_drew1 | refine below_set ?_ (IsS97.ge HI255.out) | refine below_set ?_ GE250.out | refine below_set ?_ GE251.out) | exact HB.out)) hb); have n4_ := Aside0.mk (hbox); have n5_ := Aside0.mk ((by rw [hg]; exact (below_size (by repeat (first | (with_reducible first | exact HB.out | apply below_alloc | apply pw_below_drewN | apply below_drew1 | refine below_set ?_ (IsS97.ge HI255.out) | refine below_set ?_ GE250.out | refine below_set ?_ GE251.out) | exact HB.out))) : w.heap.size ≤ gb261)); have n6_ := Aside0.mk ((by rw [hg]; exact (below_size (by repeat (first | (with_reducible first | exact HB.out | apply below_alloc | apply pw_below_drewN | apply below_drew1 | refine below_set ?_ (IsS97.ge HI255.out) | refine below_set ?_ GE250.out | refine below_set ?_ GE251.out) | exact HB.out))) : w.heap.size ≤ gb261)); have n7_ := nlt_ (g := gb250) (o := .cells #[.bool false, .int .u64 0, .int .u64 0] 30 (0, 0)) hg; have n8_ := ngt_ (g := gb250) (o := .cells #[.bool false, .int .u64 0, .int .u64 0] 30 (0, 0)) hg; have n9_ := nlt_ (g := gb251) (o := .cells #[.bool false, .int .u64 0, .int .u64 0] 30 (0, 0)) hg; have n10_ := ngt_ (g := gb251) (o := .cells #[.bool false, .int .u64 0, .int .u64 0] 30 (0, 0)) hg; have n11_ := Aside0.mk ((by rw [hg]; exact Nat.ne_of_lt (IsS97.lt (show IsS97 w _ g255 t252 t259 t260 from by repeat (first | (with_reducible first | exact HI255.out | apply IsS97.alloc | apply IsS97.drewN | apply IsS97.drew | apply IsS97.set_1 | apply IsS97.set_2 | refine IsS97.far ?_ NB255_250.out _ | refine IsS97.far ?_ NB255_251.out _) | exact HI255.out))) : g255 ≠ gb261)); have n12_ := Aside0.mk ((by rw [hg]; exact Nat.ne_of_gt (IsS97.lt (show IsS97 w _ g255 t252 t259 t260 from by repeat (first | (with_reducible first | exact HI255.out | apply IsS97.alloc | apply IsS97.drewN | apply IsS97.drew | apply IsS97.set_1 | apply IsS97.set_2 | refine IsS97.far ?_ NB255_250.out _ | refine IsS97.far ?_ NB255_251.out _) | exact HI255.out))) : gb261 ≠ g255)); clear BK250; clear BK251; clear HI255; clear HB; have BK250 := n0_; have BK251 := n1_; have HI255 := n2_; have HB := n3_; have BK261 := n4_; have GW261 := n5_; have GE261 := n6_; have NB250_261 := n7_; have NB261_250 := n8_; have NB251_261 := n9_; have NB261_251 := n10_; have NB255_261 := n11_; have NB261_255 := n12_; clear n0_ n1_ n2_ n3_ n4_ n5_ n6_ n7_ n8_ n9_ n10_ n11_ n12_; clear hb hbox hg; have hnb31 := NB261_250.out; have hnc31 := NB250_261.out; have hnb32 := NB261_251.out; have hnc32 := NB251_261.out; have hnb33 := NB261_255.out; have hnc33 := NB255_261.out; have hcz34_0 : w30.cell? ⟨gb261, 0, none⟩ = some (.bool false) := bc_; have hcz34_1 : w30.cell? ⟨gb261, 1, none⟩ = some (.int .u64 0) := bc_; have hcz34_2 : w30.cell? ⟨gb261, 2, none⟩ = some (.int .u64 0) := bc_; have hfz34_0 := blk_frozen BK261.out 0; have hfz34_1 := blk_frozen BK261.out 1; have hfz34_2 := blk_frozen BK261.out 2) | ((with_reducible refine gate_callee (f := 62) rfl ?_); refine goesL_ (some 11) rfl rfl Try.func62 (by kernel_rfl) rfl #[.pointer (some ⟨g255, 0, none⟩), .int .i64 4] rfl mp_ ?_; (with_reducible refine (spec_l1Below.calls g255 t252 t259 t260 4 t262 t263 t264 w _ ?side1 ?side2 A4.out).mono ?_); (case side1 => repeat (first | (with_reducible first | exact HI255.out | apply IsS97.alloc | apply IsS97.drewN | apply IsS97.drew | apply IsS97.set_1 | apply IsS97.set_2 | refine IsS97.far ?_ NB255_250.out _ | refine IsS97.far ?_ NB255_251.out _ | refine IsS97.far ?_ NB255_261.out _) | exact HI255.out)); (case side2 => repeat (first | (with_reducible first | exact HB.out | apply below_alloc | apply pw_below_drewN | apply below_drew1 | refine below_set ?_ (IsS97.ge HI255.out) | refine below_set ?_ GE250.out | refine below_set ?_ GE251.out | refine below_set ?_ GE261.out) | exact HB.out)); rintro e w35 ⟨rfl, hi, hb, hk⟩; refine ⟨_, rfl, ?_⟩; have n0_ := Aside0.mk (KeepBut.blk hk (g' := gb250) (o := .cells #[.bool false, .int .u64 0, .int .u64 0] 30 (0, 0)) (by (with_reducible repeat (first | refine bN_ _ ?_ | refine bd_ ?_ | refine ba_ _ ?_)); refine blk_far ?_ NB250_261.out _; (with_reducible repeat (first | refine bN_ _ ?_ | refine bd_ ?_ | refine ba_ _ ?_)); refine blk_far ?_ NB250_261.out _; (with_reducible repeat (first | refine bN_ _ ?_ | refine bd_ ?_ | refine ba_ _ ?_)); refine blk_far ?_ NB250_261.out _; (with_reducible repeat (first | refine bN_ _ ?_ | refine bd_ ?_ | refine ba_ _ ?_)); exact BK250.out) NB250_255.out (by simp)); have n1_ := Aside0.mk (KeepBut.blk hk (g' := gb251) (o := .cells #[.bool false, .int .u64 0, .int .u64 0] 30 (0, 0)) (by (with_reducible repeat (first | refine bN_ _ ?_ | refine bd_ ?_ | refine ba_ _ ?_)); refine blk_far ?_ NB251_261.out _; (with_reducible repeat (first | refine bN_ _ ?_ | refine bd_ ?_ | refine ba_ _ ?_)); refine blk_far ?_ NB251_261.out _; (with_reducible repeat (first | refine bN_ _ ?_ | refine bd_ ?_ | refine ba_ _ ?_)); refine blk_far ?_ NB251_261.out _; (with_reducible repeat (first | refine bN_ _ ?_ | refine bd_ ?_ | refine ba_ _ ?_)); exact BK251.out) NB251_255.out (by simp)); have n2_ := Aside0.mk (KeepBut.blk hk (g' := gb261) (o := .cells #[.bool t256, .int .u64 t257, .int .u64 t258] 30 (0, 0)) (by (with_reducible repeat (first | refine bN_ _ ?_ | refine bd_ ?_ | refine ba_ _ ?_)); refine blk_put (cs := #[.bool t256, .int .u64 t257, .int .u64 0]) ?_ 2 _ rfl; (with_reducible repeat (first | refine bN_ _ ?_ | refine bd_ ?_ | refine ba_ _ ?_)); refine blk_put (cs := #[.bool t256, .int .u64 0, .int .u64 0]) ?_ 1 _ rfl; (with_reducible repeat (first | refine bN_ _ ?_ | refine bd_ ?_ | refine ba_ _ ?_)); refine blk_put (cs := #[.bool false, .int .u64 0, .int .u64 0]) ?_ 0 _ rfl; (with_reducible repeat (first | refine bN_ _ ?_ | refine bd_ ?_ | refine ba_ _ ?_)); exact BK261.out) NB261_255.out (by simp)); have n3_ := Aside0.mk (hb); have n4_ := Aside0.mk (hi); clear BK250; clear BK251; clear BK261; clear HB; clear HI255; have BK250 := n0_; have BK251 := n1_; have BK261 := n2_; have HB := n3_; have HI255 := n4_; clear n0_ n1_ n2_ n3_ n4_; (try clear hb); (try clear hb2); (try clear hk); (try clear hi)))
      have n0_ := Aside0.mk (blk_drew BK250.out)
      have n1_ := Aside0.mk (blk_drew BK251.out)
      have n2_ := Aside0.mk (blk_drew BK261.out)
      have n3_ := Aside0.mk (IsS97.drew HI255.out)
      have n4_ := Aside0.mk (below_drew1 HB.out)
      clear BK250
      clear BK251
      clear BK261
      clear HI255
      clear HB
      have BK250 := n0_
      have BK251 := n1_
      have BK261 := n2_
      have HI255 := n3_
      have HB := n4_
      clear n0_ n1_ n2_ n3_ n4_
      refine start_ (n := 4) (S := fun w' => w'.cell? ⟨gb261, 0, none⟩ = some (.bool t256) ∧ w'.cell? ⟨gb261, 1, none⟩ = some (.int .u64 t257) ∧ w'.cell? ⟨gb261, 2, none⟩ = some (.int .u64 t258)) (ds := []) #[false, false, false, false] (by kernel_rfl) rfl rfl ⟨bc_, bc_, bc_⟩ (fun hHeld => ?_)
      generalize w35.drew = w36 at BK250 BK251 BK261 HI255 HB hHeld ⊢
      refine take_ (i := 0) (N := some 19) (v := ?_) (a' := ?_) #[true, false, false, false] rfl rfl (by kernel_rfl) (fun _ _ _ h => h) (Or.inl ⟨by rfl, ?_⟩) hHeld ?_ ?_
      rotate_left
      · rintro w' ⟨s0, s1, s2⟩
        go_simp
        with_reducible rfl
      rotate_left
      · simp only [Act.put, la_, lb_, lc_, i64_w, i32_w]
        rfl
      refine take_ (i := 1) (N := some 20) (v := ?_) (a' := ?_) #[true, true, false, false] rfl rfl (by kernel_rfl) (fun _ _ _ h => h) (Or.inl ⟨by rfl, ?_⟩) hHeld ?_ ?_
      rotate_left
      · rintro w' ⟨s0, s1, s2⟩
        go_simp
        with_reducible rfl
      rotate_left
      · simp only [Act.put, la_, lb_, lc_, i64_w, i32_w]
        rfl
      refine one_ (i := 2) (N := none) #[true, true, true, false] rfl rfl (by kernel_rfl) (by decide) (fun K hK => ?_)
      have hs37 : w36.cell? ⟨gb250, 0, none⟩ = some (.bool false) := (blk_cell BK250.out 0).trans rfl
      have hfs37 := blk_frozen BK250.out 0
      have hns37_1 := NB251_250.out
      have hns37_2 := NB261_250.out
      have hms37_1 := NB250_251.out
      have hms37_2 := NB250_261.out
      have hs38 : w36.cell? ⟨gb250, 1, none⟩ = some (.int .u64 0) := (blk_cell BK250.out 1).trans rfl
      have hfs38 := blk_frozen BK250.out 1
      have hns38_1 := NB251_250.out
      have hns38_2 := NB261_250.out
      have hms38_1 := NB250_251.out
      have hms38_2 := NB250_261.out
      have hs39 : w36.cell? ⟨gb250, 2, none⟩ = some (.int .u64 0) := (blk_cell BK250.out 2).trans rfl
      have hfs39 := blk_frozen BK250.out 2
      have hns39_1 := NB251_250.out
      have hns39_2 := NB261_250.out
      have hms39_1 := NB250_251.out
      have hms39_2 := NB250_261.out
      refine skip_ (w1 := ?_) (by rfl) rfl ?_ ?_
      rotate_left
      · go_simp
        rfl
      refine hK.out _ _ ⟨((cell_far (p := ⟨gb250, _, none⟩) NB261_250.out _).trans (((cell_far (p := ⟨gb250, _, none⟩) NB261_250.out _).trans (((cell_far (p := ⟨gb250, _, none⟩) NB261_250.out _).trans (hHeld.1)))))), ((cell_far (p := ⟨gb250, _, none⟩) NB261_250.out _).trans (((cell_far (p := ⟨gb250, _, none⟩) NB261_250.out _).trans (((cell_far (p := ⟨gb250, _, none⟩) NB261_250.out _).trans (hHeld.2.1)))))), ((cell_far (p := ⟨gb250, _, none⟩) NB261_250.out _).trans (((cell_far (p := ⟨gb250, _, none⟩) NB261_250.out _).trans (((cell_far (p := ⟨gb250, _, none⟩) NB261_250.out _).trans (hHeld.2.2))))))⟩ (fun hHeld => ?_)
      clear hK K
      refine one_ (i := 3) (N := none) #[true, true, true, true] rfl rfl (by kernel_rfl) (by decide) (fun K hK => ?_)
      have hs40 : w36.cell? ⟨gb251, 0, none⟩ = some (.bool false) := (blk_cell BK251.out 0).trans rfl
      have hfs40 := blk_frozen BK251.out 0
      have hns40_0 := NB250_251.out
      have hns40_2 := NB261_251.out
      have hms40_0 := NB251_250.out
      have hms40_2 := NB251_261.out
      have hs41 : w36.cell? ⟨gb251, 1, none⟩ = some (.int .u64 0) := (blk_cell BK251.out 1).trans rfl
      have hfs41 := blk_frozen BK251.out 1
      have hns41_0 := NB250_251.out
      have hns41_2 := NB261_251.out
      have hms41_0 := NB251_250.out
      have hms41_2 := NB251_261.out
      have hs42 : w36.cell? ⟨gb251, 2, none⟩ = some (.int .u64 0) := (blk_cell BK251.out 2).trans rfl
      have hfs42 := blk_frozen BK251.out 2
      have hns42_0 := NB250_251.out
      have hns42_2 := NB261_251.out
      have hms42_0 := NB251_250.out
      have hms42_2 := NB251_261.out
      refine skip_ (w1 := ?_) (by rfl) rfl ?_ ?_
      rotate_left
      · go_simp
        rfl
      refine hK.out _ _ ⟨((cell_far (p := ⟨gb251, _, none⟩) NB261_251.out _).trans (((cell_far (p := ⟨gb251, _, none⟩) NB261_251.out _).trans (((cell_far (p := ⟨gb251, _, none⟩) NB261_251.out _).trans (hHeld.1)))))), ((cell_far (p := ⟨gb251, _, none⟩) NB261_251.out _).trans (((cell_far (p := ⟨gb251, _, none⟩) NB261_251.out _).trans (((cell_far (p := ⟨gb251, _, none⟩) NB261_251.out _).trans (hHeld.2.1)))))), ((cell_far (p := ⟨gb251, _, none⟩) NB261_251.out _).trans (((cell_far (p := ⟨gb251, _, none⟩) NB261_251.out _).trans (((cell_far (p := ⟨gb251, _, none⟩) NB261_251.out _).trans (hHeld.2.2))))))⟩ (fun hHeld => ?_)
      clear hK K
      refine done_ (by kernel_rfl) ?_
      try go_wp2
      refine bodyPost_ret (results_cc rfl _ _ gb250 gb251 30 30 #[.bool t256, .int .u64 t257, .int .u64 t258] #[.bool t256, .int .u64 t257, .int .u64 t258] (0, 0) (0, 0) _ _ rfl (by (with_reducible repeat (first | refine bN_ _ ?_ | refine bd_ ?_ | refine ba_ _ ?_)); refine blk_far ?_ NB250_251.out _; (with_reducible repeat (first | refine bN_ _ ?_ | refine bd_ ?_ | refine ba_ _ ?_)); refine blk_far ?_ NB250_251.out _; (with_reducible repeat (first | refine bN_ _ ?_ | refine bd_ ?_ | refine ba_ _ ?_)); refine blk_far ?_ NB250_251.out _; (with_reducible repeat (first | refine bN_ _ ?_ | refine bd_ ?_ | refine ba_ _ ?_)); refine blk_put (cs := #[.bool t256, .int .u64 t257, .int .u64 0]) ?_ 2 _ rfl; (with_reducible repeat (first | refine bN_ _ ?_ | refine bd_ ?_ | refine ba_ _ ?_)); refine blk_put (cs := #[.bool t256, .int .u64 0, .int .u64 0]) ?_ 1 _ rfl; (with_reducible repeat (first | refine bN_ _ ?_ | refine bd_ ?_ | refine ba_ _ ?_)); refine blk_put (cs := #[.bool false, .int .u64 0, .int .u64 0]) ?_ 0 _ rfl; (with_reducible repeat (first | refine bN_ _ ?_ | refine bd_ ?_ | refine ba_ _ ?_)); exact BK250.out) Try.underlying30 rfl (by kernel_rfl) rfl (by (with_reducible repeat (first | refine bN_ _ ?_ | refine bd_ ?_ | refine ba_ _ ?_)); refine blk_put (cs := #[.bool t256, .int .u64 t257, .int .u64 0]) ?_ 2 _ rfl; (with_reducible repeat (first | refine bN_ _ ?_ | refine bd_ ?_ | refine ba_ _ ?_)); refine blk_put (cs := #[.bool t256, .int .u64 0, .int .u64 0]) ?_ 1 _ rfl; (with_reducible repeat (first | refine bN_ _ ?_ | refine bd_ ?_ | refine ba_ _ ?_)); refine blk_put (cs := #[.bool false, .int .u64 0, .int .u64 0]) ?_ 0 _ rfl; (with_reducible repeat (first | refine bN_ _ ?_ | refine bd_ ?_ | refine ba_ _ ?_)); refine blk_far ?_ NB251_250.out _; (with_reducible repeat (first | refine bN_ _ ?_ | refine bd_ ?_ | refine ba_ _ ?_)); refine blk_far ?_ NB251_250.out _; (with_reducible repeat (first | refine bN_ _ ?_ | refine bd_ ?_ | refine ba_ _ ?_)); refine blk_far ?_ NB251_250.out _; (with_reducible repeat (first | refine bN_ _ ?_ | refine bd_ ?_ | refine ba_ _ ?_)); exact BK251.out) Try.underlying30 rfl (by kernel_rfl)) rfl ?_
      exact ⟨by first | rfl | (simp [errW_none, errW_some] <;> rfl) | (simp [*, errW_none, errW_some] <;> rfl), by repeat (first | (with_reducible first | exact HB.out | apply below_alloc | apply pw_below_drewN | apply below_drew1 | refine below_set ?_ (IsS97.ge HI255.out) | refine below_set ?_ GE250.out | refine below_set ?_ GE251.out | refine below_set ?_ GE261.out) | exact HB.out)⟩
    · rw [if_neg c25] at H
      have c25b0 : (t262 == 1) = false := beq_eq_false_iff_ne.mpr c25
      have c25b1 : (t262 != 1) = true := bne_iff_ne.mpr c25
      replace H := Option.bind_eq_some_iff.mp H
      obtain ⟨⟨t268, t269, t270, t271, t272⟩, A430, H⟩ := H
      replace H : (some (t256, t257, t258, t268, t269, t270)) = some (r1, r2, r3, r4, r5, r6) := H
      have A43 := Aside0.mk A430
      clear A430
      simp only [Option.some.injEq, Prod.mk.injEq] at H
      obtain ⟨rfl, rfl, rfl, rfl, rfl, rfl⟩ := H
      go_enter Try.func41, Try.ntmps41
      try go_wp2_with (first | ((with_reducible refine gate_dst (N := 2) rfl ?_); refine box_event ?hg (N := 2) ?hd (cs := #[.bool false, .int .u64 0, .int .u64 0]) (t := 30) ?hr ?_; (case hd => rfl); (case hg => rfl); (case hr => first | (go_simp; done) | (go_simp; rfl)); intro gb250 hg w44 hbox hb; have n0_ := Aside0.mk (below_step bel_ hb); have n1_ := Aside0.mk (hbox); have n2_ := Aside0.mk ((by rw [hg]; exact (below_size bel_) : w.heap.size ≤ gb250)); have n3_ := Aside0.mk ((by rw [hg]; exact (below_size bel_) : w.heap.size ≤ gb250)); clear HB; have HB := n0_; have BK250 := n1_; have GW250 := n2_; have GE250 := n3_; clear n0_ n1_ n2_ n3_; clear hb hbox hg) | ((with_reducible refine gate_dst (N := 3) rfl ?_); refine box_event ?hg (N := 3) ?hd (cs := #[.bool false, .int .u64 0, .int .u64 0]) (t := 30) ?hr ?_; (case hd => rfl); (case hg => rfl); (case hr => first | (go_simp; done) | (go_simp; rfl)); intro gb251 hg w45 hbox hb; have n0_ := bb_ (g := gb250) (o := .cells #[.bool false, .int .u64 0, .int .u64 0] 30 (0, 0)) hb; have n1_ := Aside0.mk (below_step bel_ hb); have n2_ := Aside0.mk (hbox); have n3_ := Aside0.mk ((by rw [hg]; exact (below_size bel_) : w.heap.size ≤ gb251)); have n4_ := Aside0.mk ((by rw [hg]; exact (below_size bel_) : w.heap.size ≤ gb251)); have n5_ := nlt_ (g := gb250) (o := .cells #[.bool false, .int .u64 0, .int .u64 0] 30 (0, 0)) hg; have n6_ := ngt_ (g := gb250) (o := .cells #[.bool false, .int .u64 0, .int .u64 0] 30 (0, 0)) hg; clear BK250; clear HB; have BK250 := n0_; have HB := n1_; have BK251 := n2_; have GW251 := n3_; have GE251 := n4_; have NB250_251 := n5_; have NB251_250 := n6_; clear n0_ n1_ n2_ n3_ n4_ n5_ n6_; clear hb hbox hg) | ((with_reducible refine gate_callee (f := 60) rfl ?_); refine goesL_ (some 7) rfl rfl Try.func60 (by kernel_rfl) rfl #[.slice A0 l0.length c0] rfl mp_ ?_; (with_reducible refine (spec_l1New.calls k _ _ l0 t252 t253 t254 w _ ?side1 ?side2 ?side3 A2.out).mono ?_); (case side1 => repeat (first | (with_reducible first | exact HB.out | apply below_alloc | apply pw_below_drewN | apply below_drew1 | refine below_set ?_ GE250.out | refine below_set ?_ GE251.out) | exact HB.out)); (case side2 => exact HR0.out); (case side3 => exact HC0.out); rintro e w46 ⟨g255, rfl, hi, hb, hb2⟩; refine ⟨_, rfl, ?_⟩; have n0_ := Aside0.mk (blk_below (g := gb250) (o := .cells #[.bool false, .int .u64 0, .int .u64 0] 30 (0, 0)) (by (with_reducible repeat (first | refine bN_ _ ?_ | refine bd_ ?_ | refine ba_ _ ?_)); exact BK250.out) hb2); have n1_ := Aside0.mk (blk_below (g := gb251) (o := .cells #[.bool false, .int .u64 0, .int .u64 0] 30 (0, 0)) (by (with_reducible repeat (first | refine bN_ _ ?_ | refine bd_ ?_ | refine ba_ _ ?_)); exact BK251.out) hb2); have n2_ := Aside0.mk (hb); have n3_ := Aside0.mk (hi); have n4_ := Aside0.mk (IsS97.ne_blk hi (blk_below (g := gb250) (o := .cells #[.bool false, .int .u64 0, .int .u64 0] 30 (0, 0)) (by (with_reducible repeat (first | refine bN_ _ ?_ | refine bd_ ?_ | refine ba_ _ ?_)); exact BK250.out) hb2) (by decide)); have n5_ := Aside0.mk (Ne.symm (IsS97.ne_blk hi (blk_below (g := gb250) (o := .cells #[.bool false, .int .u64 0, .int .u64 0] 30 (0, 0)) (by (with_reducible repeat (first | refine bN_ _ ?_ | refine bd_ ?_ | refine ba_ _ ?_)); exact BK250.out) hb2) (by decide))); have n6_ := Aside0.mk (IsS97.ne_blk hi (blk_below (g := gb251) (o := .cells #[.bool false, .int .u64 0, .int .u64 0] 30 (0, 0)) (by (with_reducible repeat (first | refine bN_ _ ?_ | refine bd_ ?_ | refine ba_ _ ?_)); exact BK251.out) hb2) (by decide)); have n7_ := Aside0.mk (Ne.symm (IsS97.ne_blk hi (blk_below (g := gb251) (o := .cells #[.bool false, .int .u64 0, .int .u64 0] 30 (0, 0)) (by (with_reducible repeat (first | refine bN_ _ ?_ | refine bd_ ?_ | refine ba_ _ ?_)); exact BK251.out) hb2) (by decide))); clear BK250; clear BK251; clear HB; have BK250 := n0_; have BK251 := n1_; have HB := n2_; have HI255 := n3_; have NB255_250 := n4_; have NB250_255 := n5_; have NB255_251 := n6_; have NB251_255 := n7_; clear n0_ n1_ n2_ n3_ n4_ n5_ n6_ n7_; (try clear hb); (try clear hb2); (try clear hk); (try clear hi)) | ((with_reducible refine gate_callee (f := 67) rfl ?_); refine goesL_ (some 9) rfl rfl Try.func67 (by kernel_rfl) rfl #[.pointer (some ⟨g255, 0, none⟩)] rfl mp_ ?_; (with_reducible refine (spec_l3Wide.calls k g255 t252 t253 t254 t256 t257 t258 t259 t260 w _ ?side1 ?side2 A3.out).mono ?_); (case side1 => repeat (first | (with_reducible first | exact HI255.out | apply IsS97.alloc | apply IsS97.drewN | apply IsS97.drew | apply IsS97.set_1 | apply IsS97.set_2 | refine IsS97.far ?_ NB255_250.out _ | refine IsS97.far ?_ NB255_251.out _) | exact HI255.out)); (case side2 => repeat (first | (with_reducible first | exact HB.out | apply below_alloc | apply pw_below_drewN | apply below_drew1 | refine below_set ?_ (IsS97.ge HI255.out) | refine below_set ?_ GE250.out | refine below_set ?_ GE251.out) | exact HB.out)); rintro e w47 ⟨rfl, hi, hb, hk⟩; refine ⟨_, rfl, ?_⟩; have n0_ := Aside0.mk (KeepBut.blk hk (g' := gb250) (o := .cells #[.bool false, .int .u64 0, .int .u64 0] 30 (0, 0)) (by (with_reducible repeat (first | refine bN_ _ ?_ | refine bd_ ?_ | refine ba_ _ ?_)); exact BK250.out) NB250_255.out (by simp)); have n1_ := Aside0.mk (KeepBut.blk hk (g' := gb251) (o := .cells #[.bool false, .int .u64 0, .int .u64 0] 30 (0, 0)) (by (with_reducible repeat (first | refine bN_ _ ?_ | refine bd_ ?_ | refine ba_ _ ?_)); exact BK251.out) NB251_255.out (by simp)); have n2_ := Aside0.mk (hb); have n3_ := Aside0.mk (hi); clear BK250; clear BK251; clear HB; clear HI255; have BK250 := n0_; have BK251 := n1_; have HB := n2_; have HI255 := n3_; clear n0_ n1_ n2_ n3_; (try clear hb); (try clear hb2); (try clear hk); (try clear hi)) | ((with_reducible refine gate_dst (N := 5) rfl ?_); refine box_event ?hg (N := 5) ?hd (cs := #[.bool false, .int .u64 0, .int .u64 0]) (t := 30) ?hr ?_; (case hd => rfl); (case hg => rfl); (case hr => first | (go_simp; done) | (go_simp; rfl)); intro gb261 hg w48 hbox hb; have n0_ := bb_ (g := gb250) (o := .cells #[.bool false, .int .u64 0, .int .u64 0] 30 (0, 0)) hb; have n1_ := bb_ (g := gb251) (o := .cells #[.bool false, .int .u64 0, .int .u64 0] 30 (0, 0)) hb; have n2_ := Aside0.mk (IsS97.below (by repeat (first | (with_reducible first | exact HI255.out | apply IsS97.alloc | apply IsS97.drewN | apply IsS97.drew | apply IsS97.set_1 | apply IsS97.set_2 | refine IsS97.far ?_ NB255_250.out _ | refine IsS97.far ?_ NB255_251.out _) | exact HI255.out)) hb); have n3_ := Aside0.mk (below_step (by repeat (first | (with_reducible first | exact HB.out | apply below_alloc | apply pw_below_drewN | apply below_drew1 | refine below_set ?_ (IsS97.ge HI255.out) | refine below_set ?_ GE250.out | refine below_set ?_ GE251.out) | exact HB.out)) hb); have n4_ := Aside0.mk (hbox); have n5_ := Aside0.mk ((by rw [hg]; exact (below_size (by repeat (first | (with_reducible first | exact HB.out | apply below_alloc | apply pw_below_drewN | apply below_drew1 | refine below_set ?_ (IsS97.ge HI255.out) | refine below_set ?_ GE250.out | refine below_set ?_ GE251.out) | exact HB.out))) : w.heap.size ≤ gb261)); have n6_ := Aside0.mk ((by rw [hg]; exact (below_size (by repeat (first | (with_reducible first | exact HB.out | apply below_alloc | apply pw_below_drewN | apply below_drew1 | refine below_set ?_ (IsS97.ge HI255.out) | refine below_set ?_ GE250.out | refine below_set ?_ GE251.out) | exact HB.out))) : w.heap.size ≤ gb261)); have n7_ := nlt_ (g := gb250) (o := .cells #[.bool false, .int .u64 0, .int .u64 0] 30 (0, 0)) hg; have n8_ := ngt_ (g := gb250) (o := .cells #[.bool false, .int .u64 0, .int .u64 0] 30 (0, 0)) hg; have n9_ := nlt_ (g := gb251) (o := .cells #[.bool false, .int .u64 0, .int .u64 0] 30 (0, 0)) hg; have n10_ := ngt_ (g := gb251) (o := .cells #[.bool false, .int .u64 0, .int .u64 0] 30 (0, 0)) hg; have n11_ := Aside0.mk ((by rw [hg]; exact Nat.ne_of_lt (IsS97.lt (show IsS97 w _ g255 t252 t259 t260 from by repeat (first | (with_reducible first | exact HI255.out | apply IsS97.alloc | apply IsS97.drewN | apply IsS97.drew | apply IsS97.set_1 | apply IsS97.set_2 | refine IsS97.far ?_ NB255_250.out _ | refine IsS97.far ?_ NB255_251.out _) | exact HI255.out))) : g255 ≠ gb261)); have n12_ := Aside0.mk ((by rw [hg]; exact Nat.ne_of_gt (IsS97.lt (show IsS97 w _ g255 t252 t259 t260 from by repeat (first | (with_reducible first | exact HI255.out | apply IsS97.alloc | apply IsS97.drewN | apply IsS97.drew | apply IsS97.set_1 | apply IsS97.set_2 | refine IsS97.far ?_ NB255_250.out _ | refine IsS97.far ?_ NB255_251.out _) | exact HI255.out))) : gb261 ≠ g255)); clear BK250; clear BK251; clear HI255; clear HB; have BK250 := n0_; have BK251 := n1_; have HI255 := n2_; have HB := n3_; have BK261 := n4_; have GW261 := n5_; have GE261 := n6_; have NB250_261 := n7_; have NB261_250 := n8_; have NB251_261 := n9_; have NB261_251 := n10_; have NB255_261 := n11_; have NB261_255 := n12_; clear n0_ n1_ n2_ n3_ n4_ n5_ n6_ n7_ n8_ n9_ n10_ n11_ n12_; clear hb hbox hg; have hnb49 := NB261_250.out; have hnc49 := NB250_261.out; have hnb50 := NB261_251.out; have hnc50 := NB251_261.out; have hnb51 := NB261_255.out; have hnc51 := NB255_261.out; have hcz52_0 : w48.cell? ⟨gb261, 0, none⟩ = some (.bool false) := bc_; have hcz52_1 : w48.cell? ⟨gb261, 1, none⟩ = some (.int .u64 0) := bc_; have hcz52_2 : w48.cell? ⟨gb261, 2, none⟩ = some (.int .u64 0) := bc_; have hfz52_0 := blk_frozen BK261.out 0; have hfz52_1 := blk_frozen BK261.out 1; have hfz52_2 := blk_frozen BK261.out 2) | ((with_reducible refine gate_callee (f := 62) rfl ?_); refine goesL_ (some 11) rfl rfl Try.func62 (by kernel_rfl) rfl #[.pointer (some ⟨g255, 0, none⟩), .int .i64 4] rfl mp_ ?_; (with_reducible refine (spec_l1Below.calls g255 t252 t259 t260 4 t262 t263 t264 w _ ?side1 ?side2 A4.out).mono ?_); (case side1 => repeat (first | (with_reducible first | exact HI255.out | apply IsS97.alloc | apply IsS97.drewN | apply IsS97.drew | apply IsS97.set_1 | apply IsS97.set_2 | refine IsS97.far ?_ NB255_250.out _ | refine IsS97.far ?_ NB255_251.out _ | refine IsS97.far ?_ NB255_261.out _) | exact HI255.out)); (case side2 => repeat (first | (with_reducible first | exact HB.out | apply below_alloc | apply pw_below_drewN | apply below_drew1 | refine below_set ?_ (IsS97.ge HI255.out) | refine below_set ?_ GE250.out | refine below_set ?_ GE251.out | refine below_set ?_ GE261.out) | exact HB.out)); rintro e w53 ⟨rfl, hi, hb, hk⟩; refine ⟨_, rfl, ?_⟩; have n0_ := Aside0.mk (KeepBut.blk hk (g' := gb250) (o := .cells #[.bool false, .int .u64 0, .int .u64 0] 30 (0, 0)) (by (with_reducible repeat (first | refine bN_ _ ?_ | refine bd_ ?_ | refine ba_ _ ?_)); refine blk_far ?_ NB250_261.out _; (with_reducible repeat (first | refine bN_ _ ?_ | refine bd_ ?_ | refine ba_ _ ?_)); refine blk_far ?_ NB250_261.out _; (with_reducible repeat (first | refine bN_ _ ?_ | refine bd_ ?_ | refine ba_ _ ?_)); refine blk_far ?_ NB250_261.out _; (with_reducible repeat (first | refine bN_ _ ?_ | refine bd_ ?_ | refine ba_ _ ?_)); exact BK250.out) NB250_255.out (by simp)); have n1_ := Aside0.mk (KeepBut.blk hk (g' := gb251) (o := .cells #[.bool false, .int .u64 0, .int .u64 0] 30 (0, 0)) (by (with_reducible repeat (first | refine bN_ _ ?_ | refine bd_ ?_ | refine ba_ _ ?_)); refine blk_far ?_ NB251_261.out _; (with_reducible repeat (first | refine bN_ _ ?_ | refine bd_ ?_ | refine ba_ _ ?_)); refine blk_far ?_ NB251_261.out _; (with_reducible repeat (first | refine bN_ _ ?_ | refine bd_ ?_ | refine ba_ _ ?_)); refine blk_far ?_ NB251_261.out _; (with_reducible repeat (first | refine bN_ _ ?_ | refine bd_ ?_ | refine ba_ _ ?_)); exact BK251.out) NB251_255.out (by simp)); have n2_ := Aside0.mk (KeepBut.blk hk (g' := gb261) (o := .cells #[.bool t256, .int .u64 t257, .int .u64 t258] 30 (0, 0)) (by (with_reducible repeat (first | refine bN_ _ ?_ | refine bd_ ?_ | refine ba_ _ ?_)); refine blk_put (cs := #[.bool t256, .int .u64 t257, .int .u64 0]) ?_ 2 _ rfl; (with_reducible repeat (first | refine bN_ _ ?_ | refine bd_ ?_ | refine ba_ _ ?_)); refine blk_put (cs := #[.bool t256, .int .u64 0, .int .u64 0]) ?_ 1 _ rfl; (with_reducible repeat (first | refine bN_ _ ?_ | refine bd_ ?_ | refine ba_ _ ?_)); refine blk_put (cs := #[.bool false, .int .u64 0, .int .u64 0]) ?_ 0 _ rfl; (with_reducible repeat (first | refine bN_ _ ?_ | refine bd_ ?_ | refine ba_ _ ?_)); exact BK261.out) NB261_255.out (by simp)); have n3_ := Aside0.mk (hb); have n4_ := Aside0.mk (hi); clear BK250; clear BK251; clear BK261; clear HB; clear HI255; have BK250 := n0_; have BK251 := n1_; have BK261 := n2_; have HB := n3_; have HI255 := n4_; clear n0_ n1_ n2_ n3_ n4_; (try clear hb); (try clear hb2); (try clear hk); (try clear hi)))
      have n0_ := Aside0.mk (blk_drew BK250.out)
      have n1_ := Aside0.mk (blk_drew BK251.out)
      have n2_ := Aside0.mk (blk_drew BK261.out)
      have n3_ := Aside0.mk (IsS97.drew HI255.out)
      have n4_ := Aside0.mk (below_drew1 HB.out)
      clear BK250
      clear BK251
      clear BK261
      clear HI255
      clear HB
      have BK250 := n0_
      have BK251 := n1_
      have BK261 := n2_
      have HI255 := n3_
      have HB := n4_
      clear n0_ n1_ n2_ n3_ n4_
      refine start_ (n := 5) (S := fun w' => w'.cell? ⟨gb261, 0, none⟩ = some (.bool t256) ∧ w'.cell? ⟨gb261, 1, none⟩ = some (.int .u64 t257) ∧ w'.cell? ⟨gb261, 2, none⟩ = some (.int .u64 t258)) (ds := []) #[false, false, false, false, false] (by kernel_rfl) rfl rfl ⟨bc_, bc_, bc_⟩ (fun hHeld => ?_)
      generalize w53.drew = w54 at BK250 BK251 BK261 HI255 HB hHeld ⊢
      refine pure_ (i := 1) (N := some 22) (v := ?_) (a' := ?_) #[false, true, false, false, false] rfl rfl (by kernel_rfl) (fun _ _ _ h => h) (Or.inl ⟨by rfl, ?_⟩) ?_ ?_
      rotate_left
      · intro w'
        go_simp
        with_reducible rfl
      rotate_left
      · simp only [Act.put, la_, lb_, lc_, i64_w, i32_w]
        rfl
      refine take_ (i := 0) (N := some 21) (v := ?_) (a' := ?_) #[true, true, false, false, false] rfl rfl (by kernel_rfl) (fun _ _ _ h => h) (Or.inl ⟨by rfl, ?_⟩) hHeld ?_ ?_
      rotate_left
      · rintro w' ⟨s0, s1, s2⟩
        go_simp
        with_reducible rfl
      rotate_left
      · simp only [Act.put, la_, lb_, lc_, i64_w, i32_w]
        rfl
      refine one_ (i := 2) (N := some 23) #[true, true, true, false, false] rfl rfl (by kernel_rfl) (by decide) (fun K hK => ?_)
      refine goes_ Try.func67 (by kernel_rfl) rfl #[.pointer (some ⟨g255, 0, none⟩)] (by rfl) rfl rfl mp_ ?_
      with_reducible refine (spec_l3Wide.calls k g255 t252 t263 t264 t268 t269 t270 t271 t272 w _ ?side1 ?side2 A43.out).mono ?_
      (case side1 => repeat (first | (with_reducible first | exact HI255.out | apply IsS97.alloc | apply IsS97.drewN | apply IsS97.drew | apply IsS97.set_1 | apply IsS97.set_2 | refine IsS97.far ?_ NB255_250.out _ | refine IsS97.far ?_ NB255_251.out _ | refine IsS97.far ?_ NB255_261.out _) | exact HI255.out))
      (case side2 => repeat (first | (with_reducible first | exact HB.out | apply below_alloc | apply pw_below_drewN | apply below_drew1 | refine below_set ?_ (IsS97.ge HI255.out) | refine below_set ?_ GE250.out | refine below_set ?_ GE251.out | refine below_set ?_ GE261.out) | exact HB.out))
      rintro e w55 ⟨rfl, hi, hb, hk⟩
      refine ⟨_, rfl, ?_⟩
      have n0_ := Aside0.mk (KeepBut.blk hk (g' := gb250) (o := .cells #[.bool false, .int .u64 0, .int .u64 0] 30 (0, 0)) (by (with_reducible repeat (first | refine bN_ _ ?_ | refine bd_ ?_ | refine ba_ _ ?_)); exact BK250.out) NB250_255.out (by simp))
      have n1_ := Aside0.mk (KeepBut.blk hk (g' := gb251) (o := .cells #[.bool false, .int .u64 0, .int .u64 0] 30 (0, 0)) (by (with_reducible repeat (first | refine bN_ _ ?_ | refine bd_ ?_ | refine ba_ _ ?_)); exact BK251.out) NB251_255.out (by simp))
      have n2_ := Aside0.mk (KeepBut.blk hk (g' := gb261) (o := .cells #[.bool t256, .int .u64 t257, .int .u64 t258] 30 (0, 0)) (by (with_reducible repeat (first | refine bN_ _ ?_ | refine bd_ ?_ | refine ba_ _ ?_)); exact BK261.out) NB261_255.out (by simp))
      have n3_ := Aside0.mk (hb)
      have n4_ := Aside0.mk (hi)
      clear BK250
      clear BK251
      clear BK261
      clear HB
      clear HI255
      have BK250 := n0_
      have BK251 := n1_
      have BK261 := n2_
      have HB := n3_
      have HI255 := n4_
      clear n0_ n1_ n2_ n3_ n4_
      (try clear hb)
      (try clear hb2)
      (try clear hk)
      (try clear hi)
      refine hK.out _ _ ⟨bc_, bc_, bc_⟩ (fun hHeld => ?_)
      clear hK K
      refine norm_ (a' := ?_) ?_ ?_
      rotate_left
      · show Act.put _ (some 23) _ = _
        simp only [Act.put, la_, lb_, lc_, i64_w, i32_w]
        rfl
      refine one_ (i := 3) (N := none) #[true, true, true, true, false] rfl rfl (by kernel_rfl) (by decide) (fun K hK => ?_)
      have hs56 : w55.cell? ⟨gb250, 0, none⟩ = some (.bool false) := (blk_cell BK250.out 0).trans rfl
      have hfs56 := blk_frozen BK250.out 0
      have hns56_1 := NB251_250.out
      have hns56_2 := NB261_250.out
      have hms56_1 := NB250_251.out
      have hms56_2 := NB250_261.out
      have hs57 : w55.cell? ⟨gb250, 1, none⟩ = some (.int .u64 0) := (blk_cell BK250.out 1).trans rfl
      have hfs57 := blk_frozen BK250.out 1
      have hns57_1 := NB251_250.out
      have hns57_2 := NB261_250.out
      have hms57_1 := NB250_251.out
      have hms57_2 := NB250_261.out
      have hs58 : w55.cell? ⟨gb250, 2, none⟩ = some (.int .u64 0) := (blk_cell BK250.out 2).trans rfl
      have hfs58 := blk_frozen BK250.out 2
      have hns58_1 := NB251_250.out
      have hns58_2 := NB261_250.out
      have hms58_1 := NB250_251.out
      have hms58_2 := NB250_261.out
      refine skip_ (w1 := ?_) (by rfl) rfl ?_ ?_
      rotate_left
      · go_simp
        rfl
      refine hK.out _ _ ⟨((cell_far (p := ⟨gb250, _, none⟩) NB261_250.out _).trans (((cell_far (p := ⟨gb250, _, none⟩) NB261_250.out _).trans (((cell_far (p := ⟨gb250, _, none⟩) NB261_250.out _).trans (hHeld.1)))))), ((cell_far (p := ⟨gb250, _, none⟩) NB261_250.out _).trans (((cell_far (p := ⟨gb250, _, none⟩) NB261_250.out _).trans (((cell_far (p := ⟨gb250, _, none⟩) NB261_250.out _).trans (hHeld.2.1)))))), ((cell_far (p := ⟨gb250, _, none⟩) NB261_250.out _).trans (((cell_far (p := ⟨gb250, _, none⟩) NB261_250.out _).trans (((cell_far (p := ⟨gb250, _, none⟩) NB261_250.out _).trans (hHeld.2.2))))))⟩ (fun hHeld => ?_)
      clear hK K
      refine one_ (i := 4) (N := none) #[true, true, true, true, true] rfl rfl (by kernel_rfl) (by decide) (fun K hK => ?_)
      have hs59 : w55.cell? ⟨gb251, 0, none⟩ = some (.bool false) := (blk_cell BK251.out 0).trans rfl
      have hfs59 := blk_frozen BK251.out 0
      have hns59_0 := NB250_251.out
      have hns59_2 := NB261_251.out
      have hms59_0 := NB251_250.out
      have hms59_2 := NB251_261.out
      have hs60 : w55.cell? ⟨gb251, 1, none⟩ = some (.int .u64 0) := (blk_cell BK251.out 1).trans rfl
      have hfs60 := blk_frozen BK251.out 1
      have hns60_0 := NB250_251.out
      have hns60_2 := NB261_251.out
      have hms60_0 := NB251_250.out
      have hms60_2 := NB251_261.out
      have hs61 : w55.cell? ⟨gb251, 2, none⟩ = some (.int .u64 0) := (blk_cell BK251.out 2).trans rfl
      have hfs61 := blk_frozen BK251.out 2
      have hns61_0 := NB250_251.out
      have hns61_2 := NB261_251.out
      have hms61_0 := NB251_250.out
      have hms61_2 := NB251_261.out
      refine skip_ (w1 := ?_) (by rfl) rfl ?_ ?_
      rotate_left
      · go_simp
        rfl
      refine hK.out _ _ ⟨((cell_far (p := ⟨gb251, _, none⟩) NB261_251.out _).trans (((cell_far (p := ⟨gb251, _, none⟩) NB261_251.out _).trans (((cell_far (p := ⟨gb251, _, none⟩) NB261_251.out _).trans (hHeld.1)))))), ((cell_far (p := ⟨gb251, _, none⟩) NB261_251.out _).trans (((cell_far (p := ⟨gb251, _, none⟩) NB261_251.out _).trans (((cell_far (p := ⟨gb251, _, none⟩) NB261_251.out _).trans (hHeld.2.1)))))), ((cell_far (p := ⟨gb251, _, none⟩) NB261_251.out _).trans (((cell_far (p := ⟨gb251, _, none⟩) NB261_251.out _).trans (((cell_far (p := ⟨gb251, _, none⟩) NB261_251.out _).trans (hHeld.2.2))))))⟩ (fun hHeld => ?_)
      clear hK K
      refine done_ (by kernel_rfl) ?_
      try go_wp2
      refine bodyPost_ret (results_cc rfl _ _ gb250 gb251 30 30 #[.bool t256, .int .u64 t257, .int .u64 t258] #[.bool t268, .int .u64 t269, .int .u64 t270] (0, 0) (0, 0) _ _ rfl (by (with_reducible repeat (first | refine bN_ _ ?_ | refine bd_ ?_ | refine ba_ _ ?_)); refine blk_far ?_ NB250_251.out _; (with_reducible repeat (first | refine bN_ _ ?_ | refine bd_ ?_ | refine ba_ _ ?_)); refine blk_far ?_ NB250_251.out _; (with_reducible repeat (first | refine bN_ _ ?_ | refine bd_ ?_ | refine ba_ _ ?_)); refine blk_far ?_ NB250_251.out _; (with_reducible repeat (first | refine bN_ _ ?_ | refine bd_ ?_ | refine ba_ _ ?_)); refine blk_put (cs := #[.bool t256, .int .u64 t257, .int .u64 0]) ?_ 2 _ rfl; (with_reducible repeat (first | refine bN_ _ ?_ | refine bd_ ?_ | refine ba_ _ ?_)); refine blk_put (cs := #[.bool t256, .int .u64 0, .int .u64 0]) ?_ 1 _ rfl; (with_reducible repeat (first | refine bN_ _ ?_ | refine bd_ ?_ | refine ba_ _ ?_)); refine blk_put (cs := #[.bool false, .int .u64 0, .int .u64 0]) ?_ 0 _ rfl; (with_reducible repeat (first | refine bN_ _ ?_ | refine bd_ ?_ | refine ba_ _ ?_)); exact BK250.out) Try.underlying30 rfl (by kernel_rfl) rfl (by (with_reducible repeat (first | refine bN_ _ ?_ | refine bd_ ?_ | refine ba_ _ ?_)); refine blk_put (cs := #[.bool t268, .int .u64 t269, .int .u64 0]) ?_ 2 _ rfl; (with_reducible repeat (first | refine bN_ _ ?_ | refine bd_ ?_ | refine ba_ _ ?_)); refine blk_put (cs := #[.bool t268, .int .u64 0, .int .u64 0]) ?_ 1 _ rfl; (with_reducible repeat (first | refine bN_ _ ?_ | refine bd_ ?_ | refine ba_ _ ?_)); refine blk_put (cs := #[.bool false, .int .u64 0, .int .u64 0]) ?_ 0 _ rfl; (with_reducible repeat (first | refine bN_ _ ?_ | refine bd_ ?_ | refine ba_ _ ?_)); refine blk_far ?_ NB251_250.out _; (with_reducible repeat (first | refine bN_ _ ?_ | refine bd_ ?_ | refine ba_ _ ?_)); refine blk_far ?_ NB251_250.out _; (with_reducible repeat (first | refine bN_ _ ?_ | refine bd_ ?_ | refine ba_ _ ?_)); refine blk_far ?_ NB251_250.out _; (with_reducible repeat (first | refine bN_ _ ?_ | refine bd_ ?_ | refine ba_ _ ?_)); exact BK251.out) Try.underlying30 rfl (by kernel_rfl)) rfl ?_
      exact ⟨by first | rfl | (simp [errW_none, errW_some] <;> rfl) | (simp [*, errW_none, errW_some] <;> rfl), by repeat (first | (with_reducible first | exact HB.out | apply below_alloc | apply pw_below_drewN | apply below_drew1 | refine below_set ?_ (IsS97.ge HI255.out) | refine below_set ?_ GE250.out | refine below_set ?_ GE251.out | refine below_set ?_ GE261.out) | exact HB.out)⟩

/-! ### spec_DrawCompareWide: function 16 -/
def spec_DrawCompareWide.f (k : Nat) (l0 : List Int) : Option (Bool × Int × Int × Bool × Int × Int) := (spec_l3Two.f k l0).bind fun bt275 => (some (bt275.1, bt275.2.1, bt275.2.2.1, bt275.2.2.2.1, bt275.2.2.2.2.1, bt275.2.2.2.2.2))
theorem spec_DrawCompareWide.mono : ∀ a0 k, LeO (spec_DrawCompareWide.f k a0) (spec_DrawCompareWide.f (k + 1) a0) := by
  intro a0 k
  unfold spec_DrawCompareWide.f
  repeat' first
      | (with_reducible exact spec_l3Two.mono _ _)
      | (with_reducible exact LeO.refl _)
      | (with_reducible exact LeO.none _)
      | (with_reducible refine LeO.ite ?_ ?_)
      | (with_reducible refine LeO.bind ?_ (fun _ => ?_))
      | exact spec_l3Two.mono _ _
      | exact LeO.none _
      | refine LeO.ite ?_ ?_
      | refine LeO.bind ?_ (fun _ => ?_)
set_option maxHeartbeats 8000000 in
set_option maxRecDepth 100000 in
theorem spec_DrawCompareWide.calls (k : Nat) (A0 : Option Addr) (c0 : Nat) (l0 : List Int) (r1 : Bool) (r2 : Int) (r3 : Int) (r4 : Bool) (r5 : Int) (r6 : Int) (w : World) (hr0 : Kd.C (Kd.int .u8) w A0 l0.length l0) (hc0 : l0.length ≤ c0) (h : spec_DrawCompareWide.f k l0 = some (r1, r2, r3, r4, r5, r6)) :
    Calls Try.prog 16 #[.slice A0 l0.length c0] w fun e w' => e = .returned (.tuple #[.agg #[.bool r1, .int .u64 r2, .int .u64 r3], .agg #[.bool r4, .int .u64 r5, .int .u64 r6]]) ∧ Below w.heap.size w w' := by
  have hu30 := Try.underlying30
  have HR0 := Aside0.mk hr0
  have HC0 := Aside0.mk hc0
  clear hr0 hc0
  have HB := Aside0.mk (Below.refl w.heap.size w)
  have H : ((spec_l3Two.f k l0).bind fun bt275 => (some (bt275.1, bt275.2.1, bt275.2.2.1, bt275.2.2.2.1, bt275.2.2.2.2.1, bt275.2.2.2.2.2))) = some (r1, r2, r3, r4, r5, r6) := h
  clear h
  replace H := Option.bind_eq_some_iff.mp H
  obtain ⟨⟨t275, t276, t277, t278, t279, t280⟩, A20, H⟩ := H
  replace H : (some (t275, t276, t277, t278, t279, t280)) = some (r1, r2, r3, r4, r5, r6) := H
  have A2 := Aside0.mk A20
  clear A20
  simp only [Option.some.injEq, Prod.mk.injEq] at H
  obtain ⟨rfl, rfl, rfl, rfl, rfl, rfl⟩ := H
  go_enter Try.func16, Try.ntmps16
  go_wp2_with (first | ((with_reducible refine gate_dst (N := 2) rfl ?_); refine box_event ?hg (N := 2) ?hd (cs := #[.bool false, .int .u64 0, .int .u64 0]) (t := 30) ?hr ?_; (case hd => rfl); (case hg => rfl); (case hr => first | (go_simp; done) | (go_simp; rfl)); intro gb273 hg w3 hbox hb; have n0_ := Aside0.mk (below_step bel_ hb); have n1_ := Aside0.mk (hbox); have n2_ := Aside0.mk ((by rw [hg]; exact (below_size bel_) : w.heap.size ≤ gb273)); have n3_ := Aside0.mk ((by rw [hg]; exact (below_size bel_) : w.heap.size ≤ gb273)); clear HB; have HB := n0_; have BK273 := n1_; have GW273 := n2_; have GE273 := n3_; clear n0_ n1_ n2_ n3_; clear hb hbox hg) | ((with_reducible refine gate_dst (N := 3) rfl ?_); refine box_event ?hg (N := 3) ?hd (cs := #[.bool false, .int .u64 0, .int .u64 0]) (t := 30) ?hr ?_; (case hd => rfl); (case hg => rfl); (case hr => first | (go_simp; done) | (go_simp; rfl)); intro gb274 hg w4 hbox hb; have n0_ := bb_ (g := gb273) (o := .cells #[.bool false, .int .u64 0, .int .u64 0] 30 (0, 0)) hb; have n1_ := Aside0.mk (below_step bel_ hb); have n2_ := Aside0.mk (hbox); have n3_ := Aside0.mk ((by rw [hg]; exact (below_size bel_) : w.heap.size ≤ gb274)); have n4_ := Aside0.mk ((by rw [hg]; exact (below_size bel_) : w.heap.size ≤ gb274)); have n5_ := nlt_ (g := gb273) (o := .cells #[.bool false, .int .u64 0, .int .u64 0] 30 (0, 0)) hg; have n6_ := ngt_ (g := gb273) (o := .cells #[.bool false, .int .u64 0, .int .u64 0] 30 (0, 0)) hg; clear BK273; clear HB; have BK273 := n0_; have HB := n1_; have BK274 := n2_; have GW274 := n3_; have GE274 := n4_; have NB273_274 := n5_; have NB274_273 := n6_; clear n0_ n1_ n2_ n3_ n4_ n5_ n6_; clear hb hbox hg) | ((with_reducible refine gate_callee (f := 41) rfl ?_); refine goesL_ (some 5) rfl rfl Try.func41 (by kernel_rfl) rfl #[.slice A0 l0.length c0] rfl mp_ ?_; (with_reducible refine (spec_l3Two.calls k _ _ l0 t275 t276 t277 t278 t279 t280 _ ?side1 ?side2 A2.out).mono ?_); (case side1 => repeat (first | exact (Kd.C_below HR0.out HB.out) | (with_reducible refine Kd.C_alloc ?_ _) | (with_reducible refine Kd.C_drewN ?_ _) | (with_reducible refine Kd.C_drew ?_))); (case side2 => exact HC0.out); rintro e w5 ⟨rfl, hb⟩; refine ⟨_, rfl, ?_⟩; have n0_ := bb_ (g := gb273) (o := .cells #[.bool false, .int .u64 0, .int .u64 0] 30 (0, 0)) hb; have n1_ := bb_ (g := gb274) (o := .cells #[.bool false, .int .u64 0, .int .u64 0] 30 (0, 0)) hb; have n2_ := Aside0.mk (below_step bel_ hb); clear BK273; clear BK274; clear HB; have BK273 := n0_; have BK274 := n1_; have HB := n2_; clear n0_ n1_ n2_; (try clear hb); (try clear hb2); (try clear hk); (try clear hi); have hnb6 := NB273_274.out; have hnc6 := NB274_273.out; have hcz7_0 : w5.cell? ⟨gb273, 0, none⟩ = some (.bool false) := bc_; have hcz7_1 : w5.cell? ⟨gb273, 1, none⟩ = some (.int .u64 0) := bc_; have hcz7_2 : w5.cell? ⟨gb273, 2, none⟩ = some (.int .u64 0) := bc_; have hfz7_0 := blk_frozen BK273.out 0; have hfz7_1 := blk_frozen BK273.out 1; have hfz7_2 := blk_frozen BK273.out 2; have hcz8_0 : w5.cell? ⟨gb274, 0, none⟩ = some (.bool false) := bc_; have hcz8_1 : w5.cell? ⟨gb274, 1, none⟩ = some (.int .u64 0) := bc_; have hcz8_2 : w5.cell? ⟨gb274, 2, none⟩ = some (.int .u64 0) := bc_; have hfz8_0 := blk_frozen BK274.out 0; have hfz8_1 := blk_frozen BK274.out 1; have hfz8_2 := blk_frozen BK274.out 2))
  refine bodyPost_ret (results_cc rfl _ _ gb273 gb274 30 30 #[.bool t275, .int .u64 t276, .int .u64 t277] #[.bool t278, .int .u64 t279, .int .u64 t280] (0, 0) (0, 0) _ _ rfl (by (with_reducible repeat (first | refine bN_ _ ?_ | refine bd_ ?_ | refine ba_ _ ?_)); refine blk_far ?_ NB273_274.out _; (with_reducible repeat (first | refine bN_ _ ?_ | refine bd_ ?_ | refine ba_ _ ?_)); refine blk_far ?_ NB273_274.out _; (with_reducible repeat (first | refine bN_ _ ?_ | refine bd_ ?_ | refine ba_ _ ?_)); refine blk_far ?_ NB273_274.out _; (with_reducible repeat (first | refine bN_ _ ?_ | refine bd_ ?_ | refine ba_ _ ?_)); refine blk_put (cs := #[.bool t275, .int .u64 t276, .int .u64 0]) ?_ 2 _ rfl; (with_reducible repeat (first | refine bN_ _ ?_ | refine bd_ ?_ | refine ba_ _ ?_)); refine blk_put (cs := #[.bool t275, .int .u64 0, .int .u64 0]) ?_ 1 _ rfl; (with_reducible repeat (first | refine bN_ _ ?_ | refine bd_ ?_ | refine ba_ _ ?_)); refine blk_put (cs := #[.bool false, .int .u64 0, .int .u64 0]) ?_ 0 _ rfl; (with_reducible repeat (first | refine bN_ _ ?_ | refine bd_ ?_ | refine ba_ _ ?_)); exact BK273.out) Try.underlying30 rfl (by kernel_rfl) rfl (by (with_reducible repeat (first | refine bN_ _ ?_ | refine bd_ ?_ | refine ba_ _ ?_)); refine blk_put (cs := #[.bool t278, .int .u64 t279, .int .u64 0]) ?_ 2 _ rfl; (with_reducible repeat (first | refine bN_ _ ?_ | refine bd_ ?_ | refine ba_ _ ?_)); refine blk_put (cs := #[.bool t278, .int .u64 0, .int .u64 0]) ?_ 1 _ rfl; (with_reducible repeat (first | refine bN_ _ ?_ | refine bd_ ?_ | refine ba_ _ ?_)); refine blk_put (cs := #[.bool false, .int .u64 0, .int .u64 0]) ?_ 0 _ rfl; (with_reducible repeat (first | refine bN_ _ ?_ | refine bd_ ?_ | refine ba_ _ ?_)); refine blk_far ?_ NB274_273.out _; (with_reducible repeat (first | refine bN_ _ ?_ | refine bd_ ?_ | refine ba_ _ ?_)); refine blk_far ?_ NB274_273.out _; (with_reducible repeat (first | refine bN_ _ ?_ | refine bd_ ?_ | refine ba_ _ ?_)); refine blk_far ?_ NB274_273.out _; (with_reducible repeat (first | refine bN_ _ ?_ | refine bd_ ?_ | refine ba_ _ ?_)); exact BK274.out) Try.underlying30 rfl (by kernel_rfl)) rfl ?_
  exact ⟨by first | rfl | (simp [errW_none, errW_some] <;> rfl) | (simp [*, errW_none, errW_some] <;> rfl), by repeat (first | (with_reducible first | exact HB.out | apply below_alloc | apply pw_below_drewN | apply below_drew1 | refine below_set ?_ GE273.out | refine below_set ?_ GE274.out) | exact HB.out)⟩

end Go.Proofs.Ytodbmgnhcglcnaa.PFnWideOrder
