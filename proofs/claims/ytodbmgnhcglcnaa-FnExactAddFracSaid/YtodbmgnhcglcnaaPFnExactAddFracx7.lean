/- Contracts of Go functions, each with the Lean function that says what it computes: begun by the print, turned by this session. No condition beyond what each theorem states. -/
import Derived.Test.YtodbmgnhcglcnaaPFnExactAddFracx0
import Derived.Test.YtodbmgnhcglcnaaPFnExactAddFracx5
import Derived.Test.YtodbmgnhcglcnaaPFnExactAddFracx6
namespace Go.Proofs.Ytodbmgnhcglcnaa.PFnExactAddFrac
open Go.RowKit Go.Proofs.YtodbmgnhcglcnaaW.PrintWords Go.Proofs.YtodbmgnhcglcnaaW.PrintLast Go.Proofs.YtodbmgnhcglcnaaW.PrintMore
attribute [local go_sem] max2_int min2_int max_two min_two max_three min_three max_four min_four   -- for this text's walks alone
set_option linter.unusedVariables false
set_option linter.unusedSimpArgs false

/-! ### impl_ScaleWide: function 47 -/
def impl_ScaleWide.f (a0_0 : Bool) (a0_1 : Int) (a0_2 : Int) (a1 : Int) : Option (Bool × Int × Int × Bool) := (impl_WideOk.f a0_0 a0_1 a0_2).bind fun t222 => (if t222 = true then ((impl_size.f a1).bind fun t223 => ((bits_Mul64.f a0_1 t223).bind fun bt224 => ((bits_Mul64.f a0_2 t223).bind fun bt226 => ((bits_Add64.f bt224.2 bt226.1 0).bind fun bt228 => ((impl_wideOf.f (a0_0 != (decide (a1 < 0))) bt228.1 bt226.2).bind fun bt230 => (if bt224.1 > 0 then (some (false, 0, 0, false)) else (if bt228.2 > 0 then (some (false, 0, 0, false)) else ((impl_WideOk.f bt230.1 bt230.2.1 bt230.2.2).bind fun t234 => (if t234 = true then (some (bt230.1, bt230.2.1, bt230.2.2, true)) else (some (false, 0, 0, false))))))))))) else (some (false, 0, 0, false)))
set_option maxHeartbeats 8000000 in
set_option maxRecDepth 100000 in
theorem impl_ScaleWide.calls (a0_0 : Bool) (a0_1 : Int) (a0_2 : Int) (a1 : Int) (r1 : Bool) (r2 : Int) (r3 : Int) (r4 : Bool) (w : World) (h : impl_ScaleWide.f a0_0 a0_1 a0_2 a1 = some (r1, r2, r3, r4)) :
    Calls Try.prog 47 #[.agg #[.bool a0_0, .int .u64 a0_1, .int .u64 a0_2], .int .i64 a1] w fun e w' => e = .returned (.tuple #[.agg #[.bool r1, .int .u64 r2, .int .u64 r3], .bool r4]) ∧ Below w.heap.size w w' := by
  have hu30 := Try.underlying30
  have HB := Aside0.mk (Below.refl w.heap.size w)
  have H : ((impl_WideOk.f a0_0 a0_1 a0_2).bind fun t222 => (if t222 = true then ((impl_size.f a1).bind fun t223 => ((bits_Mul64.f a0_1 t223).bind fun bt224 => ((bits_Mul64.f a0_2 t223).bind fun bt226 => ((bits_Add64.f bt224.2 bt226.1 0).bind fun bt228 => ((impl_wideOf.f (a0_0 != (decide (a1 < 0))) bt228.1 bt226.2).bind fun bt230 => (if bt224.1 > 0 then (some (false, 0, 0, false)) else (if bt228.2 > 0 then (some (false, 0, 0, false)) else ((impl_WideOk.f bt230.1 bt230.2.1 bt230.2.2).bind fun t234 => (if t234 = true then (some (bt230.1, bt230.2.1, bt230.2.2, true)) else (some (false, 0, 0, false))))))))))) else (some (false, 0, 0, false)))) = some (r1, r2, r3, r4) := h
  clear h
  replace H := Option.bind_eq_some_iff.mp H
  obtain ⟨t222, A30, H⟩ := H
  replace H : (if t222 = true then ((impl_size.f a1).bind fun t223 => ((bits_Mul64.f a0_1 t223).bind fun bt224 => ((bits_Mul64.f a0_2 t223).bind fun bt226 => ((bits_Add64.f bt224.2 bt226.1 0).bind fun bt228 => ((impl_wideOf.f (a0_0 != (decide (a1 < 0))) bt228.1 bt226.2).bind fun bt230 => (if bt224.1 > 0 then (some (false, 0, 0, false)) else (if bt228.2 > 0 then (some (false, 0, 0, false)) else ((impl_WideOk.f bt230.1 bt230.2.1 bt230.2.2).bind fun t234 => (if t234 = true then (some (bt230.1, bt230.2.1, bt230.2.2, true)) else (some (false, 0, 0, false))))))))))) else (some (false, 0, 0, false))) = some (r1, r2, r3, r4) := H
  have A3 := Aside0.mk A30
  clear A30
  by_cases c4 : t222 = true
  · subst c4
    have H1 : ((impl_size.f a1).bind fun t223 => ((bits_Mul64.f a0_1 t223).bind fun bt224 => ((bits_Mul64.f a0_2 t223).bind fun bt226 => ((bits_Add64.f bt224.2 bt226.1 0).bind fun bt228 => ((impl_wideOf.f (a0_0 != (decide (a1 < 0))) bt228.1 bt226.2).bind fun bt230 => (if bt224.1 > 0 then (some (false, 0, 0, false)) else (if bt228.2 > 0 then (some (false, 0, 0, false)) else ((impl_WideOk.f bt230.1 bt230.2.1 bt230.2.2).bind fun t234 => (if t234 = true then (some (bt230.1, bt230.2.1, bt230.2.2, true)) else (some (false, 0, 0, false))))))))))) = some (r1, r2, r3, r4) := by rw [if_pos rfl] at H; exact H
    clear H
    have H := H1
    clear H1
    replace H := Option.bind_eq_some_iff.mp H
    obtain ⟨t223, A50, H⟩ := H
    replace H : ((bits_Mul64.f a0_1 t223).bind fun bt224 => ((bits_Mul64.f a0_2 t223).bind fun bt226 => ((bits_Add64.f bt224.2 bt226.1 0).bind fun bt228 => ((impl_wideOf.f (a0_0 != (decide (a1 < 0))) bt228.1 bt226.2).bind fun bt230 => (if bt224.1 > 0 then (some (false, 0, 0, false)) else (if bt228.2 > 0 then (some (false, 0, 0, false)) else ((impl_WideOk.f bt230.1 bt230.2.1 bt230.2.2).bind fun t234 => (if t234 = true then (some (bt230.1, bt230.2.1, bt230.2.2, true)) else (some (false, 0, 0, false)))))))))) = some (r1, r2, r3, r4) := H
    have A5 := Aside0.mk A50
    clear A50
    replace H := Option.bind_eq_some_iff.mp H
    obtain ⟨⟨t224, t225⟩, A60, H⟩ := H
    replace H : ((bits_Mul64.f a0_2 t223).bind fun bt226 => ((bits_Add64.f t225 bt226.1 0).bind fun bt228 => ((impl_wideOf.f (a0_0 != (decide (a1 < 0))) bt228.1 bt226.2).bind fun bt230 => (if t224 > 0 then (some (false, 0, 0, false)) else (if bt228.2 > 0 then (some (false, 0, 0, false)) else ((impl_WideOk.f bt230.1 bt230.2.1 bt230.2.2).bind fun t234 => (if t234 = true then (some (bt230.1, bt230.2.1, bt230.2.2, true)) else (some (false, 0, 0, false))))))))) = some (r1, r2, r3, r4) := H
    have A6 := Aside0.mk A60
    clear A60
    replace H := Option.bind_eq_some_iff.mp H
    obtain ⟨⟨t226, t227⟩, A70, H⟩ := H
    replace H : ((bits_Add64.f t225 t226 0).bind fun bt228 => ((impl_wideOf.f (a0_0 != (decide (a1 < 0))) bt228.1 t227).bind fun bt230 => (if t224 > 0 then (some (false, 0, 0, false)) else (if bt228.2 > 0 then (some (false, 0, 0, false)) else ((impl_WideOk.f bt230.1 bt230.2.1 bt230.2.2).bind fun t234 => (if t234 = true then (some (bt230.1, bt230.2.1, bt230.2.2, true)) else (some (false, 0, 0, false)))))))) = some (r1, r2, r3, r4) := H
    have A7 := Aside0.mk A70
    clear A70
    replace H := Option.bind_eq_some_iff.mp H
    obtain ⟨⟨t228, t229⟩, A80, H⟩ := H
    replace H : ((impl_wideOf.f (a0_0 != (decide (a1 < 0))) t228 t227).bind fun bt230 => (if t224 > 0 then (some (false, 0, 0, false)) else (if t229 > 0 then (some (false, 0, 0, false)) else ((impl_WideOk.f bt230.1 bt230.2.1 bt230.2.2).bind fun t234 => (if t234 = true then (some (bt230.1, bt230.2.1, bt230.2.2, true)) else (some (false, 0, 0, false))))))) = some (r1, r2, r3, r4) := H
    have A8 := Aside0.mk A80
    clear A80
    replace H := Option.bind_eq_some_iff.mp H
    obtain ⟨⟨t230, t231, t232⟩, A90, H⟩ := H
    replace H : (if t224 > 0 then (some (false, 0, 0, false)) else (if t229 > 0 then (some (false, 0, 0, false)) else ((impl_WideOk.f t230 t231 t232).bind fun t234 => (if t234 = true then (some (t230, t231, t232, true)) else (some (false, 0, 0, false)))))) = some (r1, r2, r3, r4) := H
    have A9 := Aside0.mk A90
    clear A90
    by_cases c10 : t224 > 0
    · rw [if_pos c10] at H
      have c10b0 : decide (0 < t224) = true := decide_eq_true c10
      clear c10
      simp only [Option.some.injEq, Prod.mk.injEq] at H
      obtain ⟨rfl, rfl, rfl, rfl⟩ := H
      go_enter Try.func47, Try.ntmps47
      go_wp2_with (first | ((with_reducible refine gate_dst (N := 2) rfl ?_); refine box_event ?hg (N := 2) ?hd (cs := #[.bool a0_0, .int .u64 a0_1, .int .u64 a0_2]) (t := 30) ?hr ?_; (case hd => rfl); (case hg => rfl); (case hr => first | (go_simp; done) | (go_simp; rfl)); intro gb220 hg w11 hbox hb; have n0_ := Aside0.mk (below_step bel_ hb); have n1_ := Aside0.mk (hbox); have n2_ := bs_ (w := w) hg; have n3_ := bs_ (w := w) hg; clear HB; have HB := n0_; have BK220 := n1_; have GW220 := n2_; have GE220 := n3_; clear n0_ n1_ n2_ n3_; clear hb hbox hg) | ((with_reducible refine gate_dst (N := 4) rfl ?_); refine box_event ?hg (N := 4) ?hd (cs := #[.bool false, .int .u64 0, .int .u64 0]) (t := 30) ?hr ?_; (case hd => rfl); (case hg => rfl); (case hr => first | (go_simp; done) | (go_simp; rfl)); intro gb221 hg w12 hbox hb; have n0_ := bb_ (g := gb220) (o := .cells #[.bool a0_0, .int .u64 a0_1, .int .u64 a0_2] 30 (0, 0)) hb; have n1_ := Aside0.mk (below_step bel_ hb); have n2_ := Aside0.mk (hbox); have n3_ := bs_ (w := w) hg; have n4_ := bs_ (w := w) hg; have n5_ := nlt_ (g := gb220) (o := .cells #[.bool a0_0, .int .u64 a0_1, .int .u64 a0_2] 30 (0, 0)) hg; have n6_ := ngt_ (g := gb220) (o := .cells #[.bool a0_0, .int .u64 a0_1, .int .u64 a0_2] 30 (0, 0)) hg; clear BK220; clear HB; have BK220 := n0_; have HB := n1_; have BK221 := n2_; have GW221 := n3_; have GE221 := n4_; have NB220_221 := n5_; have NB221_220 := n6_; clear n0_ n1_ n2_ n3_ n4_ n5_ n6_; clear hb hbox hg; have hnb13 := NB220_221.out; have hnc13 := NB221_220.out; obtain ⟨hcz14_0, hcz14_1, hcz14_2, hfz14_0, hfz14_1, hfz14_2⟩ := cf3_ (w := w12) BK220.out) | ((with_reducible refine gate_callee (f := 63) rfl ?_); refine goesL_ (some 14) rfl rfl Try.func63 (by kernel_rfl) rfl #[.agg #[.bool a0_0, .int .u64 a0_1, .int .u64 a0_2]] rfl mp_ ?_; (with_reducible refine (impl_WideOk.calls a0_0 a0_1 a0_2 true _ A3.out).mono ?_); rintro e w15 ⟨rfl, hb⟩; refine ⟨_, rfl, ?_⟩; have n0_ := bb_ (g := gb220) (o := .cells #[.bool a0_0, .int .u64 a0_1, .int .u64 a0_2] 30 (0, 0)) hb; have n1_ := bb_ (g := gb221) (o := .cells #[.bool false, .int .u64 0, .int .u64 0] 30 (0, 0)) hb; have n2_ := Aside0.mk (below_step bel_ hb); clear BK220; clear BK221; clear HB; have BK220 := n0_; have BK221 := n1_; have HB := n2_; clear n0_ n1_ n2_; (try clear hb); (try clear hb2); (try clear hk); (try clear hi)) | ((with_reducible refine gate_callee (f := 66) rfl ?_); refine goesL_ (some 18) rfl rfl Try.func66 (by kernel_rfl) rfl #[.int .i64 a1] rfl mp_ ?_; (with_reducible refine (impl_size.calls a1 t223 _ A5.out).mono ?_); rintro e w' ⟨rfl, ⟨nd, rfl⟩⟩; refine ⟨_, rfl, ?_⟩; (try (rw [drewN_self w15]; generalize hq_ : World.drewN w15 _ = w15; have n0_ : Aside0 (w15.heap[gb220]? = some (.cells #[.bool a0_0, .int .u64 a0_1, .int .u64 a0_2] 30 (0, 0))) := ⟨by rw [← hq_]; exact bk_⟩; have n1_ : Aside0 (w15.heap[gb221]? = some (.cells #[.bool false, .int .u64 0, .int .u64 0] 30 (0, 0))) := ⟨by rw [← hq_]; exact bk_⟩; have n2_ : Aside0 (Below w.heap.size w w15) := ⟨by rw [← hq_]; exact bel_⟩; clear BK220 BK221 HB hq_; have BK220 := n0_; have BK221 := n1_; have HB := n2_; clear n0_ n1_ n2_)); obtain ⟨hcz16_0, hcz16_1, hcz16_2, hfz16_0, hfz16_1, hfz16_2⟩ := cf3_ (w := w15) BK220.out) | ((with_reducible refine gate_callee (f := 71) rfl ?_); refine goesL_ (some 23) rfl rfl Try.func71 (by kernel_rfl) rfl #[.int .u64 a0_1, .int .u64 t223] rfl mp_ ?_; (with_reducible refine (bits_Mul64.calls a0_1 t223 t224 t225 _ A6.out).mono ?_); rintro e w' ⟨rfl, ⟨nd, rfl⟩⟩; refine ⟨_, rfl, ?_⟩; (try (rw [drewN_self w15]; generalize hq_ : World.drewN w15 _ = w15; have n0_ : Aside0 (w15.heap[gb220]? = some (.cells #[.bool a0_0, .int .u64 a0_1, .int .u64 a0_2] 30 (0, 0))) := ⟨by rw [← hq_]; exact bk_⟩; have n1_ : Aside0 (w15.heap[gb221]? = some (.cells #[.bool false, .int .u64 0, .int .u64 0] 30 (0, 0))) := ⟨by rw [← hq_]; exact bk_⟩; have n2_ : Aside0 (Below w.heap.size w w15) := ⟨by rw [← hq_]; exact bel_⟩; clear BK220 BK221 HB hq_; have BK220 := n0_; have BK221 := n1_; have HB := n2_; clear n0_ n1_ n2_)); (try (obtain ⟨hcz16_0, hcz16_1, hcz16_2, hfz16_0, hfz16_1, hfz16_2⟩ := cf3_ (w := w15) BK220.out))) | ((with_reducible refine gate_callee (f := 71) rfl ?_); refine goesL_ (some 30) rfl rfl Try.func71 (by kernel_rfl) rfl #[.int .u64 a0_2, .int .u64 t223] rfl mp_ ?_; (with_reducible refine (bits_Mul64.calls a0_2 t223 t226 t227 _ A7.out).mono ?_); rintro e w' ⟨rfl, ⟨nd, rfl⟩⟩; refine ⟨_, rfl, ?_⟩; (try (rw [drewN_self w15]; generalize hq_ : World.drewN w15 _ = w15; have n0_ : Aside0 (w15.heap[gb220]? = some (.cells #[.bool a0_0, .int .u64 a0_1, .int .u64 a0_2] 30 (0, 0))) := ⟨by rw [← hq_]; exact bk_⟩; have n1_ : Aside0 (w15.heap[gb221]? = some (.cells #[.bool false, .int .u64 0, .int .u64 0] 30 (0, 0))) := ⟨by rw [← hq_]; exact bk_⟩; have n2_ : Aside0 (Below w.heap.size w w15) := ⟨by rw [← hq_]; exact bel_⟩; clear BK220 BK221 HB hq_; have BK220 := n0_; have BK221 := n1_; have HB := n2_; clear n0_ n1_ n2_)); (try (obtain ⟨hcz16_0, hcz16_1, hcz16_2, hfz16_0, hfz16_1, hfz16_2⟩ := cf3_ (w := w15) BK220.out))) | ((with_reducible refine gate_callee (f := 65) rfl ?_); refine goesX_ (some 36) rfl rfl #[.int .u64 t225, .int .u64 t226, .int .u64 0] rfl mp_ (bits_Add64.run t225 t226 0 t228 t229 _ A8.out) ?_; (try (rw [drewN_self w15]; generalize hq_ : World.drewN w15 _ = w15; have n0_ : Aside0 (w15.heap[gb220]? = some (.cells #[.bool a0_0, .int .u64 a0_1, .int .u64 a0_2] 30 (0, 0))) := ⟨by rw [← hq_]; exact bk_⟩; have n1_ : Aside0 (w15.heap[gb221]? = some (.cells #[.bool false, .int .u64 0, .int .u64 0] 30 (0, 0))) := ⟨by rw [← hq_]; exact bk_⟩; have n2_ : Aside0 (Below w.heap.size w w15) := ⟨by rw [← hq_]; exact bel_⟩; clear BK220 BK221 HB hq_; have BK220 := n0_; have BK221 := n1_; have HB := n2_; clear n0_ n1_ n2_)); (try (obtain ⟨hcz16_0, hcz16_1, hcz16_2, hfz16_0, hfz16_1, hfz16_2⟩ := cf3_ (w := w15) BK220.out))) | ((with_reducible refine gate_callee (f := 42) rfl ?_); refine goesL_ (some 46) rfl rfl Try.func42 (by kernel_rfl) rfl #[.bool (a0_0 != (decide (a1 < 0))), .int .u64 t228, .int .u64 t227] rfl mp_ ?_; (with_reducible refine (impl_wideOf.calls (a0_0 != (decide (a1 < 0))) t228 t227 t230 t231 t232 _ A9.out).mono ?_); rintro e w17 ⟨rfl, hb⟩; refine ⟨_, rfl, ?_⟩; have n0_ := bb_ (g := gb220) (o := .cells #[.bool a0_0, .int .u64 a0_1, .int .u64 a0_2] 30 (0, 0)) hb; have n1_ := bb_ (g := gb221) (o := .cells #[.bool false, .int .u64 0, .int .u64 0] 30 (0, 0)) hb; have n2_ := Aside0.mk (below_step bel_ hb); clear BK220; clear BK221; clear HB; have BK220 := n0_; have BK221 := n1_; have HB := n2_; clear n0_ n1_ n2_; (try clear hb); (try clear hb2); (try clear hk); (try clear hi)) | ((with_reducible refine gate_dst (N := 12) rfl ?_); refine box_event ?hg (N := 12) ?hd (cs := #[.bool false, .int .u64 0, .int .u64 0]) (t := 30) ?hr ?_; (case hd => rfl); (case hg => rfl); (case hr => first | (go_simp; done) | (go_simp; rfl)); intro gb233 hg w18 hbox hb; have n0_ := bb_ (g := gb220) (o := .cells #[.bool a0_0, .int .u64 a0_1, .int .u64 a0_2] 30 (0, 0)) hb; have n1_ := bb_ (g := gb221) (o := .cells #[.bool false, .int .u64 0, .int .u64 0] 30 (0, 0)) hb; have n2_ := Aside0.mk (below_step bel_ hb); have n3_ := Aside0.mk (hbox); have n4_ := bs_ (w := w) hg; have n5_ := bs_ (w := w) hg; have n6_ := nlt_ (g := gb220) (o := .cells #[.bool a0_0, .int .u64 a0_1, .int .u64 a0_2] 30 (0, 0)) hg; have n7_ := ngt_ (g := gb220) (o := .cells #[.bool a0_0, .int .u64 a0_1, .int .u64 a0_2] 30 (0, 0)) hg; have n8_ := nlt_ (g := gb221) (o := .cells #[.bool false, .int .u64 0, .int .u64 0] 30 (0, 0)) hg; have n9_ := ngt_ (g := gb221) (o := .cells #[.bool false, .int .u64 0, .int .u64 0] 30 (0, 0)) hg; clear BK220; clear BK221; clear HB; have BK220 := n0_; have BK221 := n1_; have HB := n2_; have BK233 := n3_; have GW233 := n4_; have GE233 := n5_; have NB220_233 := n6_; have NB233_220 := n7_; have NB221_233 := n8_; have NB233_221 := n9_; clear n0_ n1_ n2_ n3_ n4_ n5_ n6_ n7_ n8_ n9_; clear hb hbox hg; have hnb19 := NB233_220.out; have hnc19 := NB220_233.out; have hnb20 := NB233_221.out; have hnc20 := NB221_233.out; obtain ⟨hcz21_0, hcz21_1, hcz21_2, hfz21_0, hfz21_1, hfz21_2⟩ := cf3_ (w := w18) BK233.out; obtain ⟨hcz22_0, hcz22_1, hcz22_2, hfz22_0, hfz22_1, hfz22_2⟩ := cf3_ (w := w18) BK221.out))
      refine bodyPost_ret (results_ct rfl _ _ gb221 30 #[.bool false, .int .u64 0, .int .u64 0] (0, 0) _ rfl (pu_ #[.bool false, .int .u64 0, .int .u64 0] 2 (h := (pu_ #[.bool false, .int .u64 0, .int .u64 0] 1 (h := (pu_ #[.bool false, .int .u64 0, .int .u64 0] 0 (h := bk_)))))) Try.underlying30 rfl (by kernel_rfl)) rfl ?_
      exact ⟨by first | rfl | (simp [errW_none, errW_some] <;> rfl) | (simp [*, errW_none, errW_some] <;> rfl), by repeat (first | (with_reducible first | exact HB.out | apply below_alloc | apply pw_below_drewN | apply below_drew1 | refine below_set ?_ GE220.out | refine below_set ?_ GE221.out | refine below_set ?_ GE233.out) | exact HB.out)⟩
    · rw [if_neg c10] at H
      have c10b0 : decide (0 < t224) = false := decide_eq_false c10
      clear c10
      by_cases c23 : t229 > 0
      · rw [if_pos c23] at H
        have c23b0 : decide (0 < t229) = true := decide_eq_true c23
        clear c23
        simp only [Option.some.injEq, Prod.mk.injEq] at H
        obtain ⟨rfl, rfl, rfl, rfl⟩ := H
        go_enter Try.func47, Try.ntmps47
        go_wp2_with (first | ((with_reducible refine gate_dst (N := 2) rfl ?_); refine box_event ?hg (N := 2) ?hd (cs := #[.bool a0_0, .int .u64 a0_1, .int .u64 a0_2]) (t := 30) ?hr ?_; (case hd => rfl); (case hg => rfl); (case hr => first | (go_simp; done) | (go_simp; rfl)); intro gb220 hg w24 hbox hb; have n0_ := Aside0.mk (below_step bel_ hb); have n1_ := Aside0.mk (hbox); have n2_ := bs_ (w := w) hg; have n3_ := bs_ (w := w) hg; clear HB; have HB := n0_; have BK220 := n1_; have GW220 := n2_; have GE220 := n3_; clear n0_ n1_ n2_ n3_; clear hb hbox hg) | ((with_reducible refine gate_dst (N := 4) rfl ?_); refine box_event ?hg (N := 4) ?hd (cs := #[.bool false, .int .u64 0, .int .u64 0]) (t := 30) ?hr ?_; (case hd => rfl); (case hg => rfl); (case hr => first | (go_simp; done) | (go_simp; rfl)); intro gb221 hg w25 hbox hb; have n0_ := bb_ (g := gb220) (o := .cells #[.bool a0_0, .int .u64 a0_1, .int .u64 a0_2] 30 (0, 0)) hb; have n1_ := Aside0.mk (below_step bel_ hb); have n2_ := Aside0.mk (hbox); have n3_ := bs_ (w := w) hg; have n4_ := bs_ (w := w) hg; have n5_ := nlt_ (g := gb220) (o := .cells #[.bool a0_0, .int .u64 a0_1, .int .u64 a0_2] 30 (0, 0)) hg; have n6_ := ngt_ (g := gb220) (o := .cells #[.bool a0_0, .int .u64 a0_1, .int .u64 a0_2] 30 (0, 0)) hg; clear BK220; clear HB; have BK220 := n0_; have HB := n1_; have BK221 := n2_; have GW221 := n3_; have GE221 := n4_; have NB220_221 := n5_; have NB221_220 := n6_; clear n0_ n1_ n2_ n3_ n4_ n5_ n6_; clear hb hbox hg; have hnb26 := NB220_221.out; have hnc26 := NB221_220.out; obtain ⟨hcz27_0, hcz27_1, hcz27_2, hfz27_0, hfz27_1, hfz27_2⟩ := cf3_ (w := w25) BK220.out) | ((with_reducible refine gate_callee (f := 63) rfl ?_); refine goesL_ (some 14) rfl rfl Try.func63 (by kernel_rfl) rfl #[.agg #[.bool a0_0, .int .u64 a0_1, .int .u64 a0_2]] rfl mp_ ?_; (with_reducible refine (impl_WideOk.calls a0_0 a0_1 a0_2 true _ A3.out).mono ?_); rintro e w28 ⟨rfl, hb⟩; refine ⟨_, rfl, ?_⟩; have n0_ := bb_ (g := gb220) (o := .cells #[.bool a0_0, .int .u64 a0_1, .int .u64 a0_2] 30 (0, 0)) hb; have n1_ := bb_ (g := gb221) (o := .cells #[.bool false, .int .u64 0, .int .u64 0] 30 (0, 0)) hb; have n2_ := Aside0.mk (below_step bel_ hb); clear BK220; clear BK221; clear HB; have BK220 := n0_; have BK221 := n1_; have HB := n2_; clear n0_ n1_ n2_; (try clear hb); (try clear hb2); (try clear hk); (try clear hi)) | ((with_reducible refine gate_callee (f := 66) rfl ?_); refine goesL_ (some 18) rfl rfl Try.func66 (by kernel_rfl) rfl #[.int .i64 a1] rfl mp_ ?_; (with_reducible refine (impl_size.calls a1 t223 _ A5.out).mono ?_); rintro e w' ⟨rfl, ⟨nd, rfl⟩⟩; refine ⟨_, rfl, ?_⟩; (try (rw [drewN_self w28]; generalize hq_ : World.drewN w28 _ = w28; have n0_ : Aside0 (w28.heap[gb220]? = some (.cells #[.bool a0_0, .int .u64 a0_1, .int .u64 a0_2] 30 (0, 0))) := ⟨by rw [← hq_]; exact bk_⟩; have n1_ : Aside0 (w28.heap[gb221]? = some (.cells #[.bool false, .int .u64 0, .int .u64 0] 30 (0, 0))) := ⟨by rw [← hq_]; exact bk_⟩; have n2_ : Aside0 (Below w.heap.size w w28) := ⟨by rw [← hq_]; exact bel_⟩; clear BK220 BK221 HB hq_; have BK220 := n0_; have BK221 := n1_; have HB := n2_; clear n0_ n1_ n2_)); obtain ⟨hcz29_0, hcz29_1, hcz29_2, hfz29_0, hfz29_1, hfz29_2⟩ := cf3_ (w := w28) BK220.out) | ((with_reducible refine gate_callee (f := 71) rfl ?_); refine goesL_ (some 23) rfl rfl Try.func71 (by kernel_rfl) rfl #[.int .u64 a0_1, .int .u64 t223] rfl mp_ ?_; (with_reducible refine (bits_Mul64.calls a0_1 t223 t224 t225 _ A6.out).mono ?_); rintro e w' ⟨rfl, ⟨nd, rfl⟩⟩; refine ⟨_, rfl, ?_⟩; (try (rw [drewN_self w28]; generalize hq_ : World.drewN w28 _ = w28; have n0_ : Aside0 (w28.heap[gb220]? = some (.cells #[.bool a0_0, .int .u64 a0_1, .int .u64 a0_2] 30 (0, 0))) := ⟨by rw [← hq_]; exact bk_⟩; have n1_ : Aside0 (w28.heap[gb221]? = some (.cells #[.bool false, .int .u64 0, .int .u64 0] 30 (0, 0))) := ⟨by rw [← hq_]; exact bk_⟩; have n2_ : Aside0 (Below w.heap.size w w28) := ⟨by rw [← hq_]; exact bel_⟩; clear BK220 BK221 HB hq_; have BK220 := n0_; have BK221 := n1_; have HB := n2_; clear n0_ n1_ n2_)); (try (obtain ⟨hcz29_0, hcz29_1, hcz29_2, hfz29_0, hfz29_1, hfz29_2⟩ := cf3_ (w := w28) BK220.out))) | ((with_reducible refine gate_callee (f := 71) rfl ?_); refine goesL_ (some 30) rfl rfl Try.func71 (by kernel_rfl) rfl #[.int .u64 a0_2, .int .u64 t223] rfl mp_ ?_; (with_reducible refine (bits_Mul64.calls a0_2 t223 t226 t227 _ A7.out).mono ?_); rintro e w' ⟨rfl, ⟨nd, rfl⟩⟩; refine ⟨_, rfl, ?_⟩; (try (rw [drewN_self w28]; generalize hq_ : World.drewN w28 _ = w28; have n0_ : Aside0 (w28.heap[gb220]? = some (.cells #[.bool a0_0, .int .u64 a0_1, .int .u64 a0_2] 30 (0, 0))) := ⟨by rw [← hq_]; exact bk_⟩; have n1_ : Aside0 (w28.heap[gb221]? = some (.cells #[.bool false, .int .u64 0, .int .u64 0] 30 (0, 0))) := ⟨by rw [← hq_]; exact bk_⟩; have n2_ : Aside0 (Below w.heap.size w w28) := ⟨by rw [← hq_]; exact bel_⟩; clear BK220 BK221 HB hq_; have BK220 := n0_; have BK221 := n1_; have HB := n2_; clear n0_ n1_ n2_)); (try (obtain ⟨hcz29_0, hcz29_1, hcz29_2, hfz29_0, hfz29_1, hfz29_2⟩ := cf3_ (w := w28) BK220.out))) | ((with_reducible refine gate_callee (f := 65) rfl ?_); refine goesX_ (some 36) rfl rfl #[.int .u64 t225, .int .u64 t226, .int .u64 0] rfl mp_ (bits_Add64.run t225 t226 0 t228 t229 _ A8.out) ?_; (try (rw [drewN_self w28]; generalize hq_ : World.drewN w28 _ = w28; have n0_ : Aside0 (w28.heap[gb220]? = some (.cells #[.bool a0_0, .int .u64 a0_1, .int .u64 a0_2] 30 (0, 0))) := ⟨by rw [← hq_]; exact bk_⟩; have n1_ : Aside0 (w28.heap[gb221]? = some (.cells #[.bool false, .int .u64 0, .int .u64 0] 30 (0, 0))) := ⟨by rw [← hq_]; exact bk_⟩; have n2_ : Aside0 (Below w.heap.size w w28) := ⟨by rw [← hq_]; exact bel_⟩; clear BK220 BK221 HB hq_; have BK220 := n0_; have BK221 := n1_; have HB := n2_; clear n0_ n1_ n2_)); (try (obtain ⟨hcz29_0, hcz29_1, hcz29_2, hfz29_0, hfz29_1, hfz29_2⟩ := cf3_ (w := w28) BK220.out))) | ((with_reducible refine gate_callee (f := 42) rfl ?_); refine goesL_ (some 46) rfl rfl Try.func42 (by kernel_rfl) rfl #[.bool (a0_0 != (decide (a1 < 0))), .int .u64 t228, .int .u64 t227] rfl mp_ ?_; (with_reducible refine (impl_wideOf.calls (a0_0 != (decide (a1 < 0))) t228 t227 t230 t231 t232 _ A9.out).mono ?_); rintro e w30 ⟨rfl, hb⟩; refine ⟨_, rfl, ?_⟩; have n0_ := bb_ (g := gb220) (o := .cells #[.bool a0_0, .int .u64 a0_1, .int .u64 a0_2] 30 (0, 0)) hb; have n1_ := bb_ (g := gb221) (o := .cells #[.bool false, .int .u64 0, .int .u64 0] 30 (0, 0)) hb; have n2_ := Aside0.mk (below_step bel_ hb); clear BK220; clear BK221; clear HB; have BK220 := n0_; have BK221 := n1_; have HB := n2_; clear n0_ n1_ n2_; (try clear hb); (try clear hb2); (try clear hk); (try clear hi)) | ((with_reducible refine gate_dst (N := 12) rfl ?_); refine box_event ?hg (N := 12) ?hd (cs := #[.bool false, .int .u64 0, .int .u64 0]) (t := 30) ?hr ?_; (case hd => rfl); (case hg => rfl); (case hr => first | (go_simp; done) | (go_simp; rfl)); intro gb233 hg w31 hbox hb; have n0_ := bb_ (g := gb220) (o := .cells #[.bool a0_0, .int .u64 a0_1, .int .u64 a0_2] 30 (0, 0)) hb; have n1_ := bb_ (g := gb221) (o := .cells #[.bool false, .int .u64 0, .int .u64 0] 30 (0, 0)) hb; have n2_ := Aside0.mk (below_step bel_ hb); have n3_ := Aside0.mk (hbox); have n4_ := bs_ (w := w) hg; have n5_ := bs_ (w := w) hg; have n6_ := nlt_ (g := gb220) (o := .cells #[.bool a0_0, .int .u64 a0_1, .int .u64 a0_2] 30 (0, 0)) hg; have n7_ := ngt_ (g := gb220) (o := .cells #[.bool a0_0, .int .u64 a0_1, .int .u64 a0_2] 30 (0, 0)) hg; have n8_ := nlt_ (g := gb221) (o := .cells #[.bool false, .int .u64 0, .int .u64 0] 30 (0, 0)) hg; have n9_ := ngt_ (g := gb221) (o := .cells #[.bool false, .int .u64 0, .int .u64 0] 30 (0, 0)) hg; clear BK220; clear BK221; clear HB; have BK220 := n0_; have BK221 := n1_; have HB := n2_; have BK233 := n3_; have GW233 := n4_; have GE233 := n5_; have NB220_233 := n6_; have NB233_220 := n7_; have NB221_233 := n8_; have NB233_221 := n9_; clear n0_ n1_ n2_ n3_ n4_ n5_ n6_ n7_ n8_ n9_; clear hb hbox hg; have hnb32 := NB233_220.out; have hnc32 := NB220_233.out; have hnb33 := NB233_221.out; have hnc33 := NB221_233.out; obtain ⟨hcz34_0, hcz34_1, hcz34_2, hfz34_0, hfz34_1, hfz34_2⟩ := cf3_ (w := w31) BK233.out; obtain ⟨hcz35_0, hcz35_1, hcz35_2, hfz35_0, hfz35_1, hfz35_2⟩ := cf3_ (w := w31) BK221.out))
        refine bodyPost_ret (results_ct rfl _ _ gb221 30 #[.bool false, .int .u64 0, .int .u64 0] (0, 0) _ rfl (pu_ #[.bool false, .int .u64 0, .int .u64 0] 2 (h := (pu_ #[.bool false, .int .u64 0, .int .u64 0] 1 (h := (pu_ #[.bool false, .int .u64 0, .int .u64 0] 0 (h := bk_)))))) Try.underlying30 rfl (by kernel_rfl)) rfl ?_
        exact ⟨by first | rfl | (simp [errW_none, errW_some] <;> rfl) | (simp [*, errW_none, errW_some] <;> rfl), by repeat (first | (with_reducible first | exact HB.out | apply below_alloc | apply pw_below_drewN | apply below_drew1 | refine below_set ?_ GE220.out | refine below_set ?_ GE221.out | refine below_set ?_ GE233.out) | exact HB.out)⟩
      · rw [if_neg c23] at H
        have c23b0 : decide (0 < t229) = false := decide_eq_false c23
        clear c23
        replace H := Option.bind_eq_some_iff.mp H
        obtain ⟨t234, A360, H⟩ := H
        replace H : (if t234 = true then (some (t230, t231, t232, true)) else (some (false, 0, 0, false))) = some (r1, r2, r3, r4) := H
        have A36 := Aside0.mk A360
        clear A360
        by_cases c37 : t234 = true
        · subst c37
          have H1 : (some (t230, t231, t232, true)) = some (r1, r2, r3, r4) := by rw [if_pos rfl] at H; exact H
          clear H
          have H := H1
          clear H1
          simp only [Option.some.injEq, Prod.mk.injEq] at H
          obtain ⟨rfl, rfl, rfl, rfl⟩ := H
          go_enter Try.func47, Try.ntmps47
          go_wp2_with (first | ((with_reducible refine gate_dst (N := 2) rfl ?_); refine box_event ?hg (N := 2) ?hd (cs := #[.bool a0_0, .int .u64 a0_1, .int .u64 a0_2]) (t := 30) ?hr ?_; (case hd => rfl); (case hg => rfl); (case hr => first | (go_simp; done) | (go_simp; rfl)); intro gb220 hg w38 hbox hb; have n0_ := Aside0.mk (below_step bel_ hb); have n1_ := Aside0.mk (hbox); have n2_ := bs_ (w := w) hg; have n3_ := bs_ (w := w) hg; clear HB; have HB := n0_; have BK220 := n1_; have GW220 := n2_; have GE220 := n3_; clear n0_ n1_ n2_ n3_; clear hb hbox hg) | ((with_reducible refine gate_dst (N := 4) rfl ?_); refine box_event ?hg (N := 4) ?hd (cs := #[.bool false, .int .u64 0, .int .u64 0]) (t := 30) ?hr ?_; (case hd => rfl); (case hg => rfl); (case hr => first | (go_simp; done) | (go_simp; rfl)); intro gb221 hg w39 hbox hb; have n0_ := bb_ (g := gb220) (o := .cells #[.bool a0_0, .int .u64 a0_1, .int .u64 a0_2] 30 (0, 0)) hb; have n1_ := Aside0.mk (below_step bel_ hb); have n2_ := Aside0.mk (hbox); have n3_ := bs_ (w := w) hg; have n4_ := bs_ (w := w) hg; have n5_ := nlt_ (g := gb220) (o := .cells #[.bool a0_0, .int .u64 a0_1, .int .u64 a0_2] 30 (0, 0)) hg; have n6_ := ngt_ (g := gb220) (o := .cells #[.bool a0_0, .int .u64 a0_1, .int .u64 a0_2] 30 (0, 0)) hg; clear BK220; clear HB; have BK220 := n0_; have HB := n1_; have BK221 := n2_; have GW221 := n3_; have GE221 := n4_; have NB220_221 := n5_; have NB221_220 := n6_; clear n0_ n1_ n2_ n3_ n4_ n5_ n6_; clear hb hbox hg; have hnb40 := NB220_221.out; have hnc40 := NB221_220.out; obtain ⟨hcz41_0, hcz41_1, hcz41_2, hfz41_0, hfz41_1, hfz41_2⟩ := cf3_ (w := w39) BK220.out) | ((with_reducible refine gate_callee (f := 63) rfl ?_); refine goesL_ (some 14) rfl rfl Try.func63 (by kernel_rfl) rfl #[.agg #[.bool a0_0, .int .u64 a0_1, .int .u64 a0_2]] rfl mp_ ?_; (with_reducible refine (impl_WideOk.calls a0_0 a0_1 a0_2 true _ A3.out).mono ?_); rintro e w42 ⟨rfl, hb⟩; refine ⟨_, rfl, ?_⟩; have n0_ := bb_ (g := gb220) (o := .cells #[.bool a0_0, .int .u64 a0_1, .int .u64 a0_2] 30 (0, 0)) hb; have n1_ := bb_ (g := gb221) (o := .cells #[.bool false, .int .u64 0, .int .u64 0] 30 (0, 0)) hb; have n2_ := Aside0.mk (below_step bel_ hb); clear BK220; clear BK221; clear HB; have BK220 := n0_; have BK221 := n1_; have HB := n2_; clear n0_ n1_ n2_; (try clear hb); (try clear hb2); (try clear hk); (try clear hi)) | ((with_reducible refine gate_callee (f := 66) rfl ?_); refine goesL_ (some 18) rfl rfl Try.func66 (by kernel_rfl) rfl #[.int .i64 a1] rfl mp_ ?_; (with_reducible refine (impl_size.calls a1 t223 _ A5.out).mono ?_); rintro e w' ⟨rfl, ⟨nd, rfl⟩⟩; refine ⟨_, rfl, ?_⟩; (try (rw [drewN_self w42]; generalize hq_ : World.drewN w42 _ = w42; have n0_ : Aside0 (w42.heap[gb220]? = some (.cells #[.bool a0_0, .int .u64 a0_1, .int .u64 a0_2] 30 (0, 0))) := ⟨by rw [← hq_]; exact bk_⟩; have n1_ : Aside0 (w42.heap[gb221]? = some (.cells #[.bool false, .int .u64 0, .int .u64 0] 30 (0, 0))) := ⟨by rw [← hq_]; exact bk_⟩; have n2_ : Aside0 (Below w.heap.size w w42) := ⟨by rw [← hq_]; exact bel_⟩; clear BK220 BK221 HB hq_; have BK220 := n0_; have BK221 := n1_; have HB := n2_; clear n0_ n1_ n2_)); obtain ⟨hcz43_0, hcz43_1, hcz43_2, hfz43_0, hfz43_1, hfz43_2⟩ := cf3_ (w := w42) BK220.out) | ((with_reducible refine gate_callee (f := 71) rfl ?_); refine goesL_ (some 23) rfl rfl Try.func71 (by kernel_rfl) rfl #[.int .u64 a0_1, .int .u64 t223] rfl mp_ ?_; (with_reducible refine (bits_Mul64.calls a0_1 t223 t224 t225 _ A6.out).mono ?_); rintro e w' ⟨rfl, ⟨nd, rfl⟩⟩; refine ⟨_, rfl, ?_⟩; (try (rw [drewN_self w42]; generalize hq_ : World.drewN w42 _ = w42; have n0_ : Aside0 (w42.heap[gb220]? = some (.cells #[.bool a0_0, .int .u64 a0_1, .int .u64 a0_2] 30 (0, 0))) := ⟨by rw [← hq_]; exact bk_⟩; have n1_ : Aside0 (w42.heap[gb221]? = some (.cells #[.bool false, .int .u64 0, .int .u64 0] 30 (0, 0))) := ⟨by rw [← hq_]; exact bk_⟩; have n2_ : Aside0 (Below w.heap.size w w42) := ⟨by rw [← hq_]; exact bel_⟩; clear BK220 BK221 HB hq_; have BK220 := n0_; have BK221 := n1_; have HB := n2_; clear n0_ n1_ n2_)); (try (obtain ⟨hcz43_0, hcz43_1, hcz43_2, hfz43_0, hfz43_1, hfz43_2⟩ := cf3_ (w := w42) BK220.out))) | ((with_reducible refine gate_callee (f := 71) rfl ?_); refine goesL_ (some 30) rfl rfl Try.func71 (by kernel_rfl) rfl #[.int .u64 a0_2, .int .u64 t223] rfl mp_ ?_; (with_reducible refine (bits_Mul64.calls a0_2 t223 t226 t227 _ A7.out).mono ?_); rintro e w' ⟨rfl, ⟨nd, rfl⟩⟩; refine ⟨_, rfl, ?_⟩; (try (rw [drewN_self w42]; generalize hq_ : World.drewN w42 _ = w42; have n0_ : Aside0 (w42.heap[gb220]? = some (.cells #[.bool a0_0, .int .u64 a0_1, .int .u64 a0_2] 30 (0, 0))) := ⟨by rw [← hq_]; exact bk_⟩; have n1_ : Aside0 (w42.heap[gb221]? = some (.cells #[.bool false, .int .u64 0, .int .u64 0] 30 (0, 0))) := ⟨by rw [← hq_]; exact bk_⟩; have n2_ : Aside0 (Below w.heap.size w w42) := ⟨by rw [← hq_]; exact bel_⟩; clear BK220 BK221 HB hq_; have BK220 := n0_; have BK221 := n1_; have HB := n2_; clear n0_ n1_ n2_)); (try (obtain ⟨hcz43_0, hcz43_1, hcz43_2, hfz43_0, hfz43_1, hfz43_2⟩ := cf3_ (w := w42) BK220.out))) | ((with_reducible refine gate_callee (f := 65) rfl ?_); refine goesX_ (some 36) rfl rfl #[.int .u64 t225, .int .u64 t226, .int .u64 0] rfl mp_ (bits_Add64.run t225 t226 0 t228 t229 _ A8.out) ?_; (try (rw [drewN_self w42]; generalize hq_ : World.drewN w42 _ = w42; have n0_ : Aside0 (w42.heap[gb220]? = some (.cells #[.bool a0_0, .int .u64 a0_1, .int .u64 a0_2] 30 (0, 0))) := ⟨by rw [← hq_]; exact bk_⟩; have n1_ : Aside0 (w42.heap[gb221]? = some (.cells #[.bool false, .int .u64 0, .int .u64 0] 30 (0, 0))) := ⟨by rw [← hq_]; exact bk_⟩; have n2_ : Aside0 (Below w.heap.size w w42) := ⟨by rw [← hq_]; exact bel_⟩; clear BK220 BK221 HB hq_; have BK220 := n0_; have BK221 := n1_; have HB := n2_; clear n0_ n1_ n2_)); (try (obtain ⟨hcz43_0, hcz43_1, hcz43_2, hfz43_0, hfz43_1, hfz43_2⟩ := cf3_ (w := w42) BK220.out))) | ((with_reducible refine gate_callee (f := 42) rfl ?_); refine goesL_ (some 46) rfl rfl Try.func42 (by kernel_rfl) rfl #[.bool (a0_0 != (decide (a1 < 0))), .int .u64 t228, .int .u64 t227] rfl mp_ ?_; (with_reducible refine (impl_wideOf.calls (a0_0 != (decide (a1 < 0))) t228 t227 t230 t231 t232 _ A9.out).mono ?_); rintro e w44 ⟨rfl, hb⟩; refine ⟨_, rfl, ?_⟩; have n0_ := bb_ (g := gb220) (o := .cells #[.bool a0_0, .int .u64 a0_1, .int .u64 a0_2] 30 (0, 0)) hb; have n1_ := bb_ (g := gb221) (o := .cells #[.bool false, .int .u64 0, .int .u64 0] 30 (0, 0)) hb; have n2_ := Aside0.mk (below_step bel_ hb); clear BK220; clear BK221; clear HB; have BK220 := n0_; have BK221 := n1_; have HB := n2_; clear n0_ n1_ n2_; (try clear hb); (try clear hb2); (try clear hk); (try clear hi)) | ((with_reducible refine gate_dst (N := 12) rfl ?_); refine box_event ?hg (N := 12) ?hd (cs := #[.bool false, .int .u64 0, .int .u64 0]) (t := 30) ?hr ?_; (case hd => rfl); (case hg => rfl); (case hr => first | (go_simp; done) | (go_simp; rfl)); intro gb233 hg w45 hbox hb; have n0_ := bb_ (g := gb220) (o := .cells #[.bool a0_0, .int .u64 a0_1, .int .u64 a0_2] 30 (0, 0)) hb; have n1_ := bb_ (g := gb221) (o := .cells #[.bool false, .int .u64 0, .int .u64 0] 30 (0, 0)) hb; have n2_ := Aside0.mk (below_step bel_ hb); have n3_ := Aside0.mk (hbox); have n4_ := bs_ (w := w) hg; have n5_ := bs_ (w := w) hg; have n6_ := nlt_ (g := gb220) (o := .cells #[.bool a0_0, .int .u64 a0_1, .int .u64 a0_2] 30 (0, 0)) hg; have n7_ := ngt_ (g := gb220) (o := .cells #[.bool a0_0, .int .u64 a0_1, .int .u64 a0_2] 30 (0, 0)) hg; have n8_ := nlt_ (g := gb221) (o := .cells #[.bool false, .int .u64 0, .int .u64 0] 30 (0, 0)) hg; have n9_ := ngt_ (g := gb221) (o := .cells #[.bool false, .int .u64 0, .int .u64 0] 30 (0, 0)) hg; clear BK220; clear BK221; clear HB; have BK220 := n0_; have BK221 := n1_; have HB := n2_; have BK233 := n3_; have GW233 := n4_; have GE233 := n5_; have NB220_233 := n6_; have NB233_220 := n7_; have NB221_233 := n8_; have NB233_221 := n9_; clear n0_ n1_ n2_ n3_ n4_ n5_ n6_ n7_ n8_ n9_; clear hb hbox hg; have hnb46 := NB233_220.out; have hnc46 := NB220_233.out; have hnb47 := NB233_221.out; have hnc47 := NB221_233.out; obtain ⟨hcz48_0, hcz48_1, hcz48_2, hfz48_0, hfz48_1, hfz48_2⟩ := cf3_ (w := w45) BK233.out) | (go_at_call 63; (with_reducible refine (impl_WideOk.calls t230 t231 t232 true _ A36.out).mono ?_); rintro e w49 ⟨rfl, hb⟩; have n0_ := Aside0.mk (blk_below (g := gb220) (o := .cells #[.bool a0_0, .int .u64 a0_1, .int .u64 a0_2] 30 (0, 0)) bk_ hb); have n1_ := Aside0.mk (blk_below (g := gb221) (o := .cells #[.bool false, .int .u64 0, .int .u64 0] 30 (0, 0)) bk_ hb); have n2_ := Aside0.mk (blk_below (g := gb233) (o := .cells #[.bool t230, .int .u64 t231, .int .u64 t232] 30 (0, 0)) (pu_ #[.bool t230, .int .u64 t231, .int .u64 0] 2 (h := (pu_ #[.bool t230, .int .u64 0, .int .u64 0] 1 (h := (pu_ #[.bool false, .int .u64 0, .int .u64 0] 0 (h := bk_)))))) hb); have n3_ := Aside0.mk (below_step bel_ hb); clear BK220; clear BK221; clear BK233; clear HB; have BK220 := n0_; have BK221 := n1_; have BK233 := n2_; have HB := n3_; clear n0_ n1_ n2_ n3_; (try clear hb); (try clear hb2); (try clear hk); (try clear hi); obtain ⟨hcz50_0, hcz50_1, hcz50_2, hfz50_0, hfz50_1, hfz50_2⟩ := cf3_ (w := w49) BK233.out; obtain ⟨hcz51_0, hcz51_1, hcz51_2, hfz51_0, hfz51_1, hfz51_2⟩ := cf3_ (w := w49) BK221.out))
          refine bodyPost_ret (results_ct rfl _ _ gb221 30 #[.bool t230, .int .u64 t231, .int .u64 t232] (0, 0) _ rfl (pu_ #[.bool t230, .int .u64 t231, .int .u64 0] 2 (h := (pu_ #[.bool t230, .int .u64 0, .int .u64 0] 1 (h := (pu_ #[.bool false, .int .u64 0, .int .u64 0] 0 (h := bk_)))))) Try.underlying30 rfl (by kernel_rfl)) rfl ?_
          exact ⟨by first | rfl | (simp [errW_none, errW_some] <;> rfl) | (simp [*, errW_none, errW_some] <;> rfl), by repeat (first | (with_reducible first | exact HB.out | apply below_alloc | apply pw_below_drewN | apply below_drew1 | refine below_set ?_ GE220.out | refine below_set ?_ GE221.out | refine below_set ?_ GE233.out) | exact HB.out)⟩
        · replace c37 := Bool.eq_false_iff.mpr c37
          subst c37
          have H1 : (some (false, 0, 0, false)) = some (r1, r2, r3, r4) := by rw [if_neg (show ¬ (false = true) by decide)] at H; exact H
          clear H
          have H := H1
          clear H1
          simp only [Option.some.injEq, Prod.mk.injEq] at H
          obtain ⟨rfl, rfl, rfl, rfl⟩ := H
          go_enter Try.func47, Try.ntmps47
          go_wp2_with (first | ((with_reducible refine gate_dst (N := 2) rfl ?_); refine box_event ?hg (N := 2) ?hd (cs := #[.bool a0_0, .int .u64 a0_1, .int .u64 a0_2]) (t := 30) ?hr ?_; (case hd => rfl); (case hg => rfl); (case hr => first | (go_simp; done) | (go_simp; rfl)); intro gb220 hg w52 hbox hb; have n0_ := Aside0.mk (below_step bel_ hb); have n1_ := Aside0.mk (hbox); have n2_ := bs_ (w := w) hg; have n3_ := bs_ (w := w) hg; clear HB; have HB := n0_; have BK220 := n1_; have GW220 := n2_; have GE220 := n3_; clear n0_ n1_ n2_ n3_; clear hb hbox hg) | ((with_reducible refine gate_dst (N := 4) rfl ?_); refine box_event ?hg (N := 4) ?hd (cs := #[.bool false, .int .u64 0, .int .u64 0]) (t := 30) ?hr ?_; (case hd => rfl); (case hg => rfl); (case hr => first | (go_simp; done) | (go_simp; rfl)); intro gb221 hg w53 hbox hb; have n0_ := bb_ (g := gb220) (o := .cells #[.bool a0_0, .int .u64 a0_1, .int .u64 a0_2] 30 (0, 0)) hb; have n1_ := Aside0.mk (below_step bel_ hb); have n2_ := Aside0.mk (hbox); have n3_ := bs_ (w := w) hg; have n4_ := bs_ (w := w) hg; have n5_ := nlt_ (g := gb220) (o := .cells #[.bool a0_0, .int .u64 a0_1, .int .u64 a0_2] 30 (0, 0)) hg; have n6_ := ngt_ (g := gb220) (o := .cells #[.bool a0_0, .int .u64 a0_1, .int .u64 a0_2] 30 (0, 0)) hg; clear BK220; clear HB; have BK220 := n0_; have HB := n1_; have BK221 := n2_; have GW221 := n3_; have GE221 := n4_; have NB220_221 := n5_; have NB221_220 := n6_; clear n0_ n1_ n2_ n3_ n4_ n5_ n6_; clear hb hbox hg; have hnb54 := NB220_221.out; have hnc54 := NB221_220.out; obtain ⟨hcz55_0, hcz55_1, hcz55_2, hfz55_0, hfz55_1, hfz55_2⟩ := cf3_ (w := w53) BK220.out) | ((with_reducible refine gate_callee (f := 63) rfl ?_); refine goesL_ (some 14) rfl rfl Try.func63 (by kernel_rfl) rfl #[.agg #[.bool a0_0, .int .u64 a0_1, .int .u64 a0_2]] rfl mp_ ?_; (with_reducible refine (impl_WideOk.calls a0_0 a0_1 a0_2 true _ A3.out).mono ?_); rintro e w56 ⟨rfl, hb⟩; refine ⟨_, rfl, ?_⟩; have n0_ := bb_ (g := gb220) (o := .cells #[.bool a0_0, .int .u64 a0_1, .int .u64 a0_2] 30 (0, 0)) hb; have n1_ := bb_ (g := gb221) (o := .cells #[.bool false, .int .u64 0, .int .u64 0] 30 (0, 0)) hb; have n2_ := Aside0.mk (below_step bel_ hb); clear BK220; clear BK221; clear HB; have BK220 := n0_; have BK221 := n1_; have HB := n2_; clear n0_ n1_ n2_; (try clear hb); (try clear hb2); (try clear hk); (try clear hi)) | ((with_reducible refine gate_callee (f := 66) rfl ?_); refine goesL_ (some 18) rfl rfl Try.func66 (by kernel_rfl) rfl #[.int .i64 a1] rfl mp_ ?_; (with_reducible refine (impl_size.calls a1 t223 _ A5.out).mono ?_); rintro e w' ⟨rfl, ⟨nd, rfl⟩⟩; refine ⟨_, rfl, ?_⟩; (try (rw [drewN_self w56]; generalize hq_ : World.drewN w56 _ = w56; have n0_ : Aside0 (w56.heap[gb220]? = some (.cells #[.bool a0_0, .int .u64 a0_1, .int .u64 a0_2] 30 (0, 0))) := ⟨by rw [← hq_]; exact bk_⟩; have n1_ : Aside0 (w56.heap[gb221]? = some (.cells #[.bool false, .int .u64 0, .int .u64 0] 30 (0, 0))) := ⟨by rw [← hq_]; exact bk_⟩; have n2_ : Aside0 (Below w.heap.size w w56) := ⟨by rw [← hq_]; exact bel_⟩; clear BK220 BK221 HB hq_; have BK220 := n0_; have BK221 := n1_; have HB := n2_; clear n0_ n1_ n2_)); obtain ⟨hcz57_0, hcz57_1, hcz57_2, hfz57_0, hfz57_1, hfz57_2⟩ := cf3_ (w := w56) BK220.out) | ((with_reducible refine gate_callee (f := 71) rfl ?_); refine goesL_ (some 23) rfl rfl Try.func71 (by kernel_rfl) rfl #[.int .u64 a0_1, .int .u64 t223] rfl mp_ ?_; (with_reducible refine (bits_Mul64.calls a0_1 t223 t224 t225 _ A6.out).mono ?_); rintro e w' ⟨rfl, ⟨nd, rfl⟩⟩; refine ⟨_, rfl, ?_⟩; (try (rw [drewN_self w56]; generalize hq_ : World.drewN w56 _ = w56; have n0_ : Aside0 (w56.heap[gb220]? = some (.cells #[.bool a0_0, .int .u64 a0_1, .int .u64 a0_2] 30 (0, 0))) := ⟨by rw [← hq_]; exact bk_⟩; have n1_ : Aside0 (w56.heap[gb221]? = some (.cells #[.bool false, .int .u64 0, .int .u64 0] 30 (0, 0))) := ⟨by rw [← hq_]; exact bk_⟩; have n2_ : Aside0 (Below w.heap.size w w56) := ⟨by rw [← hq_]; exact bel_⟩; clear BK220 BK221 HB hq_; have BK220 := n0_; have BK221 := n1_; have HB := n2_; clear n0_ n1_ n2_)); (try (obtain ⟨hcz57_0, hcz57_1, hcz57_2, hfz57_0, hfz57_1, hfz57_2⟩ := cf3_ (w := w56) BK220.out))) | ((with_reducible refine gate_callee (f := 71) rfl ?_); refine goesL_ (some 30) rfl rfl Try.func71 (by kernel_rfl) rfl #[.int .u64 a0_2, .int .u64 t223] rfl mp_ ?_; (with_reducible refine (bits_Mul64.calls a0_2 t223 t226 t227 _ A7.out).mono ?_); rintro e w' ⟨rfl, ⟨nd, rfl⟩⟩; refine ⟨_, rfl, ?_⟩; (try (rw [drewN_self w56]; generalize hq_ : World.drewN w56 _ = w56; have n0_ : Aside0 (w56.heap[gb220]? = some (.cells #[.bool a0_0, .int .u64 a0_1, .int .u64 a0_2] 30 (0, 0))) := ⟨by rw [← hq_]; exact bk_⟩; have n1_ : Aside0 (w56.heap[gb221]? = some (.cells #[.bool false, .int .u64 0, .int .u64 0] 30 (0, 0))) := ⟨by rw [← hq_]; exact bk_⟩; have n2_ : Aside0 (Below w.heap.size w w56) := ⟨by rw [← hq_]; exact bel_⟩; clear BK220 BK221 HB hq_; have BK220 := n0_; have BK221 := n1_; have HB := n2_; clear n0_ n1_ n2_)); (try (obtain ⟨hcz57_0, hcz57_1, hcz57_2, hfz57_0, hfz57_1, hfz57_2⟩ := cf3_ (w := w56) BK220.out))) | ((with_reducible refine gate_callee (f := 65) rfl ?_); refine goesX_ (some 36) rfl rfl #[.int .u64 t225, .int .u64 t226, .int .u64 0] rfl mp_ (bits_Add64.run t225 t226 0 t228 t229 _ A8.out) ?_; (try (rw [drewN_self w56]; generalize hq_ : World.drewN w56 _ = w56; have n0_ : Aside0 (w56.heap[gb220]? = some (.cells #[.bool a0_0, .int .u64 a0_1, .int .u64 a0_2] 30 (0, 0))) := ⟨by rw [← hq_]; exact bk_⟩; have n1_ : Aside0 (w56.heap[gb221]? = some (.cells #[.bool false, .int .u64 0, .int .u64 0] 30 (0, 0))) := ⟨by rw [← hq_]; exact bk_⟩; have n2_ : Aside0 (Below w.heap.size w w56) := ⟨by rw [← hq_]; exact bel_⟩; clear BK220 BK221 HB hq_; have BK220 := n0_; have BK221 := n1_; have HB := n2_; clear n0_ n1_ n2_)); (try (obtain ⟨hcz57_0, hcz57_1, hcz57_2, hfz57_0, hfz57_1, hfz57_2⟩ := cf3_ (w := w56) BK220.out))) | ((with_reducible refine gate_callee (f := 42) rfl ?_); refine goesL_ (some 46) rfl rfl Try.func42 (by kernel_rfl) rfl #[.bool (a0_0 != (decide (a1 < 0))), .int .u64 t228, .int .u64 t227] rfl mp_ ?_; (with_reducible refine (impl_wideOf.calls (a0_0 != (decide (a1 < 0))) t228 t227 t230 t231 t232 _ A9.out).mono ?_); rintro e w58 ⟨rfl, hb⟩; refine ⟨_, rfl, ?_⟩; have n0_ := bb_ (g := gb220) (o := .cells #[.bool a0_0, .int .u64 a0_1, .int .u64 a0_2] 30 (0, 0)) hb; have n1_ := bb_ (g := gb221) (o := .cells #[.bool false, .int .u64 0, .int .u64 0] 30 (0, 0)) hb; have n2_ := Aside0.mk (below_step bel_ hb); clear BK220; clear BK221; clear HB; have BK220 := n0_; have BK221 := n1_; have HB := n2_; clear n0_ n1_ n2_; (try clear hb); (try clear hb2); (try clear hk); (try clear hi)) | ((with_reducible refine gate_dst (N := 12) rfl ?_); refine box_event ?hg (N := 12) ?hd (cs := #[.bool false, .int .u64 0, .int .u64 0]) (t := 30) ?hr ?_; (case hd => rfl); (case hg => rfl); (case hr => first | (go_simp; done) | (go_simp; rfl)); intro gb233 hg w59 hbox hb; have n0_ := bb_ (g := gb220) (o := .cells #[.bool a0_0, .int .u64 a0_1, .int .u64 a0_2] 30 (0, 0)) hb; have n1_ := bb_ (g := gb221) (o := .cells #[.bool false, .int .u64 0, .int .u64 0] 30 (0, 0)) hb; have n2_ := Aside0.mk (below_step bel_ hb); have n3_ := Aside0.mk (hbox); have n4_ := bs_ (w := w) hg; have n5_ := bs_ (w := w) hg; have n6_ := nlt_ (g := gb220) (o := .cells #[.bool a0_0, .int .u64 a0_1, .int .u64 a0_2] 30 (0, 0)) hg; have n7_ := ngt_ (g := gb220) (o := .cells #[.bool a0_0, .int .u64 a0_1, .int .u64 a0_2] 30 (0, 0)) hg; have n8_ := nlt_ (g := gb221) (o := .cells #[.bool false, .int .u64 0, .int .u64 0] 30 (0, 0)) hg; have n9_ := ngt_ (g := gb221) (o := .cells #[.bool false, .int .u64 0, .int .u64 0] 30 (0, 0)) hg; clear BK220; clear BK221; clear HB; have BK220 := n0_; have BK221 := n1_; have HB := n2_; have BK233 := n3_; have GW233 := n4_; have GE233 := n5_; have NB220_233 := n6_; have NB233_220 := n7_; have NB221_233 := n8_; have NB233_221 := n9_; clear n0_ n1_ n2_ n3_ n4_ n5_ n6_ n7_ n8_ n9_; clear hb hbox hg; have hnb60 := NB233_220.out; have hnc60 := NB220_233.out; have hnb61 := NB233_221.out; have hnc61 := NB221_233.out; obtain ⟨hcz62_0, hcz62_1, hcz62_2, hfz62_0, hfz62_1, hfz62_2⟩ := cf3_ (w := w59) BK233.out) | (go_at_call 63; (with_reducible refine (impl_WideOk.calls t230 t231 t232 false _ A36.out).mono ?_); rintro e w63 ⟨rfl, hb⟩; have n0_ := Aside0.mk (blk_below (g := gb220) (o := .cells #[.bool a0_0, .int .u64 a0_1, .int .u64 a0_2] 30 (0, 0)) bk_ hb); have n1_ := Aside0.mk (blk_below (g := gb221) (o := .cells #[.bool false, .int .u64 0, .int .u64 0] 30 (0, 0)) bk_ hb); have n2_ := Aside0.mk (blk_below (g := gb233) (o := .cells #[.bool t230, .int .u64 t231, .int .u64 t232] 30 (0, 0)) (pu_ #[.bool t230, .int .u64 t231, .int .u64 0] 2 (h := (pu_ #[.bool t230, .int .u64 0, .int .u64 0] 1 (h := (pu_ #[.bool false, .int .u64 0, .int .u64 0] 0 (h := bk_)))))) hb); have n3_ := Aside0.mk (below_step bel_ hb); clear BK220; clear BK221; clear BK233; clear HB; have BK220 := n0_; have BK221 := n1_; have BK233 := n2_; have HB := n3_; clear n0_ n1_ n2_ n3_; (try clear hb); (try clear hb2); (try clear hk); (try clear hi); obtain ⟨hcz64_0, hcz64_1, hcz64_2, hfz64_0, hfz64_1, hfz64_2⟩ := cf3_ (w := w63) BK221.out))
          refine bodyPost_ret (results_ct rfl _ _ gb221 30 #[.bool false, .int .u64 0, .int .u64 0] (0, 0) _ rfl (pu_ #[.bool false, .int .u64 0, .int .u64 0] 2 (h := (pu_ #[.bool false, .int .u64 0, .int .u64 0] 1 (h := (pu_ #[.bool false, .int .u64 0, .int .u64 0] 0 (h := bk_)))))) Try.underlying30 rfl (by kernel_rfl)) rfl ?_
          exact ⟨by first | rfl | (simp [errW_none, errW_some] <;> rfl) | (simp [*, errW_none, errW_some] <;> rfl), by repeat (first | (with_reducible first | exact HB.out | apply below_alloc | apply pw_below_drewN | apply below_drew1 | refine below_set ?_ GE220.out | refine below_set ?_ GE221.out | refine below_set ?_ GE233.out) | exact HB.out)⟩
  · replace c4 := Bool.eq_false_iff.mpr c4
    subst c4
    have H1 : (some (false, 0, 0, false)) = some (r1, r2, r3, r4) := by rw [if_neg (show ¬ (false = true) by decide)] at H; exact H
    clear H
    have H := H1
    clear H1
    simp only [Option.some.injEq, Prod.mk.injEq] at H
    obtain ⟨rfl, rfl, rfl, rfl⟩ := H
    go_enter Try.func47, Try.ntmps47
    go_wp2_with (first | ((with_reducible refine gate_dst (N := 2) rfl ?_); refine box_event ?hg (N := 2) ?hd (cs := #[.bool a0_0, .int .u64 a0_1, .int .u64 a0_2]) (t := 30) ?hr ?_; (case hd => rfl); (case hg => rfl); (case hr => first | (go_simp; done) | (go_simp; rfl)); intro gb220 hg w65 hbox hb; have n0_ := Aside0.mk (below_step bel_ hb); have n1_ := Aside0.mk (hbox); have n2_ := bs_ (w := w) hg; have n3_ := bs_ (w := w) hg; clear HB; have HB := n0_; have BK220 := n1_; have GW220 := n2_; have GE220 := n3_; clear n0_ n1_ n2_ n3_; clear hb hbox hg) | ((with_reducible refine gate_dst (N := 4) rfl ?_); refine box_event ?hg (N := 4) ?hd (cs := #[.bool false, .int .u64 0, .int .u64 0]) (t := 30) ?hr ?_; (case hd => rfl); (case hg => rfl); (case hr => first | (go_simp; done) | (go_simp; rfl)); intro gb221 hg w66 hbox hb; have n0_ := bb_ (g := gb220) (o := .cells #[.bool a0_0, .int .u64 a0_1, .int .u64 a0_2] 30 (0, 0)) hb; have n1_ := Aside0.mk (below_step bel_ hb); have n2_ := Aside0.mk (hbox); have n3_ := bs_ (w := w) hg; have n4_ := bs_ (w := w) hg; have n5_ := nlt_ (g := gb220) (o := .cells #[.bool a0_0, .int .u64 a0_1, .int .u64 a0_2] 30 (0, 0)) hg; have n6_ := ngt_ (g := gb220) (o := .cells #[.bool a0_0, .int .u64 a0_1, .int .u64 a0_2] 30 (0, 0)) hg; clear BK220; clear HB; have BK220 := n0_; have HB := n1_; have BK221 := n2_; have GW221 := n3_; have GE221 := n4_; have NB220_221 := n5_; have NB221_220 := n6_; clear n0_ n1_ n2_ n3_ n4_ n5_ n6_; clear hb hbox hg; have hnb67 := NB220_221.out; have hnc67 := NB221_220.out; obtain ⟨hcz68_0, hcz68_1, hcz68_2, hfz68_0, hfz68_1, hfz68_2⟩ := cf3_ (w := w66) BK220.out) | ((with_reducible refine gate_callee (f := 63) rfl ?_); refine goesL_ (some 14) rfl rfl Try.func63 (by kernel_rfl) rfl #[.agg #[.bool a0_0, .int .u64 a0_1, .int .u64 a0_2]] rfl mp_ ?_; (with_reducible refine (impl_WideOk.calls a0_0 a0_1 a0_2 false _ A3.out).mono ?_); rintro e w69 ⟨rfl, hb⟩; refine ⟨_, rfl, ?_⟩; have n0_ := bb_ (g := gb220) (o := .cells #[.bool a0_0, .int .u64 a0_1, .int .u64 a0_2] 30 (0, 0)) hb; have n1_ := bb_ (g := gb221) (o := .cells #[.bool false, .int .u64 0, .int .u64 0] 30 (0, 0)) hb; have n2_ := Aside0.mk (below_step bel_ hb); clear BK220; clear BK221; clear HB; have BK220 := n0_; have BK221 := n1_; have HB := n2_; clear n0_ n1_ n2_; (try clear hb); (try clear hb2); (try clear hk); (try clear hi); obtain ⟨hcz70_0, hcz70_1, hcz70_2, hfz70_0, hfz70_1, hfz70_2⟩ := cf3_ (w := w69) BK221.out))
    refine bodyPost_ret (results_ct rfl _ _ gb221 30 #[.bool false, .int .u64 0, .int .u64 0] (0, 0) _ rfl (pu_ #[.bool false, .int .u64 0, .int .u64 0] 2 (h := (pu_ #[.bool false, .int .u64 0, .int .u64 0] 1 (h := (pu_ #[.bool false, .int .u64 0, .int .u64 0] 0 (h := bk_)))))) Try.underlying30 rfl (by kernel_rfl)) rfl ?_
    exact ⟨by first | rfl | (simp [errW_none, errW_some] <;> rfl) | (simp [*, errW_none, errW_some] <;> rfl), by repeat (first | (with_reducible first | exact HB.out | apply below_alloc | apply pw_below_drewN | apply below_drew1 | refine below_set ?_ GE220.out | refine below_set ?_ GE221.out) | exact HB.out)⟩

/-! ### impl_within: function 48 -/
def impl_within.f (a0 : Int) (a1 : Int) (a2 : Int) : Option (Bool) := if a0 ≥ a1 then (some (decide (a0 ≤ a2))) else (some false)
set_option maxHeartbeats 8000000 in
set_option maxRecDepth 100000 in
theorem impl_within.calls (a0 : Int) (a1 : Int) (a2 : Int) (r : Bool) (w : World) (h : impl_within.f a0 a1 a2 = some r) :
    Calls Try.prog 48 #[.int .i64 a0, .int .i64 a1, .int .i64 a2] w fun e w' => e = .returned (.bool r) ∧ Drawn0 w w' := by
  have H : (if a0 ≥ a1 then (some (decide (a0 ≤ a2))) else (some false)) = some r := h
  clear h
  by_cases c4 : a0 ≥ a1
  · rw [if_pos c4] at H
    have c4b0 : decide (a1 ≤ a0) = true := decide_eq_true c4
    clear c4
    obtain rfl := Option.some.inj H
    go_enter Try.func48, Try.ntmps48
    go_wp2
    go_ret
    exact ⟨by first | rfl | (simp; done) | (simp [*]; done), by repeat (first | exact Drawn0.refl _ | apply Drawn0.step)⟩
  · rw [if_neg c4] at H
    have c4b0 : decide (a1 ≤ a0) = false := decide_eq_false c4
    clear c4
    obtain rfl := Option.some.inj H
    go_enter Try.func48, Try.ntmps48
    go_wp2
    go_ret
    exact ⟨by first | rfl | (simp; done) | (simp [*]; done), by repeat (first | exact Drawn0.refl _ | apply Drawn0.step)⟩

/-! ### impl_FracOk: function 72 -/
def impl_FracOk.f (a0_0 : Bool) (a0_1 : Int) (a0_2 : Int) (a0_3 : Int) : Option (Bool) := (impl_WideOk.f a0_0 a0_1 a0_2).bind fun t236 => (if t236 = true then ((impl_within.f a0_3 1 1000000).bind fun t237 => (some t237)) else (some false))
set_option maxHeartbeats 8000000 in
set_option maxRecDepth 100000 in
theorem impl_FracOk.calls (a0_0 : Bool) (a0_1 : Int) (a0_2 : Int) (a0_3 : Int) (r : Bool) (w : World) (h : impl_FracOk.f a0_0 a0_1 a0_2 a0_3 = some r) :
    Calls Try.prog 72 #[.agg #[.bool a0_0, .int .u64 a0_1, .int .u64 a0_2, .int .i64 a0_3]] w fun e w' => e = .returned (.bool r) ∧ Below w.heap.size w w' := by
  have hu47 := Try.underlying47
  have hu30 := Try.underlying30
  have HB := Aside0.mk (Below.refl w.heap.size w)
  have H : ((impl_WideOk.f a0_0 a0_1 a0_2).bind fun t236 => (if t236 = true then ((impl_within.f a0_3 1 1000000).bind fun t237 => (some t237)) else (some false))) = some r := h
  clear h
  replace H := Option.bind_eq_some_iff.mp H
  obtain ⟨t236, A20, H⟩ := H
  replace H : (if t236 = true then ((impl_within.f a0_3 1 1000000).bind fun t237 => (some t237)) else (some false)) = some r := H
  have A2 := Aside0.mk A20
  clear A20
  by_cases c3 : t236 = true
  · subst c3
    have H1 : ((impl_within.f a0_3 1 1000000).bind fun t237 => (some t237)) = some r := by rw [if_pos rfl] at H; exact H
    clear H
    have H := H1
    clear H1
    replace H := Option.bind_eq_some_iff.mp H
    obtain ⟨t237, A40, H⟩ := H
    replace H : (some t237) = some r := H
    have A4 := Aside0.mk A40
    clear A40
    obtain rfl := Option.some.inj H
    go_enter Try.func72, Try.ntmps72
    go_wp2_with (first | ((with_reducible refine gate_dst (N := 1) rfl ?_); refine box_event ?hg (N := 1) ?hd (cs := #[.bool a0_0, .int .u64 a0_1, .int .u64 a0_2, .int .i64 a0_3]) (t := 47) ?hr ?_; (case hd => rfl); (case hg => rfl); (case hr => first | (go_simp; done) | (go_simp; rfl)); intro gb235 hg w5 hbox hb; have n0_ := Aside0.mk (below_step bel_ hb); have n1_ := Aside0.mk (hbox); have n2_ := bs_ (w := w) hg; have n3_ := bs_ (w := w) hg; clear HB; have HB := n0_; have BK235 := n1_; have GW235 := n2_; have GE235 := n3_; clear n0_ n1_ n2_ n3_; clear hb hbox hg; obtain ⟨hcz6_0, hcz6_1, hcz6_2, hcz6_3, hfz6_0, hfz6_1, hfz6_2, hfz6_3⟩ := cf4_ (w := w5) BK235.out) | ((with_reducible refine gate_callee (f := 63) rfl ?_); refine goesL_ (some 5) rfl rfl Try.func63 (by kernel_rfl) rfl #[.agg #[.bool a0_0, .int .u64 a0_1, .int .u64 a0_2]] rfl mp_ ?_; (with_reducible refine (impl_WideOk.calls a0_0 a0_1 a0_2 true _ A2.out).mono ?_); rintro e w7 ⟨rfl, hb⟩; refine ⟨_, rfl, ?_⟩; have n0_ := bb_ (g := gb235) (o := .cells #[.bool a0_0, .int .u64 a0_1, .int .u64 a0_2, .int .i64 a0_3] 47 (0, 0)) hb; have n1_ := Aside0.mk (below_step bel_ hb); clear BK235; clear HB; have BK235 := n0_; have HB := n1_; clear n0_ n1_; (try clear hb); (try clear hb2); (try clear hk); (try clear hi); obtain ⟨hcz8_0, hcz8_1, hcz8_2, hcz8_3, hfz8_0, hfz8_1, hfz8_2, hfz8_3⟩ := cf4_ (w := w7) BK235.out) | (go_at_call 48; (with_reducible refine (impl_within.calls a0_3 1 1000000 t237 _ A4.out).mono ?_); rintro e w' ⟨rfl, ⟨nd, rfl⟩⟩))
    go_ret
    exact ⟨by first | rfl | (simp [errW_none, errW_some] <;> rfl) | (simp [*, errW_none, errW_some] <;> rfl), by repeat (first | (with_reducible first | exact HB.out | apply below_alloc | apply pw_below_drewN | apply below_drew1 | refine below_set ?_ GE235.out) | exact HB.out)⟩
  · replace c3 := Bool.eq_false_iff.mpr c3
    subst c3
    have H1 : (some false) = some r := by rw [if_neg (show ¬ (false = true) by decide)] at H; exact H
    clear H
    have H := H1
    clear H1
    obtain rfl := Option.some.inj H
    go_enter Try.func72, Try.ntmps72
    go_wp2_with (first | ((with_reducible refine gate_dst (N := 1) rfl ?_); refine box_event ?hg (N := 1) ?hd (cs := #[.bool a0_0, .int .u64 a0_1, .int .u64 a0_2, .int .i64 a0_3]) (t := 47) ?hr ?_; (case hd => rfl); (case hg => rfl); (case hr => first | (go_simp; done) | (go_simp; rfl)); intro gb235 hg w9 hbox hb; have n0_ := Aside0.mk (below_step bel_ hb); have n1_ := Aside0.mk (hbox); have n2_ := bs_ (w := w) hg; have n3_ := bs_ (w := w) hg; clear HB; have HB := n0_; have BK235 := n1_; have GW235 := n2_; have GE235 := n3_; clear n0_ n1_ n2_ n3_; clear hb hbox hg; obtain ⟨hcz10_0, hcz10_1, hcz10_2, hcz10_3, hfz10_0, hfz10_1, hfz10_2, hfz10_3⟩ := cf4_ (w := w9) BK235.out) | ((with_reducible refine gate_callee (f := 63) rfl ?_); refine goesL_ (some 5) rfl rfl Try.func63 (by kernel_rfl) rfl #[.agg #[.bool a0_0, .int .u64 a0_1, .int .u64 a0_2]] rfl mp_ ?_; (with_reducible refine (impl_WideOk.calls a0_0 a0_1 a0_2 false _ A2.out).mono ?_); rintro e w11 ⟨rfl, hb⟩; refine ⟨_, rfl, ?_⟩; have n0_ := bb_ (g := gb235) (o := .cells #[.bool a0_0, .int .u64 a0_1, .int .u64 a0_2, .int .i64 a0_3] 47 (0, 0)) hb; have n1_ := Aside0.mk (below_step bel_ hb); clear BK235; clear HB; have BK235 := n0_; have HB := n1_; clear n0_ n1_; (try clear hb); (try clear hb2); (try clear hk); (try clear hi)))
    go_ret
    exact ⟨by first | rfl | (simp [errW_none, errW_some] <;> rfl) | (simp [*, errW_none, errW_some] <;> rfl), by repeat (first | (with_reducible first | exact HB.out | apply below_alloc | apply pw_below_drewN | apply below_drew1 | refine below_set ?_ GE235.out) | exact HB.out)⟩

/-! ### impl_crossed: function 51 -/
def impl_crossed.j0 : Nat → Bool → Bool → Int → Int → Int → Bool → Int → Int → Int → Option (Bool × Int × Int × Bool × Int × Int × Bool)
  | 0, _, _, _, _, _, _, _, _, _ => none
  | k + 1, x18, x239000, x239001, x239002, x239003, x240000, x240001, x240002, x240003 => if x18 = true then (some (false, 0, 0, false, 0, 0, false)) else ((impl_ScaleWide.f x239000 x239001 x239002 x240003).bind fun bt244 => ((impl_ScaleWide.f x240000 x240001 x240002 x239003).bind fun bt249 => (if bt244.2.2.2 = true then (some (bt244.1, bt244.2.1, bt244.2.2.1, bt249.1, bt249.2.1, bt249.2.2.1, bt249.2.2.2)) else (some (bt244.1, bt244.2.1, bt244.2.2.1, bt249.1, bt249.2.1, bt249.2.2.1, false)))))
def impl_crossed.f (k : Nat) (a0_0 : Bool) (a0_1 : Int) (a0_2 : Int) (a0_3 : Int) (a1_0 : Bool) (a1_1 : Int) (a1_2 : Int) (a1_3 : Int) : Option (Bool × Int × Int × Bool × Int × Int × Bool) := (impl_FracOk.f a0_0 a0_1 a0_2 a0_3).bind fun t242 => (if t242 = true then ((impl_FracOk.f a1_0 a1_1 a1_2 a1_3).bind fun t243 => (impl_crossed.j0 k (!t243) a0_0 a0_1 a0_2 a0_3 a1_0 a1_1 a1_2 a1_3)) else (impl_crossed.j0 k true a0_0 a0_1 a0_2 a0_3 a1_0 a1_1 a1_2 a1_3))
theorem impl_crossed.mono_l : ∀ k, (∀ y0 y1 y2 y3 y4 y5 y6 y7 y8, LeO (impl_crossed.j0 k y0 y1 y2 y3 y4 y5 y6 y7 y8) (impl_crossed.j0 (k + 1) y0 y1 y2 y3 y4 y5 y6 y7 y8))
  | 0 => fun _ _ _ _ _ _ _ _ _ r h => by simp [impl_crossed.j0] at h
  | k + 1 => by
    have ih0 := impl_crossed.mono_l k
    · intro y0 y1 y2 y3 y4 y5 y6 y7 y8
      unfold impl_crossed.j0
      repeat' first
      | (with_reducible exact ih0 _ _ _ _ _ _ _ _ _)
      | (with_reducible exact LeO.refl _)
      | (with_reducible exact LeO.none _)
      | (with_reducible refine LeO.ite ?_ ?_)
      | (with_reducible refine LeO.bind ?_ (fun _ => ?_))
      | exact ih0 _ _ _ _ _ _ _ _ _
      | exact LeO.none _
      | refine LeO.ite ?_ ?_
      | refine LeO.bind ?_ (fun _ => ?_)
theorem impl_crossed.mono : ∀ a0 a1 a2 a3 a4 a5 a6 a7 k, LeO (impl_crossed.f k a0 a1 a2 a3 a4 a5 a6 a7) (impl_crossed.f (k + 1) a0 a1 a2 a3 a4 a5 a6 a7) := by
  intro a0 a1 a2 a3 a4 a5 a6 a7 k
  have ih0 := impl_crossed.mono_l k
  unfold impl_crossed.f
  repeat' first
      | (with_reducible exact ih0 _ _ _ _ _ _ _ _ _)
      | (with_reducible exact LeO.refl _)
      | (with_reducible exact LeO.none _)
      | (with_reducible refine LeO.ite ?_ ?_)
      | (with_reducible refine LeO.bind ?_ (fun _ => ?_))
      | exact ih0 _ _ _ _ _ _ _ _ _
      | exact LeO.none _
      | refine LeO.ite ?_ ?_
      | refine LeO.bind ?_ (fun _ => ?_)
def impl_crossed.T5 : Bool × List (List Nat × List Nat) := (true, [([], []), ([], []), ([], []), ([2], [2]), ([3], [3]), ([3, 4], [3, 4]), ([0, 3, 0], [0]), ([1, 6, 0, 1, 6], [1]), ([5, 7, 0, 1, 2, 3, 4, 5, 6, 7], [5])])
def impl_crossed.B5 : List Nat := [0, 0, 0, 4, 12, 28, 13, 79, 255]
theorem impl_crossed.tab5 : rtab .any (opsOf Try.f51 5) = impl_crossed.T5 := by kernel_rfl
theorem impl_crossed.bits5 : waitsOk impl_crossed.T5.2 impl_crossed.B5 = true := by kernel_rfl
set_option maxHeartbeats 8000000 in
set_option maxRecDepth 100000 in
theorem impl_crossed.calls (k : Nat) (a0_0 : Bool) (a0_1 : Int) (a0_2 : Int) (a0_3 : Int) (a1_0 : Bool) (a1_1 : Int) (a1_2 : Int) (a1_3 : Int) (r1 : Bool) (r2 : Int) (r3 : Int) (r4 : Bool) (r5 : Int) (r6 : Int) (r7 : Bool) (w : World) (h : impl_crossed.f k a0_0 a0_1 a0_2 a0_3 a1_0 a1_1 a1_2 a1_3 = some (r1, r2, r3, r4, r5, r6, r7)) :
    Calls Try.prog 51 #[.agg #[.bool a0_0, .int .u64 a0_1, .int .u64 a0_2, .int .i64 a0_3], .agg #[.bool a1_0, .int .u64 a1_1, .int .u64 a1_2, .int .i64 a1_3]] w fun e w' => e = .returned (.tuple #[.agg #[.bool r1, .int .u64 r2, .int .u64 r3], .agg #[.bool r4, .int .u64 r5, .int .u64 r6], .bool r7]) ∧ Below w.heap.size w w' := by
  have hu47 := Try.underlying47
  have hu30 := Try.underlying30
  have HB := Aside0.mk (Below.refl w.heap.size w)
  have H : ((impl_FracOk.f a0_0 a0_1 a0_2 a0_3).bind fun t242 => (if t242 = true then ((impl_FracOk.f a1_0 a1_1 a1_2 a1_3).bind fun t243 => (impl_crossed.j0 k (!t243) a0_0 a0_1 a0_2 a0_3 a1_0 a1_1 a1_2 a1_3)) else (impl_crossed.j0 k true a0_0 a0_1 a0_2 a0_3 a1_0 a1_1 a1_2 a1_3))) = some (r1, r2, r3, r4, r5, r6, r7) := h
  clear h
  have HC3 := Aside0.mk H
  clear H
  go_enter Try.func51, Try.ntmps51
  go_upto_region 1 with (first | ((with_reducible refine gate_dst (N := 2) rfl ?_); refine box_event ?hg (N := 2) ?hd (cs := #[.bool a0_0, .int .u64 a0_1, .int .u64 a0_2, .int .i64 a0_3]) (t := 47) ?hr ?_; (case hd => rfl); (case hg => rfl); (case hr => first | (go_simp; done) | (go_simp; rfl)); intro gb238 hg w4 hbox hb; have n0_ := Aside0.mk (below_step bel_ hb); have n1_ := Aside0.mk (hbox); have n2_ := bs_ (w := w) hg; have n3_ := bs_ (w := w) hg; clear HB; have HB := n0_; have BK238 := n1_; have GW238 := n2_; have GE238 := n3_; clear n0_ n1_ n2_ n3_; clear hb hbox hg) | ((with_reducible refine gate_dst (N := 3) rfl ?_); refine box_event ?hg (N := 3) ?hd (cs := #[.bool a1_0, .int .u64 a1_1, .int .u64 a1_2, .int .i64 a1_3]) (t := 47) ?hr ?_; (case hd => rfl); (case hg => rfl); (case hr => first | (go_simp; done) | (go_simp; rfl)); intro gb239 hg w5 hbox hb; have n0_ := bb_ (g := gb238) (o := .cells #[.bool a0_0, .int .u64 a0_1, .int .u64 a0_2, .int .i64 a0_3] 47 (0, 0)) hb; have n1_ := Aside0.mk (below_step bel_ hb); have n2_ := Aside0.mk (hbox); have n3_ := bs_ (w := w) hg; have n4_ := bs_ (w := w) hg; have n5_ := nlt_ (g := gb238) (o := .cells #[.bool a0_0, .int .u64 a0_1, .int .u64 a0_2, .int .i64 a0_3] 47 (0, 0)) hg; have n6_ := ngt_ (g := gb238) (o := .cells #[.bool a0_0, .int .u64 a0_1, .int .u64 a0_2, .int .i64 a0_3] 47 (0, 0)) hg; clear BK238; clear HB; have BK238 := n0_; have HB := n1_; have BK239 := n2_; have GW239 := n3_; have GE239 := n4_; have NB238_239 := n5_; have NB239_238 := n6_; clear n0_ n1_ n2_ n3_ n4_ n5_ n6_; clear hb hbox hg) | ((with_reducible refine gate_dst (N := 4) rfl ?_); refine box_event ?hg (N := 4) ?hd (cs := #[.bool false, .int .u64 0, .int .u64 0]) (t := 30) ?hr ?_; (case hd => rfl); (case hg => rfl); (case hr => first | (go_simp; done) | (go_simp; rfl)); intro gb240 hg w6 hbox hb; have n0_ := bb_ (g := gb238) (o := .cells #[.bool a0_0, .int .u64 a0_1, .int .u64 a0_2, .int .i64 a0_3] 47 (0, 0)) hb; have n1_ := bb_ (g := gb239) (o := .cells #[.bool a1_0, .int .u64 a1_1, .int .u64 a1_2, .int .i64 a1_3] 47 (0, 0)) hb; have n2_ := Aside0.mk (below_step bel_ hb); have n3_ := Aside0.mk (hbox); have n4_ := bs_ (w := w) hg; have n5_ := bs_ (w := w) hg; have n6_ := nlt_ (g := gb238) (o := .cells #[.bool a0_0, .int .u64 a0_1, .int .u64 a0_2, .int .i64 a0_3] 47 (0, 0)) hg; have n7_ := ngt_ (g := gb238) (o := .cells #[.bool a0_0, .int .u64 a0_1, .int .u64 a0_2, .int .i64 a0_3] 47 (0, 0)) hg; have n8_ := nlt_ (g := gb239) (o := .cells #[.bool a1_0, .int .u64 a1_1, .int .u64 a1_2, .int .i64 a1_3] 47 (0, 0)) hg; have n9_ := ngt_ (g := gb239) (o := .cells #[.bool a1_0, .int .u64 a1_1, .int .u64 a1_2, .int .i64 a1_3] 47 (0, 0)) hg; clear BK238; clear BK239; clear HB; have BK238 := n0_; have BK239 := n1_; have HB := n2_; have BK240 := n3_; have GW240 := n4_; have GE240 := n5_; have NB238_240 := n6_; have NB240_238 := n7_; have NB239_240 := n8_; have NB240_239 := n9_; clear n0_ n1_ n2_ n3_ n4_ n5_ n6_ n7_ n8_ n9_; clear hb hbox hg) | ((with_reducible refine gate_dst (N := 5) rfl ?_); refine box_event ?hg (N := 5) ?hd (cs := #[.bool false, .int .u64 0, .int .u64 0]) (t := 30) ?hr ?_; (case hd => rfl); (case hg => rfl); (case hr => first | (go_simp; done) | (go_simp; rfl)); intro gb241 hg w7 hbox hb; have n0_ := bb_ (g := gb238) (o := .cells #[.bool a0_0, .int .u64 a0_1, .int .u64 a0_2, .int .i64 a0_3] 47 (0, 0)) hb; have n1_ := bb_ (g := gb239) (o := .cells #[.bool a1_0, .int .u64 a1_1, .int .u64 a1_2, .int .i64 a1_3] 47 (0, 0)) hb; have n2_ := bb_ (g := gb240) (o := .cells #[.bool false, .int .u64 0, .int .u64 0] 30 (0, 0)) hb; have n3_ := Aside0.mk (below_step bel_ hb); have n4_ := Aside0.mk (hbox); have n5_ := bs_ (w := w) hg; have n6_ := bs_ (w := w) hg; have n7_ := nlt_ (g := gb238) (o := .cells #[.bool a0_0, .int .u64 a0_1, .int .u64 a0_2, .int .i64 a0_3] 47 (0, 0)) hg; have n8_ := ngt_ (g := gb238) (o := .cells #[.bool a0_0, .int .u64 a0_1, .int .u64 a0_2, .int .i64 a0_3] 47 (0, 0)) hg; have n9_ := nlt_ (g := gb239) (o := .cells #[.bool a1_0, .int .u64 a1_1, .int .u64 a1_2, .int .i64 a1_3] 47 (0, 0)) hg; have n10_ := ngt_ (g := gb239) (o := .cells #[.bool a1_0, .int .u64 a1_1, .int .u64 a1_2, .int .i64 a1_3] 47 (0, 0)) hg; have n11_ := nlt_ (g := gb240) (o := .cells #[.bool false, .int .u64 0, .int .u64 0] 30 (0, 0)) hg; have n12_ := ngt_ (g := gb240) (o := .cells #[.bool false, .int .u64 0, .int .u64 0] 30 (0, 0)) hg; clear BK238; clear BK239; clear BK240; clear HB; have BK238 := n0_; have BK239 := n1_; have BK240 := n2_; have HB := n3_; have BK241 := n4_; have GW241 := n5_; have GE241 := n6_; have NB238_241 := n7_; have NB241_238 := n8_; have NB239_241 := n9_; have NB241_239 := n10_; have NB240_241 := n11_; have NB241_240 := n12_; clear n0_ n1_ n2_ n3_ n4_ n5_ n6_ n7_ n8_ n9_ n10_ n11_ n12_; clear hb hbox hg))
  (try simp only [Act.put, la_, lb_, lc_])
  go_cut [18] (fun v18 wc => ∃ (kq : Nat) (x18_2 : Bool), v18 = .bool x18_2 ∧ Aside0 (impl_crossed.j0 kq x18_2 a0_0 a0_1 a0_2 a0_3 a1_0 a1_1 a1_2 a1_3 = some (r1, r2, r3, r4, r5, r6, r7)) ∧ Aside0 (kq ≤ k) ∧ Aside0 (wc.heap[gb238]? = some (.cells #[.bool a0_0, .int .u64 a0_1, .int .u64 a0_2, .int .i64 a0_3] 47 (0, 0))) ∧ Aside0 (wc.heap[gb239]? = some (.cells #[.bool a1_0, .int .u64 a1_1, .int .u64 a1_2, .int .i64 a1_3] 47 (0, 0))) ∧ Aside0 (wc.heap[gb240]? = some (.cells #[.bool false, .int .u64 0, .int .u64 0] 30 (0, 0))) ∧ Aside0 (wc.heap[gb241]? = some (.cells #[.bool false, .int .u64 0, .int .u64 0] 30 (0, 0))) ∧ Aside0 (Below w.heap.size w wc))
  case first =>
    have H := HC3.out
    clear HC3
    replace H := Option.bind_eq_some_iff.mp H
    obtain ⟨t242, A80, H⟩ := H
    replace H : (if t242 = true then ((impl_FracOk.f a1_0 a1_1 a1_2 a1_3).bind fun t243 => (impl_crossed.j0 k (!t243) a0_0 a0_1 a0_2 a0_3 a1_0 a1_1 a1_2 a1_3)) else (impl_crossed.j0 k true a0_0 a0_1 a0_2 a0_3 a1_0 a1_1 a1_2 a1_3)) = some (r1, r2, r3, r4, r5, r6, r7) := H
    have A8 := Aside0.mk A80
    clear A80
    by_cases c9 : t242 = true
    · subst c9
      have H1 : ((impl_FracOk.f a1_0 a1_1 a1_2 a1_3).bind fun t243 => (impl_crossed.j0 k (!t243) a0_0 a0_1 a0_2 a0_3 a1_0 a1_1 a1_2 a1_3)) = some (r1, r2, r3, r4, r5, r6, r7) := by rw [if_pos rfl] at H; exact H
      clear H
      have H := H1
      clear H1
      replace H := Option.bind_eq_some_iff.mp H
      obtain ⟨t243, A100, H⟩ := H
      replace H : (impl_crossed.j0 k (!t243) a0_0 a0_1 a0_2 a0_3 a1_0 a1_1 a1_2 a1_3) = some (r1, r2, r3, r4, r5, r6, r7) := H
      have A10 := Aside0.mk A100
      clear A100
      have H' := Aside0.mk H
      clear H
      have hnb11 := NB238_239.out
      have hnc11 := NB239_238.out
      have hnb12 := NB238_240.out
      have hnc12 := NB240_238.out
      have hnb13 := NB238_241.out
      have hnc13 := NB241_238.out
      obtain ⟨hcz14_0, hcz14_1, hcz14_2, hcz14_3, hfz14_0, hfz14_1, hfz14_2, hfz14_3⟩ := cf4_ (w := w7) BK238.out
      go_wp2_with (first | ((with_reducible refine gate_callee (f := 72) rfl ?_); refine goesL_ (some 12) rfl rfl Try.func72 (by kernel_rfl) rfl #[.agg #[.bool a0_0, .int .u64 a0_1, .int .u64 a0_2, .int .i64 a0_3]] rfl mp_ ?_; (with_reducible refine (impl_FracOk.calls a0_0 a0_1 a0_2 a0_3 true _ A8.out).mono ?_); rintro e w15 ⟨rfl, hb⟩; refine ⟨_, rfl, ?_⟩; have n0_ := bb_ (g := gb238) (o := .cells #[.bool a0_0, .int .u64 a0_1, .int .u64 a0_2, .int .i64 a0_3] 47 (0, 0)) hb; have n1_ := bb_ (g := gb239) (o := .cells #[.bool a1_0, .int .u64 a1_1, .int .u64 a1_2, .int .i64 a1_3] 47 (0, 0)) hb; have n2_ := bb_ (g := gb240) (o := .cells #[.bool false, .int .u64 0, .int .u64 0] 30 (0, 0)) hb; have n3_ := bb_ (g := gb241) (o := .cells #[.bool false, .int .u64 0, .int .u64 0] 30 (0, 0)) hb; have n4_ := Aside0.mk (below_step bel_ hb); clear BK238; clear BK239; clear BK240; clear BK241; clear HB; have BK238 := n0_; have BK239 := n1_; have BK240 := n2_; have BK241 := n3_; have HB := n4_; clear n0_ n1_ n2_ n3_ n4_; (try clear hb); (try clear hb2); (try clear hk); (try clear hi); have hnb16 := NB239_240.out; have hnc16 := NB240_239.out; have hnb17 := NB239_241.out; have hnc17 := NB241_239.out; obtain ⟨hcz18_0, hcz18_1, hcz18_2, hcz18_3, hfz18_0, hfz18_1, hfz18_2, hfz18_3⟩ := cf4_ (w := w15) BK239.out) | (go_at_call 72; (with_reducible refine (impl_FracOk.calls a1_0 a1_1 a1_2 a1_3 t243 _ A10.out).mono ?_); rintro e w19 ⟨rfl, hb⟩; have n0_ := bb_ (g := gb238) (o := .cells #[.bool a0_0, .int .u64 a0_1, .int .u64 a0_2, .int .i64 a0_3] 47 (0, 0)) hb; have n1_ := bb_ (g := gb239) (o := .cells #[.bool a1_0, .int .u64 a1_1, .int .u64 a1_2, .int .i64 a1_3] 47 (0, 0)) hb; have n2_ := bb_ (g := gb240) (o := .cells #[.bool false, .int .u64 0, .int .u64 0] 30 (0, 0)) hb; have n3_ := bb_ (g := gb241) (o := .cells #[.bool false, .int .u64 0, .int .u64 0] 30 (0, 0)) hb; have n4_ := Aside0.mk (below_step bel_ hb); clear BK238; clear BK239; clear BK240; clear BK241; clear HB; have BK238 := n0_; have BK239 := n1_; have BK240 := n2_; have BK241 := n3_; have HB := n4_; clear n0_ n1_ n2_ n3_ n4_; (try clear hb); (try clear hb2); (try clear hk); (try clear hi)))
      go_meet
      case rel => exact ⟨_, (!t243), (by first | rfl | (simp; done) | (simp [*]; done)), H', ⟨by first | omega | exact Nat.le_refl _⟩, ⟨by (with_reducible repeat (first | refine bN_ _ ?_ | refine bd_ ?_ | refine ba_ _ ?_)); exact BK238.out⟩, ⟨by (with_reducible repeat (first | refine bN_ _ ?_ | refine bd_ ?_ | refine ba_ _ ?_)); exact BK239.out⟩, ⟨by (with_reducible repeat (first | refine bN_ _ ?_ | refine bd_ ?_ | refine ba_ _ ?_)); exact BK240.out⟩, ⟨by (with_reducible repeat (first | refine bN_ _ ?_ | refine bd_ ?_ | refine ba_ _ ?_)); exact BK241.out⟩, ⟨by repeat (first | (with_reducible first | exact HB.out | apply below_alloc | apply pw_below_drewN | apply below_drew1 | refine below_set ?_ GE238.out | refine below_set ?_ GE239.out | refine below_set ?_ GE240.out | refine below_set ?_ GE241.out) | exact HB.out)⟩⟩
    · replace c9 := Bool.eq_false_iff.mpr c9
      subst c9
      have H1 : (impl_crossed.j0 k true a0_0 a0_1 a0_2 a0_3 a1_0 a1_1 a1_2 a1_3) = some (r1, r2, r3, r4, r5, r6, r7) := by rw [if_neg (show ¬ (false = true) by decide)] at H; exact H
      clear H
      have H := H1
      clear H1
      have H' := Aside0.mk H
      clear H
      have hnb20 := NB238_239.out
      have hnc20 := NB239_238.out
      have hnb21 := NB238_240.out
      have hnc21 := NB240_238.out
      have hnb22 := NB238_241.out
      have hnc22 := NB241_238.out
      obtain ⟨hcz23_0, hcz23_1, hcz23_2, hcz23_3, hfz23_0, hfz23_1, hfz23_2, hfz23_3⟩ := cf4_ (w := w7) BK238.out
      go_wp2_with (first | ((with_reducible refine gate_callee (f := 72) rfl ?_); refine goesL_ (some 12) rfl rfl Try.func72 (by kernel_rfl) rfl #[.agg #[.bool a0_0, .int .u64 a0_1, .int .u64 a0_2, .int .i64 a0_3]] rfl mp_ ?_; (with_reducible refine (impl_FracOk.calls a0_0 a0_1 a0_2 a0_3 false _ A8.out).mono ?_); rintro e w24 ⟨rfl, hb⟩; refine ⟨_, rfl, ?_⟩; have n0_ := bb_ (g := gb238) (o := .cells #[.bool a0_0, .int .u64 a0_1, .int .u64 a0_2, .int .i64 a0_3] 47 (0, 0)) hb; have n1_ := bb_ (g := gb239) (o := .cells #[.bool a1_0, .int .u64 a1_1, .int .u64 a1_2, .int .i64 a1_3] 47 (0, 0)) hb; have n2_ := bb_ (g := gb240) (o := .cells #[.bool false, .int .u64 0, .int .u64 0] 30 (0, 0)) hb; have n3_ := bb_ (g := gb241) (o := .cells #[.bool false, .int .u64 0, .int .u64 0] 30 (0, 0)) hb; have n4_ := Aside0.mk (below_step bel_ hb); clear BK238; clear BK239; clear BK240; clear BK241; clear HB; have BK238 := n0_; have BK239 := n1_; have BK240 := n2_; have BK241 := n3_; have HB := n4_; clear n0_ n1_ n2_ n3_ n4_; (try clear hb); (try clear hb2); (try clear hk); (try clear hi)))
      go_meet
      case rel => exact ⟨_, (true), (by first | rfl | (simp; done) | (simp [*]; done)), H', ⟨by first | omega | exact Nat.le_refl _⟩, ⟨by (with_reducible repeat (first | refine bN_ _ ?_ | refine bd_ ?_ | refine ba_ _ ?_)); exact BK238.out⟩, ⟨by (with_reducible repeat (first | refine bN_ _ ?_ | refine bd_ ?_ | refine ba_ _ ?_)); exact BK239.out⟩, ⟨by (with_reducible repeat (first | refine bN_ _ ?_ | refine bd_ ?_ | refine ba_ _ ?_)); exact BK240.out⟩, ⟨by (with_reducible repeat (first | refine bN_ _ ?_ | refine bd_ ?_ | refine ba_ _ ?_)); exact BK241.out⟩, ⟨by repeat (first | (with_reducible first | exact HB.out | apply below_alloc | apply pw_below_drewN | apply below_drew1 | refine below_set ?_ GE238.out | refine below_set ?_ GE239.out | refine below_set ?_ GE240.out | refine below_set ?_ GE241.out) | exact HB.out)⟩⟩
  case rest =>
    clear HC3
    try clear c1
    try clear c2
    try clear p2
    try clear c5
    try clear c7
    try clear c9
    try clear c11
    try clear c12
    try clear c13
    try clear c16
    try clear c17
    try clear c20
    try clear c21
    try clear c22
    try clear hcz14_0
    try clear hcz14_1
    try clear hcz14_2
    try clear hcz14_3
    try clear hcz18_0
    try clear hcz18_1
    try clear hcz18_2
    try clear hcz18_3
    try clear hcz23_0
    try clear hcz23_1
    try clear hcz23_2
    try clear hcz23_3
    try clear hfz14_0
    try clear hfz14_1
    try clear hfz14_2
    try clear hfz14_3
    try clear hfz18_0
    try clear hfz18_1
    try clear hfz18_2
    try clear hfz18_3
    try clear hfz23_0
    try clear hfz23_1
    try clear hfz23_2
    try clear hfz23_3
    obtain ⟨kq, x18_2, rfl, HA, HJ2, BK238, BK239, BK240, BK241, HB⟩ := hcut
    cases kq with
    | zero => exact absurd HA.out (by simp [impl_crossed.j0])
    | succ kj2 =>
      have H := HA.out
      clear HA
      simp only [impl_crossed.j0] at H
      by_cases c25 : x18_2 = true
      · subst c25
        have H1 : (some (false, 0, 0, false, 0, 0, false)) = some (r1, r2, r3, r4, r5, r6, r7) := by rw [if_pos rfl] at H; exact H
        clear H
        have H := H1
        clear H1
        simp only [Option.some.injEq, Prod.mk.injEq] at H
        obtain ⟨rfl, rfl, rfl, rfl, rfl, rfl, rfl⟩ := H
        have hnb26 := NB240_238.out
        have hnc26 := NB238_240.out
        have hnb27 := NB240_239.out
        have hnc27 := NB239_240.out
        have hnb28 := NB240_241.out
        have hnc28 := NB241_240.out
        obtain ⟨hcz29_0, hcz29_1, hcz29_2, hfz29_0, hfz29_1, hfz29_2⟩ := cf3_ (w := wc) BK240.out
        have hnb30 := NB241_238.out
        have hnc30 := NB238_241.out
        have hnb31 := NB241_239.out
        have hnc31 := NB239_241.out
        obtain ⟨hcz32_0, hcz32_1, hcz32_2, hfz32_0, hfz32_1, hfz32_2⟩ := cf3_ (w := wc) BK241.out
        go_wp2
        refine bodyPost_ret (results_list (rs := [.cell 4 30, .cell 5 30, .tmp 6]) rfl (by simp) (.cell gb240 30 #[.bool false, .int .u64 0, .int .u64 0] (0, 0) _ rfl (pu_ #[.bool false, .int .u64 0, .int .u64 0] 2 (h := (pu_ #[.bool false, .int .u64 0, .int .u64 0] 1 (h := (pu_ #[.bool false, .int .u64 0, .int .u64 0] 0 (h := bk_)))))) Try.underlying30 rfl (by kernel_rfl) (.cell gb241 30 #[.bool false, .int .u64 0, .int .u64 0] (0, 0) _ rfl (pu_ #[.bool false, .int .u64 0, .int .u64 0] 2 (h := (pu_ #[.bool false, .int .u64 0, .int .u64 0] 1 (h := (pu_ #[.bool false, .int .u64 0, .int .u64 0] 0 (h := bk_)))))) Try.underlying30 rfl (by kernel_rfl) (.tmp .nil)))) rfl ?_
        exact ⟨by first | rfl | (simp [errW_none, errW_some] <;> rfl) | (simp [*, errW_none, errW_some] <;> rfl), by repeat (first | (with_reducible first | exact HB.out | apply below_alloc | apply pw_below_drewN | apply below_drew1 | refine below_set ?_ GE238.out | refine below_set ?_ GE239.out | refine below_set ?_ GE240.out | refine below_set ?_ GE241.out) | exact HB.out)⟩
      · replace c25 := Bool.eq_false_iff.mpr c25
        subst c25
        have H1 : ((impl_ScaleWide.f a0_0 a0_1 a0_2 a1_3).bind fun bt244 => ((impl_ScaleWide.f a1_0 a1_1 a1_2 a0_3).bind fun bt249 => (if bt244.2.2.2 = true then (some (bt244.1, bt244.2.1, bt244.2.2.1, bt249.1, bt249.2.1, bt249.2.2.1, bt249.2.2.2)) else (some (bt244.1, bt244.2.1, bt244.2.2.1, bt249.1, bt249.2.1, bt249.2.2.1, false))))) = some (r1, r2, r3, r4, r5, r6, r7) := by rw [if_neg (show ¬ (false = true) by decide)] at H; exact H
        clear H
        have H := H1
        clear H1
        replace H := Option.bind_eq_some_iff.mp H
        obtain ⟨⟨t244, t245, t246, t247⟩, A330, H⟩ := H
        replace H : ((impl_ScaleWide.f a1_0 a1_1 a1_2 a0_3).bind fun bt249 => (if t247 = true then (some (t244, t245, t246, bt249.1, bt249.2.1, bt249.2.2.1, bt249.2.2.2)) else (some (t244, t245, t246, bt249.1, bt249.2.1, bt249.2.2.1, false)))) = some (r1, r2, r3, r4, r5, r6, r7) := H
        have A33 := Aside0.mk A330
        clear A330
        replace H := Option.bind_eq_some_iff.mp H
        obtain ⟨⟨t249, t250, t251, t252⟩, A340, H⟩ := H
        replace H : (if t247 = true then (some (t244, t245, t246, t249, t250, t251, t252)) else (some (t244, t245, t246, t249, t250, t251, false))) = some (r1, r2, r3, r4, r5, r6, r7) := H
        have A34 := Aside0.mk A340
        clear A340
        by_cases c35 : t247 = true
        · subst c35
          have H1 : (some (t244, t245, t246, t249, t250, t251, t252)) = some (r1, r2, r3, r4, r5, r6, r7) := by rw [if_pos rfl] at H; exact H
          clear H
          have H := H1
          clear H1
          simp only [Option.some.injEq, Prod.mk.injEq] at H
          obtain ⟨rfl, rfl, rfl, rfl, rfl, rfl, rfl⟩ := H
          have hnb36 := NB238_239.out
          have hnc36 := NB239_238.out
          have hnb37 := NB238_240.out
          have hnc37 := NB240_238.out
          have hnb38 := NB238_241.out
          have hnc38 := NB241_238.out
          obtain ⟨hcz39_0, hcz39_1, hcz39_2, hcz39_3, hfz39_0, hfz39_1, hfz39_2, hfz39_3⟩ := cf4_ (w := wc) BK238.out
          have hnb40 := NB239_240.out
          have hnc40 := NB240_239.out
          have hnb41 := NB239_241.out
          have hnc41 := NB241_239.out
          obtain ⟨hcz42_0, hcz42_1, hcz42_2, hcz42_3, hfz42_0, hfz42_1, hfz42_2, hfz42_3⟩ := cf4_ (w := wc) BK239.out
          try go_wp2_with (first | ((with_reducible refine gate_callee (f := 47) rfl ?_); refine goesL_ (some 26) rfl rfl Try.func47 (by kernel_rfl) rfl #[.agg #[.bool a0_0, .int .u64 a0_1, .int .u64 a0_2], .int .i64 a1_3] rfl mp_ ?_; (with_reducible refine (impl_ScaleWide.calls a0_0 a0_1 a0_2 a1_3 t244 t245 t246 true _ A33.out).mono ?_); rintro e w43 ⟨rfl, hb⟩; refine ⟨_, rfl, ?_⟩; have n0_ := bb_ (g := gb238) (o := .cells #[.bool a0_0, .int .u64 a0_1, .int .u64 a0_2, .int .i64 a0_3] 47 (0, 0)) hb; have n1_ := bb_ (g := gb239) (o := .cells #[.bool a1_0, .int .u64 a1_1, .int .u64 a1_2, .int .i64 a1_3] 47 (0, 0)) hb; have n2_ := bb_ (g := gb240) (o := .cells #[.bool false, .int .u64 0, .int .u64 0] 30 (0, 0)) hb; have n3_ := bb_ (g := gb241) (o := .cells #[.bool false, .int .u64 0, .int .u64 0] 30 (0, 0)) hb; have n4_ := Aside0.mk (below_step bel_ hb); clear BK238; clear BK239; clear BK240; clear BK241; clear HB; have BK238 := n0_; have BK239 := n1_; have BK240 := n2_; have BK241 := n3_; have HB := n4_; clear n0_ n1_ n2_ n3_ n4_; (try clear hb); (try clear hb2); (try clear hk); (try clear hi)) | ((with_reducible refine gate_dst (N := 7) rfl ?_); refine box_event ?hg (N := 7) ?hd (cs := #[.bool false, .int .u64 0, .int .u64 0]) (t := 30) ?hr ?_; (case hd => rfl); (case hg => rfl); (case hr => first | (go_simp; done) | (go_simp; rfl)); intro gb248 hg w44 hbox hb; have n0_ := bb_ (g := gb238) (o := .cells #[.bool a0_0, .int .u64 a0_1, .int .u64 a0_2, .int .i64 a0_3] 47 (0, 0)) hb; have n1_ := bb_ (g := gb239) (o := .cells #[.bool a1_0, .int .u64 a1_1, .int .u64 a1_2, .int .i64 a1_3] 47 (0, 0)) hb; have n2_ := bb_ (g := gb240) (o := .cells #[.bool false, .int .u64 0, .int .u64 0] 30 (0, 0)) hb; have n3_ := bb_ (g := gb241) (o := .cells #[.bool false, .int .u64 0, .int .u64 0] 30 (0, 0)) hb; have n4_ := Aside0.mk (below_step bel_ hb); have n5_ := Aside0.mk (hbox); have n6_ := bs_ (w := w) hg; have n7_ := bs_ (w := w) hg; have n8_ := nlt_ (g := gb238) (o := .cells #[.bool a0_0, .int .u64 a0_1, .int .u64 a0_2, .int .i64 a0_3] 47 (0, 0)) hg; have n9_ := ngt_ (g := gb238) (o := .cells #[.bool a0_0, .int .u64 a0_1, .int .u64 a0_2, .int .i64 a0_3] 47 (0, 0)) hg; have n10_ := nlt_ (g := gb239) (o := .cells #[.bool a1_0, .int .u64 a1_1, .int .u64 a1_2, .int .i64 a1_3] 47 (0, 0)) hg; have n11_ := ngt_ (g := gb239) (o := .cells #[.bool a1_0, .int .u64 a1_1, .int .u64 a1_2, .int .i64 a1_3] 47 (0, 0)) hg; have n12_ := nlt_ (g := gb240) (o := .cells #[.bool false, .int .u64 0, .int .u64 0] 30 (0, 0)) hg; have n13_ := ngt_ (g := gb240) (o := .cells #[.bool false, .int .u64 0, .int .u64 0] 30 (0, 0)) hg; have n14_ := nlt_ (g := gb241) (o := .cells #[.bool false, .int .u64 0, .int .u64 0] 30 (0, 0)) hg; have n15_ := ngt_ (g := gb241) (o := .cells #[.bool false, .int .u64 0, .int .u64 0] 30 (0, 0)) hg; clear BK238; clear BK239; clear BK240; clear BK241; clear HB; have BK238 := n0_; have BK239 := n1_; have BK240 := n2_; have BK241 := n3_; have HB := n4_; have BK248 := n5_; have GW248 := n6_; have GE248 := n7_; have NB238_248 := n8_; have NB248_238 := n9_; have NB239_248 := n10_; have NB248_239 := n11_; have NB240_248 := n12_; have NB248_240 := n13_; have NB241_248 := n14_; have NB248_241 := n15_; clear n0_ n1_ n2_ n3_ n4_ n5_ n6_ n7_ n8_ n9_ n10_ n11_ n12_ n13_ n14_ n15_; clear hb hbox hg; have hnb45 := NB248_238.out; have hnc45 := NB238_248.out; have hnb46 := NB248_239.out; have hnc46 := NB239_248.out; have hnb47 := NB248_240.out; have hnc47 := NB240_248.out; have hnb48 := NB248_241.out; have hnc48 := NB241_248.out; obtain ⟨hcz49_0, hcz49_1, hcz49_2, hfz49_0, hfz49_1, hfz49_2⟩ := cf3_ (w := w44) BK248.out; obtain ⟨hcz50_0, hcz50_1, hcz50_2, hcz50_3, hfz50_0, hfz50_1, hfz50_2, hfz50_3⟩ := cf4_ (w := w44) BK239.out; obtain ⟨hcz51_0, hcz51_1, hcz51_2, hcz51_3, hfz51_0, hfz51_1, hfz51_2, hfz51_3⟩ := cf4_ (w := w44) BK238.out) | ((with_reducible refine gate_callee (f := 47) rfl ?_); refine goesL_ (some 34) rfl rfl Try.func47 (by kernel_rfl) rfl #[.agg #[.bool a1_0, .int .u64 a1_1, .int .u64 a1_2], .int .i64 a0_3] rfl mp_ ?_; (with_reducible refine (impl_ScaleWide.calls a1_0 a1_1 a1_2 a0_3 t249 t250 t251 t252 _ A34.out).mono ?_); rintro e w52 ⟨rfl, hb⟩; refine ⟨_, rfl, ?_⟩; have n0_ := Aside0.mk (blk_below (g := gb238) (o := .cells #[.bool a0_0, .int .u64 a0_1, .int .u64 a0_2, .int .i64 a0_3] 47 (0, 0)) bk_ hb); have n1_ := Aside0.mk (blk_below (g := gb239) (o := .cells #[.bool a1_0, .int .u64 a1_1, .int .u64 a1_2, .int .i64 a1_3] 47 (0, 0)) bk_ hb); have n2_ := Aside0.mk (blk_below (g := gb240) (o := .cells #[.bool false, .int .u64 0, .int .u64 0] 30 (0, 0)) bk_ hb); have n3_ := Aside0.mk (blk_below (g := gb241) (o := .cells #[.bool false, .int .u64 0, .int .u64 0] 30 (0, 0)) bk_ hb); have n4_ := Aside0.mk (blk_below (g := gb248) (o := .cells #[.bool t244, .int .u64 t245, .int .u64 t246] 30 (0, 0)) (pu_ #[.bool t244, .int .u64 t245, .int .u64 0] 2 (h := (pu_ #[.bool t244, .int .u64 0, .int .u64 0] 1 (h := (pu_ #[.bool false, .int .u64 0, .int .u64 0] 0 (h := bk_)))))) hb); have n5_ := Aside0.mk (below_step bel_ hb); clear BK238; clear BK239; clear BK240; clear BK241; clear BK248; clear HB; have BK238 := n0_; have BK239 := n1_; have BK240 := n2_; have BK241 := n3_; have BK248 := n4_; have HB := n5_; clear n0_ n1_ n2_ n3_ n4_ n5_; (try clear hb); (try clear hb2); (try clear hk); (try clear hi)) | ((with_reducible refine gate_dst (N := 9) rfl ?_); refine box_event ?hg (N := 9) ?hd (cs := #[.bool false, .int .u64 0, .int .u64 0]) (t := 30) ?hr ?_; (case hd => rfl); (case hg => rfl); (case hr => first | (go_simp; done) | (go_simp; rfl)); intro gb253 hg w53 hbox hb; have n0_ := bb_ (g := gb238) (o := .cells #[.bool a0_0, .int .u64 a0_1, .int .u64 a0_2, .int .i64 a0_3] 47 (0, 0)) hb; have n1_ := bb_ (g := gb239) (o := .cells #[.bool a1_0, .int .u64 a1_1, .int .u64 a1_2, .int .i64 a1_3] 47 (0, 0)) hb; have n2_ := bb_ (g := gb240) (o := .cells #[.bool false, .int .u64 0, .int .u64 0] 30 (0, 0)) hb; have n3_ := bb_ (g := gb241) (o := .cells #[.bool false, .int .u64 0, .int .u64 0] 30 (0, 0)) hb; have n4_ := bb_ (g := gb248) (o := .cells #[.bool t244, .int .u64 t245, .int .u64 t246] 30 (0, 0)) hb; have n5_ := Aside0.mk (below_step bel_ hb); have n6_ := Aside0.mk (hbox); have n7_ := bs_ (w := w) hg; have n8_ := bs_ (w := w) hg; have n9_ := nlt_ (g := gb238) (o := .cells #[.bool a0_0, .int .u64 a0_1, .int .u64 a0_2, .int .i64 a0_3] 47 (0, 0)) hg; have n10_ := ngt_ (g := gb238) (o := .cells #[.bool a0_0, .int .u64 a0_1, .int .u64 a0_2, .int .i64 a0_3] 47 (0, 0)) hg; have n11_ := nlt_ (g := gb239) (o := .cells #[.bool a1_0, .int .u64 a1_1, .int .u64 a1_2, .int .i64 a1_3] 47 (0, 0)) hg; have n12_ := ngt_ (g := gb239) (o := .cells #[.bool a1_0, .int .u64 a1_1, .int .u64 a1_2, .int .i64 a1_3] 47 (0, 0)) hg; have n13_ := nlt_ (g := gb240) (o := .cells #[.bool false, .int .u64 0, .int .u64 0] 30 (0, 0)) hg; have n14_ := ngt_ (g := gb240) (o := .cells #[.bool false, .int .u64 0, .int .u64 0] 30 (0, 0)) hg; have n15_ := nlt_ (g := gb241) (o := .cells #[.bool false, .int .u64 0, .int .u64 0] 30 (0, 0)) hg; have n16_ := ngt_ (g := gb241) (o := .cells #[.bool false, .int .u64 0, .int .u64 0] 30 (0, 0)) hg; have n17_ := nlt_ (g := gb248) (o := .cells #[.bool t244, .int .u64 t245, .int .u64 t246] 30 (0, 0)) hg; have n18_ := ngt_ (g := gb248) (o := .cells #[.bool t244, .int .u64 t245, .int .u64 t246] 30 (0, 0)) hg; clear BK238; clear BK239; clear BK240; clear BK241; clear BK248; clear HB; have BK238 := n0_; have BK239 := n1_; have BK240 := n2_; have BK241 := n3_; have BK248 := n4_; have HB := n5_; have BK253 := n6_; have GW253 := n7_; have GE253 := n8_; have NB238_253 := n9_; have NB253_238 := n10_; have NB239_253 := n11_; have NB253_239 := n12_; have NB240_253 := n13_; have NB253_240 := n14_; have NB241_253 := n15_; have NB253_241 := n16_; have NB248_253 := n17_; have NB253_248 := n18_; clear n0_ n1_ n2_ n3_ n4_ n5_ n6_ n7_ n8_ n9_ n10_ n11_ n12_ n13_ n14_ n15_ n16_ n17_ n18_; clear hb hbox hg; have hnb54 := NB253_238.out; have hnc54 := NB238_253.out; have hnb55 := NB253_239.out; have hnc55 := NB239_253.out; have hnb56 := NB253_240.out; have hnc56 := NB240_253.out; have hnb57 := NB253_241.out; have hnc57 := NB241_253.out; have hnb58 := NB253_248.out; have hnc58 := NB248_253.out; obtain ⟨hcz59_0, hcz59_1, hcz59_2, hfz59_0, hfz59_1, hfz59_2⟩ := cf3_ (w := w53) BK253.out))
          have n0_ : Aside0 ((((w53.setCell ⟨gb253, 0, none⟩ (.bool t249)).setCell ⟨gb253, 1, none⟩ (.int .u64 t250)).setCell ⟨gb253, 2, none⟩ (.int .u64 t251)).heap[gb238]? = some (.cells #[.bool a0_0, .int .u64 a0_1, .int .u64 a0_2, .int .i64 a0_3] 47 (0, 0))) := ⟨by (with_reducible repeat (first | refine bN_ _ ?_ | refine bd_ ?_ | refine ba_ _ ?_)); refine blk_far ?_ NB238_253.out _; (with_reducible repeat (first | refine bN_ _ ?_ | refine bd_ ?_ | refine ba_ _ ?_)); refine blk_far ?_ NB238_253.out _; (with_reducible repeat (first | refine bN_ _ ?_ | refine bd_ ?_ | refine ba_ _ ?_)); refine blk_far ?_ NB238_253.out _; (with_reducible repeat (first | refine bN_ _ ?_ | refine bd_ ?_ | refine ba_ _ ?_)); exact BK238.out⟩
          have n1_ : Aside0 ((((w53.setCell ⟨gb253, 0, none⟩ (.bool t249)).setCell ⟨gb253, 1, none⟩ (.int .u64 t250)).setCell ⟨gb253, 2, none⟩ (.int .u64 t251)).heap[gb239]? = some (.cells #[.bool a1_0, .int .u64 a1_1, .int .u64 a1_2, .int .i64 a1_3] 47 (0, 0))) := ⟨by (with_reducible repeat (first | refine bN_ _ ?_ | refine bd_ ?_ | refine ba_ _ ?_)); refine blk_far ?_ NB239_253.out _; (with_reducible repeat (first | refine bN_ _ ?_ | refine bd_ ?_ | refine ba_ _ ?_)); refine blk_far ?_ NB239_253.out _; (with_reducible repeat (first | refine bN_ _ ?_ | refine bd_ ?_ | refine ba_ _ ?_)); refine blk_far ?_ NB239_253.out _; (with_reducible repeat (first | refine bN_ _ ?_ | refine bd_ ?_ | refine ba_ _ ?_)); exact BK239.out⟩
          have n2_ : Aside0 ((((w53.setCell ⟨gb253, 0, none⟩ (.bool t249)).setCell ⟨gb253, 1, none⟩ (.int .u64 t250)).setCell ⟨gb253, 2, none⟩ (.int .u64 t251)).heap[gb240]? = some (.cells #[.bool false, .int .u64 0, .int .u64 0] 30 (0, 0))) := ⟨by (with_reducible repeat (first | refine bN_ _ ?_ | refine bd_ ?_ | refine ba_ _ ?_)); refine blk_far ?_ NB240_253.out _; (with_reducible repeat (first | refine bN_ _ ?_ | refine bd_ ?_ | refine ba_ _ ?_)); refine blk_far ?_ NB240_253.out _; (with_reducible repeat (first | refine bN_ _ ?_ | refine bd_ ?_ | refine ba_ _ ?_)); refine blk_far ?_ NB240_253.out _; (with_reducible repeat (first | refine bN_ _ ?_ | refine bd_ ?_ | refine ba_ _ ?_)); exact BK240.out⟩
          have n3_ : Aside0 ((((w53.setCell ⟨gb253, 0, none⟩ (.bool t249)).setCell ⟨gb253, 1, none⟩ (.int .u64 t250)).setCell ⟨gb253, 2, none⟩ (.int .u64 t251)).heap[gb241]? = some (.cells #[.bool false, .int .u64 0, .int .u64 0] 30 (0, 0))) := ⟨by (with_reducible repeat (first | refine bN_ _ ?_ | refine bd_ ?_ | refine ba_ _ ?_)); refine blk_far ?_ NB241_253.out _; (with_reducible repeat (first | refine bN_ _ ?_ | refine bd_ ?_ | refine ba_ _ ?_)); refine blk_far ?_ NB241_253.out _; (with_reducible repeat (first | refine bN_ _ ?_ | refine bd_ ?_ | refine ba_ _ ?_)); refine blk_far ?_ NB241_253.out _; (with_reducible repeat (first | refine bN_ _ ?_ | refine bd_ ?_ | refine ba_ _ ?_)); exact BK241.out⟩
          have n4_ : Aside0 ((((w53.setCell ⟨gb253, 0, none⟩ (.bool t249)).setCell ⟨gb253, 1, none⟩ (.int .u64 t250)).setCell ⟨gb253, 2, none⟩ (.int .u64 t251)).heap[gb248]? = some (.cells #[.bool t244, .int .u64 t245, .int .u64 t246] 30 (0, 0))) := ⟨by (with_reducible repeat (first | refine bN_ _ ?_ | refine bd_ ?_ | refine ba_ _ ?_)); refine blk_far ?_ NB248_253.out _; (with_reducible repeat (first | refine bN_ _ ?_ | refine bd_ ?_ | refine ba_ _ ?_)); refine blk_far ?_ NB248_253.out _; (with_reducible repeat (first | refine bN_ _ ?_ | refine bd_ ?_ | refine ba_ _ ?_)); refine blk_far ?_ NB248_253.out _; (with_reducible repeat (first | refine bN_ _ ?_ | refine bd_ ?_ | refine ba_ _ ?_)); exact BK248.out⟩
          have n5_ : Aside0 ((((w53.setCell ⟨gb253, 0, none⟩ (.bool t249)).setCell ⟨gb253, 1, none⟩ (.int .u64 t250)).setCell ⟨gb253, 2, none⟩ (.int .u64 t251)).heap[gb253]? = some (.cells #[.bool t249, .int .u64 t250, .int .u64 t251] 30 (0, 0))) := ⟨by (with_reducible repeat (first | refine bN_ _ ?_ | refine bd_ ?_ | refine ba_ _ ?_)); refine blk_put (cs := #[.bool t249, .int .u64 t250, .int .u64 0]) ?_ 2 _ rfl; (with_reducible repeat (first | refine bN_ _ ?_ | refine bd_ ?_ | refine ba_ _ ?_)); refine blk_put (cs := #[.bool t249, .int .u64 0, .int .u64 0]) ?_ 1 _ rfl; (with_reducible repeat (first | refine bN_ _ ?_ | refine bd_ ?_ | refine ba_ _ ?_)); refine blk_put (cs := #[.bool false, .int .u64 0, .int .u64 0]) ?_ 0 _ rfl; (with_reducible repeat (first | refine bN_ _ ?_ | refine bd_ ?_ | refine ba_ _ ?_)); exact BK253.out⟩
          have n6_ : Aside0 (Below w.heap.size w (((w53.setCell ⟨gb253, 0, none⟩ (.bool t249)).setCell ⟨gb253, 1, none⟩ (.int .u64 t250)).setCell ⟨gb253, 2, none⟩ (.int .u64 t251))) := ⟨by repeat (first | (with_reducible first | exact HB.out | apply below_alloc | apply pw_below_drewN | apply below_drew1 | refine below_set ?_ GE238.out | refine below_set ?_ GE239.out | refine below_set ?_ GE240.out | refine below_set ?_ GE241.out | refine below_set ?_ GE248.out | refine below_set ?_ GE253.out) | exact HB.out)⟩
          (try clear BK238)
          (try clear BK239)
          (try clear BK240)
          (try clear BK241)
          (try clear BK248)
          (try clear BK253)
          (try clear HB)
          generalize (((w53.setCell ⟨gb253, 0, none⟩ (.bool t249)).setCell ⟨gb253, 1, none⟩ (.int .u64 t250)).setCell ⟨gb253, 2, none⟩ (.int .u64 t251)) = w60 at n0_ n1_ n2_ n3_ n4_ n5_ n6_ ⊢
          have BK238 := n0_
          have BK239 := n1_
          have BK240 := n2_
          have BK241 := n3_
          have BK248 := n4_
          have BK253 := n5_
          have HB := n6_
          clear n0_ n1_ n2_ n3_ n4_ n5_ n6_
          have n0_ := Aside0.mk (blk_drew BK238.out)
          have n1_ := Aside0.mk (blk_drew BK239.out)
          have n2_ := Aside0.mk (blk_drew BK240.out)
          have n3_ := Aside0.mk (blk_drew BK241.out)
          have n4_ := Aside0.mk (blk_drew BK248.out)
          have n5_ := Aside0.mk (blk_drew BK253.out)
          have n6_ := Aside0.mk (below_drew1 HB.out)
          clear BK238
          clear BK239
          clear BK240
          clear BK241
          clear BK248
          clear BK253
          clear HB
          have BK238 := n0_
          have BK239 := n1_
          have BK240 := n2_
          have BK241 := n3_
          have BK248 := n4_
          have BK253 := n5_
          have HB := n6_
          clear n0_ n1_ n2_ n3_ n4_ n5_ n6_
          refine start_ (n := 9) (S := fun w' => w'.cell? ⟨gb248, 0, none⟩ = some (.bool t244) ∧ w'.cell? ⟨gb248, 1, none⟩ = some (.int .u64 t245) ∧ w'.cell? ⟨gb248, 2, none⟩ = some (.int .u64 t246) ∧ w'.cell? ⟨gb253, 0, none⟩ = some (.bool t249) ∧ w'.cell? ⟨gb253, 1, none⟩ = some (.int .u64 t250) ∧ w'.cell? ⟨gb253, 2, none⟩ = some (.int .u64 t251)) (ds := []) #[false, false, false, false, false, false, false, false, false] (by kernel_rfl) rfl rfl ⟨bc_, bc_, bc_, bc_, bc_, bc_⟩ (fun hHeld => ?_); refine with_tabW impl_crossed.tab5 impl_crossed.bits5 (fun HT_ HW_ => ?_)
          generalize w60.drew = w61 at BK238 BK239 BK240 BK241 BK248 BK253 HB hHeld ⊢
          refine pure_ (i := 2) (N := some 39) (v := ?_) (a' := ?_) #[false, false, true, false, false, false, false, false, false] rfl rfl (any_of HT_.out (by kernel_rfl)) (fun _ _ _ h => h) (Or.inl ⟨by rfl, ?_⟩) ?_ ?_
          rotate_left
          · intro w'
            go_simp
            with_reducible rfl
          rotate_left
          · simp only [Act.put, la_, lb_, lc_, i64_w, i32_w]
            rfl
          refine pure_ (i := 3) (N := some 40) (v := ?_) (a' := ?_) #[false, false, true, true, false, false, false, false, false] rfl rfl (any_of HT_.out (by kernel_rfl)) (fun _ _ _ h => h) (Or.inl ⟨by rfl, ?_⟩) ?_ ?_
          rotate_left
          · intro w'
            go_simp
            with_reducible rfl
          rotate_left
          · simp only [Act.put, la_, lb_, lc_, i64_w, i32_w]
            rfl
          refine pure_ (i := 4) (N := some 41) (v := ?_) (a' := ?_) #[false, false, true, true, true, false, false, false, false] rfl rfl (any_of HT_.out (by kernel_rfl)) (fun _ _ _ h => h) (Or.inl ⟨by rfl, ?_⟩) ?_ ?_
          rotate_left
          · intro w'
            go_simp
            with_reducible rfl
          rotate_left
          · simp only [Act.put, la_, lb_, lc_, i64_w, i32_w]
            rfl
          refine pure_ (i := 5) (N := some 42) (v := ?_) (a' := ?_) #[false, false, true, true, true, true, false, false, false] rfl rfl (any_of HT_.out (by kernel_rfl)) (fun _ _ _ h => h) (Or.inl ⟨by rfl, ?_⟩) ?_ ?_
          rotate_left
          · intro w'
            go_simp
            with_reducible rfl
          rotate_left
          · simp only [Act.put, la_, lb_, lc_, i64_w, i32_w]
            rfl
          refine take_ (i := 0) (N := some 37) (v := ?_) (a' := ?_) #[true, false, true, true, true, true, false, false, false] rfl rfl (take_ofW HT_.out HW_.out (by kernel_rfl)) (fun _ _ _ h => h) (Or.inl ⟨by rfl, ?_⟩) hHeld ?_ ?_
          rotate_left
          · rintro w' ⟨s0, s1, s2, s3, s4, s5⟩
            go_simp
            with_reducible rfl
          rotate_left
          · simp only [Act.put, la_, lb_, lc_, i64_w, i32_w]
            rfl
          refine take_ (i := 1) (N := some 38) (v := ?_) (a' := ?_) #[true, true, true, true, true, true, false, false, false] rfl rfl (take_ofW HT_.out HW_.out (by kernel_rfl)) (fun _ _ _ h => h) (Or.inl ⟨by rfl, ?_⟩) hHeld ?_ ?_
          rotate_left
          · rintro w' ⟨s0, s1, s2, s3, s4, s5⟩
            go_simp
            with_reducible rfl
          rotate_left
          · simp only [Act.put, la_, lb_, lc_, i64_w, i32_w]
            rfl
          refine one_ (i := 6) (N := none) #[true, true, true, true, true, true, true, false, false] rfl rfl (one_of HT_.out (by kernel_rfl)) (by decide) (fun K hK => ?_)
          have hs62 : w61.cell? ⟨gb240, 0, none⟩ = some (.bool false) := (blk_cell BK240.out 0).trans rfl
          have hfs62 := blk_frozen BK240.out 0
          have hns62_0 := NB238_240.out
          have hns62_1 := NB239_240.out
          have hns62_3 := NB241_240.out
          have hns62_4 := NB248_240.out
          have hns62_5 := NB253_240.out
          have hms62_0 := NB240_238.out
          have hms62_1 := NB240_239.out
          have hms62_3 := NB240_241.out
          have hms62_4 := NB240_248.out
          have hms62_5 := NB240_253.out
          have hs63 : w61.cell? ⟨gb240, 1, none⟩ = some (.int .u64 0) := (blk_cell BK240.out 1).trans rfl
          have hfs63 := blk_frozen BK240.out 1
          have hns63_0 := NB238_240.out
          have hns63_1 := NB239_240.out
          have hns63_3 := NB241_240.out
          have hns63_4 := NB248_240.out
          have hns63_5 := NB253_240.out
          have hms63_0 := NB240_238.out
          have hms63_1 := NB240_239.out
          have hms63_3 := NB240_241.out
          have hms63_4 := NB240_248.out
          have hms63_5 := NB240_253.out
          have hs64 : w61.cell? ⟨gb240, 2, none⟩ = some (.int .u64 0) := (blk_cell BK240.out 2).trans rfl
          have hfs64 := blk_frozen BK240.out 2
          have hns64_0 := NB238_240.out
          have hns64_1 := NB239_240.out
          have hns64_3 := NB241_240.out
          have hns64_4 := NB248_240.out
          have hns64_5 := NB253_240.out
          have hms64_0 := NB240_238.out
          have hms64_1 := NB240_239.out
          have hms64_3 := NB240_241.out
          have hms64_4 := NB240_248.out
          have hms64_5 := NB240_253.out
          refine skip_ (w1 := ?_) (by rfl) rfl ?_ ?_
          rotate_left
          · go_simp
            rfl
          refine hK.out _ _ ⟨((cell_far (p := ⟨gb240, _, none⟩) NB248_240.out _).trans (((cell_far (p := ⟨gb240, _, none⟩) NB248_240.out _).trans (((cell_far (p := ⟨gb240, _, none⟩) NB248_240.out _).trans (hHeld.1)))))), ((cell_far (p := ⟨gb240, _, none⟩) NB248_240.out _).trans (((cell_far (p := ⟨gb240, _, none⟩) NB248_240.out _).trans (((cell_far (p := ⟨gb240, _, none⟩) NB248_240.out _).trans (hHeld.2.1)))))), ((cell_far (p := ⟨gb240, _, none⟩) NB248_240.out _).trans (((cell_far (p := ⟨gb240, _, none⟩) NB248_240.out _).trans (((cell_far (p := ⟨gb240, _, none⟩) NB248_240.out _).trans (hHeld.2.2.1)))))), ((cell_far (p := ⟨gb240, _, none⟩) NB253_240.out _).trans (((cell_far (p := ⟨gb240, _, none⟩) NB253_240.out _).trans (((cell_far (p := ⟨gb240, _, none⟩) NB253_240.out _).trans (hHeld.2.2.2.1)))))), ((cell_far (p := ⟨gb240, _, none⟩) NB253_240.out _).trans (((cell_far (p := ⟨gb240, _, none⟩) NB253_240.out _).trans (((cell_far (p := ⟨gb240, _, none⟩) NB253_240.out _).trans (hHeld.2.2.2.2.1)))))), ((cell_far (p := ⟨gb240, _, none⟩) NB253_240.out _).trans (((cell_far (p := ⟨gb240, _, none⟩) NB253_240.out _).trans (((cell_far (p := ⟨gb240, _, none⟩) NB253_240.out _).trans (hHeld.2.2.2.2.2))))))⟩ (fun hHeld => ?_)
          clear hK K
          refine one_ (i := 7) (N := none) #[true, true, true, true, true, true, true, true, false] rfl rfl (one_of HT_.out (by kernel_rfl)) (by decide) (fun K hK => ?_)
          have hs65 : w61.cell? ⟨gb241, 0, none⟩ = some (.bool false) := (blk_cell BK241.out 0).trans rfl
          have hfs65 := blk_frozen BK241.out 0
          have hns65_0 := NB238_241.out
          have hns65_1 := NB239_241.out
          have hns65_2 := NB240_241.out
          have hns65_4 := NB248_241.out
          have hns65_5 := NB253_241.out
          have hms65_0 := NB241_238.out
          have hms65_1 := NB241_239.out
          have hms65_2 := NB241_240.out
          have hms65_4 := NB241_248.out
          have hms65_5 := NB241_253.out
          have hs66 : w61.cell? ⟨gb241, 1, none⟩ = some (.int .u64 0) := (blk_cell BK241.out 1).trans rfl
          have hfs66 := blk_frozen BK241.out 1
          have hns66_0 := NB238_241.out
          have hns66_1 := NB239_241.out
          have hns66_2 := NB240_241.out
          have hns66_4 := NB248_241.out
          have hns66_5 := NB253_241.out
          have hms66_0 := NB241_238.out
          have hms66_1 := NB241_239.out
          have hms66_2 := NB241_240.out
          have hms66_4 := NB241_248.out
          have hms66_5 := NB241_253.out
          have hs67 : w61.cell? ⟨gb241, 2, none⟩ = some (.int .u64 0) := (blk_cell BK241.out 2).trans rfl
          have hfs67 := blk_frozen BK241.out 2
          have hns67_0 := NB238_241.out
          have hns67_1 := NB239_241.out
          have hns67_2 := NB240_241.out
          have hns67_4 := NB248_241.out
          have hns67_5 := NB253_241.out
          have hms67_0 := NB241_238.out
          have hms67_1 := NB241_239.out
          have hms67_2 := NB241_240.out
          have hms67_4 := NB241_248.out
          have hms67_5 := NB241_253.out
          refine skip_ (w1 := ?_) (by rfl) rfl ?_ ?_
          rotate_left
          · go_simp
            rfl
          refine hK.out _ _ ⟨((cell_far (p := ⟨gb241, _, none⟩) NB248_241.out _).trans (((cell_far (p := ⟨gb241, _, none⟩) NB248_241.out _).trans (((cell_far (p := ⟨gb241, _, none⟩) NB248_241.out _).trans (hHeld.1)))))), ((cell_far (p := ⟨gb241, _, none⟩) NB248_241.out _).trans (((cell_far (p := ⟨gb241, _, none⟩) NB248_241.out _).trans (((cell_far (p := ⟨gb241, _, none⟩) NB248_241.out _).trans (hHeld.2.1)))))), ((cell_far (p := ⟨gb241, _, none⟩) NB248_241.out _).trans (((cell_far (p := ⟨gb241, _, none⟩) NB248_241.out _).trans (((cell_far (p := ⟨gb241, _, none⟩) NB248_241.out _).trans (hHeld.2.2.1)))))), ((cell_far (p := ⟨gb241, _, none⟩) NB253_241.out _).trans (((cell_far (p := ⟨gb241, _, none⟩) NB253_241.out _).trans (((cell_far (p := ⟨gb241, _, none⟩) NB253_241.out _).trans (hHeld.2.2.2.1)))))), ((cell_far (p := ⟨gb241, _, none⟩) NB253_241.out _).trans (((cell_far (p := ⟨gb241, _, none⟩) NB253_241.out _).trans (((cell_far (p := ⟨gb241, _, none⟩) NB253_241.out _).trans (hHeld.2.2.2.2.1)))))), ((cell_far (p := ⟨gb241, _, none⟩) NB253_241.out _).trans (((cell_far (p := ⟨gb241, _, none⟩) NB253_241.out _).trans (((cell_far (p := ⟨gb241, _, none⟩) NB253_241.out _).trans (hHeld.2.2.2.2.2))))))⟩ (fun hHeld => ?_)
          clear hK K
          refine pure_ (i := 8) (N := some 6) (v := ?_) (a' := ?_) #[true, true, true, true, true, true, true, true, true] rfl rfl (any_of HT_.out (by kernel_rfl)) (fun _ _ _ h => h) (Or.inl ⟨by rfl, ?_⟩) ?_ ?_
          rotate_left
          · intro w'
            go_simp
            with_reducible rfl
          rotate_left
          · simp only [Act.put, la_, lb_, lc_, i64_w, i32_w]
            rfl
          refine done_ (done_of HT_.out (by kernel_rfl)) ?_
          try go_wp2
          refine bodyPost_ret (results_list (rs := [.cell 4 30, .cell 5 30, .tmp 6]) rfl (by simp) (.cell gb240 30 #[.bool t244, .int .u64 t245, .int .u64 t246] (0, 0) _ rfl (pu_ #[.bool t244, .int .u64 t245, .int .u64 0] 2 (h := (pu_ #[.bool t244, .int .u64 0, .int .u64 0] 1 (h := (pu_ #[.bool false, .int .u64 0, .int .u64 0] 0 (h := bk_)))))) Try.underlying30 rfl (by kernel_rfl) (.cell gb241 30 #[.bool t249, .int .u64 t250, .int .u64 t251] (0, 0) _ rfl (pu_ #[.bool t249, .int .u64 t250, .int .u64 0] 2 (h := (pu_ #[.bool t249, .int .u64 0, .int .u64 0] 1 (h := (pu_ #[.bool false, .int .u64 0, .int .u64 0] 0 (h := bk_)))))) Try.underlying30 rfl (by kernel_rfl) (.tmp .nil)))) rfl ?_
          exact ⟨by first | rfl | (simp [errW_none, errW_some] <;> rfl) | (simp [*, errW_none, errW_some] <;> rfl), by repeat (first | (with_reducible first | exact HB.out | apply below_alloc | apply pw_below_drewN | apply below_drew1 | refine below_set ?_ GE238.out | refine below_set ?_ GE239.out | refine below_set ?_ GE240.out | refine below_set ?_ GE241.out | refine below_set ?_ GE248.out | refine below_set ?_ GE253.out) | exact HB.out)⟩
        · replace c35 := Bool.eq_false_iff.mpr c35
          subst c35
          have H1 : (some (t244, t245, t246, t249, t250, t251, false)) = some (r1, r2, r3, r4, r5, r6, r7) := by rw [if_neg (show ¬ (false = true) by decide)] at H; exact H
          clear H
          have H := H1
          clear H1
          simp only [Option.some.injEq, Prod.mk.injEq] at H
          obtain ⟨rfl, rfl, rfl, rfl, rfl, rfl, rfl⟩ := H
          have hnb68 := NB238_239.out
          have hnc68 := NB239_238.out
          have hnb69 := NB238_240.out
          have hnc69 := NB240_238.out
          have hnb70 := NB238_241.out
          have hnc70 := NB241_238.out
          obtain ⟨hcz71_0, hcz71_1, hcz71_2, hcz71_3, hfz71_0, hfz71_1, hfz71_2, hfz71_3⟩ := cf4_ (w := wc) BK238.out
          have hnb72 := NB239_240.out
          have hnc72 := NB240_239.out
          have hnb73 := NB239_241.out
          have hnc73 := NB241_239.out
          obtain ⟨hcz74_0, hcz74_1, hcz74_2, hcz74_3, hfz74_0, hfz74_1, hfz74_2, hfz74_3⟩ := cf4_ (w := wc) BK239.out
          try go_wp2_with (first | ((with_reducible refine gate_callee (f := 47) rfl ?_); refine goesL_ (some 26) rfl rfl Try.func47 (by kernel_rfl) rfl #[.agg #[.bool a0_0, .int .u64 a0_1, .int .u64 a0_2], .int .i64 a1_3] rfl mp_ ?_; (with_reducible refine (impl_ScaleWide.calls a0_0 a0_1 a0_2 a1_3 t244 t245 t246 false _ A33.out).mono ?_); rintro e w75 ⟨rfl, hb⟩; refine ⟨_, rfl, ?_⟩; have n0_ := bb_ (g := gb238) (o := .cells #[.bool a0_0, .int .u64 a0_1, .int .u64 a0_2, .int .i64 a0_3] 47 (0, 0)) hb; have n1_ := bb_ (g := gb239) (o := .cells #[.bool a1_0, .int .u64 a1_1, .int .u64 a1_2, .int .i64 a1_3] 47 (0, 0)) hb; have n2_ := bb_ (g := gb240) (o := .cells #[.bool false, .int .u64 0, .int .u64 0] 30 (0, 0)) hb; have n3_ := bb_ (g := gb241) (o := .cells #[.bool false, .int .u64 0, .int .u64 0] 30 (0, 0)) hb; have n4_ := Aside0.mk (below_step bel_ hb); clear BK238; clear BK239; clear BK240; clear BK241; clear HB; have BK238 := n0_; have BK239 := n1_; have BK240 := n2_; have BK241 := n3_; have HB := n4_; clear n0_ n1_ n2_ n3_ n4_; (try clear hb); (try clear hb2); (try clear hk); (try clear hi)) | ((with_reducible refine gate_dst (N := 7) rfl ?_); refine box_event ?hg (N := 7) ?hd (cs := #[.bool false, .int .u64 0, .int .u64 0]) (t := 30) ?hr ?_; (case hd => rfl); (case hg => rfl); (case hr => first | (go_simp; done) | (go_simp; rfl)); intro gb248 hg w76 hbox hb; have n0_ := bb_ (g := gb238) (o := .cells #[.bool a0_0, .int .u64 a0_1, .int .u64 a0_2, .int .i64 a0_3] 47 (0, 0)) hb; have n1_ := bb_ (g := gb239) (o := .cells #[.bool a1_0, .int .u64 a1_1, .int .u64 a1_2, .int .i64 a1_3] 47 (0, 0)) hb; have n2_ := bb_ (g := gb240) (o := .cells #[.bool false, .int .u64 0, .int .u64 0] 30 (0, 0)) hb; have n3_ := bb_ (g := gb241) (o := .cells #[.bool false, .int .u64 0, .int .u64 0] 30 (0, 0)) hb; have n4_ := Aside0.mk (below_step bel_ hb); have n5_ := Aside0.mk (hbox); have n6_ := bs_ (w := w) hg; have n7_ := bs_ (w := w) hg; have n8_ := nlt_ (g := gb238) (o := .cells #[.bool a0_0, .int .u64 a0_1, .int .u64 a0_2, .int .i64 a0_3] 47 (0, 0)) hg; have n9_ := ngt_ (g := gb238) (o := .cells #[.bool a0_0, .int .u64 a0_1, .int .u64 a0_2, .int .i64 a0_3] 47 (0, 0)) hg; have n10_ := nlt_ (g := gb239) (o := .cells #[.bool a1_0, .int .u64 a1_1, .int .u64 a1_2, .int .i64 a1_3] 47 (0, 0)) hg; have n11_ := ngt_ (g := gb239) (o := .cells #[.bool a1_0, .int .u64 a1_1, .int .u64 a1_2, .int .i64 a1_3] 47 (0, 0)) hg; have n12_ := nlt_ (g := gb240) (o := .cells #[.bool false, .int .u64 0, .int .u64 0] 30 (0, 0)) hg; have n13_ := ngt_ (g := gb240) (o := .cells #[.bool false, .int .u64 0, .int .u64 0] 30 (0, 0)) hg; have n14_ := nlt_ (g := gb241) (o := .cells #[.bool false, .int .u64 0, .int .u64 0] 30 (0, 0)) hg; have n15_ := ngt_ (g := gb241) (o := .cells #[.bool false, .int .u64 0, .int .u64 0] 30 (0, 0)) hg; clear BK238; clear BK239; clear BK240; clear BK241; clear HB; have BK238 := n0_; have BK239 := n1_; have BK240 := n2_; have BK241 := n3_; have HB := n4_; have BK248 := n5_; have GW248 := n6_; have GE248 := n7_; have NB238_248 := n8_; have NB248_238 := n9_; have NB239_248 := n10_; have NB248_239 := n11_; have NB240_248 := n12_; have NB248_240 := n13_; have NB241_248 := n14_; have NB248_241 := n15_; clear n0_ n1_ n2_ n3_ n4_ n5_ n6_ n7_ n8_ n9_ n10_ n11_ n12_ n13_ n14_ n15_; clear hb hbox hg; have hnb77 := NB248_238.out; have hnc77 := NB238_248.out; have hnb78 := NB248_239.out; have hnc78 := NB239_248.out; have hnb79 := NB248_240.out; have hnc79 := NB240_248.out; have hnb80 := NB248_241.out; have hnc80 := NB241_248.out; obtain ⟨hcz81_0, hcz81_1, hcz81_2, hfz81_0, hfz81_1, hfz81_2⟩ := cf3_ (w := w76) BK248.out; obtain ⟨hcz82_0, hcz82_1, hcz82_2, hcz82_3, hfz82_0, hfz82_1, hfz82_2, hfz82_3⟩ := cf4_ (w := w76) BK239.out; obtain ⟨hcz83_0, hcz83_1, hcz83_2, hcz83_3, hfz83_0, hfz83_1, hfz83_2, hfz83_3⟩ := cf4_ (w := w76) BK238.out) | ((with_reducible refine gate_callee (f := 47) rfl ?_); refine goesL_ (some 34) rfl rfl Try.func47 (by kernel_rfl) rfl #[.agg #[.bool a1_0, .int .u64 a1_1, .int .u64 a1_2], .int .i64 a0_3] rfl mp_ ?_; (with_reducible refine (impl_ScaleWide.calls a1_0 a1_1 a1_2 a0_3 t249 t250 t251 t252 _ A34.out).mono ?_); rintro e w84 ⟨rfl, hb⟩; refine ⟨_, rfl, ?_⟩; have n0_ := Aside0.mk (blk_below (g := gb238) (o := .cells #[.bool a0_0, .int .u64 a0_1, .int .u64 a0_2, .int .i64 a0_3] 47 (0, 0)) bk_ hb); have n1_ := Aside0.mk (blk_below (g := gb239) (o := .cells #[.bool a1_0, .int .u64 a1_1, .int .u64 a1_2, .int .i64 a1_3] 47 (0, 0)) bk_ hb); have n2_ := Aside0.mk (blk_below (g := gb240) (o := .cells #[.bool false, .int .u64 0, .int .u64 0] 30 (0, 0)) bk_ hb); have n3_ := Aside0.mk (blk_below (g := gb241) (o := .cells #[.bool false, .int .u64 0, .int .u64 0] 30 (0, 0)) bk_ hb); have n4_ := Aside0.mk (blk_below (g := gb248) (o := .cells #[.bool t244, .int .u64 t245, .int .u64 t246] 30 (0, 0)) (pu_ #[.bool t244, .int .u64 t245, .int .u64 0] 2 (h := (pu_ #[.bool t244, .int .u64 0, .int .u64 0] 1 (h := (pu_ #[.bool false, .int .u64 0, .int .u64 0] 0 (h := bk_)))))) hb); have n5_ := Aside0.mk (below_step bel_ hb); clear BK238; clear BK239; clear BK240; clear BK241; clear BK248; clear HB; have BK238 := n0_; have BK239 := n1_; have BK240 := n2_; have BK241 := n3_; have BK248 := n4_; have HB := n5_; clear n0_ n1_ n2_ n3_ n4_ n5_; (try clear hb); (try clear hb2); (try clear hk); (try clear hi)) | ((with_reducible refine gate_dst (N := 9) rfl ?_); refine box_event ?hg (N := 9) ?hd (cs := #[.bool false, .int .u64 0, .int .u64 0]) (t := 30) ?hr ?_; (case hd => rfl); (case hg => rfl); (case hr => first | (go_simp; done) | (go_simp; rfl)); intro gb253 hg w85 hbox hb; have n0_ := bb_ (g := gb238) (o := .cells #[.bool a0_0, .int .u64 a0_1, .int .u64 a0_2, .int .i64 a0_3] 47 (0, 0)) hb; have n1_ := bb_ (g := gb239) (o := .cells #[.bool a1_0, .int .u64 a1_1, .int .u64 a1_2, .int .i64 a1_3] 47 (0, 0)) hb; have n2_ := bb_ (g := gb240) (o := .cells #[.bool false, .int .u64 0, .int .u64 0] 30 (0, 0)) hb; have n3_ := bb_ (g := gb241) (o := .cells #[.bool false, .int .u64 0, .int .u64 0] 30 (0, 0)) hb; have n4_ := bb_ (g := gb248) (o := .cells #[.bool t244, .int .u64 t245, .int .u64 t246] 30 (0, 0)) hb; have n5_ := Aside0.mk (below_step bel_ hb); have n6_ := Aside0.mk (hbox); have n7_ := bs_ (w := w) hg; have n8_ := bs_ (w := w) hg; have n9_ := nlt_ (g := gb238) (o := .cells #[.bool a0_0, .int .u64 a0_1, .int .u64 a0_2, .int .i64 a0_3] 47 (0, 0)) hg; have n10_ := ngt_ (g := gb238) (o := .cells #[.bool a0_0, .int .u64 a0_1, .int .u64 a0_2, .int .i64 a0_3] 47 (0, 0)) hg; have n11_ := nlt_ (g := gb239) (o := .cells #[.bool a1_0, .int .u64 a1_1, .int .u64 a1_2, .int .i64 a1_3] 47 (0, 0)) hg; have n12_ := ngt_ (g := gb239) (o := .cells #[.bool a1_0, .int .u64 a1_1, .int .u64 a1_2, .int .i64 a1_3] 47 (0, 0)) hg; have n13_ := nlt_ (g := gb240) (o := .cells #[.bool false, .int .u64 0, .int .u64 0] 30 (0, 0)) hg; have n14_ := ngt_ (g := gb240) (o := .cells #[.bool false, .int .u64 0, .int .u64 0] 30 (0, 0)) hg; have n15_ := nlt_ (g := gb241) (o := .cells #[.bool false, .int .u64 0, .int .u64 0] 30 (0, 0)) hg; have n16_ := ngt_ (g := gb241) (o := .cells #[.bool false, .int .u64 0, .int .u64 0] 30 (0, 0)) hg; have n17_ := nlt_ (g := gb248) (o := .cells #[.bool t244, .int .u64 t245, .int .u64 t246] 30 (0, 0)) hg; have n18_ := ngt_ (g := gb248) (o := .cells #[.bool t244, .int .u64 t245, .int .u64 t246] 30 (0, 0)) hg; clear BK238; clear BK239; clear BK240; clear BK241; clear BK248; clear HB; have BK238 := n0_; have BK239 := n1_; have BK240 := n2_; have BK241 := n3_; have BK248 := n4_; have HB := n5_; have BK253 := n6_; have GW253 := n7_; have GE253 := n8_; have NB238_253 := n9_; have NB253_238 := n10_; have NB239_253 := n11_; have NB253_239 := n12_; have NB240_253 := n13_; have NB253_240 := n14_; have NB241_253 := n15_; have NB253_241 := n16_; have NB248_253 := n17_; have NB253_248 := n18_; clear n0_ n1_ n2_ n3_ n4_ n5_ n6_ n7_ n8_ n9_ n10_ n11_ n12_ n13_ n14_ n15_ n16_ n17_ n18_; clear hb hbox hg; have hnb86 := NB253_238.out; have hnc86 := NB238_253.out; have hnb87 := NB253_239.out; have hnc87 := NB239_253.out; have hnb88 := NB253_240.out; have hnc88 := NB240_253.out; have hnb89 := NB253_241.out; have hnc89 := NB241_253.out; have hnb90 := NB253_248.out; have hnc90 := NB248_253.out; obtain ⟨hcz91_0, hcz91_1, hcz91_2, hfz91_0, hfz91_1, hfz91_2⟩ := cf3_ (w := w85) BK253.out))
          have n0_ : Aside0 ((((w85.setCell ⟨gb253, 0, none⟩ (.bool t249)).setCell ⟨gb253, 1, none⟩ (.int .u64 t250)).setCell ⟨gb253, 2, none⟩ (.int .u64 t251)).heap[gb238]? = some (.cells #[.bool a0_0, .int .u64 a0_1, .int .u64 a0_2, .int .i64 a0_3] 47 (0, 0))) := ⟨by (with_reducible repeat (first | refine bN_ _ ?_ | refine bd_ ?_ | refine ba_ _ ?_)); refine blk_far ?_ NB238_253.out _; (with_reducible repeat (first | refine bN_ _ ?_ | refine bd_ ?_ | refine ba_ _ ?_)); refine blk_far ?_ NB238_253.out _; (with_reducible repeat (first | refine bN_ _ ?_ | refine bd_ ?_ | refine ba_ _ ?_)); refine blk_far ?_ NB238_253.out _; (with_reducible repeat (first | refine bN_ _ ?_ | refine bd_ ?_ | refine ba_ _ ?_)); exact BK238.out⟩
          have n1_ : Aside0 ((((w85.setCell ⟨gb253, 0, none⟩ (.bool t249)).setCell ⟨gb253, 1, none⟩ (.int .u64 t250)).setCell ⟨gb253, 2, none⟩ (.int .u64 t251)).heap[gb239]? = some (.cells #[.bool a1_0, .int .u64 a1_1, .int .u64 a1_2, .int .i64 a1_3] 47 (0, 0))) := ⟨by (with_reducible repeat (first | refine bN_ _ ?_ | refine bd_ ?_ | refine ba_ _ ?_)); refine blk_far ?_ NB239_253.out _; (with_reducible repeat (first | refine bN_ _ ?_ | refine bd_ ?_ | refine ba_ _ ?_)); refine blk_far ?_ NB239_253.out _; (with_reducible repeat (first | refine bN_ _ ?_ | refine bd_ ?_ | refine ba_ _ ?_)); refine blk_far ?_ NB239_253.out _; (with_reducible repeat (first | refine bN_ _ ?_ | refine bd_ ?_ | refine ba_ _ ?_)); exact BK239.out⟩
          have n2_ : Aside0 ((((w85.setCell ⟨gb253, 0, none⟩ (.bool t249)).setCell ⟨gb253, 1, none⟩ (.int .u64 t250)).setCell ⟨gb253, 2, none⟩ (.int .u64 t251)).heap[gb240]? = some (.cells #[.bool false, .int .u64 0, .int .u64 0] 30 (0, 0))) := ⟨by (with_reducible repeat (first | refine bN_ _ ?_ | refine bd_ ?_ | refine ba_ _ ?_)); refine blk_far ?_ NB240_253.out _; (with_reducible repeat (first | refine bN_ _ ?_ | refine bd_ ?_ | refine ba_ _ ?_)); refine blk_far ?_ NB240_253.out _; (with_reducible repeat (first | refine bN_ _ ?_ | refine bd_ ?_ | refine ba_ _ ?_)); refine blk_far ?_ NB240_253.out _; (with_reducible repeat (first | refine bN_ _ ?_ | refine bd_ ?_ | refine ba_ _ ?_)); exact BK240.out⟩
          have n3_ : Aside0 ((((w85.setCell ⟨gb253, 0, none⟩ (.bool t249)).setCell ⟨gb253, 1, none⟩ (.int .u64 t250)).setCell ⟨gb253, 2, none⟩ (.int .u64 t251)).heap[gb241]? = some (.cells #[.bool false, .int .u64 0, .int .u64 0] 30 (0, 0))) := ⟨by (with_reducible repeat (first | refine bN_ _ ?_ | refine bd_ ?_ | refine ba_ _ ?_)); refine blk_far ?_ NB241_253.out _; (with_reducible repeat (first | refine bN_ _ ?_ | refine bd_ ?_ | refine ba_ _ ?_)); refine blk_far ?_ NB241_253.out _; (with_reducible repeat (first | refine bN_ _ ?_ | refine bd_ ?_ | refine ba_ _ ?_)); refine blk_far ?_ NB241_253.out _; (with_reducible repeat (first | refine bN_ _ ?_ | refine bd_ ?_ | refine ba_ _ ?_)); exact BK241.out⟩
          have n4_ : Aside0 ((((w85.setCell ⟨gb253, 0, none⟩ (.bool t249)).setCell ⟨gb253, 1, none⟩ (.int .u64 t250)).setCell ⟨gb253, 2, none⟩ (.int .u64 t251)).heap[gb248]? = some (.cells #[.bool t244, .int .u64 t245, .int .u64 t246] 30 (0, 0))) := ⟨by (with_reducible repeat (first | refine bN_ _ ?_ | refine bd_ ?_ | refine ba_ _ ?_)); refine blk_far ?_ NB248_253.out _; (with_reducible repeat (first | refine bN_ _ ?_ | refine bd_ ?_ | refine ba_ _ ?_)); refine blk_far ?_ NB248_253.out _; (with_reducible repeat (first | refine bN_ _ ?_ | refine bd_ ?_ | refine ba_ _ ?_)); refine blk_far ?_ NB248_253.out _; (with_reducible repeat (first | refine bN_ _ ?_ | refine bd_ ?_ | refine ba_ _ ?_)); exact BK248.out⟩
          have n5_ : Aside0 ((((w85.setCell ⟨gb253, 0, none⟩ (.bool t249)).setCell ⟨gb253, 1, none⟩ (.int .u64 t250)).setCell ⟨gb253, 2, none⟩ (.int .u64 t251)).heap[gb253]? = some (.cells #[.bool t249, .int .u64 t250, .int .u64 t251] 30 (0, 0))) := ⟨by (with_reducible repeat (first | refine bN_ _ ?_ | refine bd_ ?_ | refine ba_ _ ?_)); refine blk_put (cs := #[.bool t249, .int .u64 t250, .int .u64 0]) ?_ 2 _ rfl; (with_reducible repeat (first | refine bN_ _ ?_ | refine bd_ ?_ | refine ba_ _ ?_)); refine blk_put (cs := #[.bool t249, .int .u64 0, .int .u64 0]) ?_ 1 _ rfl; (with_reducible repeat (first | refine bN_ _ ?_ | refine bd_ ?_ | refine ba_ _ ?_)); refine blk_put (cs := #[.bool false, .int .u64 0, .int .u64 0]) ?_ 0 _ rfl; (with_reducible repeat (first | refine bN_ _ ?_ | refine bd_ ?_ | refine ba_ _ ?_)); exact BK253.out⟩
          have n6_ : Aside0 (Below w.heap.size w (((w85.setCell ⟨gb253, 0, none⟩ (.bool t249)).setCell ⟨gb253, 1, none⟩ (.int .u64 t250)).setCell ⟨gb253, 2, none⟩ (.int .u64 t251))) := ⟨by repeat (first | (with_reducible first | exact HB.out | apply below_alloc | apply pw_below_drewN | apply below_drew1 | refine below_set ?_ GE238.out | refine below_set ?_ GE239.out | refine below_set ?_ GE240.out | refine below_set ?_ GE241.out | refine below_set ?_ GE248.out | refine below_set ?_ GE253.out) | exact HB.out)⟩
          (try clear BK238)
          (try clear BK239)
          (try clear BK240)
          (try clear BK241)
          (try clear BK248)
          (try clear BK253)
          (try clear HB)
          generalize (((w85.setCell ⟨gb253, 0, none⟩ (.bool t249)).setCell ⟨gb253, 1, none⟩ (.int .u64 t250)).setCell ⟨gb253, 2, none⟩ (.int .u64 t251)) = w92 at n0_ n1_ n2_ n3_ n4_ n5_ n6_ ⊢
          have BK238 := n0_
          have BK239 := n1_
          have BK240 := n2_
          have BK241 := n3_
          have BK248 := n4_
          have BK253 := n5_
          have HB := n6_
          clear n0_ n1_ n2_ n3_ n4_ n5_ n6_
          have n0_ := Aside0.mk (blk_drew BK238.out)
          have n1_ := Aside0.mk (blk_drew BK239.out)
          have n2_ := Aside0.mk (blk_drew BK240.out)
          have n3_ := Aside0.mk (blk_drew BK241.out)
          have n4_ := Aside0.mk (blk_drew BK248.out)
          have n5_ := Aside0.mk (blk_drew BK253.out)
          have n6_ := Aside0.mk (below_drew1 HB.out)
          clear BK238
          clear BK239
          clear BK240
          clear BK241
          clear BK248
          clear BK253
          clear HB
          have BK238 := n0_
          have BK239 := n1_
          have BK240 := n2_
          have BK241 := n3_
          have BK248 := n4_
          have BK253 := n5_
          have HB := n6_
          clear n0_ n1_ n2_ n3_ n4_ n5_ n6_
          refine start_ (n := 9) (S := fun w' => w'.cell? ⟨gb248, 0, none⟩ = some (.bool t244) ∧ w'.cell? ⟨gb248, 1, none⟩ = some (.int .u64 t245) ∧ w'.cell? ⟨gb248, 2, none⟩ = some (.int .u64 t246) ∧ w'.cell? ⟨gb253, 0, none⟩ = some (.bool t249) ∧ w'.cell? ⟨gb253, 1, none⟩ = some (.int .u64 t250) ∧ w'.cell? ⟨gb253, 2, none⟩ = some (.int .u64 t251)) (ds := []) #[false, false, false, false, false, false, false, false, false] (by kernel_rfl) rfl rfl ⟨bc_, bc_, bc_, bc_, bc_, bc_⟩ (fun hHeld => ?_); refine with_tabW impl_crossed.tab5 impl_crossed.bits5 (fun HT_ HW_ => ?_)
          generalize w92.drew = w93 at BK238 BK239 BK240 BK241 BK248 BK253 HB hHeld ⊢
          refine pure_ (i := 2) (N := some 39) (v := ?_) (a' := ?_) #[false, false, true, false, false, false, false, false, false] rfl rfl (any_of HT_.out (by kernel_rfl)) (fun _ _ _ h => h) (Or.inl ⟨by rfl, ?_⟩) ?_ ?_
          rotate_left
          · intro w'
            go_simp
            with_reducible rfl
          rotate_left
          · simp only [Act.put, la_, lb_, lc_, i64_w, i32_w]
            rfl
          refine pure_ (i := 3) (N := some 40) (v := ?_) (a' := ?_) #[false, false, true, true, false, false, false, false, false] rfl rfl (any_of HT_.out (by kernel_rfl)) (fun _ _ _ h => h) (Or.inl ⟨by rfl, ?_⟩) ?_ ?_
          rotate_left
          · intro w'
            go_simp
            with_reducible rfl
          rotate_left
          · simp only [Act.put, la_, lb_, lc_, i64_w, i32_w]
            rfl
          refine pure_ (i := 4) (N := some 41) (v := undef) (a' := ?_) #[false, false, true, true, true, false, false, false, false] rfl rfl (any_of HT_.out (by kernel_rfl)) (fun _ _ _ h => h) (Or.inr ⟨by rfl, rfl⟩) ?_ ?_
          rotate_left
          · simp only [Act.put, la_, lb_, lc_, i64_w, i32_w]
            rfl
          refine pure_ (i := 5) (N := some 42) (v := ?_) (a' := ?_) #[false, false, true, true, true, true, false, false, false] rfl rfl (any_of HT_.out (by kernel_rfl)) (fun _ _ _ h => h) (Or.inl ⟨by rfl, ?_⟩) ?_ ?_
          rotate_left
          · intro w'
            go_simp
            with_reducible rfl
          rotate_left
          · simp only [Act.put, la_, lb_, lc_, i64_w, i32_w]
            rfl
          refine take_ (i := 0) (N := some 37) (v := ?_) (a' := ?_) #[true, false, true, true, true, true, false, false, false] rfl rfl (take_ofW HT_.out HW_.out (by kernel_rfl)) (fun _ _ _ h => h) (Or.inl ⟨by rfl, ?_⟩) hHeld ?_ ?_
          rotate_left
          · rintro w' ⟨s0, s1, s2, s3, s4, s5⟩
            go_simp
            with_reducible rfl
          rotate_left
          · simp only [Act.put, la_, lb_, lc_, i64_w, i32_w]
            rfl
          refine take_ (i := 1) (N := some 38) (v := ?_) (a' := ?_) #[true, true, true, true, true, true, false, false, false] rfl rfl (take_ofW HT_.out HW_.out (by kernel_rfl)) (fun _ _ _ h => h) (Or.inl ⟨by rfl, ?_⟩) hHeld ?_ ?_
          rotate_left
          · rintro w' ⟨s0, s1, s2, s3, s4, s5⟩
            go_simp
            with_reducible rfl
          rotate_left
          · simp only [Act.put, la_, lb_, lc_, i64_w, i32_w]
            rfl
          refine one_ (i := 6) (N := none) #[true, true, true, true, true, true, true, false, false] rfl rfl (one_of HT_.out (by kernel_rfl)) (by decide) (fun K hK => ?_)
          have hs94 : w93.cell? ⟨gb240, 0, none⟩ = some (.bool false) := (blk_cell BK240.out 0).trans rfl
          have hfs94 := blk_frozen BK240.out 0
          have hns94_0 := NB238_240.out
          have hns94_1 := NB239_240.out
          have hns94_3 := NB241_240.out
          have hns94_4 := NB248_240.out
          have hns94_5 := NB253_240.out
          have hms94_0 := NB240_238.out
          have hms94_1 := NB240_239.out
          have hms94_3 := NB240_241.out
          have hms94_4 := NB240_248.out
          have hms94_5 := NB240_253.out
          have hs95 : w93.cell? ⟨gb240, 1, none⟩ = some (.int .u64 0) := (blk_cell BK240.out 1).trans rfl
          have hfs95 := blk_frozen BK240.out 1
          have hns95_0 := NB238_240.out
          have hns95_1 := NB239_240.out
          have hns95_3 := NB241_240.out
          have hns95_4 := NB248_240.out
          have hns95_5 := NB253_240.out
          have hms95_0 := NB240_238.out
          have hms95_1 := NB240_239.out
          have hms95_3 := NB240_241.out
          have hms95_4 := NB240_248.out
          have hms95_5 := NB240_253.out
          have hs96 : w93.cell? ⟨gb240, 2, none⟩ = some (.int .u64 0) := (blk_cell BK240.out 2).trans rfl
          have hfs96 := blk_frozen BK240.out 2
          have hns96_0 := NB238_240.out
          have hns96_1 := NB239_240.out
          have hns96_3 := NB241_240.out
          have hns96_4 := NB248_240.out
          have hns96_5 := NB253_240.out
          have hms96_0 := NB240_238.out
          have hms96_1 := NB240_239.out
          have hms96_3 := NB240_241.out
          have hms96_4 := NB240_248.out
          have hms96_5 := NB240_253.out
          refine skip_ (w1 := ?_) (by rfl) rfl ?_ ?_
          rotate_left
          · go_simp
            rfl
          refine hK.out _ _ ⟨((cell_far (p := ⟨gb240, _, none⟩) NB248_240.out _).trans (((cell_far (p := ⟨gb240, _, none⟩) NB248_240.out _).trans (((cell_far (p := ⟨gb240, _, none⟩) NB248_240.out _).trans (hHeld.1)))))), ((cell_far (p := ⟨gb240, _, none⟩) NB248_240.out _).trans (((cell_far (p := ⟨gb240, _, none⟩) NB248_240.out _).trans (((cell_far (p := ⟨gb240, _, none⟩) NB248_240.out _).trans (hHeld.2.1)))))), ((cell_far (p := ⟨gb240, _, none⟩) NB248_240.out _).trans (((cell_far (p := ⟨gb240, _, none⟩) NB248_240.out _).trans (((cell_far (p := ⟨gb240, _, none⟩) NB248_240.out _).trans (hHeld.2.2.1)))))), ((cell_far (p := ⟨gb240, _, none⟩) NB253_240.out _).trans (((cell_far (p := ⟨gb240, _, none⟩) NB253_240.out _).trans (((cell_far (p := ⟨gb240, _, none⟩) NB253_240.out _).trans (hHeld.2.2.2.1)))))), ((cell_far (p := ⟨gb240, _, none⟩) NB253_240.out _).trans (((cell_far (p := ⟨gb240, _, none⟩) NB253_240.out _).trans (((cell_far (p := ⟨gb240, _, none⟩) NB253_240.out _).trans (hHeld.2.2.2.2.1)))))), ((cell_far (p := ⟨gb240, _, none⟩) NB253_240.out _).trans (((cell_far (p := ⟨gb240, _, none⟩) NB253_240.out _).trans (((cell_far (p := ⟨gb240, _, none⟩) NB253_240.out _).trans (hHeld.2.2.2.2.2))))))⟩ (fun hHeld => ?_)
          clear hK K
          refine one_ (i := 7) (N := none) #[true, true, true, true, true, true, true, true, false] rfl rfl (one_of HT_.out (by kernel_rfl)) (by decide) (fun K hK => ?_)
          have hs97 : w93.cell? ⟨gb241, 0, none⟩ = some (.bool false) := (blk_cell BK241.out 0).trans rfl
          have hfs97 := blk_frozen BK241.out 0
          have hns97_0 := NB238_241.out
          have hns97_1 := NB239_241.out
          have hns97_2 := NB240_241.out
          have hns97_4 := NB248_241.out
          have hns97_5 := NB253_241.out
          have hms97_0 := NB241_238.out
          have hms97_1 := NB241_239.out
          have hms97_2 := NB241_240.out
          have hms97_4 := NB241_248.out
          have hms97_5 := NB241_253.out
          have hs98 : w93.cell? ⟨gb241, 1, none⟩ = some (.int .u64 0) := (blk_cell BK241.out 1).trans rfl
          have hfs98 := blk_frozen BK241.out 1
          have hns98_0 := NB238_241.out
          have hns98_1 := NB239_241.out
          have hns98_2 := NB240_241.out
          have hns98_4 := NB248_241.out
          have hns98_5 := NB253_241.out
          have hms98_0 := NB241_238.out
          have hms98_1 := NB241_239.out
          have hms98_2 := NB241_240.out
          have hms98_4 := NB241_248.out
          have hms98_5 := NB241_253.out
          have hs99 : w93.cell? ⟨gb241, 2, none⟩ = some (.int .u64 0) := (blk_cell BK241.out 2).trans rfl
          have hfs99 := blk_frozen BK241.out 2
          have hns99_0 := NB238_241.out
          have hns99_1 := NB239_241.out
          have hns99_2 := NB240_241.out
          have hns99_4 := NB248_241.out
          have hns99_5 := NB253_241.out
          have hms99_0 := NB241_238.out
          have hms99_1 := NB241_239.out
          have hms99_2 := NB241_240.out
          have hms99_4 := NB241_248.out
          have hms99_5 := NB241_253.out
          refine skip_ (w1 := ?_) (by rfl) rfl ?_ ?_
          rotate_left
          · go_simp
            rfl
          refine hK.out _ _ ⟨((cell_far (p := ⟨gb241, _, none⟩) NB248_241.out _).trans (((cell_far (p := ⟨gb241, _, none⟩) NB248_241.out _).trans (((cell_far (p := ⟨gb241, _, none⟩) NB248_241.out _).trans (hHeld.1)))))), ((cell_far (p := ⟨gb241, _, none⟩) NB248_241.out _).trans (((cell_far (p := ⟨gb241, _, none⟩) NB248_241.out _).trans (((cell_far (p := ⟨gb241, _, none⟩) NB248_241.out _).trans (hHeld.2.1)))))), ((cell_far (p := ⟨gb241, _, none⟩) NB248_241.out _).trans (((cell_far (p := ⟨gb241, _, none⟩) NB248_241.out _).trans (((cell_far (p := ⟨gb241, _, none⟩) NB248_241.out _).trans (hHeld.2.2.1)))))), ((cell_far (p := ⟨gb241, _, none⟩) NB253_241.out _).trans (((cell_far (p := ⟨gb241, _, none⟩) NB253_241.out _).trans (((cell_far (p := ⟨gb241, _, none⟩) NB253_241.out _).trans (hHeld.2.2.2.1)))))), ((cell_far (p := ⟨gb241, _, none⟩) NB253_241.out _).trans (((cell_far (p := ⟨gb241, _, none⟩) NB253_241.out _).trans (((cell_far (p := ⟨gb241, _, none⟩) NB253_241.out _).trans (hHeld.2.2.2.2.1)))))), ((cell_far (p := ⟨gb241, _, none⟩) NB253_241.out _).trans (((cell_far (p := ⟨gb241, _, none⟩) NB253_241.out _).trans (((cell_far (p := ⟨gb241, _, none⟩) NB253_241.out _).trans (hHeld.2.2.2.2.2))))))⟩ (fun hHeld => ?_)
          clear hK K
          refine pure_ (i := 8) (N := some 6) (v := ?_) (a' := ?_) #[true, true, true, true, true, true, true, true, true] rfl rfl (any_of HT_.out (by kernel_rfl)) (fun _ _ _ h => h) (Or.inl ⟨by rfl, ?_⟩) ?_ ?_
          rotate_left
          · intro w'
            go_simp
            with_reducible rfl
          rotate_left
          · simp only [Act.put, la_, lb_, lc_, i64_w, i32_w]
            rfl
          refine done_ (done_of HT_.out (by kernel_rfl)) ?_
          try go_wp2
          refine bodyPost_ret (results_list (rs := [.cell 4 30, .cell 5 30, .tmp 6]) rfl (by simp) (.cell gb240 30 #[.bool t244, .int .u64 t245, .int .u64 t246] (0, 0) _ rfl (pu_ #[.bool t244, .int .u64 t245, .int .u64 0] 2 (h := (pu_ #[.bool t244, .int .u64 0, .int .u64 0] 1 (h := (pu_ #[.bool false, .int .u64 0, .int .u64 0] 0 (h := bk_)))))) Try.underlying30 rfl (by kernel_rfl) (.cell gb241 30 #[.bool t249, .int .u64 t250, .int .u64 t251] (0, 0) _ rfl (pu_ #[.bool t249, .int .u64 t250, .int .u64 0] 2 (h := (pu_ #[.bool t249, .int .u64 0, .int .u64 0] 1 (h := (pu_ #[.bool false, .int .u64 0, .int .u64 0] 0 (h := bk_)))))) Try.underlying30 rfl (by kernel_rfl) (.tmp .nil)))) rfl ?_
          exact ⟨by first | rfl | (simp [errW_none, errW_some] <;> rfl) | (simp [*, errW_none, errW_some] <;> rfl), by repeat (first | (with_reducible first | exact HB.out | apply below_alloc | apply pw_below_drewN | apply below_drew1 | refine below_set ?_ GE238.out | refine below_set ?_ GE239.out | refine below_set ?_ GE240.out | refine below_set ?_ GE241.out | refine below_set ?_ GE248.out | refine below_set ?_ GE253.out) | exact HB.out)⟩

end Go.Proofs.Ytodbmgnhcglcnaa.PFnExactAddFrac
