/- Contracts of Go functions, each with the Lean function that says what it computes: begun by the print, turned by this session. No condition beyond what each theorem states. -/
import Derived.Test.YtkpgpifkbdpnkaaDoorPFnFracSumx0
import Derived.Test.YtkpgpifkbdpnkaaDoorPFnFracSumx8
namespace Go.Proofs.YtkpgpifkbdpnkaaDoor.PFnFracSum
open Go.RowKit Go.Proofs.YtkpgpifkbdpnkaaDoorVFnFracSum.PrintWords Go.Proofs.YtkpgpifkbdpnkaaDoorVFnFracSum.PrintLast Go.Proofs.YtkpgpifkbdpnkaaDoorVFnFracSum.PrintMore
attribute [local go_sem] max2_int min2_int max_two min_two max_three min_three max_four min_four   -- for this text's walks alone
set_option linter.unusedVariables false
set_option linter.unusedSimpArgs false
/-! ### impl_AddWide: function 56 -/
def impl_AddWide.j0 : Nat → Bool → Bool → Int → Int → Bool → Int → Int → Option (Bool × Int × Int × Bool)
 | 0, _, _, _, _, _, _, _ => none
 | k + 1, x22, x331000, x331001, x331002, x332000, x332001, x332002 => if x22 = true then (some (false, 0, 0, false)) else (if (x331000 != x332000) = true then ((impl_compareSizes.f k x331000 x331001 x331002 x332000 x332001 x332002).bind fun t335 => (if t335 < 0 then ((bits_Sub64.f x332002 x331002 0).bind fun bt336 => ((bits_Sub64.f x332001 x331001 bt336.2).bind fun bt338 => ((impl_wideOf.f x332000 bt338.1 bt336.1).bind fun bt340 => (some (bt340.1, bt340.2.1, bt340.2.2, true))))) else ((bits_Sub64.f x331002 x332002 0).bind fun bt343 => ((bits_Sub64.f x331001 x332001 bt343.2).bind fun bt345 => ((impl_wideOf.f x331000 bt345.1 bt343.1).bind fun bt347 => (some (bt347.1, bt347.2.1, bt347.2.2, true))))))) else ((bits_Add64.f x331002 x332002 0).bind fun bt350 => ((bits_Add64.f x331001 x332001 bt350.2).bind fun bt352 => ((impl_wideOf.f x331000 bt352.1 bt350.1).bind fun bt354 => ((impl_WideOk.f bt354.1 bt354.2.1 bt354.2.2).bind fun t358 => (if t358 = true then (some (bt354.1, bt354.2.1, bt354.2.2, true)) else (some (false, 0, 0, false))))))))
def impl_AddWide.f (k : Nat) (a0_0 : Bool) (a0_1 : Int) (a0_2 : Int) (a1_0 : Bool) (a1_1 : Int) (a1_2 : Int) : Option (Bool × Int × Int × Bool) := (impl_WideOk.f a0_0 a0_1 a0_2).bind fun t333 => (if t333 = true then ((impl_WideOk.f a1_0 a1_1 a1_2).bind fun t334 => (impl_AddWide.j0 k (!t334) a0_0 a0_1 a0_2 a1_0 a1_1 a1_2)) else (impl_AddWide.j0 k true a0_0 a0_1 a0_2 a1_0 a1_1 a1_2))
theorem impl_AddWide.mono_l : ∀ k, (∀ y0 y1 y2 y3 y4 y5 y6, LeO (impl_AddWide.j0 k y0 y1 y2 y3 y4 y5 y6) (impl_AddWide.j0 (k + 1) y0 y1 y2 y3 y4 y5 y6))
 | 0 => fun _ _ _ _ _ _ _ r h => by simp [impl_AddWide.j0] at h
 | k + 1 => by
  have ih0 := impl_AddWide.mono_l k
  ·intro y0 y1 y2 y3 y4 y5 y6
   unfold impl_AddWide.j0
   repeat' first
   | (with_reducible exact ih0 _ _ _ _ _ _ _)
   | (with_reducible exact impl_compareSizes.mono _ _ _ _ _ _ _)
   | (with_reducible exact LeO.refl _)
   | (with_reducible exact LeO.none _)
   | (with_reducible refine LeO.ite ?_ ?_)
   | (with_reducible refine LeO.bind ?_ (fun _ => ?_))
   | exact ih0 _ _ _ _ _ _ _
   | exact impl_compareSizes.mono _ _ _ _ _ _ _
   | exact LeO.none _
   | refine LeO.ite ?_ ?_
   | refine LeO.bind ?_ (fun _ => ?_)
theorem impl_AddWide.mono : ∀ a0 a1 a2 a3 a4 a5 k, LeO (impl_AddWide.f k a0 a1 a2 a3 a4 a5) (impl_AddWide.f (k + 1) a0 a1 a2 a3 a4 a5) := by
 intro a0 a1 a2 a3 a4 a5 k
 have ih0 := impl_AddWide.mono_l k
 unfold impl_AddWide.f
 repeat' first
   | (with_reducible exact ih0 _ _ _ _ _ _ _)
   | (with_reducible exact impl_compareSizes.mono _ _ _ _ _ _ _)
   | (with_reducible exact LeO.refl _)
   | (with_reducible exact LeO.none _)
   | (with_reducible refine LeO.ite ?_ ?_)
   | (with_reducible refine LeO.bind ?_ (fun _ => ?_))
   | exact ih0 _ _ _ _ _ _ _
   | exact impl_compareSizes.mono _ _ _ _ _ _ _
   | exact LeO.none _
   | refine LeO.ite ?_ ?_
   | refine LeO.bind ?_ (fun _ => ?_)
set_option maxHeartbeats 8000000 in
set_option maxRecDepth 100000 in
theorem impl_AddWide.calls (k : Nat) (a0_0 : Bool) (a0_1 : Int) (a0_2 : Int) (a1_0 : Bool) (a1_1 : Int) (a1_2 : Int) (r1 : Bool) (r2 : Int) (r3 : Int) (r4 : Bool) (w : World) (h : impl_AddWide.f k a0_0 a0_1 a0_2 a1_0 a1_1 a1_2 = some (r1, r2, r3, r4)) :
  Calls Tryd.prog 56 #[.agg #[.bool a0_0, .int .u64 a0_1, .int .u64 a0_2], .agg #[.bool a1_0, .int .u64 a1_1, .int .u64 a1_2]] w fun e w' => e = .returned (.tuple #[.agg #[.bool r1, .int .u64 r2, .int .u64 r3], .bool r4]) ∧ Below w.heap.size w w' := by
 have hu28 := Tryd.underlying28
 have HB := Aside0.mk (Below.refl w.heap.size w)
 have H : ((impl_WideOk.f a0_0 a0_1 a0_2).bind fun t333 => (if t333 = true then ((impl_WideOk.f a1_0 a1_1 a1_2).bind fun t334 => (impl_AddWide.j0 k (!t334) a0_0 a0_1 a0_2 a1_0 a1_1 a1_2)) else (impl_AddWide.j0 k true a0_0 a0_1 a0_2 a1_0 a1_1 a1_2))) = some (r1, r2, r3, r4) := h
 clear h
 have HC3 := Aside0.mk H
 clear H
 go_enter Tryd.func56, Tryd.ntmps56
 go_upto_region 1 with (first | ((with_reducible refine gate_dst (N := 2) rfl ?_); refine box_event ?hg (N := 2) ?hd (cs := #[.bool a0_0, .int .u64 a0_1, .int .u64 a0_2]) (t := 28) ?hr ?_; (case hd => rfl); (case hg => rfl); (case hr => first | (go_simp; done) | (go_simp; rfl)); intro gb330 hg w4 hbox hb; have BK330 := Aside0.mk (hbox); have GW330 := bs_ (w := w) hg; have GE330 := bs_ (w := w) hg; replace HB := Aside0.mk (below_step bel_ hb); clear hb hbox hg) | ((with_reducible refine gate_dst (N := 3) rfl ?_); refine box_event ?hg (N := 3) ?hd (cs := #[.bool a1_0, .int .u64 a1_1, .int .u64 a1_2]) (t := 28) ?hr ?_; (case hd => rfl); (case hg => rfl); (case hr => first | (go_simp; done) | (go_simp; rfl)); intro gb331 hg w5 hbox hb; have BK331 := Aside0.mk (hbox); have GW331 := bs_ (w := w) hg; have GE331 := bs_ (w := w) hg; have NB330_331 := nlt_ (g := gb330) hg; have NB331_330 := ngt_ (g := gb330) hg; replace HB := Aside0.mk (below_step bel_ hb); replace BK330 := bb_ (g := gb330) hb; clear hb hbox hg) | ((with_reducible refine gate_dst (N := 4) rfl ?_); refine box_event ?hg (N := 4) ?hd (cs := #[.bool false, .int .u64 0, .int .u64 0]) (t := 28) ?hr ?_; (case hd => rfl); (case hg => rfl); (case hr => first | (go_simp; done) | (go_simp; rfl)); intro gb332 hg w6 hbox hb; have BK332 := Aside0.mk (hbox); have GW332 := bs_ (w := w) hg; have GE332 := bs_ (w := w) hg; have NB330_332 := nlt_ (g := gb330) hg; have NB332_330 := ngt_ (g := gb330) hg; have NB331_332 := nlt_ (g := gb331) hg; have NB332_331 := ngt_ (g := gb331) hg; replace HB := Aside0.mk (below_step bel_ hb); replace BK330 := bb_ (g := gb330) hb; replace BK331 := bb_ (g := gb331) hb; clear hb hbox hg))
 (try simp only [Act.put, la_, lb_, lc_])
 go_cut [22] (fun v22 wc => ∃ (kq : Nat) (x22_2 : Bool), v22 = .bool x22_2 ∧ Aside0 (impl_AddWide.j0 kq x22_2 a0_0 a0_1 a0_2 a1_0 a1_1 a1_2 = some (r1, r2, r3, r4)) ∧ Aside0 (kq ≤ k) ∧ Aside0 (wc.heap[gb330]? = some (.cells #[.bool a0_0, .int .u64 a0_1, .int .u64 a0_2] 28 (0, 0))) ∧ Aside0 (wc.heap[gb331]? = some (.cells #[.bool a1_0, .int .u64 a1_1, .int .u64 a1_2] 28 (0, 0))) ∧ Aside0 (wc.heap[gb332]? = some (.cells #[.bool false, .int .u64 0, .int .u64 0] 28 (0, 0))) ∧ Aside0 (Below w.heap.size w wc))
 case first =>
  have H := HC3.out
  clear HC3
  replace H := Option.bind_eq_some_iff.mp H
  obtain ⟨t333, A70, H⟩ := H
  replace H : (if t333 = true then ((impl_WideOk.f a1_0 a1_1 a1_2).bind fun t334 => (impl_AddWide.j0 k (!t334) a0_0 a0_1 a0_2 a1_0 a1_1 a1_2)) else (impl_AddWide.j0 k true a0_0 a0_1 a0_2 a1_0 a1_1 a1_2)) = some (r1, r2, r3, r4) := H
  have A7 := Aside0.mk A70
  clear A70
  by_cases c8 : t333 = true
  ·subst c8
   have H1 : ((impl_WideOk.f a1_0 a1_1 a1_2).bind fun t334 => (impl_AddWide.j0 k (!t334) a0_0 a0_1 a0_2 a1_0 a1_1 a1_2)) = some (r1, r2, r3, r4) := by rw [if_pos rfl] at H; exact H
   clear H
   have H := H1
   clear H1
   replace H := Option.bind_eq_some_iff.mp H
   obtain ⟨t334, A90, H⟩ := H
   replace H : (impl_AddWide.j0 k (!t334) a0_0 a0_1 a0_2 a1_0 a1_1 a1_2) = some (r1, r2, r3, r4) := H
   have A9 := Aside0.mk A90
   clear A90
   have H' := Aside0.mk H
   clear H
   have hnb10 := NB330_331.out
   have hnc10 := NB331_330.out
   have hnb11 := NB330_332.out
   have hnc11 := NB332_330.out
   obtain ⟨hcz12_0, hcz12_1, hcz12_2, hfz12_0, hfz12_1, hfz12_2⟩ := cf3_ (w := w6) BK330.out
   go_wp2_with (first | ((with_reducible refine gate_callee (f := 45) rfl ?_); refine goesL_ (some 16) rfl rfl Tryd.func45 (by kernel_rfl) rfl #[.agg #[.bool a0_0, .int .u64 a0_1, .int .u64 a0_2]] rfl mp_ ?_; (with_reducible refine (impl_WideOk.calls a0_0 a0_1 a0_2 true _ A7.out).mono ?_); rintro e w13 ⟨rfl, hb⟩; refine ⟨_, rfl, ?_⟩; replace HB := Aside0.mk (below_step bel_ hb); replace BK330 := bb_ (g := gb330) hb; replace BK331 := bb_ (g := gb331) hb; replace BK332 := bb_ (g := gb332) hb; (try clear hb); (try clear hb2); (try clear hk); (try clear hi); have hnb14 := NB331_332.out; have hnc14 := NB332_331.out; obtain ⟨hcz15_0, hcz15_1, hcz15_2, hfz15_0, hfz15_1, hfz15_2⟩ := cf3_ (w := w13) BK331.out) | (go_at_call 45; (with_reducible refine (impl_WideOk.calls a1_0 a1_1 a1_2 t334 _ A9.out).mono ?_); rintro e w16 ⟨rfl, hb⟩; replace HB := Aside0.mk (below_step bel_ hb); replace BK330 := bb_ (g := gb330) hb; replace BK331 := bb_ (g := gb331) hb; replace BK332 := bb_ (g := gb332) hb; (try clear hb); (try clear hb2); (try clear hk); (try clear hi)))
   go_meet
   case rel => exact ⟨_, (!t334), (by first | rfl | (simp; done) | (simp [*]; done)), H', ⟨by first | omega | exact Nat.le_refl _⟩, ⟨by (with_reducible repeat (first | refine bN_ _ ?_ | refine bd_ ?_ | refine ba_ _ ?_)); exact BK330.out⟩, ⟨by (with_reducible repeat (first | refine bN_ _ ?_ | refine bd_ ?_ | refine ba_ _ ?_)); exact BK331.out⟩, ⟨by (with_reducible repeat (first | refine bN_ _ ?_ | refine bd_ ?_ | refine ba_ _ ?_)); exact BK332.out⟩, ⟨bel_⟩⟩
  ·replace c8 := Bool.eq_false_iff.mpr c8
   subst c8
   have H1 : (impl_AddWide.j0 k true a0_0 a0_1 a0_2 a1_0 a1_1 a1_2) = some (r1, r2, r3, r4) := by rw [if_neg (show ¬ (false = true) by decide)] at H; exact H
   clear H
   have H := H1
   clear H1
   have H' := Aside0.mk H
   clear H
   have hnb17 := NB330_331.out
   have hnc17 := NB331_330.out
   have hnb18 := NB330_332.out
   have hnc18 := NB332_330.out
   obtain ⟨hcz19_0, hcz19_1, hcz19_2, hfz19_0, hfz19_1, hfz19_2⟩ := cf3_ (w := w6) BK330.out
   go_wp2_with (first | ((with_reducible refine gate_callee (f := 45) rfl ?_); refine goesL_ (some 16) rfl rfl Tryd.func45 (by kernel_rfl) rfl #[.agg #[.bool a0_0, .int .u64 a0_1, .int .u64 a0_2]] rfl mp_ ?_; (with_reducible refine (impl_WideOk.calls a0_0 a0_1 a0_2 false _ A7.out).mono ?_); rintro e w20 ⟨rfl, hb⟩; refine ⟨_, rfl, ?_⟩; replace HB := Aside0.mk (below_step bel_ hb); replace BK330 := bb_ (g := gb330) hb; replace BK331 := bb_ (g := gb331) hb; replace BK332 := bb_ (g := gb332) hb; (try clear hb); (try clear hb2); (try clear hk); (try clear hi)))
   go_meet
   case rel => exact ⟨_, (true), (by first | rfl | (simp; done) | (simp [*]; done)), H', ⟨by first | omega | exact Nat.le_refl _⟩, ⟨by (with_reducible repeat (first | refine bN_ _ ?_ | refine bd_ ?_ | refine ba_ _ ?_)); exact BK330.out⟩, ⟨by (with_reducible repeat (first | refine bN_ _ ?_ | refine bd_ ?_ | refine ba_ _ ?_)); exact BK331.out⟩, ⟨by (with_reducible repeat (first | refine bN_ _ ?_ | refine bd_ ?_ | refine ba_ _ ?_)); exact BK332.out⟩, ⟨bel_⟩⟩
 case rest =>
  clear HC3
  try clear c1
  try clear p2
  try clear c4
  try clear c5
  try clear c8
  try clear c10
  try clear c11
  try clear c14
  try clear c17
  try clear c18
  try clear hcz12_0
  try clear hcz12_1
  try clear hcz12_2
  try clear hcz15_0
  try clear hcz15_1
  try clear hcz15_2
  try clear hcz19_0
  try clear hcz19_1
  try clear hcz19_2
  try clear hfz12_0
  try clear hfz12_1
  try clear hfz12_2
  try clear hfz15_0
  try clear hfz15_1
  try clear hfz15_2
  try clear hfz19_0
  try clear hfz19_1
  try clear hfz19_2
  obtain ⟨kq, x22_2, rfl, HA, HJ2, BK330, BK331, BK332, HB⟩ := hcut
  cases kq with
  | zero => exact absurd HA.out (by simp [impl_AddWide.j0])
  | succ kj2 =>
   have H := HA.out
   clear HA
   simp only [impl_AddWide.j0] at H
   by_cases c21 : x22_2 = true
   ·subst c21
    have H1 : (some (false, 0, 0, false)) = some (r1, r2, r3, r4) := by rw [if_pos rfl] at H; exact H
    clear H
    have H := H1
    clear H1
    simp only [Option.some.injEq, Prod.mk.injEq] at H
    obtain ⟨rfl, rfl, rfl, rfl⟩ := H
    have hnb22 := NB332_330.out
    have hnc22 := NB330_332.out
    have hnb23 := NB332_331.out
    have hnc23 := NB331_332.out
    obtain ⟨hcz24_0, hcz24_1, hcz24_2, hfz24_0, hfz24_1, hfz24_2⟩ := cf3_ (w := wc) BK332.out
    go_wp2
    refine bodyPost_ret (results_ct rfl _ _ gb332 28 #[.bool false, .int .u64 0, .int .u64 0] (0, 0) _ rfl (pu_ #[.bool false, .int .u64 0, .int .u64 0] 2 (h := (pu_ #[.bool false, .int .u64 0, .int .u64 0] 1 (h := (pu_ #[.bool false, .int .u64 0, .int .u64 0] 0 (h := bk_)))))) Tryd.underlying28 rfl (by kernel_rfl)) rfl ?_
    exact ⟨rf_, bel_⟩
   ·replace c21 := Bool.eq_false_iff.mpr c21
    subst c21
    have H1 : (if (a0_0 != a1_0) = true then ((impl_compareSizes.f kj2 a0_0 a0_1 a0_2 a1_0 a1_1 a1_2).bind fun t335 => (if t335 < 0 then ((bits_Sub64.f a1_2 a0_2 0).bind fun bt336 => ((bits_Sub64.f a1_1 a0_1 bt336.2).bind fun bt338 => ((impl_wideOf.f a1_0 bt338.1 bt336.1).bind fun bt340 => (some (bt340.1, bt340.2.1, bt340.2.2, true))))) else ((bits_Sub64.f a0_2 a1_2 0).bind fun bt343 => ((bits_Sub64.f a0_1 a1_1 bt343.2).bind fun bt345 => ((impl_wideOf.f a0_0 bt345.1 bt343.1).bind fun bt347 => (some (bt347.1, bt347.2.1, bt347.2.2, true))))))) else ((bits_Add64.f a0_2 a1_2 0).bind fun bt350 => ((bits_Add64.f a0_1 a1_1 bt350.2).bind fun bt352 => ((impl_wideOf.f a0_0 bt352.1 bt350.1).bind fun bt354 => ((impl_WideOk.f bt354.1 bt354.2.1 bt354.2.2).bind fun t358 => (if t358 = true then (some (bt354.1, bt354.2.1, bt354.2.2, true)) else (some (false, 0, 0, false)))))))) = some (r1, r2, r3, r4) := by rw [if_neg (show ¬ (false = true) by decide)] at H; exact H
    clear H
    have H := H1
    clear H1
    by_cases c25 : (a0_0 != a1_0) = true
    ·rw [if_pos c25] at H
     have c25b0 : (a0_0 != a1_0) = true := c25
     (try (have c25b1 : decide (a0_0 = a1_0) = false := by simpa using c25))
     (try (have c25b2 : (a0_0 == a1_0) = false := by simpa using c25))
     (try (have c25b3 : ¬ (a0_0 = a1_0) := by simpa using c25))
     clear c25
     replace H := Option.bind_eq_some_iff.mp H
     obtain ⟨t335, A260, H⟩ := H
     replace H : (if t335 < 0 then ((bits_Sub64.f a1_2 a0_2 0).bind fun bt336 => ((bits_Sub64.f a1_1 a0_1 bt336.2).bind fun bt338 => ((impl_wideOf.f a1_0 bt338.1 bt336.1).bind fun bt340 => (some (bt340.1, bt340.2.1, bt340.2.2, true))))) else ((bits_Sub64.f a0_2 a1_2 0).bind fun bt343 => ((bits_Sub64.f a0_1 a1_1 bt343.2).bind fun bt345 => ((impl_wideOf.f a0_0 bt345.1 bt343.1).bind fun bt347 => (some (bt347.1, bt347.2.1, bt347.2.2, true)))))) = some (r1, r2, r3, r4) := H
     have A26 := Aside0.mk A260
     clear A260
     by_cases c27 : t335 < 0
     ·rw [if_pos c27] at H
      have c27b0 : decide (t335 < 0) = true := decide_eq_true c27
      clear c27
      replace H := Option.bind_eq_some_iff.mp H
      obtain ⟨⟨t336, t337⟩, A280, H⟩ := H
      replace H : ((bits_Sub64.f a1_1 a0_1 t337).bind fun bt338 => ((impl_wideOf.f a1_0 bt338.1 t336).bind fun bt340 => (some (bt340.1, bt340.2.1, bt340.2.2, true)))) = some (r1, r2, r3, r4) := H
      have A28 := Aside0.mk A280
      clear A280
      replace H := Option.bind_eq_some_iff.mp H
      obtain ⟨⟨t338, t339⟩, A290, H⟩ := H
      replace H : ((impl_wideOf.f a1_0 t338 t336).bind fun bt340 => (some (bt340.1, bt340.2.1, bt340.2.2, true))) = some (r1, r2, r3, r4) := H
      have A29 := Aside0.mk A290
      clear A290
      replace H := Option.bind_eq_some_iff.mp H
      obtain ⟨⟨t340, t341, t342⟩, A300, H⟩ := H
      replace H : (some (t340, t341, t342, true)) = some (r1, r2, r3, r4) := H
      have A30 := Aside0.mk A300
      clear A300
      simp only [Option.some.injEq, Prod.mk.injEq] at H
      obtain ⟨rfl, rfl, rfl, rfl⟩ := H
      have hnb31 := NB330_331.out
      have hnc31 := NB331_330.out
      have hnb32 := NB330_332.out
      have hnc32 := NB332_330.out
      obtain ⟨hcz33_0, hcz33_1, hcz33_2, hfz33_0, hfz33_1, hfz33_2⟩ := cf3_ (w := wc) BK330.out
      have hnb34 := NB331_332.out
      have hnc34 := NB332_331.out
      obtain ⟨hcz35_0, hcz35_1, hcz35_2, hfz35_0, hfz35_1, hfz35_2⟩ := cf3_ (w := wc) BK331.out
      go_wp2_with (first | ((with_reducible refine gate_callee (f := 97) rfl ?_); refine goesL_ (some 31) rfl rfl Tryd.func97 (by kernel_rfl) rfl #[.agg #[.bool a0_0, .int .u64 a0_1, .int .u64 a0_2], .agg #[.bool a1_0, .int .u64 a1_1, .int .u64 a1_2]] rfl mp_ ?_; (with_reducible refine (impl_compareSizes.calls kj2 a0_0 a0_1 a0_2 a1_0 a1_1 a1_2 t335 _ A26.out).mono ?_); rintro e w36 ⟨rfl, hb⟩; refine ⟨_, rfl, ?_⟩; replace HB := Aside0.mk (below_step bel_ hb); replace BK330 := bb_ (g := gb330) hb; replace BK331 := bb_ (g := gb331) hb; replace BK332 := bb_ (g := gb332) hb; (try clear hb); (try clear hb2); (try clear hk); (try clear hi); obtain ⟨hcz37_0, hcz37_1, hcz37_2, hfz37_0, hfz37_1, hfz37_2⟩ := cf3_ (w := w36) BK331.out; obtain ⟨hcz38_0, hcz38_1, hcz38_2, hfz38_0, hfz38_1, hfz38_2⟩ := cf3_ (w := w36) BK330.out) | ((with_reducible refine gate_callee (f := 98) rfl ?_); refine goesX_ (some 40) rfl rfl #[.int .u64 a1_2, .int .u64 a0_2, .int .u64 0] rfl mp_ (bits_Sub64.run a1_2 a0_2 0 t336 t337 _ A28.out) ?_) | ((with_reducible refine gate_callee (f := 98) rfl ?_); refine goesX_ (some 49) rfl rfl #[.int .u64 a1_1, .int .u64 a0_1, .int .u64 t337] rfl mp_ (bits_Sub64.run a1_1 a0_1 t337 t338 t339 _ A29.out) ?_) | ((with_reducible refine gate_callee (f := 49) rfl ?_); refine goesL_ (some 56) rfl rfl Tryd.func49 (by kernel_rfl) rfl #[.bool a1_0, .int .u64 t338, .int .u64 t336] rfl mp_ ?_; (with_reducible refine (impl_wideOf.calls a1_0 t338 t336 t340 t341 t342 _ A30.out).mono ?_); rintro e w39 ⟨rfl, hb⟩; refine ⟨_, rfl, ?_⟩; replace HB := Aside0.mk (below_step bel_ hb); replace BK330 := Aside0.mk (blk_below (g := gb330) (o := .cells #[.bool a1_0, .int .u64 a1_1, .int .u64 a1_2] 28 (0, 0)) (pu_ #[.bool a1_0, .int .u64 a1_1, .int .u64 a0_2] 2 (h := (pu_ #[.bool a1_0, .int .u64 a0_1, .int .u64 a0_2] 1 (h := (pu_ #[.bool a0_0, .int .u64 a0_1, .int .u64 a0_2] 0 (h := bk_)))))) hb); replace BK331 := Aside0.mk (blk_below (g := gb331) (o := .cells #[.bool a0_0, .int .u64 a0_1, .int .u64 a0_2] 28 (0, 0)) (pu_ #[.bool a0_0, .int .u64 a0_1, .int .u64 a1_2] 2 (h := (pu_ #[.bool a0_0, .int .u64 a1_1, .int .u64 a1_2] 1 (h := (pu_ #[.bool a1_0, .int .u64 a1_1, .int .u64 a1_2] 0 (h := bk_)))))) hb); replace BK332 := Aside0.mk (blk_below (g := gb332) (o := .cells #[.bool false, .int .u64 0, .int .u64 0] 28 (0, 0)) bk_ hb); (try clear hb); (try clear hb2); (try clear hk); (try clear hi); obtain ⟨hcz40_0, hcz40_1, hcz40_2, hfz40_0, hfz40_1, hfz40_2⟩ := cf3_ (w := w39) BK332.out))
      refine bodyPost_ret (results_ct rfl _ _ gb332 28 #[.bool t340, .int .u64 t341, .int .u64 t342] (0, 0) _ rfl (pu_ #[.bool t340, .int .u64 t341, .int .u64 0] 2 (h := (pu_ #[.bool t340, .int .u64 0, .int .u64 0] 1 (h := (pu_ #[.bool false, .int .u64 0, .int .u64 0] 0 (h := bk_)))))) Tryd.underlying28 rfl (by kernel_rfl)) rfl ?_
      exact ⟨rf_, bel_⟩
     ·rw [if_neg c27] at H
      have c27b0 : decide (t335 < 0) = false := decide_eq_false c27
      clear c27
      replace H := Option.bind_eq_some_iff.mp H
      obtain ⟨⟨t343, t344⟩, A410, H⟩ := H
      replace H : ((bits_Sub64.f a0_1 a1_1 t344).bind fun bt345 => ((impl_wideOf.f a0_0 bt345.1 t343).bind fun bt347 => (some (bt347.1, bt347.2.1, bt347.2.2, true)))) = some (r1, r2, r3, r4) := H
      have A41 := Aside0.mk A410
      clear A410
      replace H := Option.bind_eq_some_iff.mp H
      obtain ⟨⟨t345, t346⟩, A420, H⟩ := H
      replace H : ((impl_wideOf.f a0_0 t345 t343).bind fun bt347 => (some (bt347.1, bt347.2.1, bt347.2.2, true))) = some (r1, r2, r3, r4) := H
      have A42 := Aside0.mk A420
      clear A420
      replace H := Option.bind_eq_some_iff.mp H
      obtain ⟨⟨t347, t348, t349⟩, A430, H⟩ := H
      replace H : (some (t347, t348, t349, true)) = some (r1, r2, r3, r4) := H
      have A43 := Aside0.mk A430
      clear A430
      simp only [Option.some.injEq, Prod.mk.injEq] at H
      obtain ⟨rfl, rfl, rfl, rfl⟩ := H
      have hnb44 := NB330_331.out
      have hnc44 := NB331_330.out
      have hnb45 := NB330_332.out
      have hnc45 := NB332_330.out
      obtain ⟨hcz46_0, hcz46_1, hcz46_2, hfz46_0, hfz46_1, hfz46_2⟩ := cf3_ (w := wc) BK330.out
      have hnb47 := NB331_332.out
      have hnc47 := NB332_331.out
      obtain ⟨hcz48_0, hcz48_1, hcz48_2, hfz48_0, hfz48_1, hfz48_2⟩ := cf3_ (w := wc) BK331.out
      go_wp2_with (first | ((with_reducible refine gate_callee (f := 97) rfl ?_); refine goesL_ (some 31) rfl rfl Tryd.func97 (by kernel_rfl) rfl #[.agg #[.bool a0_0, .int .u64 a0_1, .int .u64 a0_2], .agg #[.bool a1_0, .int .u64 a1_1, .int .u64 a1_2]] rfl mp_ ?_; (with_reducible refine (impl_compareSizes.calls kj2 a0_0 a0_1 a0_2 a1_0 a1_1 a1_2 t335 _ A26.out).mono ?_); rintro e w49 ⟨rfl, hb⟩; refine ⟨_, rfl, ?_⟩; replace HB := Aside0.mk (below_step bel_ hb); replace BK330 := bb_ (g := gb330) hb; replace BK331 := bb_ (g := gb331) hb; replace BK332 := bb_ (g := gb332) hb; (try clear hb); (try clear hb2); (try clear hk); (try clear hi); obtain ⟨hcz50_0, hcz50_1, hcz50_2, hfz50_0, hfz50_1, hfz50_2⟩ := cf3_ (w := w49) BK330.out; obtain ⟨hcz51_0, hcz51_1, hcz51_2, hfz51_0, hfz51_1, hfz51_2⟩ := cf3_ (w := w49) BK331.out) | ((with_reducible refine gate_callee (f := 98) rfl ?_); refine goesX_ (some 40) rfl rfl #[.int .u64 a0_2, .int .u64 a1_2, .int .u64 0] rfl mp_ (bits_Sub64.run a0_2 a1_2 0 t343 t344 _ A41.out) ?_; (try (rw [drewN_self w49]; generalize hq_ : World.drewN w49 _ = w49; have n0_ : Aside0 (w49.heap[gb330]? = some (.cells #[.bool a0_0, .int .u64 a0_1, .int .u64 a0_2] 28 (0, 0))) := ⟨by rw [← hq_]; exact bk_⟩; have n1_ : Aside0 (w49.heap[gb331]? = some (.cells #[.bool a1_0, .int .u64 a1_1, .int .u64 a1_2] 28 (0, 0))) := ⟨by rw [← hq_]; exact bk_⟩; have n2_ : Aside0 (w49.heap[gb332]? = some (.cells #[.bool false, .int .u64 0, .int .u64 0] 28 (0, 0))) := ⟨by rw [← hq_]; exact bk_⟩; have n3_ : Aside0 (Below w.heap.size w w49) := ⟨by rw [← hq_]; exact bel_⟩; clear BK330 BK331 BK332 HB hq_; have BK330 := n0_; have BK331 := n1_; have BK332 := n2_; have HB := n3_; clear n0_ n1_ n2_ n3_))) | ((with_reducible refine gate_callee (f := 98) rfl ?_); refine goesX_ (some 49) rfl rfl #[.int .u64 a0_1, .int .u64 a1_1, .int .u64 t344] rfl mp_ (bits_Sub64.run a0_1 a1_1 t344 t345 t346 _ A42.out) ?_; (try (rw [drewN_self w49]; generalize hq_ : World.drewN w49 _ = w49; have n0_ : Aside0 (w49.heap[gb330]? = some (.cells #[.bool a0_0, .int .u64 a0_1, .int .u64 a0_2] 28 (0, 0))) := ⟨by rw [← hq_]; exact bk_⟩; have n1_ : Aside0 (w49.heap[gb331]? = some (.cells #[.bool a1_0, .int .u64 a1_1, .int .u64 a1_2] 28 (0, 0))) := ⟨by rw [← hq_]; exact bk_⟩; have n2_ : Aside0 (w49.heap[gb332]? = some (.cells #[.bool false, .int .u64 0, .int .u64 0] 28 (0, 0))) := ⟨by rw [← hq_]; exact bk_⟩; have n3_ : Aside0 (Below w.heap.size w w49) := ⟨by rw [← hq_]; exact bel_⟩; clear BK330 BK331 BK332 HB hq_; have BK330 := n0_; have BK331 := n1_; have BK332 := n2_; have HB := n3_; clear n0_ n1_ n2_ n3_))) | ((with_reducible refine gate_callee (f := 49) rfl ?_); refine goesL_ (some 56) rfl rfl Tryd.func49 (by kernel_rfl) rfl #[.bool a0_0, .int .u64 t345, .int .u64 t343] rfl mp_ ?_; (with_reducible refine (impl_wideOf.calls a0_0 t345 t343 t347 t348 t349 _ A43.out).mono ?_); rintro e w52 ⟨rfl, hb⟩; refine ⟨_, rfl, ?_⟩; replace HB := Aside0.mk (below_step bel_ hb); replace BK330 := bb_ (g := gb330) hb; replace BK331 := bb_ (g := gb331) hb; replace BK332 := bb_ (g := gb332) hb; (try clear hb); (try clear hb2); (try clear hk); (try clear hi); obtain ⟨hcz53_0, hcz53_1, hcz53_2, hfz53_0, hfz53_1, hfz53_2⟩ := cf3_ (w := w52) BK332.out))
      refine bodyPost_ret (results_ct rfl _ _ gb332 28 #[.bool t347, .int .u64 t348, .int .u64 t349] (0, 0) _ rfl (pu_ #[.bool t347, .int .u64 t348, .int .u64 0] 2 (h := (pu_ #[.bool t347, .int .u64 0, .int .u64 0] 1 (h := (pu_ #[.bool false, .int .u64 0, .int .u64 0] 0 (h := bk_)))))) Tryd.underlying28 rfl (by kernel_rfl)) rfl ?_
      exact ⟨rf_, bel_⟩
    ·rw [if_neg c25] at H
     have c25b0 : (a0_0 != a1_0) = false := by simpa using c25
     (try (have c25b1 : decide (a0_0 = a1_0) = true := by simpa using c25))
     (try (have c25b2 : (a0_0 == a1_0) = true := by simpa using c25))
     clear c25
     replace H := Option.bind_eq_some_iff.mp H
     obtain ⟨⟨t350, t351⟩, A540, H⟩ := H
     replace H : ((bits_Add64.f a0_1 a1_1 t351).bind fun bt352 => ((impl_wideOf.f a0_0 bt352.1 t350).bind fun bt354 => ((impl_WideOk.f bt354.1 bt354.2.1 bt354.2.2).bind fun t358 => (if t358 = true then (some (bt354.1, bt354.2.1, bt354.2.2, true)) else (some (false, 0, 0, false)))))) = some (r1, r2, r3, r4) := H
     have A54 := Aside0.mk A540
     clear A540
     replace H := Option.bind_eq_some_iff.mp H
     obtain ⟨⟨t352, t353⟩, A550, H⟩ := H
     replace H : ((impl_wideOf.f a0_0 t352 t350).bind fun bt354 => ((impl_WideOk.f bt354.1 bt354.2.1 bt354.2.2).bind fun t358 => (if t358 = true then (some (bt354.1, bt354.2.1, bt354.2.2, true)) else (some (false, 0, 0, false))))) = some (r1, r2, r3, r4) := H
     have A55 := Aside0.mk A550
     clear A550
     replace H := Option.bind_eq_some_iff.mp H
     obtain ⟨⟨t354, t355, t356⟩, A560, H⟩ := H
     replace H : ((impl_WideOk.f t354 t355 t356).bind fun t358 => (if t358 = true then (some (t354, t355, t356, true)) else (some (false, 0, 0, false)))) = some (r1, r2, r3, r4) := H
     have A56 := Aside0.mk A560
     clear A560
     replace H := Option.bind_eq_some_iff.mp H
     obtain ⟨t358, A570, H⟩ := H
     replace H : (if t358 = true then (some (t354, t355, t356, true)) else (some (false, 0, 0, false))) = some (r1, r2, r3, r4) := H
     have A57 := Aside0.mk A570
     clear A570
     by_cases c58 : t358 = true
     ·subst c58
      have H1 : (some (t354, t355, t356, true)) = some (r1, r2, r3, r4) := by rw [if_pos rfl] at H; exact H
      clear H
      have H := H1
      clear H1
      simp only [Option.some.injEq, Prod.mk.injEq] at H
      obtain ⟨rfl, rfl, rfl, rfl⟩ := H
      have hnb59 := NB330_331.out
      have hnc59 := NB331_330.out
      have hnb60 := NB330_332.out
      have hnc60 := NB332_330.out
      obtain ⟨hcz61_0, hcz61_1, hcz61_2, hfz61_0, hfz61_1, hfz61_2⟩ := cf3_ (w := wc) BK330.out
      have hnb62 := NB331_332.out
      have hnc62 := NB332_331.out
      obtain ⟨hcz63_0, hcz63_1, hcz63_2, hfz63_0, hfz63_1, hfz63_2⟩ := cf3_ (w := wc) BK331.out
      go_wp2_with (first | ((with_reducible refine gate_callee (f := 96) rfl ?_); refine goesX_ (some 62) rfl rfl #[.int .u64 a0_2, .int .u64 a1_2, .int .u64 0] rfl mp_ (bits_Add64.run a0_2 a1_2 0 t350 t351 _ A54.out) ?_; (try (rw [drewN_self wc]; generalize hq_ : World.drewN wc _ = wc; have n0_ : Aside0 (wc.heap[gb330]? = some (.cells #[.bool a0_0, .int .u64 a0_1, .int .u64 a0_2] 28 (0, 0))) := ⟨by rw [← hq_]; exact bk_⟩; have n1_ : Aside0 (wc.heap[gb331]? = some (.cells #[.bool a1_0, .int .u64 a1_1, .int .u64 a1_2] 28 (0, 0))) := ⟨by rw [← hq_]; exact bk_⟩; have n2_ : Aside0 (wc.heap[gb332]? = some (.cells #[.bool false, .int .u64 0, .int .u64 0] 28 (0, 0))) := ⟨by rw [← hq_]; exact bk_⟩; have n3_ : Aside0 (Below w.heap.size w wc) := ⟨by rw [← hq_]; exact bel_⟩; clear BK330 BK331 BK332 HB hq_; have BK330 := n0_; have BK331 := n1_; have BK332 := n2_; have HB := n3_; clear n0_ n1_ n2_ n3_))) | ((with_reducible refine gate_callee (f := 96) rfl ?_); refine goesX_ (some 71) rfl rfl #[.int .u64 a0_1, .int .u64 a1_1, .int .u64 t351] rfl mp_ (bits_Add64.run a0_1 a1_1 t351 t352 t353 _ A55.out) ?_; (try (rw [drewN_self wc]; generalize hq_ : World.drewN wc _ = wc; have n0_ : Aside0 (wc.heap[gb330]? = some (.cells #[.bool a0_0, .int .u64 a0_1, .int .u64 a0_2] 28 (0, 0))) := ⟨by rw [← hq_]; exact bk_⟩; have n1_ : Aside0 (wc.heap[gb331]? = some (.cells #[.bool a1_0, .int .u64 a1_1, .int .u64 a1_2] 28 (0, 0))) := ⟨by rw [← hq_]; exact bk_⟩; have n2_ : Aside0 (wc.heap[gb332]? = some (.cells #[.bool false, .int .u64 0, .int .u64 0] 28 (0, 0))) := ⟨by rw [← hq_]; exact bk_⟩; have n3_ : Aside0 (Below w.heap.size w wc) := ⟨by rw [← hq_]; exact bel_⟩; clear BK330 BK331 BK332 HB hq_; have BK330 := n0_; have BK331 := n1_; have BK332 := n2_; have HB := n3_; clear n0_ n1_ n2_ n3_))) | ((with_reducible refine gate_callee (f := 49) rfl ?_); refine goesL_ (some 78) rfl rfl Tryd.func49 (by kernel_rfl) rfl #[.bool a0_0, .int .u64 t352, .int .u64 t350] rfl mp_ ?_; (with_reducible refine (impl_wideOf.calls a0_0 t352 t350 t354 t355 t356 _ A56.out).mono ?_); rintro e w64 ⟨rfl, hb⟩; refine ⟨_, rfl, ?_⟩; replace HB := Aside0.mk (below_step bel_ hb); replace BK330 := bb_ (g := gb330) hb; replace BK331 := bb_ (g := gb331) hb; replace BK332 := bb_ (g := gb332) hb; (try clear hb); (try clear hb2); (try clear hk); (try clear hi)) | ((with_reducible refine gate_dst (N := 14) rfl ?_); refine box_event ?hg (N := 14) ?hd (cs := #[.bool false, .int .u64 0, .int .u64 0]) (t := 28) ?hr ?_; (case hd => rfl); (case hg => rfl); (case hr => first | (go_simp; done) | (go_simp; rfl)); intro gb357 hg w65 hbox hb; have BK357 := Aside0.mk (hbox); have GW357 := bs_ (w := w) hg; have GE357 := bs_ (w := w) hg; have NB330_357 := nlt_ (g := gb330) hg; have NB357_330 := ngt_ (g := gb330) hg; have NB331_357 := nlt_ (g := gb331) hg; have NB357_331 := ngt_ (g := gb331) hg; have NB332_357 := nlt_ (g := gb332) hg; have NB357_332 := ngt_ (g := gb332) hg; replace HB := Aside0.mk (below_step bel_ hb); replace BK330 := bb_ (g := gb330) hb; replace BK331 := bb_ (g := gb331) hb; replace BK332 := bb_ (g := gb332) hb; clear hb hbox hg; have hnb66 := NB357_330.out; have hnc66 := NB330_357.out; have hnb67 := NB357_331.out; have hnc67 := NB331_357.out; have hnb68 := NB357_332.out; have hnc68 := NB332_357.out; obtain ⟨hcz69_0, hcz69_1, hcz69_2, hfz69_0, hfz69_1, hfz69_2⟩ := cf3_ (w := w65) BK357.out) | ((with_reducible refine gate_callee (f := 45) rfl ?_); refine goesL_ (some 80) rfl rfl Tryd.func45 (by kernel_rfl) rfl #[.agg #[.bool t354, .int .u64 t355, .int .u64 t356]] rfl mp_ ?_; (with_reducible refine (impl_WideOk.calls t354 t355 t356 true _ A57.out).mono ?_); rintro e w70 ⟨rfl, hb⟩; refine ⟨_, rfl, ?_⟩; replace HB := Aside0.mk (below_step bel_ hb); replace BK330 := Aside0.mk (blk_below (g := gb330) (o := .cells #[.bool a0_0, .int .u64 a0_1, .int .u64 a0_2] 28 (0, 0)) bk_ hb); replace BK331 := Aside0.mk (blk_below (g := gb331) (o := .cells #[.bool a1_0, .int .u64 a1_1, .int .u64 a1_2] 28 (0, 0)) bk_ hb); replace BK332 := Aside0.mk (blk_below (g := gb332) (o := .cells #[.bool false, .int .u64 0, .int .u64 0] 28 (0, 0)) bk_ hb); replace BK357 := Aside0.mk (blk_below (g := gb357) (o := .cells #[.bool t354, .int .u64 t355, .int .u64 t356] 28 (0, 0)) (pu_ #[.bool t354, .int .u64 t355, .int .u64 0] 2 (h := (pu_ #[.bool t354, .int .u64 0, .int .u64 0] 1 (h := (pu_ #[.bool false, .int .u64 0, .int .u64 0] 0 (h := bk_)))))) hb); (try clear hb); (try clear hb2); (try clear hk); (try clear hi); obtain ⟨hcz71_0, hcz71_1, hcz71_2, hfz71_0, hfz71_1, hfz71_2⟩ := cf3_ (w := w70) BK357.out; obtain ⟨hcz72_0, hcz72_1, hcz72_2, hfz72_0, hfz72_1, hfz72_2⟩ := cf3_ (w := w70) BK332.out))
      refine bodyPost_ret (results_ct rfl _ _ gb332 28 #[.bool t354, .int .u64 t355, .int .u64 t356] (0, 0) _ rfl (pu_ #[.bool t354, .int .u64 t355, .int .u64 0] 2 (h := (pu_ #[.bool t354, .int .u64 0, .int .u64 0] 1 (h := (pu_ #[.bool false, .int .u64 0, .int .u64 0] 0 (h := bk_)))))) Tryd.underlying28 rfl (by kernel_rfl)) rfl ?_
      exact ⟨rf_, bel_⟩
     ·replace c58 := Bool.eq_false_iff.mpr c58
      subst c58
      have H1 : (some (false, 0, 0, false)) = some (r1, r2, r3, r4) := by rw [if_neg (show ¬ (false = true) by decide)] at H; exact H
      clear H
      have H := H1
      clear H1
      simp only [Option.some.injEq, Prod.mk.injEq] at H
      obtain ⟨rfl, rfl, rfl, rfl⟩ := H
      have hnb73 := NB330_331.out
      have hnc73 := NB331_330.out
      have hnb74 := NB330_332.out
      have hnc74 := NB332_330.out
      obtain ⟨hcz75_0, hcz75_1, hcz75_2, hfz75_0, hfz75_1, hfz75_2⟩ := cf3_ (w := wc) BK330.out
      have hnb76 := NB331_332.out
      have hnc76 := NB332_331.out
      obtain ⟨hcz77_0, hcz77_1, hcz77_2, hfz77_0, hfz77_1, hfz77_2⟩ := cf3_ (w := wc) BK331.out
      go_wp2_with (first | ((with_reducible refine gate_callee (f := 96) rfl ?_); refine goesX_ (some 62) rfl rfl #[.int .u64 a0_2, .int .u64 a1_2, .int .u64 0] rfl mp_ (bits_Add64.run a0_2 a1_2 0 t350 t351 _ A54.out) ?_; (try (rw [drewN_self wc]; generalize hq_ : World.drewN wc _ = wc; have n0_ : Aside0 (wc.heap[gb330]? = some (.cells #[.bool a0_0, .int .u64 a0_1, .int .u64 a0_2] 28 (0, 0))) := ⟨by rw [← hq_]; exact bk_⟩; have n1_ : Aside0 (wc.heap[gb331]? = some (.cells #[.bool a1_0, .int .u64 a1_1, .int .u64 a1_2] 28 (0, 0))) := ⟨by rw [← hq_]; exact bk_⟩; have n2_ : Aside0 (wc.heap[gb332]? = some (.cells #[.bool false, .int .u64 0, .int .u64 0] 28 (0, 0))) := ⟨by rw [← hq_]; exact bk_⟩; have n3_ : Aside0 (Below w.heap.size w wc) := ⟨by rw [← hq_]; exact bel_⟩; clear BK330 BK331 BK332 HB hq_; have BK330 := n0_; have BK331 := n1_; have BK332 := n2_; have HB := n3_; clear n0_ n1_ n2_ n3_))) | ((with_reducible refine gate_callee (f := 96) rfl ?_); refine goesX_ (some 71) rfl rfl #[.int .u64 a0_1, .int .u64 a1_1, .int .u64 t351] rfl mp_ (bits_Add64.run a0_1 a1_1 t351 t352 t353 _ A55.out) ?_; (try (rw [drewN_self wc]; generalize hq_ : World.drewN wc _ = wc; have n0_ : Aside0 (wc.heap[gb330]? = some (.cells #[.bool a0_0, .int .u64 a0_1, .int .u64 a0_2] 28 (0, 0))) := ⟨by rw [← hq_]; exact bk_⟩; have n1_ : Aside0 (wc.heap[gb331]? = some (.cells #[.bool a1_0, .int .u64 a1_1, .int .u64 a1_2] 28 (0, 0))) := ⟨by rw [← hq_]; exact bk_⟩; have n2_ : Aside0 (wc.heap[gb332]? = some (.cells #[.bool false, .int .u64 0, .int .u64 0] 28 (0, 0))) := ⟨by rw [← hq_]; exact bk_⟩; have n3_ : Aside0 (Below w.heap.size w wc) := ⟨by rw [← hq_]; exact bel_⟩; clear BK330 BK331 BK332 HB hq_; have BK330 := n0_; have BK331 := n1_; have BK332 := n2_; have HB := n3_; clear n0_ n1_ n2_ n3_))) | ((with_reducible refine gate_callee (f := 49) rfl ?_); refine goesL_ (some 78) rfl rfl Tryd.func49 (by kernel_rfl) rfl #[.bool a0_0, .int .u64 t352, .int .u64 t350] rfl mp_ ?_; (with_reducible refine (impl_wideOf.calls a0_0 t352 t350 t354 t355 t356 _ A56.out).mono ?_); rintro e w78 ⟨rfl, hb⟩; refine ⟨_, rfl, ?_⟩; replace HB := Aside0.mk (below_step bel_ hb); replace BK330 := bb_ (g := gb330) hb; replace BK331 := bb_ (g := gb331) hb; replace BK332 := bb_ (g := gb332) hb; (try clear hb); (try clear hb2); (try clear hk); (try clear hi)) | ((with_reducible refine gate_dst (N := 14) rfl ?_); refine box_event ?hg (N := 14) ?hd (cs := #[.bool false, .int .u64 0, .int .u64 0]) (t := 28) ?hr ?_; (case hd => rfl); (case hg => rfl); (case hr => first | (go_simp; done) | (go_simp; rfl)); intro gb357 hg w79 hbox hb; have BK357 := Aside0.mk (hbox); have GW357 := bs_ (w := w) hg; have GE357 := bs_ (w := w) hg; have NB330_357 := nlt_ (g := gb330) hg; have NB357_330 := ngt_ (g := gb330) hg; have NB331_357 := nlt_ (g := gb331) hg; have NB357_331 := ngt_ (g := gb331) hg; have NB332_357 := nlt_ (g := gb332) hg; have NB357_332 := ngt_ (g := gb332) hg; replace HB := Aside0.mk (below_step bel_ hb); replace BK330 := bb_ (g := gb330) hb; replace BK331 := bb_ (g := gb331) hb; replace BK332 := bb_ (g := gb332) hb; clear hb hbox hg; have hnb80 := NB357_330.out; have hnc80 := NB330_357.out; have hnb81 := NB357_331.out; have hnc81 := NB331_357.out; have hnb82 := NB357_332.out; have hnc82 := NB332_357.out; obtain ⟨hcz83_0, hcz83_1, hcz83_2, hfz83_0, hfz83_1, hfz83_2⟩ := cf3_ (w := w79) BK357.out) | ((with_reducible refine gate_callee (f := 45) rfl ?_); refine goesL_ (some 80) rfl rfl Tryd.func45 (by kernel_rfl) rfl #[.agg #[.bool t354, .int .u64 t355, .int .u64 t356]] rfl mp_ ?_; (with_reducible refine (impl_WideOk.calls t354 t355 t356 false _ A57.out).mono ?_); rintro e w84 ⟨rfl, hb⟩; refine ⟨_, rfl, ?_⟩; replace HB := Aside0.mk (below_step bel_ hb); replace BK330 := Aside0.mk (blk_below (g := gb330) (o := .cells #[.bool a0_0, .int .u64 a0_1, .int .u64 a0_2] 28 (0, 0)) bk_ hb); replace BK331 := Aside0.mk (blk_below (g := gb331) (o := .cells #[.bool a1_0, .int .u64 a1_1, .int .u64 a1_2] 28 (0, 0)) bk_ hb); replace BK332 := Aside0.mk (blk_below (g := gb332) (o := .cells #[.bool false, .int .u64 0, .int .u64 0] 28 (0, 0)) bk_ hb); replace BK357 := Aside0.mk (blk_below (g := gb357) (o := .cells #[.bool t354, .int .u64 t355, .int .u64 t356] 28 (0, 0)) (pu_ #[.bool t354, .int .u64 t355, .int .u64 0] 2 (h := (pu_ #[.bool t354, .int .u64 0, .int .u64 0] 1 (h := (pu_ #[.bool false, .int .u64 0, .int .u64 0] 0 (h := bk_)))))) hb); (try clear hb); (try clear hb2); (try clear hk); (try clear hi); obtain ⟨hcz85_0, hcz85_1, hcz85_2, hfz85_0, hfz85_1, hfz85_2⟩ := cf3_ (w := w84) BK332.out))
      refine bodyPost_ret (results_ct rfl _ _ gb332 28 #[.bool false, .int .u64 0, .int .u64 0] (0, 0) _ rfl (pu_ #[.bool false, .int .u64 0, .int .u64 0] 2 (h := (pu_ #[.bool false, .int .u64 0, .int .u64 0] 1 (h := (pu_ #[.bool false, .int .u64 0, .int .u64 0] 0 (h := bk_)))))) Tryd.underlying28 rfl (by kernel_rfl)) rfl ?_
      exact ⟨rf_, bel_⟩
/-! ### impl_within: function 55 -/
def impl_within.f (a0 : Int) (a1 : Int) (a2 : Int) : Option (Bool) := if a0 ≥ a1 then (some (decide (a0 ≤ a2))) else (some false)
set_option maxHeartbeats 8000000 in
set_option maxRecDepth 100000 in
theorem impl_within.calls (a0 : Int) (a1 : Int) (a2 : Int) (r : Bool) (w : World) (h : impl_within.f a0 a1 a2 = some r) :
  Calls Tryd.prog 55 #[.int .i64 a0, .int .i64 a1, .int .i64 a2] w fun e w' => e = .returned (.bool r) ∧ Drawn0 w w' := by
 have H : (if a0 ≥ a1 then (some (decide (a0 ≤ a2))) else (some false)) = some r := h
 clear h
 by_cases c4 : a0 ≥ a1
 ·rw [if_pos c4] at H
  have c4b0 : decide (a1 ≤ a0) = true := decide_eq_true c4
  clear c4
  obtain rfl := Option.some.inj H
  go_enter Tryd.func55, Tryd.ntmps55
  go_wp2
  go_ret
  exact ⟨by first | rfl | (simp; done) | (simp [*]; done), by repeat (first | exact Drawn0.refl _ | apply Drawn0.step)⟩
 ·rw [if_neg c4] at H
  have c4b0 : decide (a1 ≤ a0) = false := decide_eq_false c4
  clear c4
  obtain rfl := Option.some.inj H
  go_enter Tryd.func55, Tryd.ntmps55
  go_wp2
  go_ret
  exact ⟨by first | rfl | (simp; done) | (simp [*]; done), by repeat (first | exact Drawn0.refl _ | apply Drawn0.step)⟩
/-! ### impl_FracOk: function 30 -/
def impl_FracOk.f (a0_0 : Bool) (a0_1 : Int) (a0_2 : Int) (a0_3 : Int) : Option (Bool) := (impl_WideOk.f a0_0 a0_1 a0_2).bind fun t360 => (if t360 = true then ((impl_within.f a0_3 1 1000000).bind fun t361 => (some t361)) else (some false))
set_option maxHeartbeats 8000000 in
set_option maxRecDepth 100000 in
theorem impl_FracOk.calls (a0_0 : Bool) (a0_1 : Int) (a0_2 : Int) (a0_3 : Int) (r : Bool) (w : World) (h : impl_FracOk.f a0_0 a0_1 a0_2 a0_3 = some r) :
  Calls Tryd.prog 30 #[.agg #[.bool a0_0, .int .u64 a0_1, .int .u64 a0_2, .int .i64 a0_3]] w fun e w' => e = .returned (.bool r) ∧ Below w.heap.size w w' := by
 have hu43 := Tryd.underlying43
 have hu28 := Tryd.underlying28
 have HB := Aside0.mk (Below.refl w.heap.size w)
 have H : ((impl_WideOk.f a0_0 a0_1 a0_2).bind fun t360 => (if t360 = true then ((impl_within.f a0_3 1 1000000).bind fun t361 => (some t361)) else (some false))) = some r := h
 clear h
 replace H := Option.bind_eq_some_iff.mp H
 obtain ⟨t360, A20, H⟩ := H
 replace H : (if t360 = true then ((impl_within.f a0_3 1 1000000).bind fun t361 => (some t361)) else (some false)) = some r := H
 have A2 := Aside0.mk A20
 clear A20
 by_cases c3 : t360 = true
 ·subst c3
  have H1 : ((impl_within.f a0_3 1 1000000).bind fun t361 => (some t361)) = some r := by rw [if_pos rfl] at H; exact H
  clear H
  have H := H1
  clear H1
  replace H := Option.bind_eq_some_iff.mp H
  obtain ⟨t361, A40, H⟩ := H
  replace H : (some t361) = some r := H
  have A4 := Aside0.mk A40
  clear A40
  obtain rfl := Option.some.inj H
  go_enter Tryd.func30, Tryd.ntmps30
  go_wp2_with (first | ((with_reducible refine gate_dst (N := 1) rfl ?_); refine box_event ?hg (N := 1) ?hd (cs := #[.bool a0_0, .int .u64 a0_1, .int .u64 a0_2, .int .i64 a0_3]) (t := 43) ?hr ?_; (case hd => rfl); (case hg => rfl); (case hr => first | (go_simp; done) | (go_simp; rfl)); intro gb359 hg w5 hbox hb; have BK359 := Aside0.mk (hbox); have GW359 := bs_ (w := w) hg; have GE359 := bs_ (w := w) hg; replace HB := Aside0.mk (below_step bel_ hb); clear hb hbox hg; obtain ⟨hcz6_0, hcz6_1, hcz6_2, hcz6_3, hfz6_0, hfz6_1, hfz6_2, hfz6_3⟩ := cf4_ (w := w5) BK359.out) | ((with_reducible refine gate_callee (f := 45) rfl ?_); refine goesL_ (some 5) rfl rfl Tryd.func45 (by kernel_rfl) rfl #[.agg #[.bool a0_0, .int .u64 a0_1, .int .u64 a0_2]] rfl mp_ ?_; (with_reducible refine (impl_WideOk.calls a0_0 a0_1 a0_2 true _ A2.out).mono ?_); rintro e w7 ⟨rfl, hb⟩; refine ⟨_, rfl, ?_⟩; replace HB := Aside0.mk (below_step bel_ hb); replace BK359 := bb_ (g := gb359) hb; (try clear hb); (try clear hb2); (try clear hk); (try clear hi); obtain ⟨hcz8_0, hcz8_1, hcz8_2, hcz8_3, hfz8_0, hfz8_1, hfz8_2, hfz8_3⟩ := cf4_ (w := w7) BK359.out) | (go_at_call 55; (with_reducible refine (impl_within.calls a0_3 1 1000000 t361 _ A4.out).mono ?_); rintro e w' ⟨rfl, ⟨nd, rfl⟩⟩))
  go_ret
  exact ⟨rf_, bel_⟩
 ·replace c3 := Bool.eq_false_iff.mpr c3
  subst c3
  have H1 : (some false) = some r := by rw [if_neg (show ¬ (false = true) by decide)] at H; exact H
  clear H
  have H := H1
  clear H1
  obtain rfl := Option.some.inj H
  go_enter Tryd.func30, Tryd.ntmps30
  go_wp2_with (first | ((with_reducible refine gate_dst (N := 1) rfl ?_); refine box_event ?hg (N := 1) ?hd (cs := #[.bool a0_0, .int .u64 a0_1, .int .u64 a0_2, .int .i64 a0_3]) (t := 43) ?hr ?_; (case hd => rfl); (case hg => rfl); (case hr => first | (go_simp; done) | (go_simp; rfl)); intro gb359 hg w9 hbox hb; have BK359 := Aside0.mk (hbox); have GW359 := bs_ (w := w) hg; have GE359 := bs_ (w := w) hg; replace HB := Aside0.mk (below_step bel_ hb); clear hb hbox hg; obtain ⟨hcz10_0, hcz10_1, hcz10_2, hcz10_3, hfz10_0, hfz10_1, hfz10_2, hfz10_3⟩ := cf4_ (w := w9) BK359.out) | ((with_reducible refine gate_callee (f := 45) rfl ?_); refine goesL_ (some 5) rfl rfl Tryd.func45 (by kernel_rfl) rfl #[.agg #[.bool a0_0, .int .u64 a0_1, .int .u64 a0_2]] rfl mp_ ?_; (with_reducible refine (impl_WideOk.calls a0_0 a0_1 a0_2 false _ A2.out).mono ?_); rintro e w11 ⟨rfl, hb⟩; refine ⟨_, rfl, ?_⟩; replace HB := Aside0.mk (below_step bel_ hb); replace BK359 := bb_ (g := gb359) hb; (try clear hb); (try clear hb2); (try clear hk); (try clear hi)))
  go_ret
  exact ⟨rf_, bel_⟩
/-! ### impl_size: function 50 -/
def impl_size.f (a0 : Int) : Option (Int) := if a0 < 0 then (some (IntKind.u64.wrap (-(IntKind.u64.wrap (a0))))) else (some (IntKind.u64.wrap (a0)))
set_option maxHeartbeats 8000000 in
set_option maxRecDepth 100000 in
theorem impl_size.calls (a0 : Int) (r : Int) (w : World) (h : impl_size.f a0 = some r) :
  Calls Tryd.prog 50 #[.int .i64 a0] w fun e w' => e = .returned (.int .u64 r) ∧ Drawn0 w w' := by
 have H : (if a0 < 0 then (some (IntKind.u64.wrap (-(IntKind.u64.wrap (a0))))) else (some (IntKind.u64.wrap (a0)))) = some r := h
 clear h
 by_cases c2 : a0 < 0
 ·rw [if_pos c2] at H
  have c2b0 : decide (a0 < 0) = true := decide_eq_true c2
  clear c2
  obtain rfl := Option.some.inj H
  go_enter Tryd.func50, Tryd.ntmps50
  go_wp2
  go_ret
  exact ⟨by first | rfl | (simp; done) | (simp [*]; done), by repeat (first | exact Drawn0.refl _ | apply Drawn0.step)⟩
 ·rw [if_neg c2] at H
  have c2b0 : decide (a0 < 0) = false := decide_eq_false c2
  clear c2
  obtain rfl := Option.some.inj H
  go_enter Tryd.func50, Tryd.ntmps50
  go_wp2
  go_ret
  exact ⟨by first | rfl | (simp; done) | (simp [*]; done), by repeat (first | exact Drawn0.refl _ | apply Drawn0.step)⟩
/-! ### bits_Mul64: function 95 -/
def bits_Mul64.f (a0 : Int) (a1 : Int) : Option (Int × Int) := some (IntKind.u64.wrap ((IntKind.u64.wrap ((IntKind.u64.wrap ((a0 / 4294967296) * (a1 / 4294967296))) + ((IntKind.u64.wrap ((IntKind.u64.wrap ((a0 / 4294967296) * (Go.bits .and .u64 a1 4294967295))) + ((IntKind.u64.wrap ((Go.bits .and .u64 a0 4294967295) * (Go.bits .and .u64 a1 4294967295))) / 4294967296))) / 4294967296))) + ((IntKind.u64.wrap ((Go.bits .and .u64 (IntKind.u64.wrap ((IntKind.u64.wrap ((a0 / 4294967296) * (Go.bits .and .u64 a1 4294967295))) + ((IntKind.u64.wrap ((Go.bits .and .u64 a0 4294967295) * (Go.bits .and .u64 a1 4294967295))) / 4294967296))) 4294967295) + (IntKind.u64.wrap ((Go.bits .and .u64 a0 4294967295) * (a1 / 4294967296))))) / 4294967296)), IntKind.u64.wrap (a0 * a1))
set_option maxHeartbeats 8000000 in
set_option maxRecDepth 100000 in
theorem bits_Mul64.calls (a0 : Int) (a1 : Int) (r1 : Int) (r2 : Int) (w : World) (h : bits_Mul64.f a0 a1 = some (r1, r2)) :
  Calls Tryd.prog 95 #[.int .u64 a0, .int .u64 a1] w fun e w' => e = .returned (.tuple #[.int .u64 r1, .int .u64 r2]) ∧ Drawn0 w w' := by
 have H : (some (IntKind.u64.wrap ((IntKind.u64.wrap ((IntKind.u64.wrap ((a0 / 4294967296) * (a1 / 4294967296))) + ((IntKind.u64.wrap ((IntKind.u64.wrap ((a0 / 4294967296) * (Go.bits .and .u64 a1 4294967295))) + ((IntKind.u64.wrap ((Go.bits .and .u64 a0 4294967295) * (Go.bits .and .u64 a1 4294967295))) / 4294967296))) / 4294967296))) + ((IntKind.u64.wrap ((Go.bits .and .u64 (IntKind.u64.wrap ((IntKind.u64.wrap ((a0 / 4294967296) * (Go.bits .and .u64 a1 4294967295))) + ((IntKind.u64.wrap ((Go.bits .and .u64 a0 4294967295) * (Go.bits .and .u64 a1 4294967295))) / 4294967296))) 4294967295) + (IntKind.u64.wrap ((Go.bits .and .u64 a0 4294967295) * (a1 / 4294967296))))) / 4294967296)), IntKind.u64.wrap (a0 * a1))) = some (r1, r2) := h
 clear h
 simp only [Option.some.injEq, Prod.mk.injEq] at H
 obtain ⟨rfl, rfl⟩ := H
 go_enter Tryd.func95, Tryd.ntmps95
 go_wp2
 go_ret2
 exact ⟨by first | rfl | (simp; done) | (simp [*]; done), by repeat (first | exact Drawn0.refl _ | apply Drawn0.step)⟩
/-! ### impl_ScaleWide: function 54 -/
def impl_ScaleWide.f (a0_0 : Bool) (a0_1 : Int) (a0_2 : Int) (a1 : Int) : Option (Bool × Int × Int × Bool) := (impl_WideOk.f a0_0 a0_1 a0_2).bind fun t364 => (if t364 = true then ((impl_size.f a1).bind fun t365 => ((bits_Mul64.f a0_1 t365).bind fun bt366 => ((bits_Mul64.f a0_2 t365).bind fun bt368 => ((bits_Add64.f bt366.2 bt368.1 0).bind fun bt370 => ((impl_wideOf.f (a0_0 != (decide (a1 < 0))) bt370.1 bt368.2).bind fun bt372 => (if bt366.1 > 0 then (some (false, 0, 0, false)) else (if bt370.2 > 0 then (some (false, 0, 0, false)) else ((impl_WideOk.f bt372.1 bt372.2.1 bt372.2.2).bind fun t376 => (if t376 = true then (some (bt372.1, bt372.2.1, bt372.2.2, true)) else (some (false, 0, 0, false))))))))))) else (some (false, 0, 0, false)))
set_option maxHeartbeats 8000000 in
set_option maxRecDepth 100000 in
theorem impl_ScaleWide.calls (a0_0 : Bool) (a0_1 : Int) (a0_2 : Int) (a1 : Int) (r1 : Bool) (r2 : Int) (r3 : Int) (r4 : Bool) (w : World) (h : impl_ScaleWide.f a0_0 a0_1 a0_2 a1 = some (r1, r2, r3, r4)) :
  Calls Tryd.prog 54 #[.agg #[.bool a0_0, .int .u64 a0_1, .int .u64 a0_2], .int .i64 a1] w fun e w' => e = .returned (.tuple #[.agg #[.bool r1, .int .u64 r2, .int .u64 r3], .bool r4]) ∧ Below w.heap.size w w' := by
 have hu28 := Tryd.underlying28
 have HB := Aside0.mk (Below.refl w.heap.size w)
 have H : ((impl_WideOk.f a0_0 a0_1 a0_2).bind fun t364 => (if t364 = true then ((impl_size.f a1).bind fun t365 => ((bits_Mul64.f a0_1 t365).bind fun bt366 => ((bits_Mul64.f a0_2 t365).bind fun bt368 => ((bits_Add64.f bt366.2 bt368.1 0).bind fun bt370 => ((impl_wideOf.f (a0_0 != (decide (a1 < 0))) bt370.1 bt368.2).bind fun bt372 => (if bt366.1 > 0 then (some (false, 0, 0, false)) else (if bt370.2 > 0 then (some (false, 0, 0, false)) else ((impl_WideOk.f bt372.1 bt372.2.1 bt372.2.2).bind fun t376 => (if t376 = true then (some (bt372.1, bt372.2.1, bt372.2.2, true)) else (some (false, 0, 0, false))))))))))) else (some (false, 0, 0, false)))) = some (r1, r2, r3, r4) := h
 clear h
 replace H := Option.bind_eq_some_iff.mp H
 obtain ⟨t364, A30, H⟩ := H
 replace H : (if t364 = true then ((impl_size.f a1).bind fun t365 => ((bits_Mul64.f a0_1 t365).bind fun bt366 => ((bits_Mul64.f a0_2 t365).bind fun bt368 => ((bits_Add64.f bt366.2 bt368.1 0).bind fun bt370 => ((impl_wideOf.f (a0_0 != (decide (a1 < 0))) bt370.1 bt368.2).bind fun bt372 => (if bt366.1 > 0 then (some (false, 0, 0, false)) else (if bt370.2 > 0 then (some (false, 0, 0, false)) else ((impl_WideOk.f bt372.1 bt372.2.1 bt372.2.2).bind fun t376 => (if t376 = true then (some (bt372.1, bt372.2.1, bt372.2.2, true)) else (some (false, 0, 0, false))))))))))) else (some (false, 0, 0, false))) = some (r1, r2, r3, r4) := H
 have A3 := Aside0.mk A30
 clear A30
 by_cases c4 : t364 = true
 ·subst c4
  have H1 : ((impl_size.f a1).bind fun t365 => ((bits_Mul64.f a0_1 t365).bind fun bt366 => ((bits_Mul64.f a0_2 t365).bind fun bt368 => ((bits_Add64.f bt366.2 bt368.1 0).bind fun bt370 => ((impl_wideOf.f (a0_0 != (decide (a1 < 0))) bt370.1 bt368.2).bind fun bt372 => (if bt366.1 > 0 then (some (false, 0, 0, false)) else (if bt370.2 > 0 then (some (false, 0, 0, false)) else ((impl_WideOk.f bt372.1 bt372.2.1 bt372.2.2).bind fun t376 => (if t376 = true then (some (bt372.1, bt372.2.1, bt372.2.2, true)) else (some (false, 0, 0, false))))))))))) = some (r1, r2, r3, r4) := by rw [if_pos rfl] at H; exact H
  clear H
  have H := H1
  clear H1
  replace H := Option.bind_eq_some_iff.mp H
  obtain ⟨t365, A50, H⟩ := H
  replace H : ((bits_Mul64.f a0_1 t365).bind fun bt366 => ((bits_Mul64.f a0_2 t365).bind fun bt368 => ((bits_Add64.f bt366.2 bt368.1 0).bind fun bt370 => ((impl_wideOf.f (a0_0 != (decide (a1 < 0))) bt370.1 bt368.2).bind fun bt372 => (if bt366.1 > 0 then (some (false, 0, 0, false)) else (if bt370.2 > 0 then (some (false, 0, 0, false)) else ((impl_WideOk.f bt372.1 bt372.2.1 bt372.2.2).bind fun t376 => (if t376 = true then (some (bt372.1, bt372.2.1, bt372.2.2, true)) else (some (false, 0, 0, false)))))))))) = some (r1, r2, r3, r4) := H
  have A5 := Aside0.mk A50
  clear A50
  replace H := Option.bind_eq_some_iff.mp H
  obtain ⟨⟨t366, t367⟩, A60, H⟩ := H
  replace H : ((bits_Mul64.f a0_2 t365).bind fun bt368 => ((bits_Add64.f t367 bt368.1 0).bind fun bt370 => ((impl_wideOf.f (a0_0 != (decide (a1 < 0))) bt370.1 bt368.2).bind fun bt372 => (if t366 > 0 then (some (false, 0, 0, false)) else (if bt370.2 > 0 then (some (false, 0, 0, false)) else ((impl_WideOk.f bt372.1 bt372.2.1 bt372.2.2).bind fun t376 => (if t376 = true then (some (bt372.1, bt372.2.1, bt372.2.2, true)) else (some (false, 0, 0, false))))))))) = some (r1, r2, r3, r4) := H
  have A6 := Aside0.mk A60
  clear A60
  replace H := Option.bind_eq_some_iff.mp H
  obtain ⟨⟨t368, t369⟩, A70, H⟩ := H
  replace H : ((bits_Add64.f t367 t368 0).bind fun bt370 => ((impl_wideOf.f (a0_0 != (decide (a1 < 0))) bt370.1 t369).bind fun bt372 => (if t366 > 0 then (some (false, 0, 0, false)) else (if bt370.2 > 0 then (some (false, 0, 0, false)) else ((impl_WideOk.f bt372.1 bt372.2.1 bt372.2.2).bind fun t376 => (if t376 = true then (some (bt372.1, bt372.2.1, bt372.2.2, true)) else (some (false, 0, 0, false)))))))) = some (r1, r2, r3, r4) := H
  have A7 := Aside0.mk A70
  clear A70
  replace H := Option.bind_eq_some_iff.mp H
  obtain ⟨⟨t370, t371⟩, A80, H⟩ := H
  replace H : ((impl_wideOf.f (a0_0 != (decide (a1 < 0))) t370 t369).bind fun bt372 => (if t366 > 0 then (some (false, 0, 0, false)) else (if t371 > 0 then (some (false, 0, 0, false)) else ((impl_WideOk.f bt372.1 bt372.2.1 bt372.2.2).bind fun t376 => (if t376 = true then (some (bt372.1, bt372.2.1, bt372.2.2, true)) else (some (false, 0, 0, false))))))) = some (r1, r2, r3, r4) := H
  have A8 := Aside0.mk A80
  clear A80
  replace H := Option.bind_eq_some_iff.mp H
  obtain ⟨⟨t372, t373, t374⟩, A90, H⟩ := H
  replace H : (if t366 > 0 then (some (false, 0, 0, false)) else (if t371 > 0 then (some (false, 0, 0, false)) else ((impl_WideOk.f t372 t373 t374).bind fun t376 => (if t376 = true then (some (t372, t373, t374, true)) else (some (false, 0, 0, false)))))) = some (r1, r2, r3, r4) := H
  have A9 := Aside0.mk A90
  clear A90
  by_cases c10 : t366 > 0
  ·rw [if_pos c10] at H
   have c10b0 : decide (0 < t366) = true := decide_eq_true c10
   clear c10
   simp only [Option.some.injEq, Prod.mk.injEq] at H
   obtain ⟨rfl, rfl, rfl, rfl⟩ := H
   go_enter Tryd.func54, Tryd.ntmps54
   go_wp2_with (first | ((with_reducible refine gate_dst (N := 2) rfl ?_); refine box_event ?hg (N := 2) ?hd (cs := #[.bool a0_0, .int .u64 a0_1, .int .u64 a0_2]) (t := 28) ?hr ?_; (case hd => rfl); (case hg => rfl); (case hr => first | (go_simp; done) | (go_simp; rfl)); intro gb362 hg w11 hbox hb; have BK362 := Aside0.mk (hbox); have GW362 := bs_ (w := w) hg; have GE362 := bs_ (w := w) hg; replace HB := Aside0.mk (below_step bel_ hb); clear hb hbox hg) | ((with_reducible refine gate_dst (N := 4) rfl ?_); refine box_event ?hg (N := 4) ?hd (cs := #[.bool false, .int .u64 0, .int .u64 0]) (t := 28) ?hr ?_; (case hd => rfl); (case hg => rfl); (case hr => first | (go_simp; done) | (go_simp; rfl)); intro gb363 hg w12 hbox hb; have BK363 := Aside0.mk (hbox); have GW363 := bs_ (w := w) hg; have GE363 := bs_ (w := w) hg; have NB362_363 := nlt_ (g := gb362) hg; have NB363_362 := ngt_ (g := gb362) hg; replace HB := Aside0.mk (below_step bel_ hb); replace BK362 := bb_ (g := gb362) hb; clear hb hbox hg; have hnb13 := NB362_363.out; have hnc13 := NB363_362.out; obtain ⟨hcz14_0, hcz14_1, hcz14_2, hfz14_0, hfz14_1, hfz14_2⟩ := cf3_ (w := w12) BK362.out) | ((with_reducible refine gate_callee (f := 45) rfl ?_); refine goesL_ (some 14) rfl rfl Tryd.func45 (by kernel_rfl) rfl #[.agg #[.bool a0_0, .int .u64 a0_1, .int .u64 a0_2]] rfl mp_ ?_; (with_reducible refine (impl_WideOk.calls a0_0 a0_1 a0_2 true _ A3.out).mono ?_); rintro e w15 ⟨rfl, hb⟩; refine ⟨_, rfl, ?_⟩; replace HB := Aside0.mk (below_step bel_ hb); replace BK362 := bb_ (g := gb362) hb; replace BK363 := bb_ (g := gb363) hb; (try clear hb); (try clear hb2); (try clear hk); (try clear hi)) | ((with_reducible refine gate_callee (f := 50) rfl ?_); refine goesL_ (some 18) rfl rfl Tryd.func50 (by kernel_rfl) rfl #[.int .i64 a1] rfl mp_ ?_; (with_reducible refine (impl_size.calls a1 t365 _ A5.out).mono ?_); rintro e w' ⟨rfl, ⟨nd, rfl⟩⟩; refine ⟨_, rfl, ?_⟩; (try (rw [drewN_self w15]; generalize hq_ : World.drewN w15 _ = w15; have n0_ : Aside0 (w15.heap[gb362]? = some (.cells #[.bool a0_0, .int .u64 a0_1, .int .u64 a0_2] 28 (0, 0))) := ⟨by rw [← hq_]; exact bk_⟩; have n1_ : Aside0 (w15.heap[gb363]? = some (.cells #[.bool false, .int .u64 0, .int .u64 0] 28 (0, 0))) := ⟨by rw [← hq_]; exact bk_⟩; have n2_ : Aside0 (Below w.heap.size w w15) := ⟨by rw [← hq_]; exact bel_⟩; clear BK362 BK363 HB hq_; have BK362 := n0_; have BK363 := n1_; have HB := n2_; clear n0_ n1_ n2_)); obtain ⟨hcz16_0, hcz16_1, hcz16_2, hfz16_0, hfz16_1, hfz16_2⟩ := cf3_ (w := w15) BK362.out) | ((with_reducible refine gate_callee (f := 95) rfl ?_); refine goesL_ (some 23) rfl rfl Tryd.func95 (by kernel_rfl) rfl #[.int .u64 a0_1, .int .u64 t365] rfl mp_ ?_; (with_reducible refine (bits_Mul64.calls a0_1 t365 t366 t367 _ A6.out).mono ?_); rintro e w' ⟨rfl, ⟨nd, rfl⟩⟩; refine ⟨_, rfl, ?_⟩; (try (rw [drewN_self w15]; generalize hq_ : World.drewN w15 _ = w15; have n0_ : Aside0 (w15.heap[gb362]? = some (.cells #[.bool a0_0, .int .u64 a0_1, .int .u64 a0_2] 28 (0, 0))) := ⟨by rw [← hq_]; exact bk_⟩; have n1_ : Aside0 (w15.heap[gb363]? = some (.cells #[.bool false, .int .u64 0, .int .u64 0] 28 (0, 0))) := ⟨by rw [← hq_]; exact bk_⟩; have n2_ : Aside0 (Below w.heap.size w w15) := ⟨by rw [← hq_]; exact bel_⟩; clear BK362 BK363 HB hq_; have BK362 := n0_; have BK363 := n1_; have HB := n2_; clear n0_ n1_ n2_)); (try (obtain ⟨hcz16_0, hcz16_1, hcz16_2, hfz16_0, hfz16_1, hfz16_2⟩ := cf3_ (w := w15) BK362.out))) | ((with_reducible refine gate_callee (f := 95) rfl ?_); refine goesL_ (some 30) rfl rfl Tryd.func95 (by kernel_rfl) rfl #[.int .u64 a0_2, .int .u64 t365] rfl mp_ ?_; (with_reducible refine (bits_Mul64.calls a0_2 t365 t368 t369 _ A7.out).mono ?_); rintro e w' ⟨rfl, ⟨nd, rfl⟩⟩; refine ⟨_, rfl, ?_⟩; (try (rw [drewN_self w15]; generalize hq_ : World.drewN w15 _ = w15; have n0_ : Aside0 (w15.heap[gb362]? = some (.cells #[.bool a0_0, .int .u64 a0_1, .int .u64 a0_2] 28 (0, 0))) := ⟨by rw [← hq_]; exact bk_⟩; have n1_ : Aside0 (w15.heap[gb363]? = some (.cells #[.bool false, .int .u64 0, .int .u64 0] 28 (0, 0))) := ⟨by rw [← hq_]; exact bk_⟩; have n2_ : Aside0 (Below w.heap.size w w15) := ⟨by rw [← hq_]; exact bel_⟩; clear BK362 BK363 HB hq_; have BK362 := n0_; have BK363 := n1_; have HB := n2_; clear n0_ n1_ n2_)); (try (obtain ⟨hcz16_0, hcz16_1, hcz16_2, hfz16_0, hfz16_1, hfz16_2⟩ := cf3_ (w := w15) BK362.out))) | ((with_reducible refine gate_callee (f := 96) rfl ?_); refine goesX_ (some 36) rfl rfl #[.int .u64 t367, .int .u64 t368, .int .u64 0] rfl mp_ (bits_Add64.run t367 t368 0 t370 t371 _ A8.out) ?_; (try (rw [drewN_self w15]; generalize hq_ : World.drewN w15 _ = w15; have n0_ : Aside0 (w15.heap[gb362]? = some (.cells #[.bool a0_0, .int .u64 a0_1, .int .u64 a0_2] 28 (0, 0))) := ⟨by rw [← hq_]; exact bk_⟩; have n1_ : Aside0 (w15.heap[gb363]? = some (.cells #[.bool false, .int .u64 0, .int .u64 0] 28 (0, 0))) := ⟨by rw [← hq_]; exact bk_⟩; have n2_ : Aside0 (Below w.heap.size w w15) := ⟨by rw [← hq_]; exact bel_⟩; clear BK362 BK363 HB hq_; have BK362 := n0_; have BK363 := n1_; have HB := n2_; clear n0_ n1_ n2_)); (try (obtain ⟨hcz16_0, hcz16_1, hcz16_2, hfz16_0, hfz16_1, hfz16_2⟩ := cf3_ (w := w15) BK362.out))) | ((with_reducible refine gate_callee (f := 49) rfl ?_); refine goesL_ (some 46) rfl rfl Tryd.func49 (by kernel_rfl) rfl #[.bool (a0_0 != (decide (a1 < 0))), .int .u64 t370, .int .u64 t369] rfl mp_ ?_; (with_reducible refine (impl_wideOf.calls (a0_0 != (decide (a1 < 0))) t370 t369 t372 t373 t374 _ A9.out).mono ?_); rintro e w17 ⟨rfl, hb⟩; refine ⟨_, rfl, ?_⟩; replace HB := Aside0.mk (below_step bel_ hb); replace BK362 := bb_ (g := gb362) hb; replace BK363 := bb_ (g := gb363) hb; (try clear hb); (try clear hb2); (try clear hk); (try clear hi)) | ((with_reducible refine gate_dst (N := 12) rfl ?_); refine box_event ?hg (N := 12) ?hd (cs := #[.bool false, .int .u64 0, .int .u64 0]) (t := 28) ?hr ?_; (case hd => rfl); (case hg => rfl); (case hr => first | (go_simp; done) | (go_simp; rfl)); intro gb375 hg w18 hbox hb; have BK375 := Aside0.mk (hbox); have GW375 := bs_ (w := w) hg; have GE375 := bs_ (w := w) hg; have NB362_375 := nlt_ (g := gb362) hg; have NB375_362 := ngt_ (g := gb362) hg; have NB363_375 := nlt_ (g := gb363) hg; have NB375_363 := ngt_ (g := gb363) hg; replace HB := Aside0.mk (below_step bel_ hb); replace BK362 := bb_ (g := gb362) hb; replace BK363 := bb_ (g := gb363) hb; clear hb hbox hg; have hnb19 := NB375_362.out; have hnc19 := NB362_375.out; have hnb20 := NB375_363.out; have hnc20 := NB363_375.out; obtain ⟨hcz21_0, hcz21_1, hcz21_2, hfz21_0, hfz21_1, hfz21_2⟩ := cf3_ (w := w18) BK375.out; obtain ⟨hcz22_0, hcz22_1, hcz22_2, hfz22_0, hfz22_1, hfz22_2⟩ := cf3_ (w := w18) BK363.out))
   refine bodyPost_ret (results_ct rfl _ _ gb363 28 #[.bool false, .int .u64 0, .int .u64 0] (0, 0) _ rfl (pu_ #[.bool false, .int .u64 0, .int .u64 0] 2 (h := (pu_ #[.bool false, .int .u64 0, .int .u64 0] 1 (h := (pu_ #[.bool false, .int .u64 0, .int .u64 0] 0 (h := bk_)))))) Tryd.underlying28 rfl (by kernel_rfl)) rfl ?_
   exact ⟨rf_, bel_⟩
  ·rw [if_neg c10] at H
   have c10b0 : decide (0 < t366) = false := decide_eq_false c10
   clear c10
   by_cases c23 : t371 > 0
   ·rw [if_pos c23] at H
    have c23b0 : decide (0 < t371) = true := decide_eq_true c23
    clear c23
    simp only [Option.some.injEq, Prod.mk.injEq] at H
    obtain ⟨rfl, rfl, rfl, rfl⟩ := H
    go_enter Tryd.func54, Tryd.ntmps54
    go_wp2_with (first | ((with_reducible refine gate_dst (N := 2) rfl ?_); refine box_event ?hg (N := 2) ?hd (cs := #[.bool a0_0, .int .u64 a0_1, .int .u64 a0_2]) (t := 28) ?hr ?_; (case hd => rfl); (case hg => rfl); (case hr => first | (go_simp; done) | (go_simp; rfl)); intro gb362 hg w24 hbox hb; have BK362 := Aside0.mk (hbox); have GW362 := bs_ (w := w) hg; have GE362 := bs_ (w := w) hg; replace HB := Aside0.mk (below_step bel_ hb); clear hb hbox hg) | ((with_reducible refine gate_dst (N := 4) rfl ?_); refine box_event ?hg (N := 4) ?hd (cs := #[.bool false, .int .u64 0, .int .u64 0]) (t := 28) ?hr ?_; (case hd => rfl); (case hg => rfl); (case hr => first | (go_simp; done) | (go_simp; rfl)); intro gb363 hg w25 hbox hb; have BK363 := Aside0.mk (hbox); have GW363 := bs_ (w := w) hg; have GE363 := bs_ (w := w) hg; have NB362_363 := nlt_ (g := gb362) hg; have NB363_362 := ngt_ (g := gb362) hg; replace HB := Aside0.mk (below_step bel_ hb); replace BK362 := bb_ (g := gb362) hb; clear hb hbox hg; have hnb26 := NB362_363.out; have hnc26 := NB363_362.out; obtain ⟨hcz27_0, hcz27_1, hcz27_2, hfz27_0, hfz27_1, hfz27_2⟩ := cf3_ (w := w25) BK362.out) | ((with_reducible refine gate_callee (f := 45) rfl ?_); refine goesL_ (some 14) rfl rfl Tryd.func45 (by kernel_rfl) rfl #[.agg #[.bool a0_0, .int .u64 a0_1, .int .u64 a0_2]] rfl mp_ ?_; (with_reducible refine (impl_WideOk.calls a0_0 a0_1 a0_2 true _ A3.out).mono ?_); rintro e w28 ⟨rfl, hb⟩; refine ⟨_, rfl, ?_⟩; replace HB := Aside0.mk (below_step bel_ hb); replace BK362 := bb_ (g := gb362) hb; replace BK363 := bb_ (g := gb363) hb; (try clear hb); (try clear hb2); (try clear hk); (try clear hi)) | ((with_reducible refine gate_callee (f := 50) rfl ?_); refine goesL_ (some 18) rfl rfl Tryd.func50 (by kernel_rfl) rfl #[.int .i64 a1] rfl mp_ ?_; (with_reducible refine (impl_size.calls a1 t365 _ A5.out).mono ?_); rintro e w' ⟨rfl, ⟨nd, rfl⟩⟩; refine ⟨_, rfl, ?_⟩; (try (rw [drewN_self w28]; generalize hq_ : World.drewN w28 _ = w28; have n0_ : Aside0 (w28.heap[gb362]? = some (.cells #[.bool a0_0, .int .u64 a0_1, .int .u64 a0_2] 28 (0, 0))) := ⟨by rw [← hq_]; exact bk_⟩; have n1_ : Aside0 (w28.heap[gb363]? = some (.cells #[.bool false, .int .u64 0, .int .u64 0] 28 (0, 0))) := ⟨by rw [← hq_]; exact bk_⟩; have n2_ : Aside0 (Below w.heap.size w w28) := ⟨by rw [← hq_]; exact bel_⟩; clear BK362 BK363 HB hq_; have BK362 := n0_; have BK363 := n1_; have HB := n2_; clear n0_ n1_ n2_)); obtain ⟨hcz29_0, hcz29_1, hcz29_2, hfz29_0, hfz29_1, hfz29_2⟩ := cf3_ (w := w28) BK362.out) | ((with_reducible refine gate_callee (f := 95) rfl ?_); refine goesL_ (some 23) rfl rfl Tryd.func95 (by kernel_rfl) rfl #[.int .u64 a0_1, .int .u64 t365] rfl mp_ ?_; (with_reducible refine (bits_Mul64.calls a0_1 t365 t366 t367 _ A6.out).mono ?_); rintro e w' ⟨rfl, ⟨nd, rfl⟩⟩; refine ⟨_, rfl, ?_⟩; (try (rw [drewN_self w28]; generalize hq_ : World.drewN w28 _ = w28; have n0_ : Aside0 (w28.heap[gb362]? = some (.cells #[.bool a0_0, .int .u64 a0_1, .int .u64 a0_2] 28 (0, 0))) := ⟨by rw [← hq_]; exact bk_⟩; have n1_ : Aside0 (w28.heap[gb363]? = some (.cells #[.bool false, .int .u64 0, .int .u64 0] 28 (0, 0))) := ⟨by rw [← hq_]; exact bk_⟩; have n2_ : Aside0 (Below w.heap.size w w28) := ⟨by rw [← hq_]; exact bel_⟩; clear BK362 BK363 HB hq_; have BK362 := n0_; have BK363 := n1_; have HB := n2_; clear n0_ n1_ n2_)); (try (obtain ⟨hcz29_0, hcz29_1, hcz29_2, hfz29_0, hfz29_1, hfz29_2⟩ := cf3_ (w := w28) BK362.out))) | ((with_reducible refine gate_callee (f := 95) rfl ?_); refine goesL_ (some 30) rfl rfl Tryd.func95 (by kernel_rfl) rfl #[.int .u64 a0_2, .int .u64 t365] rfl mp_ ?_; (with_reducible refine (bits_Mul64.calls a0_2 t365 t368 t369 _ A7.out).mono ?_); rintro e w' ⟨rfl, ⟨nd, rfl⟩⟩; refine ⟨_, rfl, ?_⟩; (try (rw [drewN_self w28]; generalize hq_ : World.drewN w28 _ = w28; have n0_ : Aside0 (w28.heap[gb362]? = some (.cells #[.bool a0_0, .int .u64 a0_1, .int .u64 a0_2] 28 (0, 0))) := ⟨by rw [← hq_]; exact bk_⟩; have n1_ : Aside0 (w28.heap[gb363]? = some (.cells #[.bool false, .int .u64 0, .int .u64 0] 28 (0, 0))) := ⟨by rw [← hq_]; exact bk_⟩; have n2_ : Aside0 (Below w.heap.size w w28) := ⟨by rw [← hq_]; exact bel_⟩; clear BK362 BK363 HB hq_; have BK362 := n0_; have BK363 := n1_; have HB := n2_; clear n0_ n1_ n2_)); (try (obtain ⟨hcz29_0, hcz29_1, hcz29_2, hfz29_0, hfz29_1, hfz29_2⟩ := cf3_ (w := w28) BK362.out))) | ((with_reducible refine gate_callee (f := 96) rfl ?_); refine goesX_ (some 36) rfl rfl #[.int .u64 t367, .int .u64 t368, .int .u64 0] rfl mp_ (bits_Add64.run t367 t368 0 t370 t371 _ A8.out) ?_; (try (rw [drewN_self w28]; generalize hq_ : World.drewN w28 _ = w28; have n0_ : Aside0 (w28.heap[gb362]? = some (.cells #[.bool a0_0, .int .u64 a0_1, .int .u64 a0_2] 28 (0, 0))) := ⟨by rw [← hq_]; exact bk_⟩; have n1_ : Aside0 (w28.heap[gb363]? = some (.cells #[.bool false, .int .u64 0, .int .u64 0] 28 (0, 0))) := ⟨by rw [← hq_]; exact bk_⟩; have n2_ : Aside0 (Below w.heap.size w w28) := ⟨by rw [← hq_]; exact bel_⟩; clear BK362 BK363 HB hq_; have BK362 := n0_; have BK363 := n1_; have HB := n2_; clear n0_ n1_ n2_)); (try (obtain ⟨hcz29_0, hcz29_1, hcz29_2, hfz29_0, hfz29_1, hfz29_2⟩ := cf3_ (w := w28) BK362.out))) | ((with_reducible refine gate_callee (f := 49) rfl ?_); refine goesL_ (some 46) rfl rfl Tryd.func49 (by kernel_rfl) rfl #[.bool (a0_0 != (decide (a1 < 0))), .int .u64 t370, .int .u64 t369] rfl mp_ ?_; (with_reducible refine (impl_wideOf.calls (a0_0 != (decide (a1 < 0))) t370 t369 t372 t373 t374 _ A9.out).mono ?_); rintro e w30 ⟨rfl, hb⟩; refine ⟨_, rfl, ?_⟩; replace HB := Aside0.mk (below_step bel_ hb); replace BK362 := bb_ (g := gb362) hb; replace BK363 := bb_ (g := gb363) hb; (try clear hb); (try clear hb2); (try clear hk); (try clear hi)) | ((with_reducible refine gate_dst (N := 12) rfl ?_); refine box_event ?hg (N := 12) ?hd (cs := #[.bool false, .int .u64 0, .int .u64 0]) (t := 28) ?hr ?_; (case hd => rfl); (case hg => rfl); (case hr => first | (go_simp; done) | (go_simp; rfl)); intro gb375 hg w31 hbox hb; have BK375 := Aside0.mk (hbox); have GW375 := bs_ (w := w) hg; have GE375 := bs_ (w := w) hg; have NB362_375 := nlt_ (g := gb362) hg; have NB375_362 := ngt_ (g := gb362) hg; have NB363_375 := nlt_ (g := gb363) hg; have NB375_363 := ngt_ (g := gb363) hg; replace HB := Aside0.mk (below_step bel_ hb); replace BK362 := bb_ (g := gb362) hb; replace BK363 := bb_ (g := gb363) hb; clear hb hbox hg; have hnb32 := NB375_362.out; have hnc32 := NB362_375.out; have hnb33 := NB375_363.out; have hnc33 := NB363_375.out; obtain ⟨hcz34_0, hcz34_1, hcz34_2, hfz34_0, hfz34_1, hfz34_2⟩ := cf3_ (w := w31) BK375.out; obtain ⟨hcz35_0, hcz35_1, hcz35_2, hfz35_0, hfz35_1, hfz35_2⟩ := cf3_ (w := w31) BK363.out))
    refine bodyPost_ret (results_ct rfl _ _ gb363 28 #[.bool false, .int .u64 0, .int .u64 0] (0, 0) _ rfl (pu_ #[.bool false, .int .u64 0, .int .u64 0] 2 (h := (pu_ #[.bool false, .int .u64 0, .int .u64 0] 1 (h := (pu_ #[.bool false, .int .u64 0, .int .u64 0] 0 (h := bk_)))))) Tryd.underlying28 rfl (by kernel_rfl)) rfl ?_
    exact ⟨rf_, bel_⟩
   ·rw [if_neg c23] at H
    have c23b0 : decide (0 < t371) = false := decide_eq_false c23
    clear c23
    replace H := Option.bind_eq_some_iff.mp H
    obtain ⟨t376, A360, H⟩ := H
    replace H : (if t376 = true then (some (t372, t373, t374, true)) else (some (false, 0, 0, false))) = some (r1, r2, r3, r4) := H
    have A36 := Aside0.mk A360
    clear A360
    by_cases c37 : t376 = true
    ·subst c37
     have H1 : (some (t372, t373, t374, true)) = some (r1, r2, r3, r4) := by rw [if_pos rfl] at H; exact H
     clear H
     have H := H1
     clear H1
     simp only [Option.some.injEq, Prod.mk.injEq] at H
     obtain ⟨rfl, rfl, rfl, rfl⟩ := H
     go_enter Tryd.func54, Tryd.ntmps54
     go_wp2_with (first | ((with_reducible refine gate_dst (N := 2) rfl ?_); refine box_event ?hg (N := 2) ?hd (cs := #[.bool a0_0, .int .u64 a0_1, .int .u64 a0_2]) (t := 28) ?hr ?_; (case hd => rfl); (case hg => rfl); (case hr => first | (go_simp; done) | (go_simp; rfl)); intro gb362 hg w38 hbox hb; have BK362 := Aside0.mk (hbox); have GW362 := bs_ (w := w) hg; have GE362 := bs_ (w := w) hg; replace HB := Aside0.mk (below_step bel_ hb); clear hb hbox hg) | ((with_reducible refine gate_dst (N := 4) rfl ?_); refine box_event ?hg (N := 4) ?hd (cs := #[.bool false, .int .u64 0, .int .u64 0]) (t := 28) ?hr ?_; (case hd => rfl); (case hg => rfl); (case hr => first | (go_simp; done) | (go_simp; rfl)); intro gb363 hg w39 hbox hb; have BK363 := Aside0.mk (hbox); have GW363 := bs_ (w := w) hg; have GE363 := bs_ (w := w) hg; have NB362_363 := nlt_ (g := gb362) hg; have NB363_362 := ngt_ (g := gb362) hg; replace HB := Aside0.mk (below_step bel_ hb); replace BK362 := bb_ (g := gb362) hb; clear hb hbox hg; have hnb40 := NB362_363.out; have hnc40 := NB363_362.out; obtain ⟨hcz41_0, hcz41_1, hcz41_2, hfz41_0, hfz41_1, hfz41_2⟩ := cf3_ (w := w39) BK362.out) | ((with_reducible refine gate_callee (f := 45) rfl ?_); refine goesL_ (some 14) rfl rfl Tryd.func45 (by kernel_rfl) rfl #[.agg #[.bool a0_0, .int .u64 a0_1, .int .u64 a0_2]] rfl mp_ ?_; (with_reducible refine (impl_WideOk.calls a0_0 a0_1 a0_2 true _ A3.out).mono ?_); rintro e w42 ⟨rfl, hb⟩; refine ⟨_, rfl, ?_⟩; replace HB := Aside0.mk (below_step bel_ hb); replace BK362 := bb_ (g := gb362) hb; replace BK363 := bb_ (g := gb363) hb; (try clear hb); (try clear hb2); (try clear hk); (try clear hi)) | ((with_reducible refine gate_callee (f := 50) rfl ?_); refine goesL_ (some 18) rfl rfl Tryd.func50 (by kernel_rfl) rfl #[.int .i64 a1] rfl mp_ ?_; (with_reducible refine (impl_size.calls a1 t365 _ A5.out).mono ?_); rintro e w' ⟨rfl, ⟨nd, rfl⟩⟩; refine ⟨_, rfl, ?_⟩; (try (rw [drewN_self w42]; generalize hq_ : World.drewN w42 _ = w42; have n0_ : Aside0 (w42.heap[gb362]? = some (.cells #[.bool a0_0, .int .u64 a0_1, .int .u64 a0_2] 28 (0, 0))) := ⟨by rw [← hq_]; exact bk_⟩; have n1_ : Aside0 (w42.heap[gb363]? = some (.cells #[.bool false, .int .u64 0, .int .u64 0] 28 (0, 0))) := ⟨by rw [← hq_]; exact bk_⟩; have n2_ : Aside0 (Below w.heap.size w w42) := ⟨by rw [← hq_]; exact bel_⟩; clear BK362 BK363 HB hq_; have BK362 := n0_; have BK363 := n1_; have HB := n2_; clear n0_ n1_ n2_)); obtain ⟨hcz43_0, hcz43_1, hcz43_2, hfz43_0, hfz43_1, hfz43_2⟩ := cf3_ (w := w42) BK362.out) | ((with_reducible refine gate_callee (f := 95) rfl ?_); refine goesL_ (some 23) rfl rfl Tryd.func95 (by kernel_rfl) rfl #[.int .u64 a0_1, .int .u64 t365] rfl mp_ ?_; (with_reducible refine (bits_Mul64.calls a0_1 t365 t366 t367 _ A6.out).mono ?_); rintro e w' ⟨rfl, ⟨nd, rfl⟩⟩; refine ⟨_, rfl, ?_⟩; (try (rw [drewN_self w42]; generalize hq_ : World.drewN w42 _ = w42; have n0_ : Aside0 (w42.heap[gb362]? = some (.cells #[.bool a0_0, .int .u64 a0_1, .int .u64 a0_2] 28 (0, 0))) := ⟨by rw [← hq_]; exact bk_⟩; have n1_ : Aside0 (w42.heap[gb363]? = some (.cells #[.bool false, .int .u64 0, .int .u64 0] 28 (0, 0))) := ⟨by rw [← hq_]; exact bk_⟩; have n2_ : Aside0 (Below w.heap.size w w42) := ⟨by rw [← hq_]; exact bel_⟩; clear BK362 BK363 HB hq_; have BK362 := n0_; have BK363 := n1_; have HB := n2_; clear n0_ n1_ n2_)); (try (obtain ⟨hcz43_0, hcz43_1, hcz43_2, hfz43_0, hfz43_1, hfz43_2⟩ := cf3_ (w := w42) BK362.out))) | ((with_reducible refine gate_callee (f := 95) rfl ?_); refine goesL_ (some 30) rfl rfl Tryd.func95 (by kernel_rfl) rfl #[.int .u64 a0_2, .int .u64 t365] rfl mp_ ?_; (with_reducible refine (bits_Mul64.calls a0_2 t365 t368 t369 _ A7.out).mono ?_); rintro e w' ⟨rfl, ⟨nd, rfl⟩⟩; refine ⟨_, rfl, ?_⟩; (try (rw [drewN_self w42]; generalize hq_ : World.drewN w42 _ = w42; have n0_ : Aside0 (w42.heap[gb362]? = some (.cells #[.bool a0_0, .int .u64 a0_1, .int .u64 a0_2] 28 (0, 0))) := ⟨by rw [← hq_]; exact bk_⟩; have n1_ : Aside0 (w42.heap[gb363]? = some (.cells #[.bool false, .int .u64 0, .int .u64 0] 28 (0, 0))) := ⟨by rw [← hq_]; exact bk_⟩; have n2_ : Aside0 (Below w.heap.size w w42) := ⟨by rw [← hq_]; exact bel_⟩; clear BK362 BK363 HB hq_; have BK362 := n0_; have BK363 := n1_; have HB := n2_; clear n0_ n1_ n2_)); (try (obtain ⟨hcz43_0, hcz43_1, hcz43_2, hfz43_0, hfz43_1, hfz43_2⟩ := cf3_ (w := w42) BK362.out))) | ((with_reducible refine gate_callee (f := 96) rfl ?_); refine goesX_ (some 36) rfl rfl #[.int .u64 t367, .int .u64 t368, .int .u64 0] rfl mp_ (bits_Add64.run t367 t368 0 t370 t371 _ A8.out) ?_; (try (rw [drewN_self w42]; generalize hq_ : World.drewN w42 _ = w42; have n0_ : Aside0 (w42.heap[gb362]? = some (.cells #[.bool a0_0, .int .u64 a0_1, .int .u64 a0_2] 28 (0, 0))) := ⟨by rw [← hq_]; exact bk_⟩; have n1_ : Aside0 (w42.heap[gb363]? = some (.cells #[.bool false, .int .u64 0, .int .u64 0] 28 (0, 0))) := ⟨by rw [← hq_]; exact bk_⟩; have n2_ : Aside0 (Below w.heap.size w w42) := ⟨by rw [← hq_]; exact bel_⟩; clear BK362 BK363 HB hq_; have BK362 := n0_; have BK363 := n1_; have HB := n2_; clear n0_ n1_ n2_)); (try (obtain ⟨hcz43_0, hcz43_1, hcz43_2, hfz43_0, hfz43_1, hfz43_2⟩ := cf3_ (w := w42) BK362.out))) | ((with_reducible refine gate_callee (f := 49) rfl ?_); refine goesL_ (some 46) rfl rfl Tryd.func49 (by kernel_rfl) rfl #[.bool (a0_0 != (decide (a1 < 0))), .int .u64 t370, .int .u64 t369] rfl mp_ ?_; (with_reducible refine (impl_wideOf.calls (a0_0 != (decide (a1 < 0))) t370 t369 t372 t373 t374 _ A9.out).mono ?_); rintro e w44 ⟨rfl, hb⟩; refine ⟨_, rfl, ?_⟩; replace HB := Aside0.mk (below_step bel_ hb); replace BK362 := bb_ (g := gb362) hb; replace BK363 := bb_ (g := gb363) hb; (try clear hb); (try clear hb2); (try clear hk); (try clear hi)) | ((with_reducible refine gate_dst (N := 12) rfl ?_); refine box_event ?hg (N := 12) ?hd (cs := #[.bool false, .int .u64 0, .int .u64 0]) (t := 28) ?hr ?_; (case hd => rfl); (case hg => rfl); (case hr => first | (go_simp; done) | (go_simp; rfl)); intro gb375 hg w45 hbox hb; have BK375 := Aside0.mk (hbox); have GW375 := bs_ (w := w) hg; have GE375 := bs_ (w := w) hg; have NB362_375 := nlt_ (g := gb362) hg; have NB375_362 := ngt_ (g := gb362) hg; have NB363_375 := nlt_ (g := gb363) hg; have NB375_363 := ngt_ (g := gb363) hg; replace HB := Aside0.mk (below_step bel_ hb); replace BK362 := bb_ (g := gb362) hb; replace BK363 := bb_ (g := gb363) hb; clear hb hbox hg; have hnb46 := NB375_362.out; have hnc46 := NB362_375.out; have hnb47 := NB375_363.out; have hnc47 := NB363_375.out; obtain ⟨hcz48_0, hcz48_1, hcz48_2, hfz48_0, hfz48_1, hfz48_2⟩ := cf3_ (w := w45) BK375.out) | (go_at_call 45; (with_reducible refine (impl_WideOk.calls t372 t373 t374 true _ A36.out).mono ?_); rintro e w49 ⟨rfl, hb⟩; replace HB := Aside0.mk (below_step bel_ hb); replace BK362 := Aside0.mk (blk_below (g := gb362) (o := .cells #[.bool a0_0, .int .u64 a0_1, .int .u64 a0_2] 28 (0, 0)) bk_ hb); replace BK363 := Aside0.mk (blk_below (g := gb363) (o := .cells #[.bool false, .int .u64 0, .int .u64 0] 28 (0, 0)) bk_ hb); replace BK375 := Aside0.mk (blk_below (g := gb375) (o := .cells #[.bool t372, .int .u64 t373, .int .u64 t374] 28 (0, 0)) (pu_ #[.bool t372, .int .u64 t373, .int .u64 0] 2 (h := (pu_ #[.bool t372, .int .u64 0, .int .u64 0] 1 (h := (pu_ #[.bool false, .int .u64 0, .int .u64 0] 0 (h := bk_)))))) hb); (try clear hb); (try clear hb2); (try clear hk); (try clear hi); obtain ⟨hcz50_0, hcz50_1, hcz50_2, hfz50_0, hfz50_1, hfz50_2⟩ := cf3_ (w := w49) BK375.out; obtain ⟨hcz51_0, hcz51_1, hcz51_2, hfz51_0, hfz51_1, hfz51_2⟩ := cf3_ (w := w49) BK363.out))
     refine bodyPost_ret (results_ct rfl _ _ gb363 28 #[.bool t372, .int .u64 t373, .int .u64 t374] (0, 0) _ rfl (pu_ #[.bool t372, .int .u64 t373, .int .u64 0] 2 (h := (pu_ #[.bool t372, .int .u64 0, .int .u64 0] 1 (h := (pu_ #[.bool false, .int .u64 0, .int .u64 0] 0 (h := bk_)))))) Tryd.underlying28 rfl (by kernel_rfl)) rfl ?_
     exact ⟨rf_, bel_⟩
    ·replace c37 := Bool.eq_false_iff.mpr c37
     subst c37
     have H1 : (some (false, 0, 0, false)) = some (r1, r2, r3, r4) := by rw [if_neg (show ¬ (false = true) by decide)] at H; exact H
     clear H
     have H := H1
     clear H1
     simp only [Option.some.injEq, Prod.mk.injEq] at H
     obtain ⟨rfl, rfl, rfl, rfl⟩ := H
     go_enter Tryd.func54, Tryd.ntmps54
     go_wp2_with (first | ((with_reducible refine gate_dst (N := 2) rfl ?_); refine box_event ?hg (N := 2) ?hd (cs := #[.bool a0_0, .int .u64 a0_1, .int .u64 a0_2]) (t := 28) ?hr ?_; (case hd => rfl); (case hg => rfl); (case hr => first | (go_simp; done) | (go_simp; rfl)); intro gb362 hg w52 hbox hb; have BK362 := Aside0.mk (hbox); have GW362 := bs_ (w := w) hg; have GE362 := bs_ (w := w) hg; replace HB := Aside0.mk (below_step bel_ hb); clear hb hbox hg) | ((with_reducible refine gate_dst (N := 4) rfl ?_); refine box_event ?hg (N := 4) ?hd (cs := #[.bool false, .int .u64 0, .int .u64 0]) (t := 28) ?hr ?_; (case hd => rfl); (case hg => rfl); (case hr => first | (go_simp; done) | (go_simp; rfl)); intro gb363 hg w53 hbox hb; have BK363 := Aside0.mk (hbox); have GW363 := bs_ (w := w) hg; have GE363 := bs_ (w := w) hg; have NB362_363 := nlt_ (g := gb362) hg; have NB363_362 := ngt_ (g := gb362) hg; replace HB := Aside0.mk (below_step bel_ hb); replace BK362 := bb_ (g := gb362) hb; clear hb hbox hg; have hnb54 := NB362_363.out; have hnc54 := NB363_362.out; obtain ⟨hcz55_0, hcz55_1, hcz55_2, hfz55_0, hfz55_1, hfz55_2⟩ := cf3_ (w := w53) BK362.out) | ((with_reducible refine gate_callee (f := 45) rfl ?_); refine goesL_ (some 14) rfl rfl Tryd.func45 (by kernel_rfl) rfl #[.agg #[.bool a0_0, .int .u64 a0_1, .int .u64 a0_2]] rfl mp_ ?_; (with_reducible refine (impl_WideOk.calls a0_0 a0_1 a0_2 true _ A3.out).mono ?_); rintro e w56 ⟨rfl, hb⟩; refine ⟨_, rfl, ?_⟩; replace HB := Aside0.mk (below_step bel_ hb); replace BK362 := bb_ (g := gb362) hb; replace BK363 := bb_ (g := gb363) hb; (try clear hb); (try clear hb2); (try clear hk); (try clear hi)) | ((with_reducible refine gate_callee (f := 50) rfl ?_); refine goesL_ (some 18) rfl rfl Tryd.func50 (by kernel_rfl) rfl #[.int .i64 a1] rfl mp_ ?_; (with_reducible refine (impl_size.calls a1 t365 _ A5.out).mono ?_); rintro e w' ⟨rfl, ⟨nd, rfl⟩⟩; refine ⟨_, rfl, ?_⟩; (try (rw [drewN_self w56]; generalize hq_ : World.drewN w56 _ = w56; have n0_ : Aside0 (w56.heap[gb362]? = some (.cells #[.bool a0_0, .int .u64 a0_1, .int .u64 a0_2] 28 (0, 0))) := ⟨by rw [← hq_]; exact bk_⟩; have n1_ : Aside0 (w56.heap[gb363]? = some (.cells #[.bool false, .int .u64 0, .int .u64 0] 28 (0, 0))) := ⟨by rw [← hq_]; exact bk_⟩; have n2_ : Aside0 (Below w.heap.size w w56) := ⟨by rw [← hq_]; exact bel_⟩; clear BK362 BK363 HB hq_; have BK362 := n0_; have BK363 := n1_; have HB := n2_; clear n0_ n1_ n2_)); obtain ⟨hcz57_0, hcz57_1, hcz57_2, hfz57_0, hfz57_1, hfz57_2⟩ := cf3_ (w := w56) BK362.out) | ((with_reducible refine gate_callee (f := 95) rfl ?_); refine goesL_ (some 23) rfl rfl Tryd.func95 (by kernel_rfl) rfl #[.int .u64 a0_1, .int .u64 t365] rfl mp_ ?_; (with_reducible refine (bits_Mul64.calls a0_1 t365 t366 t367 _ A6.out).mono ?_); rintro e w' ⟨rfl, ⟨nd, rfl⟩⟩; refine ⟨_, rfl, ?_⟩; (try (rw [drewN_self w56]; generalize hq_ : World.drewN w56 _ = w56; have n0_ : Aside0 (w56.heap[gb362]? = some (.cells #[.bool a0_0, .int .u64 a0_1, .int .u64 a0_2] 28 (0, 0))) := ⟨by rw [← hq_]; exact bk_⟩; have n1_ : Aside0 (w56.heap[gb363]? = some (.cells #[.bool false, .int .u64 0, .int .u64 0] 28 (0, 0))) := ⟨by rw [← hq_]; exact bk_⟩; have n2_ : Aside0 (Below w.heap.size w w56) := ⟨by rw [← hq_]; exact bel_⟩; clear BK362 BK363 HB hq_; have BK362 := n0_; have BK363 := n1_; have HB := n2_; clear n0_ n1_ n2_)); (try (obtain ⟨hcz57_0, hcz57_1, hcz57_2, hfz57_0, hfz57_1, hfz57_2⟩ := cf3_ (w := w56) BK362.out))) | ((with_reducible refine gate_callee (f := 95) rfl ?_); refine goesL_ (some 30) rfl rfl Tryd.func95 (by kernel_rfl) rfl #[.int .u64 a0_2, .int .u64 t365] rfl mp_ ?_; (with_reducible refine (bits_Mul64.calls a0_2 t365 t368 t369 _ A7.out).mono ?_); rintro e w' ⟨rfl, ⟨nd, rfl⟩⟩; refine ⟨_, rfl, ?_⟩; (try (rw [drewN_self w56]; generalize hq_ : World.drewN w56 _ = w56; have n0_ : Aside0 (w56.heap[gb362]? = some (.cells #[.bool a0_0, .int .u64 a0_1, .int .u64 a0_2] 28 (0, 0))) := ⟨by rw [← hq_]; exact bk_⟩; have n1_ : Aside0 (w56.heap[gb363]? = some (.cells #[.bool false, .int .u64 0, .int .u64 0] 28 (0, 0))) := ⟨by rw [← hq_]; exact bk_⟩; have n2_ : Aside0 (Below w.heap.size w w56) := ⟨by rw [← hq_]; exact bel_⟩; clear BK362 BK363 HB hq_; have BK362 := n0_; have BK363 := n1_; have HB := n2_; clear n0_ n1_ n2_)); (try (obtain ⟨hcz57_0, hcz57_1, hcz57_2, hfz57_0, hfz57_1, hfz57_2⟩ := cf3_ (w := w56) BK362.out))) | ((with_reducible refine gate_callee (f := 96) rfl ?_); refine goesX_ (some 36) rfl rfl #[.int .u64 t367, .int .u64 t368, .int .u64 0] rfl mp_ (bits_Add64.run t367 t368 0 t370 t371 _ A8.out) ?_; (try (rw [drewN_self w56]; generalize hq_ : World.drewN w56 _ = w56; have n0_ : Aside0 (w56.heap[gb362]? = some (.cells #[.bool a0_0, .int .u64 a0_1, .int .u64 a0_2] 28 (0, 0))) := ⟨by rw [← hq_]; exact bk_⟩; have n1_ : Aside0 (w56.heap[gb363]? = some (.cells #[.bool false, .int .u64 0, .int .u64 0] 28 (0, 0))) := ⟨by rw [← hq_]; exact bk_⟩; have n2_ : Aside0 (Below w.heap.size w w56) := ⟨by rw [← hq_]; exact bel_⟩; clear BK362 BK363 HB hq_; have BK362 := n0_; have BK363 := n1_; have HB := n2_; clear n0_ n1_ n2_)); (try (obtain ⟨hcz57_0, hcz57_1, hcz57_2, hfz57_0, hfz57_1, hfz57_2⟩ := cf3_ (w := w56) BK362.out))) | ((with_reducible refine gate_callee (f := 49) rfl ?_); refine goesL_ (some 46) rfl rfl Tryd.func49 (by kernel_rfl) rfl #[.bool (a0_0 != (decide (a1 < 0))), .int .u64 t370, .int .u64 t369] rfl mp_ ?_; (with_reducible refine (impl_wideOf.calls (a0_0 != (decide (a1 < 0))) t370 t369 t372 t373 t374 _ A9.out).mono ?_); rintro e w58 ⟨rfl, hb⟩; refine ⟨_, rfl, ?_⟩; replace HB := Aside0.mk (below_step bel_ hb); replace BK362 := bb_ (g := gb362) hb; replace BK363 := bb_ (g := gb363) hb; (try clear hb); (try clear hb2); (try clear hk); (try clear hi)) | ((with_reducible refine gate_dst (N := 12) rfl ?_); refine box_event ?hg (N := 12) ?hd (cs := #[.bool false, .int .u64 0, .int .u64 0]) (t := 28) ?hr ?_; (case hd => rfl); (case hg => rfl); (case hr => first | (go_simp; done) | (go_simp; rfl)); intro gb375 hg w59 hbox hb; have BK375 := Aside0.mk (hbox); have GW375 := bs_ (w := w) hg; have GE375 := bs_ (w := w) hg; have NB362_375 := nlt_ (g := gb362) hg; have NB375_362 := ngt_ (g := gb362) hg; have NB363_375 := nlt_ (g := gb363) hg; have NB375_363 := ngt_ (g := gb363) hg; replace HB := Aside0.mk (below_step bel_ hb); replace BK362 := bb_ (g := gb362) hb; replace BK363 := bb_ (g := gb363) hb; clear hb hbox hg; have hnb60 := NB375_362.out; have hnc60 := NB362_375.out; have hnb61 := NB375_363.out; have hnc61 := NB363_375.out; obtain ⟨hcz62_0, hcz62_1, hcz62_2, hfz62_0, hfz62_1, hfz62_2⟩ := cf3_ (w := w59) BK375.out) | (go_at_call 45; (with_reducible refine (impl_WideOk.calls t372 t373 t374 false _ A36.out).mono ?_); rintro e w63 ⟨rfl, hb⟩; replace HB := Aside0.mk (below_step bel_ hb); replace BK362 := Aside0.mk (blk_below (g := gb362) (o := .cells #[.bool a0_0, .int .u64 a0_1, .int .u64 a0_2] 28 (0, 0)) bk_ hb); replace BK363 := Aside0.mk (blk_below (g := gb363) (o := .cells #[.bool false, .int .u64 0, .int .u64 0] 28 (0, 0)) bk_ hb); replace BK375 := Aside0.mk (blk_below (g := gb375) (o := .cells #[.bool t372, .int .u64 t373, .int .u64 t374] 28 (0, 0)) (pu_ #[.bool t372, .int .u64 t373, .int .u64 0] 2 (h := (pu_ #[.bool t372, .int .u64 0, .int .u64 0] 1 (h := (pu_ #[.bool false, .int .u64 0, .int .u64 0] 0 (h := bk_)))))) hb); (try clear hb); (try clear hb2); (try clear hk); (try clear hi); obtain ⟨hcz64_0, hcz64_1, hcz64_2, hfz64_0, hfz64_1, hfz64_2⟩ := cf3_ (w := w63) BK363.out))
     refine bodyPost_ret (results_ct rfl _ _ gb363 28 #[.bool false, .int .u64 0, .int .u64 0] (0, 0) _ rfl (pu_ #[.bool false, .int .u64 0, .int .u64 0] 2 (h := (pu_ #[.bool false, .int .u64 0, .int .u64 0] 1 (h := (pu_ #[.bool false, .int .u64 0, .int .u64 0] 0 (h := bk_)))))) Tryd.underlying28 rfl (by kernel_rfl)) rfl ?_
     exact ⟨rf_, bel_⟩
 ·replace c4 := Bool.eq_false_iff.mpr c4
  subst c4
  have H1 : (some (false, 0, 0, false)) = some (r1, r2, r3, r4) := by rw [if_neg (show ¬ (false = true) by decide)] at H; exact H
  clear H
  have H := H1
  clear H1
  simp only [Option.some.injEq, Prod.mk.injEq] at H
  obtain ⟨rfl, rfl, rfl, rfl⟩ := H
  go_enter Tryd.func54, Tryd.ntmps54
  go_wp2_with (first | ((with_reducible refine gate_dst (N := 2) rfl ?_); refine box_event ?hg (N := 2) ?hd (cs := #[.bool a0_0, .int .u64 a0_1, .int .u64 a0_2]) (t := 28) ?hr ?_; (case hd => rfl); (case hg => rfl); (case hr => first | (go_simp; done) | (go_simp; rfl)); intro gb362 hg w65 hbox hb; have BK362 := Aside0.mk (hbox); have GW362 := bs_ (w := w) hg; have GE362 := bs_ (w := w) hg; replace HB := Aside0.mk (below_step bel_ hb); clear hb hbox hg) | ((with_reducible refine gate_dst (N := 4) rfl ?_); refine box_event ?hg (N := 4) ?hd (cs := #[.bool false, .int .u64 0, .int .u64 0]) (t := 28) ?hr ?_; (case hd => rfl); (case hg => rfl); (case hr => first | (go_simp; done) | (go_simp; rfl)); intro gb363 hg w66 hbox hb; have BK363 := Aside0.mk (hbox); have GW363 := bs_ (w := w) hg; have GE363 := bs_ (w := w) hg; have NB362_363 := nlt_ (g := gb362) hg; have NB363_362 := ngt_ (g := gb362) hg; replace HB := Aside0.mk (below_step bel_ hb); replace BK362 := bb_ (g := gb362) hb; clear hb hbox hg; have hnb67 := NB362_363.out; have hnc67 := NB363_362.out; obtain ⟨hcz68_0, hcz68_1, hcz68_2, hfz68_0, hfz68_1, hfz68_2⟩ := cf3_ (w := w66) BK362.out) | ((with_reducible refine gate_callee (f := 45) rfl ?_); refine goesL_ (some 14) rfl rfl Tryd.func45 (by kernel_rfl) rfl #[.agg #[.bool a0_0, .int .u64 a0_1, .int .u64 a0_2]] rfl mp_ ?_; (with_reducible refine (impl_WideOk.calls a0_0 a0_1 a0_2 false _ A3.out).mono ?_); rintro e w69 ⟨rfl, hb⟩; refine ⟨_, rfl, ?_⟩; replace HB := Aside0.mk (below_step bel_ hb); replace BK362 := bb_ (g := gb362) hb; replace BK363 := bb_ (g := gb363) hb; (try clear hb); (try clear hb2); (try clear hk); (try clear hi); obtain ⟨hcz70_0, hcz70_1, hcz70_2, hfz70_0, hfz70_1, hfz70_2⟩ := cf3_ (w := w69) BK363.out))
  refine bodyPost_ret (results_ct rfl _ _ gb363 28 #[.bool false, .int .u64 0, .int .u64 0] (0, 0) _ rfl (pu_ #[.bool false, .int .u64 0, .int .u64 0] 2 (h := (pu_ #[.bool false, .int .u64 0, .int .u64 0] 1 (h := (pu_ #[.bool false, .int .u64 0, .int .u64 0] 0 (h := bk_)))))) Tryd.underlying28 rfl (by kernel_rfl)) rfl ?_
  exact ⟨rf_, bel_⟩
end Go.Proofs.YtkpgpifkbdpnkaaDoor.PFnFracSum
