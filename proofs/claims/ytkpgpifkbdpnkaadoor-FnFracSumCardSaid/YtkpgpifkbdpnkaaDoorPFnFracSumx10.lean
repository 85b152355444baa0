/- Contracts of Go functions, each with the Lean function that says what it computes: begun by the print, turned by this session. No condition beyond what each theorem states. -/
import Derived.Test.YtkpgpifkbdpnkaaDoorPFnFracSumx0
import Derived.Test.YtkpgpifkbdpnkaaDoorPFnFracSumx9
namespace Go.Proofs.YtkpgpifkbdpnkaaDoor.PFnFracSum
open Go.RowKit Go.Proofs.YtkpgpifkbdpnkaaDoorVFnFracSum.PrintWords Go.Proofs.YtkpgpifkbdpnkaaDoorVFnFracSum.PrintLast Go.Proofs.YtkpgpifkbdpnkaaDoorVFnFracSum.PrintMore
attribute [local go_sem] max2_int min2_int max_two min_two max_three min_three max_four min_four   -- for this text's walks alone
set_option linter.unusedVariables false
set_option linter.unusedSimpArgs false
/-! ### impl_crossed: function 68 -/
def impl_crossed.j0 : Nat → Bool → Bool → Int → Int → Int → Bool → Int → Int → Int → Option (Bool × Int × Int × Bool × Int × Int × Bool)
 | 0, _, _, _, _, _, _, _, _, _ => none
 | k + 1, x18, x378000, x378001, x378002, x378003, x379000, x379001, x379002, x379003 => if x18 = true then (some (false, 0, 0, false, 0, 0, false)) else ((impl_ScaleWide.f x378000 x378001 x378002 x379003).bind fun bt383 => ((impl_ScaleWide.f x379000 x379001 x379002 x378003).bind fun bt388 => (if bt383.2.2.2 = true then (some (bt383.1, bt383.2.1, bt383.2.2.1, bt388.1, bt388.2.1, bt388.2.2.1, bt388.2.2.2)) else (some (bt383.1, bt383.2.1, bt383.2.2.1, bt388.1, bt388.2.1, bt388.2.2.1, false)))))
def impl_crossed.f (k : Nat) (a0_0 : Bool) (a0_1 : Int) (a0_2 : Int) (a0_3 : Int) (a1_0 : Bool) (a1_1 : Int) (a1_2 : Int) (a1_3 : Int) : Option (Bool × Int × Int × Bool × Int × Int × Bool) := (impl_FracOk.f a0_0 a0_1 a0_2 a0_3).bind fun t381 => (if t381 = true then ((impl_FracOk.f a1_0 a1_1 a1_2 a1_3).bind fun t382 => (impl_crossed.j0 k (!t382) a0_0 a0_1 a0_2 a0_3 a1_0 a1_1 a1_2 a1_3)) else (impl_crossed.j0 k true a0_0 a0_1 a0_2 a0_3 a1_0 a1_1 a1_2 a1_3))
theorem impl_crossed.mono_l : ∀ k, (∀ y0 y1 y2 y3 y4 y5 y6 y7 y8, LeO (impl_crossed.j0 k y0 y1 y2 y3 y4 y5 y6 y7 y8) (impl_crossed.j0 (k + 1) y0 y1 y2 y3 y4 y5 y6 y7 y8))
 | 0 => fun _ _ _ _ _ _ _ _ _ r h => by simp [impl_crossed.j0] at h
 | k + 1 => by
  have ih0 := impl_crossed.mono_l k
  ·intro y0 y1 y2 y3 y4 y5 y6 y7 y8
   unfold impl_crossed.j0
   repeat' first
   | (with_reducible exact ih0 _ _ _ _ _ _ _ _ _)
   | (with_reducible exact LeO.refl _)
   | (with_reducible exact LeO.none _)
   | (with_reducible refine LeO.ite ?_ ?_)
   | (with_reducible refine LeO.bind ?_ (fun _ => ?_))
   | exact ih0 _ _ _ _ _ _ _ _ _
   | exact LeO.none _
   | refine LeO.ite ?_ ?_
   | refine LeO.bind ?_ (fun _ => ?_)
theorem impl_crossed.mono : ∀ a0 a1 a2 a3 a4 a5 a6 a7 k, LeO (impl_crossed.f k a0 a1 a2 a3 a4 a5 a6 a7) (impl_crossed.f (k + 1) a0 a1 a2 a3 a4 a5 a6 a7) := by
 intro a0 a1 a2 a3 a4 a5 a6 a7 k
 have ih0 := impl_crossed.mono_l k
 unfold impl_crossed.f
 repeat' first
   | (with_reducible exact ih0 _ _ _ _ _ _ _ _ _)
   | (with_reducible exact LeO.refl _)
   | (with_reducible exact LeO.none _)
   | (with_reducible refine LeO.ite ?_ ?_)
   | (with_reducible refine LeO.bind ?_ (fun _ => ?_))
   | exact ih0 _ _ _ _ _ _ _ _ _
   | exact LeO.none _
   | refine LeO.ite ?_ ?_
   | refine LeO.bind ?_ (fun _ => ?_)
def impl_crossed.T5 : Bool × List (List Nat × List Nat) := (true, [([], []), ([], []), ([], []), ([2], [2]), ([3], [3]), ([3, 4], [3, 4]), ([0, 3, 0], [0]), ([1, 6, 0, 1, 6], [1]), ([5, 7, 0, 1, 2, 3, 4, 5, 6, 7], [5])])
def impl_crossed.B5 : List Nat := [0, 0, 0, 4, 12, 28, 13, 79, 255]
theorem impl_crossed.tab5 : rtab .any (opsOf Tryd.f68 5) = impl_crossed.T5 := by kernel_rfl
theorem impl_crossed.bits5 : waitsOk impl_crossed.T5.2 impl_crossed.B5 = true := by kernel_rfl
set_option maxHeartbeats 8000000 in
set_option maxRecDepth 100000 in
theorem impl_crossed.calls (k : Nat) (a0_0 : Bool) (a0_1 : Int) (a0_2 : Int) (a0_3 : Int) (a1_0 : Bool) (a1_1 : Int) (a1_2 : Int) (a1_3 : Int) (r1 : Bool) (r2 : Int) (r3 : Int) (r4 : Bool) (r5 : Int) (r6 : Int) (r7 : Bool) (w : World) (h : impl_crossed.f k a0_0 a0_1 a0_2 a0_3 a1_0 a1_1 a1_2 a1_3 = some (r1, r2, r3, r4, r5, r6, r7)) :
  Calls Tryd.prog 68 #[.agg #[.bool a0_0, .int .u64 a0_1, .int .u64 a0_2, .int .i64 a0_3], .agg #[.bool a1_0, .int .u64 a1_1, .int .u64 a1_2, .int .i64 a1_3]] w fun e w' => e = .returned (.tuple #[.agg #[.bool r1, .int .u64 r2, .int .u64 r3], .agg #[.bool r4, .int .u64 r5, .int .u64 r6], .bool r7]) ∧ Below w.heap.size w w' := by
 have hu43 := Tryd.underlying43
 have hu28 := Tryd.underlying28
 have HB := Aside0.mk (Below.refl w.heap.size w)
 have H : ((impl_FracOk.f a0_0 a0_1 a0_2 a0_3).bind fun t381 => (if t381 = true then ((impl_FracOk.f a1_0 a1_1 a1_2 a1_3).bind fun t382 => (impl_crossed.j0 k (!t382) a0_0 a0_1 a0_2 a0_3 a1_0 a1_1 a1_2 a1_3)) else (impl_crossed.j0 k true a0_0 a0_1 a0_2 a0_3 a1_0 a1_1 a1_2 a1_3))) = some (r1, r2, r3, r4, r5, r6, r7) := h
 clear h
 have HC3 := Aside0.mk H
 clear H
 go_enter Tryd.func68, Tryd.ntmps68
 go_upto_region 1 with (first | ((with_reducible refine gate_dst (N := 2) rfl ?_); refine box_event ?hg (N := 2) ?hd (cs := #[.bool a0_0, .int .u64 a0_1, .int .u64 a0_2, .int .i64 a0_3]) (t := 43) ?hr ?_; (case hd => rfl); (case hg => rfl); (case hr => first | (go_simp; done) | (go_simp; rfl)); intro gb377 hg w4 hbox hb; have BK377 := Aside0.mk (hbox); have GW377 := bs_ (w := w) hg; have GE377 := bs_ (w := w) hg; replace HB := Aside0.mk (below_step bel_ hb); clear hb hbox hg) | ((with_reducible refine gate_dst (N := 3) rfl ?_); refine box_event ?hg (N := 3) ?hd (cs := #[.bool a1_0, .int .u64 a1_1, .int .u64 a1_2, .int .i64 a1_3]) (t := 43) ?hr ?_; (case hd => rfl); (case hg => rfl); (case hr => first | (go_simp; done) | (go_simp; rfl)); intro gb378 hg w5 hbox hb; have BK378 := Aside0.mk (hbox); have GW378 := bs_ (w := w) hg; have GE378 := bs_ (w := w) hg; have NB377_378 := nlt_ (g := gb377) hg; have NB378_377 := ngt_ (g := gb377) hg; replace HB := Aside0.mk (below_step bel_ hb); replace BK377 := bb_ (g := gb377) hb; clear hb hbox hg) | ((with_reducible refine gate_dst (N := 4) rfl ?_); refine box_event ?hg (N := 4) ?hd (cs := #[.bool false, .int .u64 0, .int .u64 0]) (t := 28) ?hr ?_; (case hd => rfl); (case hg => rfl); (case hr => first | (go_simp; done) | (go_simp; rfl)); intro gb379 hg w6 hbox hb; have BK379 := Aside0.mk (hbox); have GW379 := bs_ (w := w) hg; have GE379 := bs_ (w := w) hg; have NB377_379 := nlt_ (g := gb377) hg; have NB379_377 := ngt_ (g := gb377) hg; have NB378_379 := nlt_ (g := gb378) hg; have NB379_378 := ngt_ (g := gb378) hg; replace HB := Aside0.mk (below_step bel_ hb); replace BK377 := bb_ (g := gb377) hb; replace BK378 := bb_ (g := gb378) hb; clear hb hbox hg) | ((with_reducible refine gate_dst (N := 5) rfl ?_); refine box_event ?hg (N := 5) ?hd (cs := #[.bool false, .int .u64 0, .int .u64 0]) (t := 28) ?hr ?_; (case hd => rfl); (case hg => rfl); (case hr => first | (go_simp; done) | (go_simp; rfl)); intro gb380 hg w7 hbox hb; have BK380 := Aside0.mk (hbox); have GW380 := bs_ (w := w) hg; have GE380 := bs_ (w := w) hg; have NB377_380 := nlt_ (g := gb377) hg; have NB380_377 := ngt_ (g := gb377) hg; have NB378_380 := nlt_ (g := gb378) hg; have NB380_378 := ngt_ (g := gb378) hg; have NB379_380 := nlt_ (g := gb379) hg; have NB380_379 := ngt_ (g := gb379) hg; replace HB := Aside0.mk (below_step bel_ hb); replace BK377 := bb_ (g := gb377) hb; replace BK378 := bb_ (g := gb378) hb; replace BK379 := bb_ (g := gb379) hb; clear hb hbox hg))
 (try simp only [Act.put, la_, lb_, lc_])
 go_cut [18] (fun v18 wc => ∃ (kq : Nat) (x18_2 : Bool), v18 = .bool x18_2 ∧ Aside0 (impl_crossed.j0 kq x18_2 a0_0 a0_1 a0_2 a0_3 a1_0 a1_1 a1_2 a1_3 = some (r1, r2, r3, r4, r5, r6, r7)) ∧ Aside0 (kq ≤ k) ∧ Aside0 (wc.heap[gb377]? = some (.cells #[.bool a0_0, .int .u64 a0_1, .int .u64 a0_2, .int .i64 a0_3] 43 (0, 0))) ∧ Aside0 (wc.heap[gb378]? = some (.cells #[.bool a1_0, .int .u64 a1_1, .int .u64 a1_2, .int .i64 a1_3] 43 (0, 0))) ∧ Aside0 (wc.heap[gb379]? = some (.cells #[.bool false, .int .u64 0, .int .u64 0] 28 (0, 0))) ∧ Aside0 (wc.heap[gb380]? = some (.cells #[.bool false, .int .u64 0, .int .u64 0] 28 (0, 0))) ∧ Aside0 (Below w.heap.size w wc))
 case first =>
  have H := HC3.out
  clear HC3
  replace H := Option.bind_eq_some_iff.mp H
  obtain ⟨t381, A80, H⟩ := H
  replace H : (if t381 = true then ((impl_FracOk.f a1_0 a1_1 a1_2 a1_3).bind fun t382 => (impl_crossed.j0 k (!t382) a0_0 a0_1 a0_2 a0_3 a1_0 a1_1 a1_2 a1_3)) else (impl_crossed.j0 k true a0_0 a0_1 a0_2 a0_3 a1_0 a1_1 a1_2 a1_3)) = some (r1, r2, r3, r4, r5, r6, r7) := H
  have A8 := Aside0.mk A80
  clear A80
  by_cases c9 : t381 = true
  ·subst c9
   have H1 : ((impl_FracOk.f a1_0 a1_1 a1_2 a1_3).bind fun t382 => (impl_crossed.j0 k (!t382) a0_0 a0_1 a0_2 a0_3 a1_0 a1_1 a1_2 a1_3)) = some (r1, r2, r3, r4, r5, r6, r7) := by rw [if_pos rfl] at H; exact H
   clear H
   have H := H1
   clear H1
   replace H := Option.bind_eq_some_iff.mp H
   obtain ⟨t382, A100, H⟩ := H
   replace H : (impl_crossed.j0 k (!t382) a0_0 a0_1 a0_2 a0_3 a1_0 a1_1 a1_2 a1_3) = some (r1, r2, r3, r4, r5, r6, r7) := H
   have A10 := Aside0.mk A100
   clear A100
   have H' := Aside0.mk H
   clear H
   have hnb11 := NB377_378.out
   have hnc11 := NB378_377.out
   have hnb12 := NB377_379.out
   have hnc12 := NB379_377.out
   have hnb13 := NB377_380.out
   have hnc13 := NB380_377.out
   obtain ⟨hcz14_0, hcz14_1, hcz14_2, hcz14_3, hfz14_0, hfz14_1, hfz14_2, hfz14_3⟩ := cf4_ (w := w7) BK377.out
   go_wp2_with (first | ((with_reducible refine gate_callee (f := 30) rfl ?_); refine goesL_ (some 12) rfl rfl Tryd.func30 (by kernel_rfl) rfl #[.agg #[.bool a0_0, .int .u64 a0_1, .int .u64 a0_2, .int .i64 a0_3]] rfl mp_ ?_; (with_reducible refine (impl_FracOk.calls a0_0 a0_1 a0_2 a0_3 true _ A8.out).mono ?_); rintro e w15 ⟨rfl, hb⟩; refine ⟨_, rfl, ?_⟩; replace HB := Aside0.mk (below_step bel_ hb); replace BK377 := bb_ (g := gb377) hb; replace BK378 := bb_ (g := gb378) hb; replace BK379 := bb_ (g := gb379) hb; replace BK380 := bb_ (g := gb380) hb; (try clear hb); (try clear hb2); (try clear hk); (try clear hi); have hnb16 := NB378_379.out; have hnc16 := NB379_378.out; have hnb17 := NB378_380.out; have hnc17 := NB380_378.out; obtain ⟨hcz18_0, hcz18_1, hcz18_2, hcz18_3, hfz18_0, hfz18_1, hfz18_2, hfz18_3⟩ := cf4_ (w := w15) BK378.out) | (go_at_call 30; (with_reducible refine (impl_FracOk.calls a1_0 a1_1 a1_2 a1_3 t382 _ A10.out).mono ?_); rintro e w19 ⟨rfl, hb⟩; replace HB := Aside0.mk (below_step bel_ hb); replace BK377 := bb_ (g := gb377) hb; replace BK378 := bb_ (g := gb378) hb; replace BK379 := bb_ (g := gb379) hb; replace BK380 := bb_ (g := gb380) hb; (try clear hb); (try clear hb2); (try clear hk); (try clear hi)))
   go_meet
   case rel => exact ⟨_, (!t382), (by first | rfl | (simp; done) | (simp [*]; done)), H', ⟨by first | omega | exact Nat.le_refl _⟩, ⟨by (with_reducible repeat (first | refine bN_ _ ?_ | refine bd_ ?_ | refine ba_ _ ?_)); exact BK377.out⟩, ⟨by (with_reducible repeat (first | refine bN_ _ ?_ | refine bd_ ?_ | refine ba_ _ ?_)); exact BK378.out⟩, ⟨by (with_reducible repeat (first | refine bN_ _ ?_ | refine bd_ ?_ | refine ba_ _ ?_)); exact BK379.out⟩, ⟨by (with_reducible repeat (first | refine bN_ _ ?_ | refine bd_ ?_ | refine ba_ _ ?_)); exact BK380.out⟩, ⟨bel_⟩⟩
  ·replace c9 := Bool.eq_false_iff.mpr c9
   subst c9
   have H1 : (impl_crossed.j0 k true a0_0 a0_1 a0_2 a0_3 a1_0 a1_1 a1_2 a1_3) = some (r1, r2, r3, r4, r5, r6, r7) := by rw [if_neg (show ¬ (false = true) by decide)] at H; exact H
   clear H
   have H := H1
   clear H1
   have H' := Aside0.mk H
   clear H
   have hnb20 := NB377_378.out
   have hnc20 := NB378_377.out
   have hnb21 := NB377_379.out
   have hnc21 := NB379_377.out
   have hnb22 := NB377_380.out
   have hnc22 := NB380_377.out
   obtain ⟨hcz23_0, hcz23_1, hcz23_2, hcz23_3, hfz23_0, hfz23_1, hfz23_2, hfz23_3⟩ := cf4_ (w := w7) BK377.out
   go_wp2_with (first | ((with_reducible refine gate_callee (f := 30) rfl ?_); refine goesL_ (some 12) rfl rfl Tryd.func30 (by kernel_rfl) rfl #[.agg #[.bool a0_0, .int .u64 a0_1, .int .u64 a0_2, .int .i64 a0_3]] rfl mp_ ?_; (with_reducible refine (impl_FracOk.calls a0_0 a0_1 a0_2 a0_3 false _ A8.out).mono ?_); rintro e w24 ⟨rfl, hb⟩; refine ⟨_, rfl, ?_⟩; replace HB := Aside0.mk (below_step bel_ hb); replace BK377 := bb_ (g := gb377) hb; replace BK378 := bb_ (g := gb378) hb; replace BK379 := bb_ (g := gb379) hb; replace BK380 := bb_ (g := gb380) hb; (try clear hb); (try clear hb2); (try clear hk); (try clear hi)))
   go_meet
   case rel => exact ⟨_, (true), (by first | rfl | (simp; done) | (simp [*]; done)), H', ⟨by first | omega | exact Nat.le_refl _⟩, ⟨by (with_reducible repeat (first | refine bN_ _ ?_ | refine bd_ ?_ | refine ba_ _ ?_)); exact BK377.out⟩, ⟨by (with_reducible repeat (first | refine bN_ _ ?_ | refine bd_ ?_ | refine ba_ _ ?_)); exact BK378.out⟩, ⟨by (with_reducible repeat (first | refine bN_ _ ?_ | refine bd_ ?_ | refine ba_ _ ?_)); exact BK379.out⟩, ⟨by (with_reducible repeat (first | refine bN_ _ ?_ | refine bd_ ?_ | refine ba_ _ ?_)); exact BK380.out⟩, ⟨bel_⟩⟩
 case rest =>
  clear HC3
  try clear c1
  try clear c2
  try clear p2
  try clear c3
  try clear c6
  try clear c9
  try clear c11
  try clear c12
  try clear c13
  try clear c16
  try clear c17
  try clear c20
  try clear c21
  try clear c22
  try clear hcz14_0
  try clear hcz14_1
  try clear hcz14_2
  try clear hcz14_3
  try clear hcz18_0
  try clear hcz18_1
  try clear hcz18_2
  try clear hcz18_3
  try clear hcz23_0
  try clear hcz23_1
  try clear hcz23_2
  try clear hcz23_3
  try clear hfz14_0
  try clear hfz14_1
  try clear hfz14_2
  try clear hfz14_3
  try clear hfz18_0
  try clear hfz18_1
  try clear hfz18_2
  try clear hfz18_3
  try clear hfz23_0
  try clear hfz23_1
  try clear hfz23_2
  try clear hfz23_3
  obtain ⟨kq, x18_2, rfl, HA, HJ2, BK377, BK378, BK379, BK380, HB⟩ := hcut
  cases kq with
  | zero => exact absurd HA.out (by simp [impl_crossed.j0])
  | succ kj2 =>
   have H := HA.out
   clear HA
   simp only [impl_crossed.j0] at H
   by_cases c25 : x18_2 = true
   ·subst c25
    have H1 : (some (false, 0, 0, false, 0, 0, false)) = some (r1, r2, r3, r4, r5, r6, r7) := by rw [if_pos rfl] at H; exact H
    clear H
    have H := H1
    clear H1
    simp only [Option.some.injEq, Prod.mk.injEq] at H
    obtain ⟨rfl, rfl, rfl, rfl, rfl, rfl, rfl⟩ := H
    have hnb26 := NB379_377.out
    have hnc26 := NB377_379.out
    have hnb27 := NB379_378.out
    have hnc27 := NB378_379.out
    have hnb28 := NB379_380.out
    have hnc28 := NB380_379.out
    obtain ⟨hcz29_0, hcz29_1, hcz29_2, hfz29_0, hfz29_1, hfz29_2⟩ := cf3_ (w := wc) BK379.out
    have hnb30 := NB380_377.out
    have hnc30 := NB377_380.out
    have hnb31 := NB380_378.out
    have hnc31 := NB378_380.out
    obtain ⟨hcz32_0, hcz32_1, hcz32_2, hfz32_0, hfz32_1, hfz32_2⟩ := cf3_ (w := wc) BK380.out
    go_wp2
    refine bodyPost_ret (results_list (rs := [.cell 4 28, .cell 5 28, .tmp 6]) rfl (by simp) (.cell gb379 28 #[.bool false, .int .u64 0, .int .u64 0] (0, 0) _ rfl (pu_ #[.bool false, .int .u64 0, .int .u64 0] 2 (h := (pu_ #[.bool false, .int .u64 0, .int .u64 0] 1 (h := (pu_ #[.bool false, .int .u64 0, .int .u64 0] 0 (h := bk_)))))) Tryd.underlying28 rfl (by kernel_rfl) (.cell gb380 28 #[.bool false, .int .u64 0, .int .u64 0] (0, 0) _ rfl (pu_ #[.bool false, .int .u64 0, .int .u64 0] 2 (h := (pu_ #[.bool false, .int .u64 0, .int .u64 0] 1 (h := (pu_ #[.bool false, .int .u64 0, .int .u64 0] 0 (h := bk_)))))) Tryd.underlying28 rfl (by kernel_rfl) (.tmp .nil)))) rfl ?_
    exact ⟨rf_, bel_⟩
   ·replace c25 := Bool.eq_false_iff.mpr c25
    subst c25
    have H1 : ((impl_ScaleWide.f a0_0 a0_1 a0_2 a1_3).bind fun bt383 => ((impl_ScaleWide.f a1_0 a1_1 a1_2 a0_3).bind fun bt388 => (if bt383.2.2.2 = true then (some (bt383.1, bt383.2.1, bt383.2.2.1, bt388.1, bt388.2.1, bt388.2.2.1, bt388.2.2.2)) else (some (bt383.1, bt383.2.1, bt383.2.2.1, bt388.1, bt388.2.1, bt388.2.2.1, false))))) = some (r1, r2, r3, r4, r5, r6, r7) := by rw [if_neg (show ¬ (false = true) by decide)] at H; exact H
    clear H
    have H := H1
    clear H1
    replace H := Option.bind_eq_some_iff.mp H
    obtain ⟨⟨t383, t384, t385, t386⟩, A330, H⟩ := H
    replace H : ((impl_ScaleWide.f a1_0 a1_1 a1_2 a0_3).bind fun bt388 => (if t386 = true then (some (t383, t384, t385, bt388.1, bt388.2.1, bt388.2.2.1, bt388.2.2.2)) else (some (t383, t384, t385, bt388.1, bt388.2.1, bt388.2.2.1, false)))) = some (r1, r2, r3, r4, r5, r6, r7) := H
    have A33 := Aside0.mk A330
    clear A330
    replace H := Option.bind_eq_some_iff.mp H
    obtain ⟨⟨t388, t389, t390, t391⟩, A340, H⟩ := H
    replace H : (if t386 = true then (some (t383, t384, t385, t388, t389, t390, t391)) else (some (t383, t384, t385, t388, t389, t390, false))) = some (r1, r2, r3, r4, r5, r6, r7) := H
    have A34 := Aside0.mk A340
    clear A340
    by_cases c35 : t386 = true
    ·subst c35
     have H1 : (some (t383, t384, t385, t388, t389, t390, t391)) = some (r1, r2, r3, r4, r5, r6, r7) := by rw [if_pos rfl] at H; exact H
     clear H
     have H := H1
     clear H1
     simp only [Option.some.injEq, Prod.mk.injEq] at H
     obtain ⟨rfl, rfl, rfl, rfl, rfl, rfl, rfl⟩ := H
     have hnb36 := NB377_378.out
     have hnc36 := NB378_377.out
     have hnb37 := NB377_379.out
     have hnc37 := NB379_377.out
     have hnb38 := NB377_380.out
     have hnc38 := NB380_377.out
     obtain ⟨hcz39_0, hcz39_1, hcz39_2, hcz39_3, hfz39_0, hfz39_1, hfz39_2, hfz39_3⟩ := cf4_ (w := wc) BK377.out
     have hnb40 := NB378_379.out
     have hnc40 := NB379_378.out
     have hnb41 := NB378_380.out
     have hnc41 := NB380_378.out
     obtain ⟨hcz42_0, hcz42_1, hcz42_2, hcz42_3, hfz42_0, hfz42_1, hfz42_2, hfz42_3⟩ := cf4_ (w := wc) BK378.out
     try go_wp2_with (first | ((with_reducible refine gate_callee (f := 54) rfl ?_); refine goesL_ (some 26) rfl rfl Tryd.func54 (by kernel_rfl) rfl #[.agg #[.bool a0_0, .int .u64 a0_1, .int .u64 a0_2], .int .i64 a1_3] rfl mp_ ?_; (with_reducible refine (impl_ScaleWide.calls a0_0 a0_1 a0_2 a1_3 t383 t384 t385 true _ A33.out).mono ?_); rintro e w43 ⟨rfl, hb⟩; refine ⟨_, rfl, ?_⟩; replace HB := Aside0.mk (below_step bel_ hb); replace BK377 := bb_ (g := gb377) hb; replace BK378 := bb_ (g := gb378) hb; replace BK379 := bb_ (g := gb379) hb; replace BK380 := bb_ (g := gb380) hb; (try clear hb); (try clear hb2); (try clear hk); (try clear hi)) | ((with_reducible refine gate_dst (N := 7) rfl ?_); refine box_event ?hg (N := 7) ?hd (cs := #[.bool false, .int .u64 0, .int .u64 0]) (t := 28) ?hr ?_; (case hd => rfl); (case hg => rfl); (case hr => first | (go_simp; done) | (go_simp; rfl)); intro gb387 hg w44 hbox hb; have BK387 := Aside0.mk (hbox); have GW387 := bs_ (w := w) hg; have GE387 := bs_ (w := w) hg; have NB377_387 := nlt_ (g := gb377) hg; have NB387_377 := ngt_ (g := gb377) hg; have NB378_387 := nlt_ (g := gb378) hg; have NB387_378 := ngt_ (g := gb378) hg; have NB379_387 := nlt_ (g := gb379) hg; have NB387_379 := ngt_ (g := gb379) hg; have NB380_387 := nlt_ (g := gb380) hg; have NB387_380 := ngt_ (g := gb380) hg; replace HB := Aside0.mk (below_step bel_ hb); replace BK377 := bb_ (g := gb377) hb; replace BK378 := bb_ (g := gb378) hb; replace BK379 := bb_ (g := gb379) hb; replace BK380 := bb_ (g := gb380) hb; clear hb hbox hg; have hnb45 := NB387_377.out; have hnc45 := NB377_387.out; have hnb46 := NB387_378.out; have hnc46 := NB378_387.out; have hnb47 := NB387_379.out; have hnc47 := NB379_387.out; have hnb48 := NB387_380.out; have hnc48 := NB380_387.out; obtain ⟨hcz49_0, hcz49_1, hcz49_2, hfz49_0, hfz49_1, hfz49_2⟩ := cf3_ (w := w44) BK387.out; obtain ⟨hcz50_0, hcz50_1, hcz50_2, hcz50_3, hfz50_0, hfz50_1, hfz50_2, hfz50_3⟩ := cf4_ (w := w44) BK378.out; obtain ⟨hcz51_0, hcz51_1, hcz51_2, hcz51_3, hfz51_0, hfz51_1, hfz51_2, hfz51_3⟩ := cf4_ (w := w44) BK377.out) | ((with_reducible refine gate_callee (f := 54) rfl ?_); refine goesL_ (some 34) rfl rfl Tryd.func54 (by kernel_rfl) rfl #[.agg #[.bool a1_0, .int .u64 a1_1, .int .u64 a1_2], .int .i64 a0_3] rfl mp_ ?_; (with_reducible refine (impl_ScaleWide.calls a1_0 a1_1 a1_2 a0_3 t388 t389 t390 t391 _ A34.out).mono ?_); rintro e w52 ⟨rfl, hb⟩; refine ⟨_, rfl, ?_⟩; replace HB := Aside0.mk (below_step bel_ hb); replace BK377 := Aside0.mk (blk_below (g := gb377) (o := .cells #[.bool a0_0, .int .u64 a0_1, .int .u64 a0_2, .int .i64 a0_3] 43 (0, 0)) bk_ hb); replace BK378 := Aside0.mk (blk_below (g := gb378) (o := .cells #[.bool a1_0, .int .u64 a1_1, .int .u64 a1_2, .int .i64 a1_3] 43 (0, 0)) bk_ hb); replace BK379 := Aside0.mk (blk_below (g := gb379) (o := .cells #[.bool false, .int .u64 0, .int .u64 0] 28 (0, 0)) bk_ hb); replace BK380 := Aside0.mk (blk_below (g := gb380) (o := .cells #[.bool false, .int .u64 0, .int .u64 0] 28 (0, 0)) bk_ hb); replace BK387 := Aside0.mk (blk_below (g := gb387) (o := .cells #[.bool t383, .int .u64 t384, .int .u64 t385] 28 (0, 0)) (pu_ #[.bool t383, .int .u64 t384, .int .u64 0] 2 (h := (pu_ #[.bool t383, .int .u64 0, .int .u64 0] 1 (h := (pu_ #[.bool false, .int .u64 0, .int .u64 0] 0 (h := bk_)))))) hb); (try clear hb); (try clear hb2); (try clear hk); (try clear hi)) | ((with_reducible refine gate_dst (N := 9) rfl ?_); refine box_event ?hg (N := 9) ?hd (cs := #[.bool false, .int .u64 0, .int .u64 0]) (t := 28) ?hr ?_; (case hd => rfl); (case hg => rfl); (case hr => first | (go_simp; done) | (go_simp; rfl)); intro gb392 hg w53 hbox hb; have BK392 := Aside0.mk (hbox); have GW392 := bs_ (w := w) hg; have GE392 := bs_ (w := w) hg; have NB377_392 := nlt_ (g := gb377) hg; have NB392_377 := ngt_ (g := gb377) hg; have NB378_392 := nlt_ (g := gb378) hg; have NB392_378 := ngt_ (g := gb378) hg; have NB379_392 := nlt_ (g := gb379) hg; have NB392_379 := ngt_ (g := gb379) hg; have NB380_392 := nlt_ (g := gb380) hg; have NB392_380 := ngt_ (g := gb380) hg; have NB387_392 := nlt_ (g := gb387) hg; have NB392_387 := ngt_ (g := gb387) hg; replace HB := Aside0.mk (below_step bel_ hb); replace BK377 := bb_ (g := gb377) hb; replace BK378 := bb_ (g := gb378) hb; replace BK379 := bb_ (g := gb379) hb; replace BK380 := bb_ (g := gb380) hb; replace BK387 := bb_ (g := gb387) hb; clear hb hbox hg; have hnb54 := NB392_377.out; have hnc54 := NB377_392.out; have hnb55 := NB392_378.out; have hnc55 := NB378_392.out; have hnb56 := NB392_379.out; have hnc56 := NB379_392.out; have hnb57 := NB392_380.out; have hnc57 := NB380_392.out; have hnb58 := NB392_387.out; have hnc58 := NB387_392.out; obtain ⟨hcz59_0, hcz59_1, hcz59_2, hfz59_0, hfz59_1, hfz59_2⟩ := cf3_ (w := w53) BK392.out))
     have n0_ : Aside0 ((((w53.setCell ⟨gb392, 0, none⟩ (.bool t388)).setCell ⟨gb392, 1, none⟩ (.int .u64 t389)).setCell ⟨gb392, 2, none⟩ (.int .u64 t390)).heap[gb377]? = some (.cells #[.bool a0_0, .int .u64 a0_1, .int .u64 a0_2, .int .i64 a0_3] 43 (0, 0))) := ⟨by (with_reducible repeat (first | refine bN_ _ ?_ | refine bd_ ?_ | refine ba_ _ ?_)); refine blk_far ?_ NB377_392.out _; (with_reducible repeat (first | refine bN_ _ ?_ | refine bd_ ?_ | refine ba_ _ ?_)); refine blk_far ?_ NB377_392.out _; (with_reducible repeat (first | refine bN_ _ ?_ | refine bd_ ?_ | refine ba_ _ ?_)); refine blk_far ?_ NB377_392.out _; (with_reducible repeat (first | refine bN_ _ ?_ | refine bd_ ?_ | refine ba_ _ ?_)); exact BK377.out⟩
     have n1_ : Aside0 ((((w53.setCell ⟨gb392, 0, none⟩ (.bool t388)).setCell ⟨gb392, 1, none⟩ (.int .u64 t389)).setCell ⟨gb392, 2, none⟩ (.int .u64 t390)).heap[gb378]? = some (.cells #[.bool a1_0, .int .u64 a1_1, .int .u64 a1_2, .int .i64 a1_3] 43 (0, 0))) := ⟨by (with_reducible repeat (first | refine bN_ _ ?_ | refine bd_ ?_ | refine ba_ _ ?_)); refine blk_far ?_ NB378_392.out _; (with_reducible repeat (first | refine bN_ _ ?_ | refine bd_ ?_ | refine ba_ _ ?_)); refine blk_far ?_ NB378_392.out _; (with_reducible repeat (first | refine bN_ _ ?_ | refine bd_ ?_ | refine ba_ _ ?_)); refine blk_far ?_ NB378_392.out _; (with_reducible repeat (first | refine bN_ _ ?_ | refine bd_ ?_ | refine ba_ _ ?_)); exact BK378.out⟩
     have n2_ : Aside0 ((((w53.setCell ⟨gb392, 0, none⟩ (.bool t388)).setCell ⟨gb392, 1, none⟩ (.int .u64 t389)).setCell ⟨gb392, 2, none⟩ (.int .u64 t390)).heap[gb379]? = some (.cells #[.bool false, .int .u64 0, .int .u64 0] 28 (0, 0))) := ⟨by (with_reducible repeat (first | refine bN_ _ ?_ | refine bd_ ?_ | refine ba_ _ ?_)); refine blk_far ?_ NB379_392.out _; (with_reducible repeat (first | refine bN_ _ ?_ | refine bd_ ?_ | refine ba_ _ ?_)); refine blk_far ?_ NB379_392.out _; (with_reducible repeat (first | refine bN_ _ ?_ | refine bd_ ?_ | refine ba_ _ ?_)); refine blk_far ?_ NB379_392.out _; (with_reducible repeat (first | refine bN_ _ ?_ | refine bd_ ?_ | refine ba_ _ ?_)); exact BK379.out⟩
     have n3_ : Aside0 ((((w53.setCell ⟨gb392, 0, none⟩ (.bool t388)).setCell ⟨gb392, 1, none⟩ (.int .u64 t389)).setCell ⟨gb392, 2, none⟩ (.int .u64 t390)).heap[gb380]? = some (.cells #[.bool false, .int .u64 0, .int .u64 0] 28 (0, 0))) := ⟨by (with_reducible repeat (first | refine bN_ _ ?_ | refine bd_ ?_ | refine ba_ _ ?_)); refine blk_far ?_ NB380_392.out _; (with_reducible repeat (first | refine bN_ _ ?_ | refine bd_ ?_ | refine ba_ _ ?_)); refine blk_far ?_ NB380_392.out _; (with_reducible repeat (first | refine bN_ _ ?_ | refine bd_ ?_ | refine ba_ _ ?_)); refine blk_far ?_ NB380_392.out _; (with_reducible repeat (first | refine bN_ _ ?_ | refine bd_ ?_ | refine ba_ _ ?_)); exact BK380.out⟩
     have n4_ : Aside0 ((((w53.setCell ⟨gb392, 0, none⟩ (.bool t388)).setCell ⟨gb392, 1, none⟩ (.int .u64 t389)).setCell ⟨gb392, 2, none⟩ (.int .u64 t390)).heap[gb387]? = some (.cells #[.bool t383, .int .u64 t384, .int .u64 t385] 28 (0, 0))) := ⟨by (with_reducible repeat (first | refine bN_ _ ?_ | refine bd_ ?_ | refine ba_ _ ?_)); refine blk_far ?_ NB387_392.out _; (with_reducible repeat (first | refine bN_ _ ?_ | refine bd_ ?_ | refine ba_ _ ?_)); refine blk_far ?_ NB387_392.out _; (with_reducible repeat (first | refine bN_ _ ?_ | refine bd_ ?_ | refine ba_ _ ?_)); refine blk_far ?_ NB387_392.out _; (with_reducible repeat (first | refine bN_ _ ?_ | refine bd_ ?_ | refine ba_ _ ?_)); exact BK387.out⟩
     have n5_ : Aside0 ((((w53.setCell ⟨gb392, 0, none⟩ (.bool t388)).setCell ⟨gb392, 1, none⟩ (.int .u64 t389)).setCell ⟨gb392, 2, none⟩ (.int .u64 t390)).heap[gb392]? = some (.cells #[.bool t388, .int .u64 t389, .int .u64 t390] 28 (0, 0))) := ⟨by (with_reducible repeat (first | refine bN_ _ ?_ | refine bd_ ?_ | refine ba_ _ ?_)); refine blk_put (cs := #[.bool t388, .int .u64 t389, .int .u64 0]) ?_ 2 _ rfl; (with_reducible repeat (first | refine bN_ _ ?_ | refine bd_ ?_ | refine ba_ _ ?_)); refine blk_put (cs := #[.bool t388, .int .u64 0, .int .u64 0]) ?_ 1 _ rfl; (with_reducible repeat (first | refine bN_ _ ?_ | refine bd_ ?_ | refine ba_ _ ?_)); refine blk_put (cs := #[.bool false, .int .u64 0, .int .u64 0]) ?_ 0 _ rfl; (with_reducible repeat (first | refine bN_ _ ?_ | refine bd_ ?_ | refine ba_ _ ?_)); exact BK392.out⟩
     have n6_ : Aside0 (Below w.heap.size w (((w53.setCell ⟨gb392, 0, none⟩ (.bool t388)).setCell ⟨gb392, 1, none⟩ (.int .u64 t389)).setCell ⟨gb392, 2, none⟩ (.int .u64 t390))) := ⟨bel_⟩
     (try clear BK377)
     (try clear BK378)
     (try clear BK379)
     (try clear BK380)
     (try clear BK387)
     (try clear BK392)
     (try clear HB)
     generalize (((w53.setCell ⟨gb392, 0, none⟩ (.bool t388)).setCell ⟨gb392, 1, none⟩ (.int .u64 t389)).setCell ⟨gb392, 2, none⟩ (.int .u64 t390)) = w60 at n0_ n1_ n2_ n3_ n4_ n5_ n6_ ⊢
     have BK377 := n0_
     have BK378 := n1_
     have BK379 := n2_
     have BK380 := n3_
     have BK387 := n4_
     have BK392 := n5_
     have HB := n6_
     clear n0_ n1_ n2_ n3_ n4_ n5_ n6_
     replace HB := Aside0.mk (below_drew1 HB.out)
     replace BK377 := Aside0.mk (blk_drew BK377.out)
     replace BK378 := Aside0.mk (blk_drew BK378.out)
     replace BK379 := Aside0.mk (blk_drew BK379.out)
     replace BK380 := Aside0.mk (blk_drew BK380.out)
     replace BK387 := Aside0.mk (blk_drew BK387.out)
     replace BK392 := Aside0.mk (blk_drew BK392.out)
     refine start_ (n := 9) (S := fun w' => w'.cell? ⟨gb387, 0, none⟩ = some (.bool t383) ∧ w'.cell? ⟨gb387, 1, none⟩ = some (.int .u64 t384) ∧ w'.cell? ⟨gb387, 2, none⟩ = some (.int .u64 t385) ∧ w'.cell? ⟨gb392, 0, none⟩ = some (.bool t388) ∧ w'.cell? ⟨gb392, 1, none⟩ = some (.int .u64 t389) ∧ w'.cell? ⟨gb392, 2, none⟩ = some (.int .u64 t390)) (ds := []) #[false, false, false, false, false, false, false, false, false] (by kernel_rfl) rfl rfl ⟨bc_, bc_, bc_, bc_, bc_, bc_⟩ (fun hHeld => ?_); refine with_tabW impl_crossed.tab5 impl_crossed.bits5 (fun HT_ HW_ => ?_)
     generalize w60.drew = w61 at BK377 BK378 BK379 BK380 BK387 BK392 HB hHeld ⊢
     refine pure_ (i := 2) (N := some 39) (v := ?_) (a' := ?_) #[false, false, true, false, false, false, false, false, false] rfl rfl (any_of HT_.out (by kernel_rfl)) (fun _ _ _ h => h) (Or.inl ⟨by rfl, ?_⟩) ?_ ?_
     rotate_left
     ·intro w'
      go_simp
      with_reducible rfl
     rotate_left
     ·simp only [Act.put, la_, lb_, lc_, i64_w, i32_w]
      rfl
     refine pure_ (i := 3) (N := some 40) (v := ?_) (a' := ?_) #[false, false, true, true, false, false, false, false, false] rfl rfl (any_of HT_.out (by kernel_rfl)) (fun _ _ _ h => h) (Or.inl ⟨by rfl, ?_⟩) ?_ ?_
     rotate_left
     ·intro w'
      go_simp
      with_reducible rfl
     rotate_left
     ·simp only [Act.put, la_, lb_, lc_, i64_w, i32_w]
      rfl
     refine pure_ (i := 4) (N := some 41) (v := ?_) (a' := ?_) #[false, false, true, true, true, false, false, false, false] rfl rfl (any_of HT_.out (by kernel_rfl)) (fun _ _ _ h => h) (Or.inl ⟨by rfl, ?_⟩) ?_ ?_
     rotate_left
     ·intro w'
      go_simp
      with_reducible rfl
     rotate_left
     ·simp only [Act.put, la_, lb_, lc_, i64_w, i32_w]
      rfl
     refine pure_ (i := 5) (N := some 42) (v := ?_) (a' := ?_) #[false, false, true, true, true, true, false, false, false] rfl rfl (any_of HT_.out (by kernel_rfl)) (fun _ _ _ h => h) (Or.inl ⟨by rfl, ?_⟩) ?_ ?_
     rotate_left
     ·intro w'
      go_simp
      with_reducible rfl
     rotate_left
     ·simp only [Act.put, la_, lb_, lc_, i64_w, i32_w]
      rfl
     refine take_ (i := 0) (N := some 37) (v := ?_) (a' := ?_) #[true, false, true, true, true, true, false, false, false] rfl rfl (take_ofW HT_.out HW_.out (by kernel_rfl)) (fun _ _ _ h => h) (Or.inl ⟨by rfl, ?_⟩) hHeld ?_ ?_
     rotate_left
     ·rintro w' ⟨s0, s1, s2, s3, s4, s5⟩
      go_simp
      with_reducible rfl
     rotate_left
     ·simp only [Act.put, la_, lb_, lc_, i64_w, i32_w]
      rfl
     refine take_ (i := 1) (N := some 38) (v := ?_) (a' := ?_) #[true, true, true, true, true, true, false, false, false] rfl rfl (take_ofW HT_.out HW_.out (by kernel_rfl)) (fun _ _ _ h => h) (Or.inl ⟨by rfl, ?_⟩) hHeld ?_ ?_
     rotate_left
     ·rintro w' ⟨s0, s1, s2, s3, s4, s5⟩
      go_simp
      with_reducible rfl
     rotate_left
     ·simp only [Act.put, la_, lb_, lc_, i64_w, i32_w]
      rfl
     refine one_ (i := 6) (N := none) #[true, true, true, true, true, true, true, false, false] rfl rfl (one_of HT_.out (by kernel_rfl)) (by decide) (fun K hK => ?_)
     have hs62 : w61.cell? ⟨gb379, 0, none⟩ = some (.bool false) := (blk_cell BK379.out 0).trans rfl
     have hfs62 := blk_frozen BK379.out 0
     have hns62_0 := NB377_379.out
     have hns62_1 := NB378_379.out
     have hns62_3 := NB380_379.out
     have hns62_4 := NB387_379.out
     have hns62_5 := NB392_379.out
     have hms62_0 := NB379_377.out
     have hms62_1 := NB379_378.out
     have hms62_3 := NB379_380.out
     have hms62_4 := NB379_387.out
     have hms62_5 := NB379_392.out
     have hs63 : w61.cell? ⟨gb379, 1, none⟩ = some (.int .u64 0) := (blk_cell BK379.out 1).trans rfl
     have hfs63 := blk_frozen BK379.out 1
     have hns63_0 := NB377_379.out
     have hns63_1 := NB378_379.out
     have hns63_3 := NB380_379.out
     have hns63_4 := NB387_379.out
     have hns63_5 := NB392_379.out
     have hms63_0 := NB379_377.out
     have hms63_1 := NB379_378.out
     have hms63_3 := NB379_380.out
     have hms63_4 := NB379_387.out
     have hms63_5 := NB379_392.out
     have hs64 : w61.cell? ⟨gb379, 2, none⟩ = some (.int .u64 0) := (blk_cell BK379.out 2).trans rfl
     have hfs64 := blk_frozen BK379.out 2
     have hns64_0 := NB377_379.out
     have hns64_1 := NB378_379.out
     have hns64_3 := NB380_379.out
     have hns64_4 := NB387_379.out
     have hns64_5 := NB392_379.out
     have hms64_0 := NB379_377.out
     have hms64_1 := NB379_378.out
     have hms64_3 := NB379_380.out
     have hms64_4 := NB379_387.out
     have hms64_5 := NB379_392.out
     refine skip_ (w1 := ?_) ?_ ?_ ?_ ?_
     rotate_left
     ·rfl
     ·rfl
     ·go_simp
      rfl
     refine hK.out _ _ ⟨(cfar_ hHeld.1), (cfar_ hHeld.2.1), (cfar_ hHeld.2.2.1), (cfar_ hHeld.2.2.2.1), (cfar_ hHeld.2.2.2.2.1), (cfar_ hHeld.2.2.2.2.2)⟩ (fun hHeld => ?_)
     clear hK K
     refine one_ (i := 7) (N := none) #[true, true, true, true, true, true, true, true, false] rfl rfl (one_of HT_.out (by kernel_rfl)) (by decide) (fun K hK => ?_)
     have hs65 : w61.cell? ⟨gb380, 0, none⟩ = some (.bool false) := (blk_cell BK380.out 0).trans rfl
     have hfs65 := blk_frozen BK380.out 0
     have hns65_0 := NB377_380.out
     have hns65_1 := NB378_380.out
     have hns65_2 := NB379_380.out
     have hns65_4 := NB387_380.out
     have hns65_5 := NB392_380.out
     have hms65_0 := NB380_377.out
     have hms65_1 := NB380_378.out
     have hms65_2 := NB380_379.out
     have hms65_4 := NB380_387.out
     have hms65_5 := NB380_392.out
     have hs66 : w61.cell? ⟨gb380, 1, none⟩ = some (.int .u64 0) := (blk_cell BK380.out 1).trans rfl
     have hfs66 := blk_frozen BK380.out 1
     have hns66_0 := NB377_380.out
     have hns66_1 := NB378_380.out
     have hns66_2 := NB379_380.out
     have hns66_4 := NB387_380.out
     have hns66_5 := NB392_380.out
     have hms66_0 := NB380_377.out
     have hms66_1 := NB380_378.out
     have hms66_2 := NB380_379.out
     have hms66_4 := NB380_387.out
     have hms66_5 := NB380_392.out
     have hs67 : w61.cell? ⟨gb380, 2, none⟩ = some (.int .u64 0) := (blk_cell BK380.out 2).trans rfl
     have hfs67 := blk_frozen BK380.out 2
     have hns67_0 := NB377_380.out
     have hns67_1 := NB378_380.out
     have hns67_2 := NB379_380.out
     have hns67_4 := NB387_380.out
     have hns67_5 := NB392_380.out
     have hms67_0 := NB380_377.out
     have hms67_1 := NB380_378.out
     have hms67_2 := NB380_379.out
     have hms67_4 := NB380_387.out
     have hms67_5 := NB380_392.out
     refine skip_ (w1 := ?_) ?_ ?_ ?_ ?_
     rotate_left
     ·rfl
     ·rfl
     ·go_simp
      rfl
     refine hK.out _ _ ⟨(cfar_ hHeld.1), (cfar_ hHeld.2.1), (cfar_ hHeld.2.2.1), (cfar_ hHeld.2.2.2.1), (cfar_ hHeld.2.2.2.2.1), (cfar_ hHeld.2.2.2.2.2)⟩ (fun hHeld => ?_)
     clear hK K
     refine pure_ (i := 8) (N := some 6) (v := ?_) (a' := ?_) #[true, true, true, true, true, true, true, true, true] rfl rfl (any_of HT_.out (by kernel_rfl)) (fun _ _ _ h => h) (Or.inl ⟨by rfl, ?_⟩) ?_ ?_
     rotate_left
     ·intro w'
      go_simp
      with_reducible rfl
     rotate_left
     ·simp only [Act.put, la_, lb_, lc_, i64_w, i32_w]
      rfl
     refine done_ (done_of HT_.out (by kernel_rfl)) ?_
     try go_wp2
     refine bodyPost_ret (results_list (rs := [.cell 4 28, .cell 5 28, .tmp 6]) rfl (by simp) (.cell gb379 28 #[.bool t383, .int .u64 t384, .int .u64 t385] (0, 0) _ rfl (pu_ #[.bool t383, .int .u64 t384, .int .u64 0] 2 (h := (pu_ #[.bool t383, .int .u64 0, .int .u64 0] 1 (h := (pu_ #[.bool false, .int .u64 0, .int .u64 0] 0 (h := bk_)))))) Tryd.underlying28 rfl (by kernel_rfl) (.cell gb380 28 #[.bool t388, .int .u64 t389, .int .u64 t390] (0, 0) _ rfl (pu_ #[.bool t388, .int .u64 t389, .int .u64 0] 2 (h := (pu_ #[.bool t388, .int .u64 0, .int .u64 0] 1 (h := (pu_ #[.bool false, .int .u64 0, .int .u64 0] 0 (h := bk_)))))) Tryd.underlying28 rfl (by kernel_rfl) (.tmp .nil)))) rfl ?_
     exact ⟨rf_, bel_⟩
    ·replace c35 := Bool.eq_false_iff.mpr c35
     subst c35
     have H1 : (some (t383, t384, t385, t388, t389, t390, false)) = some (r1, r2, r3, r4, r5, r6, r7) := by rw [if_neg (show ¬ (false = true) by decide)] at H; exact H
     clear H
     have H := H1
     clear H1
     simp only [Option.some.injEq, Prod.mk.injEq] at H
     obtain ⟨rfl, rfl, rfl, rfl, rfl, rfl, rfl⟩ := H
     have hnb68 := NB377_378.out
     have hnc68 := NB378_377.out
     have hnb69 := NB377_379.out
     have hnc69 := NB379_377.out
     have hnb70 := NB377_380.out
     have hnc70 := NB380_377.out
     obtain ⟨hcz71_0, hcz71_1, hcz71_2, hcz71_3, hfz71_0, hfz71_1, hfz71_2, hfz71_3⟩ := cf4_ (w := wc) BK377.out
     have hnb72 := NB378_379.out
     have hnc72 := NB379_378.out
     have hnb73 := NB378_380.out
     have hnc73 := NB380_378.out
     obtain ⟨hcz74_0, hcz74_1, hcz74_2, hcz74_3, hfz74_0, hfz74_1, hfz74_2, hfz74_3⟩ := cf4_ (w := wc) BK378.out
     try go_wp2_with (first | ((with_reducible refine gate_callee (f := 54) rfl ?_); refine goesL_ (some 26) rfl rfl Tryd.func54 (by kernel_rfl) rfl #[.agg #[.bool a0_0, .int .u64 a0_1, .int .u64 a0_2], .int .i64 a1_3] rfl mp_ ?_; (with_reducible refine (impl_ScaleWide.calls a0_0 a0_1 a0_2 a1_3 t383 t384 t385 false _ A33.out).mono ?_); rintro e w75 ⟨rfl, hb⟩; refine ⟨_, rfl, ?_⟩; replace HB := Aside0.mk (below_step bel_ hb); replace BK377 := bb_ (g := gb377) hb; replace BK378 := bb_ (g := gb378) hb; replace BK379 := bb_ (g := gb379) hb; replace BK380 := bb_ (g := gb380) hb; (try clear hb); (try clear hb2); (try clear hk); (try clear hi)) | ((with_reducible refine gate_dst (N := 7) rfl ?_); refine box_event ?hg (N := 7) ?hd (cs := #[.bool false, .int .u64 0, .int .u64 0]) (t := 28) ?hr ?_; (case hd => rfl); (case hg => rfl); (case hr => first | (go_simp; done) | (go_simp; rfl)); intro gb387 hg w76 hbox hb; have BK387 := Aside0.mk (hbox); have GW387 := bs_ (w := w) hg; have GE387 := bs_ (w := w) hg; have NB377_387 := nlt_ (g := gb377) hg; have NB387_377 := ngt_ (g := gb377) hg; have NB378_387 := nlt_ (g := gb378) hg; have NB387_378 := ngt_ (g := gb378) hg; have NB379_387 := nlt_ (g := gb379) hg; have NB387_379 := ngt_ (g := gb379) hg; have NB380_387 := nlt_ (g := gb380) hg; have NB387_380 := ngt_ (g := gb380) hg; replace HB := Aside0.mk (below_step bel_ hb); replace BK377 := bb_ (g := gb377) hb; replace BK378 := bb_ (g := gb378) hb; replace BK379 := bb_ (g := gb379) hb; replace BK380 := bb_ (g := gb380) hb; clear hb hbox hg; have hnb77 := NB387_377.out; have hnc77 := NB377_387.out; have hnb78 := NB387_378.out; have hnc78 := NB378_387.out; have hnb79 := NB387_379.out; have hnc79 := NB379_387.out; have hnb80 := NB387_380.out; have hnc80 := NB380_387.out; obtain ⟨hcz81_0, hcz81_1, hcz81_2, hfz81_0, hfz81_1, hfz81_2⟩ := cf3_ (w := w76) BK387.out; obtain ⟨hcz82_0, hcz82_1, hcz82_2, hcz82_3, hfz82_0, hfz82_1, hfz82_2, hfz82_3⟩ := cf4_ (w := w76) BK378.out; obtain ⟨hcz83_0, hcz83_1, hcz83_2, hcz83_3, hfz83_0, hfz83_1, hfz83_2, hfz83_3⟩ := cf4_ (w := w76) BK377.out) | ((with_reducible refine gate_callee (f := 54) rfl ?_); refine goesL_ (some 34) rfl rfl Tryd.func54 (by kernel_rfl) rfl #[.agg #[.bool a1_0, .int .u64 a1_1, .int .u64 a1_2], .int .i64 a0_3] rfl mp_ ?_; (with_reducible refine (impl_ScaleWide.calls a1_0 a1_1 a1_2 a0_3 t388 t389 t390 t391 _ A34.out).mono ?_); rintro e w84 ⟨rfl, hb⟩; refine ⟨_, rfl, ?_⟩; replace HB := Aside0.mk (below_step bel_ hb); replace BK377 := Aside0.mk (blk_below (g := gb377) (o := .cells #[.bool a0_0, .int .u64 a0_1, .int .u64 a0_2, .int .i64 a0_3] 43 (0, 0)) bk_ hb); replace BK378 := Aside0.mk (blk_below (g := gb378) (o := .cells #[.bool a1_0, .int .u64 a1_1, .int .u64 a1_2, .int .i64 a1_3] 43 (0, 0)) bk_ hb); replace BK379 := Aside0.mk (blk_below (g := gb379) (o := .cells #[.bool false, .int .u64 0, .int .u64 0] 28 (0, 0)) bk_ hb); replace BK380 := Aside0.mk (blk_below (g := gb380) (o := .cells #[.bool false, .int .u64 0, .int .u64 0] 28 (0, 0)) bk_ hb); replace BK387 := Aside0.mk (blk_below (g := gb387) (o := .cells #[.bool t383, .int .u64 t384, .int .u64 t385] 28 (0, 0)) (pu_ #[.bool t383, .int .u64 t384, .int .u64 0] 2 (h := (pu_ #[.bool t383, .int .u64 0, .int .u64 0] 1 (h := (pu_ #[.bool false, .int .u64 0, .int .u64 0] 0 (h := bk_)))))) hb); (try clear hb); (try clear hb2); (try clear hk); (try clear hi)) | ((with_reducible refine gate_dst (N := 9) rfl ?_); refine box_event ?hg (N := 9) ?hd (cs := #[.bool false, .int .u64 0, .int .u64 0]) (t := 28) ?hr ?_; (case hd => rfl); (case hg => rfl); (case hr => first | (go_simp; done) | (go_simp; rfl)); intro gb392 hg w85 hbox hb; have BK392 := Aside0.mk (hbox); have GW392 := bs_ (w := w) hg; have GE392 := bs_ (w := w) hg; have NB377_392 := nlt_ (g := gb377) hg; have NB392_377 := ngt_ (g := gb377) hg; have NB378_392 := nlt_ (g := gb378) hg; have NB392_378 := ngt_ (g := gb378) hg; have NB379_392 := nlt_ (g := gb379) hg; have NB392_379 := ngt_ (g := gb379) hg; have NB380_392 := nlt_ (g := gb380) hg; have NB392_380 := ngt_ (g := gb380) hg; have NB387_392 := nlt_ (g := gb387) hg; have NB392_387 := ngt_ (g := gb387) hg; replace HB := Aside0.mk (below_step bel_ hb); replace BK377 := bb_ (g := gb377) hb; replace BK378 := bb_ (g := gb378) hb; replace BK379 := bb_ (g := gb379) hb; replace BK380 := bb_ (g := gb380) hb; replace BK387 := bb_ (g := gb387) hb; clear hb hbox hg; have hnb86 := NB392_377.out; have hnc86 := NB377_392.out; have hnb87 := NB392_378.out; have hnc87 := NB378_392.out; have hnb88 := NB392_379.out; have hnc88 := NB379_392.out; have hnb89 := NB392_380.out; have hnc89 := NB380_392.out; have hnb90 := NB392_387.out; have hnc90 := NB387_392.out; obtain ⟨hcz91_0, hcz91_1, hcz91_2, hfz91_0, hfz91_1, hfz91_2⟩ := cf3_ (w := w85) BK392.out))
     have n0_ : Aside0 ((((w85.setCell ⟨gb392, 0, none⟩ (.bool t388)).setCell ⟨gb392, 1, none⟩ (.int .u64 t389)).setCell ⟨gb392, 2, none⟩ (.int .u64 t390)).heap[gb377]? = some (.cells #[.bool a0_0, .int .u64 a0_1, .int .u64 a0_2, .int .i64 a0_3] 43 (0, 0))) := ⟨by (with_reducible repeat (first | refine bN_ _ ?_ | refine bd_ ?_ | refine ba_ _ ?_)); refine blk_far ?_ NB377_392.out _; (with_reducible repeat (first | refine bN_ _ ?_ | refine bd_ ?_ | refine ba_ _ ?_)); refine blk_far ?_ NB377_392.out _; (with_reducible repeat (first | refine bN_ _ ?_ | refine bd_ ?_ | refine ba_ _ ?_)); refine blk_far ?_ NB377_392.out _; (with_reducible repeat (first | refine bN_ _ ?_ | refine bd_ ?_ | refine ba_ _ ?_)); exact BK377.out⟩
     have n1_ : Aside0 ((((w85.setCell ⟨gb392, 0, none⟩ (.bool t388)).setCell ⟨gb392, 1, none⟩ (.int .u64 t389)).setCell ⟨gb392, 2, none⟩ (.int .u64 t390)).heap[gb378]? = some (.cells #[.bool a1_0, .int .u64 a1_1, .int .u64 a1_2, .int .i64 a1_3] 43 (0, 0))) := ⟨by (with_reducible repeat (first | refine bN_ _ ?_ | refine bd_ ?_ | refine ba_ _ ?_)); refine blk_far ?_ NB378_392.out _; (with_reducible repeat (first | refine bN_ _ ?_ | refine bd_ ?_ | refine ba_ _ ?_)); refine blk_far ?_ NB378_392.out _; (with_reducible repeat (first | refine bN_ _ ?_ | refine bd_ ?_ | refine ba_ _ ?_)); refine blk_far ?_ NB378_392.out _; (with_reducible repeat (first | refine bN_ _ ?_ | refine bd_ ?_ | refine ba_ _ ?_)); exact BK378.out⟩
     have n2_ : Aside0 ((((w85.setCell ⟨gb392, 0, none⟩ (.bool t388)).setCell ⟨gb392, 1, none⟩ (.int .u64 t389)).setCell ⟨gb392, 2, none⟩ (.int .u64 t390)).heap[gb379]? = some (.cells #[.bool false, .int .u64 0, .int .u64 0] 28 (0, 0))) := ⟨by (with_reducible repeat (first | refine bN_ _ ?_ | refine bd_ ?_ | refine ba_ _ ?_)); refine blk_far ?_ NB379_392.out _; (with_reducible repeat (first | refine bN_ _ ?_ | refine bd_ ?_ | refine ba_ _ ?_)); refine blk_far ?_ NB379_392.out _; (with_reducible repeat (first | refine bN_ _ ?_ | refine bd_ ?_ | refine ba_ _ ?_)); refine blk_far ?_ NB379_392.out _; (with_reducible repeat (first | refine bN_ _ ?_ | refine bd_ ?_ | refine ba_ _ ?_)); exact BK379.out⟩
     have n3_ : Aside0 ((((w85.setCell ⟨gb392, 0, none⟩ (.bool t388)).setCell ⟨gb392, 1, none⟩ (.int .u64 t389)).setCell ⟨gb392, 2, none⟩ (.int .u64 t390)).heap[gb380]? = some (.cells #[.bool false, .int .u64 0, .int .u64 0] 28 (0, 0))) := ⟨by (with_reducible repeat (first | refine bN_ _ ?_ | refine bd_ ?_ | refine ba_ _ ?_)); refine blk_far ?_ NB380_392.out _; (with_reducible repeat (first | refine bN_ _ ?_ | refine bd_ ?_ | refine ba_ _ ?_)); refine blk_far ?_ NB380_392.out _; (with_reducible repeat (first | refine bN_ _ ?_ | refine bd_ ?_ | refine ba_ _ ?_)); refine blk_far ?_ NB380_392.out _; (with_reducible repeat (first | refine bN_ _ ?_ | refine bd_ ?_ | refine ba_ _ ?_)); exact BK380.out⟩
     have n4_ : Aside0 ((((w85.setCell ⟨gb392, 0, none⟩ (.bool t388)).setCell ⟨gb392, 1, none⟩ (.int .u64 t389)).setCell ⟨gb392, 2, none⟩ (.int .u64 t390)).heap[gb387]? = some (.cells #[.bool t383, .int .u64 t384, .int .u64 t385] 28 (0, 0))) := ⟨by (with_reducible repeat (first | refine bN_ _ ?_ | refine bd_ ?_ | refine ba_ _ ?_)); refine blk_far ?_ NB387_392.out _; (with_reducible repeat (first | refine bN_ _ ?_ | refine bd_ ?_ | refine ba_ _ ?_)); refine blk_far ?_ NB387_392.out _; (with_reducible repeat (first | refine bN_ _ ?_ | refine bd_ ?_ | refine ba_ _ ?_)); refine blk_far ?_ NB387_392.out _; (with_reducible repeat (first | refine bN_ _ ?_ | refine bd_ ?_ | refine ba_ _ ?_)); exact BK387.out⟩
     have n5_ : Aside0 ((((w85.setCell ⟨gb392, 0, none⟩ (.bool t388)).setCell ⟨gb392, 1, none⟩ (.int .u64 t389)).setCell ⟨gb392, 2, none⟩ (.int .u64 t390)).heap[gb392]? = some (.cells #[.bool t388, .int .u64 t389, .int .u64 t390] 28 (0, 0))) := ⟨by (with_reducible repeat (first | refine bN_ _ ?_ | refine bd_ ?_ | refine ba_ _ ?_)); refine blk_put (cs := #[.bool t388, .int .u64 t389, .int .u64 0]) ?_ 2 _ rfl; (with_reducible repeat (first | refine bN_ _ ?_ | refine bd_ ?_ | refine ba_ _ ?_)); refine blk_put (cs := #[.bool t388, .int .u64 0, .int .u64 0]) ?_ 1 _ rfl; (with_reducible repeat (first | refine bN_ _ ?_ | refine bd_ ?_ | refine ba_ _ ?_)); refine blk_put (cs := #[.bool false, .int .u64 0, .int .u64 0]) ?_ 0 _ rfl; (with_reducible repeat (first | refine bN_ _ ?_ | refine bd_ ?_ | refine ba_ _ ?_)); exact BK392.out⟩
     have n6_ : Aside0 (Below w.heap.size w (((w85.setCell ⟨gb392, 0, none⟩ (.bool t388)).setCell ⟨gb392, 1, none⟩ (.int .u64 t389)).setCell ⟨gb392, 2, none⟩ (.int .u64 t390))) := ⟨bel_⟩
     (try clear BK377)
     (try clear BK378)
     (try clear BK379)
     (try clear BK380)
     (try clear BK387)
     (try clear BK392)
     (try clear HB)
     generalize (((w85.setCell ⟨gb392, 0, none⟩ (.bool t388)).setCell ⟨gb392, 1, none⟩ (.int .u64 t389)).setCell ⟨gb392, 2, none⟩ (.int .u64 t390)) = w92 at n0_ n1_ n2_ n3_ n4_ n5_ n6_ ⊢
     have BK377 := n0_
     have BK378 := n1_
     have BK379 := n2_
     have BK380 := n3_
     have BK387 := n4_
     have BK392 := n5_
     have HB := n6_
     clear n0_ n1_ n2_ n3_ n4_ n5_ n6_
     replace HB := Aside0.mk (below_drew1 HB.out)
     replace BK377 := Aside0.mk (blk_drew BK377.out)
     replace BK378 := Aside0.mk (blk_drew BK378.out)
     replace BK379 := Aside0.mk (blk_drew BK379.out)
     replace BK380 := Aside0.mk (blk_drew BK380.out)
     replace BK387 := Aside0.mk (blk_drew BK387.out)
     replace BK392 := Aside0.mk (blk_drew BK392.out)
     refine start_ (n := 9) (S := fun w' => w'.cell? ⟨gb387, 0, none⟩ = some (.bool t383) ∧ w'.cell? ⟨gb387, 1, none⟩ = some (.int .u64 t384) ∧ w'.cell? ⟨gb387, 2, none⟩ = some (.int .u64 t385) ∧ w'.cell? ⟨gb392, 0, none⟩ = some (.bool t388) ∧ w'.cell? ⟨gb392, 1, none⟩ = some (.int .u64 t389) ∧ w'.cell? ⟨gb392, 2, none⟩ = some (.int .u64 t390)) (ds := []) #[false, false, false, false, false, false, false, false, false] (by kernel_rfl) rfl rfl ⟨bc_, bc_, bc_, bc_, bc_, bc_⟩ (fun hHeld => ?_); refine with_tabW impl_crossed.tab5 impl_crossed.bits5 (fun HT_ HW_ => ?_)
     generalize w92.drew = w93 at BK377 BK378 BK379 BK380 BK387 BK392 HB hHeld ⊢
     refine pure_ (i := 2) (N := some 39) (v := ?_) (a' := ?_) #[false, false, true, false, false, false, false, false, false] rfl rfl (any_of HT_.out (by kernel_rfl)) (fun _ _ _ h => h) (Or.inl ⟨by rfl, ?_⟩) ?_ ?_
     rotate_left
     ·intro w'
      go_simp
      with_reducible rfl
     rotate_left
     ·simp only [Act.put, la_, lb_, lc_, i64_w, i32_w]
      rfl
     refine pure_ (i := 3) (N := some 40) (v := ?_) (a' := ?_) #[false, false, true, true, false, false, false, false, false] rfl rfl (any_of HT_.out (by kernel_rfl)) (fun _ _ _ h => h) (Or.inl ⟨by rfl, ?_⟩) ?_ ?_
     rotate_left
     ·intro w'
      go_simp
      with_reducible rfl
     rotate_left
     ·simp only [Act.put, la_, lb_, lc_, i64_w, i32_w]
      rfl
     refine pure_ (i := 4) (N := some 41) (v := undef) (a' := ?_) #[false, false, true, true, true, false, false, false, false] rfl rfl (any_of HT_.out (by kernel_rfl)) (fun _ _ _ h => h) (Or.inr ⟨by rfl, rfl⟩) ?_ ?_
     rotate_left
     ·simp only [Act.put, la_, lb_, lc_, i64_w, i32_w]
      rfl
     refine pure_ (i := 5) (N := some 42) (v := ?_) (a' := ?_) #[false, false, true, true, true, true, false, false, false] rfl rfl (any_of HT_.out (by kernel_rfl)) (fun _ _ _ h => h) (Or.inl ⟨by rfl, ?_⟩) ?_ ?_
     rotate_left
     ·intro w'
      go_simp
      with_reducible rfl
     rotate_left
     ·simp only [Act.put, la_, lb_, lc_, i64_w, i32_w]
      rfl
     refine take_ (i := 0) (N := some 37) (v := ?_) (a' := ?_) #[true, false, true, true, true, true, false, false, false] rfl rfl (take_ofW HT_.out HW_.out (by kernel_rfl)) (fun _ _ _ h => h) (Or.inl ⟨by rfl, ?_⟩) hHeld ?_ ?_
     rotate_left
     ·rintro w' ⟨s0, s1, s2, s3, s4, s5⟩
      go_simp
      with_reducible rfl
     rotate_left
     ·simp only [Act.put, la_, lb_, lc_, i64_w, i32_w]
      rfl
     refine take_ (i := 1) (N := some 38) (v := ?_) (a' := ?_) #[true, true, true, true, true, true, false, false, false] rfl rfl (take_ofW HT_.out HW_.out (by kernel_rfl)) (fun _ _ _ h => h) (Or.inl ⟨by rfl, ?_⟩) hHeld ?_ ?_
     rotate_left
     ·rintro w' ⟨s0, s1, s2, s3, s4, s5⟩
      go_simp
      with_reducible rfl
     rotate_left
     ·simp only [Act.put, la_, lb_, lc_, i64_w, i32_w]
      rfl
     refine one_ (i := 6) (N := none) #[true, true, true, true, true, true, true, false, false] rfl rfl (one_of HT_.out (by kernel_rfl)) (by decide) (fun K hK => ?_)
     have hs94 : w93.cell? ⟨gb379, 0, none⟩ = some (.bool false) := (blk_cell BK379.out 0).trans rfl
     have hfs94 := blk_frozen BK379.out 0
     have hns94_0 := NB377_379.out
     have hns94_1 := NB378_379.out
     have hns94_3 := NB380_379.out
     have hns94_4 := NB387_379.out
     have hns94_5 := NB392_379.out
     have hms94_0 := NB379_377.out
     have hms94_1 := NB379_378.out
     have hms94_3 := NB379_380.out
     have hms94_4 := NB379_387.out
     have hms94_5 := NB379_392.out
     have hs95 : w93.cell? ⟨gb379, 1, none⟩ = some (.int .u64 0) := (blk_cell BK379.out 1).trans rfl
     have hfs95 := blk_frozen BK379.out 1
     have hns95_0 := NB377_379.out
     have hns95_1 := NB378_379.out
     have hns95_3 := NB380_379.out
     have hns95_4 := NB387_379.out
     have hns95_5 := NB392_379.out
     have hms95_0 := NB379_377.out
     have hms95_1 := NB379_378.out
     have hms95_3 := NB379_380.out
     have hms95_4 := NB379_387.out
     have hms95_5 := NB379_392.out
     have hs96 : w93.cell? ⟨gb379, 2, none⟩ = some (.int .u64 0) := (blk_cell BK379.out 2).trans rfl
     have hfs96 := blk_frozen BK379.out 2
     have hns96_0 := NB377_379.out
     have hns96_1 := NB378_379.out
     have hns96_3 := NB380_379.out
     have hns96_4 := NB387_379.out
     have hns96_5 := NB392_379.out
     have hms96_0 := NB379_377.out
     have hms96_1 := NB379_378.out
     have hms96_3 := NB379_380.out
     have hms96_4 := NB379_387.out
     have hms96_5 := NB379_392.out
     refine skip_ (w1 := ?_) ?_ ?_ ?_ ?_
     rotate_left
     ·rfl
     ·rfl
     ·go_simp
      rfl
     refine hK.out _ _ ⟨(cfar_ hHeld.1), (cfar_ hHeld.2.1), (cfar_ hHeld.2.2.1), (cfar_ hHeld.2.2.2.1), (cfar_ hHeld.2.2.2.2.1), (cfar_ hHeld.2.2.2.2.2)⟩ (fun hHeld => ?_)
     clear hK K
     refine one_ (i := 7) (N := none) #[true, true, true, true, true, true, true, true, false] rfl rfl (one_of HT_.out (by kernel_rfl)) (by decide) (fun K hK => ?_)
     have hs97 : w93.cell? ⟨gb380, 0, none⟩ = some (.bool false) := (blk_cell BK380.out 0).trans rfl
     have hfs97 := blk_frozen BK380.out 0
     have hns97_0 := NB377_380.out
     have hns97_1 := NB378_380.out
     have hns97_2 := NB379_380.out
     have hns97_4 := NB387_380.out
     have hns97_5 := NB392_380.out
     have hms97_0 := NB380_377.out
     have hms97_1 := NB380_378.out
     have hms97_2 := NB380_379.out
     have hms97_4 := NB380_387.out
     have hms97_5 := NB380_392.out
     have hs98 : w93.cell? ⟨gb380, 1, none⟩ = some (.int .u64 0) := (blk_cell BK380.out 1).trans rfl
     have hfs98 := blk_frozen BK380.out 1
     have hns98_0 := NB377_380.out
     have hns98_1 := NB378_380.out
     have hns98_2 := NB379_380.out
     have hns98_4 := NB387_380.out
     have hns98_5 := NB392_380.out
     have hms98_0 := NB380_377.out
     have hms98_1 := NB380_378.out
     have hms98_2 := NB380_379.out
     have hms98_4 := NB380_387.out
     have hms98_5 := NB380_392.out
     have hs99 : w93.cell? ⟨gb380, 2, none⟩ = some (.int .u64 0) := (blk_cell BK380.out 2).trans rfl
     have hfs99 := blk_frozen BK380.out 2
     have hns99_0 := NB377_380.out
     have hns99_1 := NB378_380.out
     have hns99_2 := NB379_380.out
     have hns99_4 := NB387_380.out
     have hns99_5 := NB392_380.out
     have hms99_0 := NB380_377.out
     have hms99_1 := NB380_378.out
     have hms99_2 := NB380_379.out
     have hms99_4 := NB380_387.out
     have hms99_5 := NB380_392.out
     refine skip_ (w1 := ?_) ?_ ?_ ?_ ?_
     rotate_left
     ·rfl
     ·rfl
     ·go_simp
      rfl
     refine hK.out _ _ ⟨(cfar_ hHeld.1), (cfar_ hHeld.2.1), (cfar_ hHeld.2.2.1), (cfar_ hHeld.2.2.2.1), (cfar_ hHeld.2.2.2.2.1), (cfar_ hHeld.2.2.2.2.2)⟩ (fun hHeld => ?_)
     clear hK K
     refine pure_ (i := 8) (N := some 6) (v := ?_) (a' := ?_) #[true, true, true, true, true, true, true, true, true] rfl rfl (any_of HT_.out (by kernel_rfl)) (fun _ _ _ h => h) (Or.inl ⟨by rfl, ?_⟩) ?_ ?_
     rotate_left
     ·intro w'
      go_simp
      with_reducible rfl
     rotate_left
     ·simp only [Act.put, la_, lb_, lc_, i64_w, i32_w]
      rfl
     refine done_ (done_of HT_.out (by kernel_rfl)) ?_
     try go_wp2
     refine bodyPost_ret (results_list (rs := [.cell 4 28, .cell 5 28, .tmp 6]) rfl (by simp) (.cell gb379 28 #[.bool t383, .int .u64 t384, .int .u64 t385] (0, 0) _ rfl (pu_ #[.bool t383, .int .u64 t384, .int .u64 0] 2 (h := (pu_ #[.bool t383, .int .u64 0, .int .u64 0] 1 (h := (pu_ #[.bool false, .int .u64 0, .int .u64 0] 0 (h := bk_)))))) Tryd.underlying28 rfl (by kernel_rfl) (.cell gb380 28 #[.bool t388, .int .u64 t389, .int .u64 t390] (0, 0) _ rfl (pu_ #[.bool t388, .int .u64 t389, .int .u64 0] 2 (h := (pu_ #[.bool t388, .int .u64 0, .int .u64 0] 1 (h := (pu_ #[.bool false, .int .u64 0, .int .u64 0] 0 (h := bk_)))))) Tryd.underlying28 rfl (by kernel_rfl) (.tmp .nil)))) rfl ?_
     exact ⟨rf_, bel_⟩
/-! ### impl_fracOf: function 69 -/
def impl_fracOf.f (a0_0 : Bool) (a0_1 : Int) (a0_2 : Int) (a1 : Int) : Option (Bool × Int × Int × Int × Bool) := (impl_FracOk.f a0_0 a0_1 a0_2 a1).bind fun t396 => (if t396 = true then (some (a0_0, a0_1, a0_2, a1, true)) else (some (false, 0, 0, 0, false)))
set_option maxHeartbeats 8000000 in
set_option maxRecDepth 100000 in
theorem impl_fracOf.calls (a0_0 : Bool) (a0_1 : Int) (a0_2 : Int) (a1 : Int) (r1 : Bool) (r2 : Int) (r3 : Int) (r4 : Int) (r5 : Bool) (w : World) (h : impl_fracOf.f a0_0 a0_1 a0_2 a1 = some (r1, r2, r3, r4, r5)) :
  Calls Tryd.prog 69 #[.agg #[.bool a0_0, .int .u64 a0_1, .int .u64 a0_2], .int .i64 a1] w fun e w' => e = .returned (.tuple #[.agg #[.bool r1, .int .u64 r2, .int .u64 r3, .int .i64 r4], .bool r5]) ∧ Below w.heap.size w w' := by
 have hu28 := Tryd.underlying28
 have hu43 := Tryd.underlying43
 have HB := Aside0.mk (Below.refl w.heap.size w)
 have H : ((impl_FracOk.f a0_0 a0_1 a0_2 a1).bind fun t396 => (if t396 = true then (some (a0_0, a0_1, a0_2, a1, true)) else (some (false, 0, 0, 0, false)))) = some (r1, r2, r3, r4, r5) := h
 clear h
 replace H := Option.bind_eq_some_iff.mp H
 obtain ⟨t396, A30, H⟩ := H
 replace H : (if t396 = true then (some (a0_0, a0_1, a0_2, a1, true)) else (some (false, 0, 0, 0, false))) = some (r1, r2, r3, r4, r5) := H
 have A3 := Aside0.mk A30
 clear A30
 by_cases c4 : t396 = true
 ·subst c4
  have H1 : (some (a0_0, a0_1, a0_2, a1, true)) = some (r1, r2, r3, r4, r5) := by rw [if_pos rfl] at H; exact H
  clear H
  have H := H1
  clear H1
  simp only [Option.some.injEq, Prod.mk.injEq] at H
  obtain ⟨rfl, rfl, rfl, rfl, rfl⟩ := H
  go_enter Tryd.func69, Tryd.ntmps69
  go_wp2_with (first | ((with_reducible refine gate_dst (N := 2) rfl ?_); refine box_event ?hg (N := 2) ?hd (cs := #[.bool a0_0, .int .u64 a0_1, .int .u64 a0_2]) (t := 28) ?hr ?_; (case hd => rfl); (case hg => rfl); (case hr => first | (go_simp; done) | (go_simp; rfl)); intro gb393 hg w5 hbox hb; have BK393 := Aside0.mk (hbox); have GW393 := bs_ (w := w) hg; have GE393 := bs_ (w := w) hg; replace HB := Aside0.mk (below_step bel_ hb); clear hb hbox hg) | ((with_reducible refine gate_dst (N := 4) rfl ?_); refine box_event ?hg (N := 4) ?hd (cs := #[.bool false, .int .u64 0, .int .u64 0, .int .i64 0]) (t := 43) ?hr ?_; (case hd => rfl); (case hg => rfl); (case hr => first | (go_simp; done) | (go_simp; rfl)); intro gb394 hg w6 hbox hb; have BK394 := Aside0.mk (hbox); have GW394 := bs_ (w := w) hg; have GE394 := bs_ (w := w) hg; have NB393_394 := nlt_ (g := gb393) hg; have NB394_393 := ngt_ (g := gb393) hg; replace HB := Aside0.mk (below_step bel_ hb); replace BK393 := bb_ (g := gb393) hb; clear hb hbox hg; have hnb7 := NB393_394.out; have hnc7 := NB394_393.out; obtain ⟨hcz8_0, hcz8_1, hcz8_2, hfz8_0, hfz8_1, hfz8_2⟩ := cf3_ (w := w6) BK393.out) | ((with_reducible refine gate_dst (N := 6) rfl ?_); refine box_event ?hg (N := 6) ?hd (cs := #[.bool false, .int .u64 0, .int .u64 0, .int .i64 0]) (t := 43) ?hr ?_; (case hd => rfl); (case hg => rfl); (case hr => first | (go_simp; done) | (go_simp; rfl)); intro gb395 hg w9 hbox hb; have BK395 := Aside0.mk (hbox); have GW395 := bs_ (w := w) hg; have GE395 := bs_ (w := w) hg; have NB393_395 := nlt_ (g := gb393) hg; have NB395_393 := ngt_ (g := gb393) hg; have NB394_395 := nlt_ (g := gb394) hg; have NB395_394 := ngt_ (g := gb394) hg; replace HB := Aside0.mk (below_step bel_ hb); replace BK393 := bb_ (g := gb393) hb; replace BK394 := bb_ (g := gb394) hb; clear hb hbox hg; have hnb10 := NB395_393.out; have hnc10 := NB393_395.out; have hnb11 := NB395_394.out; have hnc11 := NB394_395.out; obtain ⟨hcz12_0, hcz12_1, hcz12_2, hcz12_3, hfz12_0, hfz12_1, hfz12_2, hfz12_3⟩ := cf4_ (w := w9) BK395.out) | ((with_reducible refine gate_callee (f := 30) rfl ?_); refine goesL_ (some 11) rfl rfl Tryd.func30 (by kernel_rfl) rfl #[.agg #[.bool a0_0, .int .u64 a0_1, .int .u64 a0_2, .int .i64 a1]] rfl mp_ ?_; (with_reducible refine (impl_FracOk.calls a0_0 a0_1 a0_2 a1 true _ A3.out).mono ?_); rintro e w13 ⟨rfl, hb⟩; refine ⟨_, rfl, ?_⟩; replace HB := Aside0.mk (below_step bel_ hb); replace BK393 := Aside0.mk (blk_below (g := gb393) (o := .cells #[.bool a0_0, .int .u64 a0_1, .int .u64 a0_2] 28 (0, 0)) bk_ hb); replace BK394 := Aside0.mk (blk_below (g := gb394) (o := .cells #[.bool false, .int .u64 0, .int .u64 0, .int .i64 0] 43 (0, 0)) bk_ hb); replace BK395 := Aside0.mk (blk_below (g := gb395) (o := .cells #[.bool a0_0, .int .u64 a0_1, .int .u64 a0_2, .int .i64 a1] 43 (0, 0)) (pu_ #[.bool a0_0, .int .u64 a0_1, .int .u64 a0_2, .int .i64 0] 3 (h := (pu_ #[.bool a0_0, .int .u64 a0_1, .int .u64 0, .int .i64 0] 2 (h := (pu_ #[.bool a0_0, .int .u64 0, .int .u64 0, .int .i64 0] 1 (h := (pu_ #[.bool false, .int .u64 0, .int .u64 0, .int .i64 0] 0 (h := bk_)))))))) hb); (try clear hb); (try clear hb2); (try clear hk); (try clear hi); obtain ⟨hcz14_0, hcz14_1, hcz14_2, hcz14_3, hfz14_0, hfz14_1, hfz14_2, hfz14_3⟩ := cf4_ (w := w13) BK395.out; obtain ⟨hcz15_0, hcz15_1, hcz15_2, hcz15_3, hfz15_0, hfz15_1, hfz15_2, hfz15_3⟩ := cf4_ (w := w13) BK394.out))
  refine bodyPost_ret (results_ct rfl _ _ gb394 43 #[.bool a0_0, .int .u64 a0_1, .int .u64 a0_2, .int .i64 a1] (0, 0) _ rfl (pu_ #[.bool a0_0, .int .u64 a0_1, .int .u64 a0_2, .int .i64 0] 3 (h := (pu_ #[.bool a0_0, .int .u64 a0_1, .int .u64 0, .int .i64 0] 2 (h := (pu_ #[.bool a0_0, .int .u64 0, .int .u64 0, .int .i64 0] 1 (h := (pu_ #[.bool false, .int .u64 0, .int .u64 0, .int .i64 0] 0 (h := bk_)))))))) Tryd.underlying43 rfl (by kernel_rfl)) rfl ?_
  exact ⟨rf_, bel_⟩
 ·replace c4 := Bool.eq_false_iff.mpr c4
  subst c4
  have H1 : (some (false, 0, 0, 0, false)) = some (r1, r2, r3, r4, r5) := by rw [if_neg (show ¬ (false = true) by decide)] at H; exact H
  clear H
  have H := H1
  clear H1
  simp only [Option.some.injEq, Prod.mk.injEq] at H
  obtain ⟨rfl, rfl, rfl, rfl, rfl⟩ := H
  go_enter Tryd.func69, Tryd.ntmps69
  go_wp2_with (first | ((with_reducible refine gate_dst (N := 2) rfl ?_); refine box_event ?hg (N := 2) ?hd (cs := #[.bool a0_0, .int .u64 a0_1, .int .u64 a0_2]) (t := 28) ?hr ?_; (case hd => rfl); (case hg => rfl); (case hr => first | (go_simp; done) | (go_simp; rfl)); intro gb393 hg w16 hbox hb; have BK393 := Aside0.mk (hbox); have GW393 := bs_ (w := w) hg; have GE393 := bs_ (w := w) hg; replace HB := Aside0.mk (below_step bel_ hb); clear hb hbox hg) | ((with_reducible refine gate_dst (N := 4) rfl ?_); refine box_event ?hg (N := 4) ?hd (cs := #[.bool false, .int .u64 0, .int .u64 0, .int .i64 0]) (t := 43) ?hr ?_; (case hd => rfl); (case hg => rfl); (case hr => first | (go_simp; done) | (go_simp; rfl)); intro gb394 hg w17 hbox hb; have BK394 := Aside0.mk (hbox); have GW394 := bs_ (w := w) hg; have GE394 := bs_ (w := w) hg; have NB393_394 := nlt_ (g := gb393) hg; have NB394_393 := ngt_ (g := gb393) hg; replace HB := Aside0.mk (below_step bel_ hb); replace BK393 := bb_ (g := gb393) hb; clear hb hbox hg; have hnb18 := NB393_394.out; have hnc18 := NB394_393.out; obtain ⟨hcz19_0, hcz19_1, hcz19_2, hfz19_0, hfz19_1, hfz19_2⟩ := cf3_ (w := w17) BK393.out) | ((with_reducible refine gate_dst (N := 6) rfl ?_); refine box_event ?hg (N := 6) ?hd (cs := #[.bool false, .int .u64 0, .int .u64 0, .int .i64 0]) (t := 43) ?hr ?_; (case hd => rfl); (case hg => rfl); (case hr => first | (go_simp; done) | (go_simp; rfl)); intro gb395 hg w20 hbox hb; have BK395 := Aside0.mk (hbox); have GW395 := bs_ (w := w) hg; have GE395 := bs_ (w := w) hg; have NB393_395 := nlt_ (g := gb393) hg; have NB395_393 := ngt_ (g := gb393) hg; have NB394_395 := nlt_ (g := gb394) hg; have NB395_394 := ngt_ (g := gb394) hg; replace HB := Aside0.mk (below_step bel_ hb); replace BK393 := bb_ (g := gb393) hb; replace BK394 := bb_ (g := gb394) hb; clear hb hbox hg; have hnb21 := NB395_393.out; have hnc21 := NB393_395.out; have hnb22 := NB395_394.out; have hnc22 := NB394_395.out; obtain ⟨hcz23_0, hcz23_1, hcz23_2, hcz23_3, hfz23_0, hfz23_1, hfz23_2, hfz23_3⟩ := cf4_ (w := w20) BK395.out) | ((with_reducible refine gate_callee (f := 30) rfl ?_); refine goesL_ (some 11) rfl rfl Tryd.func30 (by kernel_rfl) rfl #[.agg #[.bool a0_0, .int .u64 a0_1, .int .u64 a0_2, .int .i64 a1]] rfl mp_ ?_; (with_reducible refine (impl_FracOk.calls a0_0 a0_1 a0_2 a1 false _ A3.out).mono ?_); rintro e w24 ⟨rfl, hb⟩; refine ⟨_, rfl, ?_⟩; replace HB := Aside0.mk (below_step bel_ hb); replace BK393 := Aside0.mk (blk_below (g := gb393) (o := .cells #[.bool a0_0, .int .u64 a0_1, .int .u64 a0_2] 28 (0, 0)) bk_ hb); replace BK394 := Aside0.mk (blk_below (g := gb394) (o := .cells #[.bool false, .int .u64 0, .int .u64 0, .int .i64 0] 43 (0, 0)) bk_ hb); replace BK395 := Aside0.mk (blk_below (g := gb395) (o := .cells #[.bool a0_0, .int .u64 a0_1, .int .u64 a0_2, .int .i64 a1] 43 (0, 0)) (pu_ #[.bool a0_0, .int .u64 a0_1, .int .u64 a0_2, .int .i64 0] 3 (h := (pu_ #[.bool a0_0, .int .u64 a0_1, .int .u64 0, .int .i64 0] 2 (h := (pu_ #[.bool a0_0, .int .u64 0, .int .u64 0, .int .i64 0] 1 (h := (pu_ #[.bool false, .int .u64 0, .int .u64 0, .int .i64 0] 0 (h := bk_)))))))) hb); (try clear hb); (try clear hb2); (try clear hk); (try clear hi); obtain ⟨hcz25_0, hcz25_1, hcz25_2, hcz25_3, hfz25_0, hfz25_1, hfz25_2, hfz25_3⟩ := cf4_ (w := w24) BK394.out))
  refine bodyPost_ret (results_ct rfl _ _ gb394 43 #[.bool false, .int .u64 0, .int .u64 0, .int .i64 0] (0, 0) _ rfl (pu_ #[.bool false, .int .u64 0, .int .u64 0, .int .i64 0] 3 (h := (pu_ #[.bool false, .int .u64 0, .int .u64 0, .int .i64 0] 2 (h := (pu_ #[.bool false, .int .u64 0, .int .u64 0, .int .i64 0] 1 (h := (pu_ #[.bool false, .int .u64 0, .int .u64 0, .int .i64 0] 0 (h := bk_)))))))) Tryd.underlying43 rfl (by kernel_rfl)) rfl ?_
  exact ⟨rf_, bel_⟩
end Go.Proofs.YtkpgpifkbdpnkaaDoor.PFnFracSum
