/- Contracts of Go functions, each with the Lean function that says what it computes: begun by the print, turned by this session. No condition beyond what each theorem states. -/
import Derived.Test.YtkpgpifkbdpnkaaDoorPFnWideTextx0
import Derived.Test.YtkpgpifkbdpnkaaDoorPFnWideTextx2
import Derived.Test.YtkpgpifkbdpnkaaDoorPFnWideTextx3
import Derived.Test.YtkpgpifkbdpnkaaDoorPFnWideTextx4
import Derived.Test.YtkpgpifkbdpnkaaDoorPFnWideTextx5
namespace Go.Proofs.YtkpgpifkbdpnkaaDoor.PFnWideText
open Go.RowKit Go.Proofs.YtkpgpifkbdpnkaaDoorVFnWideText.PrintWords Go.Proofs.YtkpgpifkbdpnkaaDoorVFnWideText.PrintLast Go.Proofs.YtkpgpifkbdpnkaaDoorVFnWideText.PrintMore
attribute [local go_sem] max2_int min2_int max_two min_two max_three min_three max_four min_four   -- for this text's walks alone
set_option linter.unusedVariables false
set_option linter.unusedSimpArgs false

/-! ### impl_AddWide: function 56 -/
def impl_AddWide.j0 : Nat → Bool → Bool → Int → Int → Bool → Int → Int → Option (Bool × Int × Int × Bool)
  | 0, _, _, _, _, _, _, _ => none
  | k + 1, x22, x268000, x268001, x268002, x269000, x269001, x269002 => if x22 = true then (some (false, 0, 0, false)) else (if (x268000 != x269000) = true then ((impl_compareSizes.f k x268000 x268001 x268002 x269000 x269001 x269002).bind fun t272 => (if t272 < 0 then ((bits_Sub64.f x269002 x268002 0).bind fun bt273 => ((bits_Sub64.f x269001 x268001 bt273.2).bind fun bt275 => ((impl_wideOf.f x269000 bt275.1 bt273.1).bind fun bt277 => (some (bt277.1, bt277.2.1, bt277.2.2, true))))) else ((bits_Sub64.f x268002 x269002 0).bind fun bt280 => ((bits_Sub64.f x268001 x269001 bt280.2).bind fun bt282 => ((impl_wideOf.f x268000 bt282.1 bt280.1).bind fun bt284 => (some (bt284.1, bt284.2.1, bt284.2.2, true))))))) else ((bits_Add64.f x268002 x269002 0).bind fun bt287 => ((bits_Add64.f x268001 x269001 bt287.2).bind fun bt289 => ((impl_wideOf.f x268000 bt289.1 bt287.1).bind fun bt291 => ((impl_WideOk.f bt291.1 bt291.2.1 bt291.2.2).bind fun t295 => (if t295 = true then (some (bt291.1, bt291.2.1, bt291.2.2, true)) else (some (false, 0, 0, false))))))))
def impl_AddWide.f (k : Nat) (a0_0 : Bool) (a0_1 : Int) (a0_2 : Int) (a1_0 : Bool) (a1_1 : Int) (a1_2 : Int) : Option (Bool × Int × Int × Bool) := (impl_WideOk.f a0_0 a0_1 a0_2).bind fun t270 => (if t270 = true then ((impl_WideOk.f a1_0 a1_1 a1_2).bind fun t271 => (impl_AddWide.j0 k (!t271) a0_0 a0_1 a0_2 a1_0 a1_1 a1_2)) else (impl_AddWide.j0 k true a0_0 a0_1 a0_2 a1_0 a1_1 a1_2))
theorem impl_AddWide.mono_l : ∀ k, (∀ y0 y1 y2 y3 y4 y5 y6, LeO (impl_AddWide.j0 k y0 y1 y2 y3 y4 y5 y6) (impl_AddWide.j0 (k + 1) y0 y1 y2 y3 y4 y5 y6))
  | 0 => fun _ _ _ _ _ _ _ r h => by simp [impl_AddWide.j0] at h
  | k + 1 => by
    have ih0 := impl_AddWide.mono_l k
    · intro y0 y1 y2 y3 y4 y5 y6
      unfold impl_AddWide.j0
      repeat' first
      | (with_reducible exact ih0 _ _ _ _ _ _ _)
      | (with_reducible exact impl_compareSizes.mono _ _ _ _ _ _ _)
      | (with_reducible exact LeO.refl _)
      | (with_reducible exact LeO.none _)
      | (with_reducible refine LeO.ite ?_ ?_)
      | (with_reducible refine LeO.bind ?_ (fun _ => ?_))
      | exact ih0 _ _ _ _ _ _ _
      | exact impl_compareSizes.mono _ _ _ _ _ _ _
      | exact LeO.none _
      | refine LeO.ite ?_ ?_
      | refine LeO.bind ?_ (fun _ => ?_)
theorem impl_AddWide.mono : ∀ a0 a1 a2 a3 a4 a5 k, LeO (impl_AddWide.f k a0 a1 a2 a3 a4 a5) (impl_AddWide.f (k + 1) a0 a1 a2 a3 a4 a5) := by
  intro a0 a1 a2 a3 a4 a5 k
  have ih0 := impl_AddWide.mono_l k
  unfold impl_AddWide.f
  repeat' first
      | (with_reducible exact ih0 _ _ _ _ _ _ _)
      | (with_reducible exact impl_compareSizes.mono _ _ _ _ _ _ _)
      | (with_reducible exact LeO.refl _)
      | (with_reducible exact LeO.none _)
      | (with_reducible refine LeO.ite ?_ ?_)
      | (with_reducible refine LeO.bind ?_ (fun _ => ?_))
      | exact ih0 _ _ _ _ _ _ _
      | exact impl_compareSizes.mono _ _ _ _ _ _ _
      | exact LeO.none _
      | refine LeO.ite ?_ ?_
      | refine LeO.bind ?_ (fun _ => ?_)
set_option maxHeartbeats 8000000 in
set_option maxRecDepth 100000 in
theorem impl_AddWide.calls (k : Nat) (a0_0 : Bool) (a0_1 : Int) (a0_2 : Int) (a1_0 : Bool) (a1_1 : Int) (a1_2 : Int) (r1 : Bool) (r2 : Int) (r3 : Int) (r4 : Bool) (w : World) (h : impl_AddWide.f k a0_0 a0_1 a0_2 a1_0 a1_1 a1_2 = some (r1, r2, r3, r4)) :
    Calls Tryd.prog 56 #[.agg #[.bool a0_0, .int .u64 a0_1, .int .u64 a0_2], .agg #[.bool a1_0, .int .u64 a1_1, .int .u64 a1_2]] w fun e w' => e = .returned (.tuple #[.agg #[.bool r1, .int .u64 r2, .int .u64 r3], .bool r4]) ∧ Below w.heap.size w w' := by
  have hu28 := Tryd.underlying28
  have HB := Aside0.mk (Below.refl w.heap.size w)
  have H : ((impl_WideOk.f a0_0 a0_1 a0_2).bind fun t270 => (if t270 = true then ((impl_WideOk.f a1_0 a1_1 a1_2).bind fun t271 => (impl_AddWide.j0 k (!t271) a0_0 a0_1 a0_2 a1_0 a1_1 a1_2)) else (impl_AddWide.j0 k true a0_0 a0_1 a0_2 a1_0 a1_1 a1_2))) = some (r1, r2, r3, r4) := h
  clear h
  have HC3 := Aside0.mk H
  clear H
  go_enter Tryd.func56, Tryd.ntmps56
  go_upto_region 1 with (first | ((with_reducible refine gate_dst (N := 2) rfl ?_); refine box_event ?hg (N := 2) ?hd (cs := #[.bool a0_0, .int .u64 a0_1, .int .u64 a0_2]) (t := 28) ?hr ?_; (case hd => rfl); (case hg => rfl); (case hr => first | (go_simp; done) | (go_simp; rfl)); intro gb267 hg w4 hbox hb; have n0_ := Aside0.mk (below_step bel_ hb); have n1_ := Aside0.mk (hbox); have n2_ := bs_ (w := w) hg; have n3_ := bs_ (w := w) hg; clear HB; have HB := n0_; have BK267 := n1_; have GW267 := n2_; have GE267 := n3_; clear n0_ n1_ n2_ n3_; clear hb hbox hg) | ((with_reducible refine gate_dst (N := 3) rfl ?_); refine box_event ?hg (N := 3) ?hd (cs := #[.bool a1_0, .int .u64 a1_1, .int .u64 a1_2]) (t := 28) ?hr ?_; (case hd => rfl); (case hg => rfl); (case hr => first | (go_simp; done) | (go_simp; rfl)); intro gb268 hg w5 hbox hb; have n0_ := bb_ (g := gb267) hb; have n1_ := Aside0.mk (below_step bel_ hb); have n2_ := Aside0.mk (hbox); have n3_ := bs_ (w := w) hg; have n4_ := bs_ (w := w) hg; have n5_ := nlt_ (g := gb267) hg; have n6_ := ngt_ (g := gb267) hg; clear BK267; clear HB; have BK267 := n0_; have HB := n1_; have BK268 := n2_; have GW268 := n3_; have GE268 := n4_; have NB267_268 := n5_; have NB268_267 := n6_; clear n0_ n1_ n2_ n3_ n4_ n5_ n6_; clear hb hbox hg) | ((with_reducible refine gate_dst (N := 4) rfl ?_); refine box_event ?hg (N := 4) ?hd (cs := #[.bool false, .int .u64 0, .int .u64 0]) (t := 28) ?hr ?_; (case hd => rfl); (case hg => rfl); (case hr => first | (go_simp; done) | (go_simp; rfl)); intro gb269 hg w6 hbox hb; have n0_ := bb_ (g := gb267) hb; have n1_ := bb_ (g := gb268) hb; have n2_ := Aside0.mk (below_step bel_ hb); have n3_ := Aside0.mk (hbox); have n4_ := bs_ (w := w) hg; have n5_ := bs_ (w := w) hg; have n6_ := nlt_ (g := gb267) hg; have n7_ := ngt_ (g := gb267) hg; have n8_ := nlt_ (g := gb268) hg; have n9_ := ngt_ (g := gb268) hg; clear BK267; clear BK268; clear HB; have BK267 := n0_; have BK268 := n1_; have HB := n2_; have BK269 := n3_; have GW269 := n4_; have GE269 := n5_; have NB267_269 := n6_; have NB269_267 := n7_; have NB268_269 := n8_; have NB269_268 := n9_; clear n0_ n1_ n2_ n3_ n4_ n5_ n6_ n7_ n8_ n9_; clear hb hbox hg))
  (try simp only [Act.put, la_, lb_, lc_])
  go_cut [22] (fun v22 wc => ∃ (kq : Nat) (x22_2 : Bool), v22 = .bool x22_2 ∧ Aside0 (impl_AddWide.j0 kq x22_2 a0_0 a0_1 a0_2 a1_0 a1_1 a1_2 = some (r1, r2, r3, r4)) ∧ Aside0 (kq ≤ k) ∧ Aside0 (wc.heap[gb267]? = some (.cells #[.bool a0_0, .int .u64 a0_1, .int .u64 a0_2] 28 (0, 0))) ∧ Aside0 (wc.heap[gb268]? = some (.cells #[.bool a1_0, .int .u64 a1_1, .int .u64 a1_2] 28 (0, 0))) ∧ Aside0 (wc.heap[gb269]? = some (.cells #[.bool false, .int .u64 0, .int .u64 0] 28 (0, 0))) ∧ Aside0 (Below w.heap.size w wc))
  case first =>
    have H := HC3.out
    clear HC3
    replace H := Option.bind_eq_some_iff.mp H
    obtain ⟨t270, A70, H⟩ := H
    replace H : (if t270 = true then ((impl_WideOk.f a1_0 a1_1 a1_2).bind fun t271 => (impl_AddWide.j0 k (!t271) a0_0 a0_1 a0_2 a1_0 a1_1 a1_2)) else (impl_AddWide.j0 k true a0_0 a0_1 a0_2 a1_0 a1_1 a1_2)) = some (r1, r2, r3, r4) := H
    have A7 := Aside0.mk A70
    clear A70
    by_cases c8 : t270 = true
    · subst c8
      have H1 : ((impl_WideOk.f a1_0 a1_1 a1_2).bind fun t271 => (impl_AddWide.j0 k (!t271) a0_0 a0_1 a0_2 a1_0 a1_1 a1_2)) = some (r1, r2, r3, r4) := by rw [if_pos rfl] at H; exact H
      clear H
      have H := H1
      clear H1
      replace H := Option.bind_eq_some_iff.mp H
      obtain ⟨t271, A90, H⟩ := H
      replace H : (impl_AddWide.j0 k (!t271) a0_0 a0_1 a0_2 a1_0 a1_1 a1_2) = some (r1, r2, r3, r4) := H
      have A9 := Aside0.mk A90
      clear A90
      have H' := Aside0.mk H
      clear H
      have hnb10 := NB267_268.out
      have hnc10 := NB268_267.out
      have hnb11 := NB267_269.out
      have hnc11 := NB269_267.out
      obtain ⟨hcz12_0, hcz12_1, hcz12_2, hfz12_0, hfz12_1, hfz12_2⟩ := cf3_ (w := w6) BK267.out
      go_wp2_with (first | ((with_reducible refine gate_callee (f := 45) rfl ?_); refine goesL_ (some 16) rfl rfl Tryd.func45 (by kernel_rfl) rfl #[.agg #[.bool a0_0, .int .u64 a0_1, .int .u64 a0_2]] rfl mp_ ?_; (with_reducible refine (impl_WideOk.calls a0_0 a0_1 a0_2 true _ A7.out).mono ?_); rintro e w13 ⟨rfl, hb⟩; refine ⟨_, rfl, ?_⟩; have n0_ := bb_ (g := gb267) hb; have n1_ := bb_ (g := gb268) hb; have n2_ := bb_ (g := gb269) hb; have n3_ := Aside0.mk (below_step bel_ hb); clear BK267; clear BK268; clear BK269; clear HB; have BK267 := n0_; have BK268 := n1_; have BK269 := n2_; have HB := n3_; clear n0_ n1_ n2_ n3_; (try clear hb); (try clear hb2); (try clear hk); (try clear hi); have hnb14 := NB268_269.out; have hnc14 := NB269_268.out; obtain ⟨hcz15_0, hcz15_1, hcz15_2, hfz15_0, hfz15_1, hfz15_2⟩ := cf3_ (w := w13) BK268.out) | (go_at_call 45; (with_reducible refine (impl_WideOk.calls a1_0 a1_1 a1_2 t271 _ A9.out).mono ?_); rintro e w16 ⟨rfl, hb⟩; have n0_ := bb_ (g := gb267) hb; have n1_ := bb_ (g := gb268) hb; have n2_ := bb_ (g := gb269) hb; have n3_ := Aside0.mk (below_step bel_ hb); clear BK267; clear BK268; clear BK269; clear HB; have BK267 := n0_; have BK268 := n1_; have BK269 := n2_; have HB := n3_; clear n0_ n1_ n2_ n3_; (try clear hb); (try clear hb2); (try clear hk); (try clear hi)))
      go_meet
      case rel => exact ⟨_, (!t271), (by first | rfl | (simp; done) | (simp [*]; done)), H', ⟨by first | omega | exact Nat.le_refl _⟩, ⟨by (with_reducible repeat (first | refine bN_ _ ?_ | refine bd_ ?_ | refine ba_ _ ?_)); exact BK267.out⟩, ⟨by (with_reducible repeat (first | refine bN_ _ ?_ | refine bd_ ?_ | refine ba_ _ ?_)); exact BK268.out⟩, ⟨by (with_reducible repeat (first | refine bN_ _ ?_ | refine bd_ ?_ | refine ba_ _ ?_)); exact BK269.out⟩, ⟨bel_⟩⟩
    · replace c8 := Bool.eq_false_iff.mpr c8
      subst c8
      have H1 : (impl_AddWide.j0 k true a0_0 a0_1 a0_2 a1_0 a1_1 a1_2) = some (r1, r2, r3, r4) := by rw [if_neg (show ¬ (false = true) by decide)] at H; exact H
      clear H
      have H := H1
      clear H1
      have H' := Aside0.mk H
      clear H
      have hnb17 := NB267_268.out
      have hnc17 := NB268_267.out
      have hnb18 := NB267_269.out
      have hnc18 := NB269_267.out
      obtain ⟨hcz19_0, hcz19_1, hcz19_2, hfz19_0, hfz19_1, hfz19_2⟩ := cf3_ (w := w6) BK267.out
      go_wp2_with (first | ((with_reducible refine gate_callee (f := 45) rfl ?_); refine goesL_ (some 16) rfl rfl Tryd.func45 (by kernel_rfl) rfl #[.agg #[.bool a0_0, .int .u64 a0_1, .int .u64 a0_2]] rfl mp_ ?_; (with_reducible refine (impl_WideOk.calls a0_0 a0_1 a0_2 false _ A7.out).mono ?_); rintro e w20 ⟨rfl, hb⟩; refine ⟨_, rfl, ?_⟩; have n0_ := bb_ (g := gb267) hb; have n1_ := bb_ (g := gb268) hb; have n2_ := bb_ (g := gb269) hb; have n3_ := Aside0.mk (below_step bel_ hb); clear BK267; clear BK268; clear BK269; clear HB; have BK267 := n0_; have BK268 := n1_; have BK269 := n2_; have HB := n3_; clear n0_ n1_ n2_ n3_; (try clear hb); (try clear hb2); (try clear hk); (try clear hi)))
      go_meet
      case rel => exact ⟨_, (true), (by first | rfl | (simp; done) | (simp [*]; done)), H', ⟨by first | omega | exact Nat.le_refl _⟩, ⟨by (with_reducible repeat (first | refine bN_ _ ?_ | refine bd_ ?_ | refine ba_ _ ?_)); exact BK267.out⟩, ⟨by (with_reducible repeat (first | refine bN_ _ ?_ | refine bd_ ?_ | refine ba_ _ ?_)); exact BK268.out⟩, ⟨by (with_reducible repeat (first | refine bN_ _ ?_ | refine bd_ ?_ | refine ba_ _ ?_)); exact BK269.out⟩, ⟨bel_⟩⟩
  case rest =>
    clear HC3
    try clear c1
    try clear p2
    try clear c4
    try clear c5
    try clear c8
    try clear c10
    try clear c11
    try clear c14
    try clear c17
    try clear c18
    try clear hcz12_0
    try clear hcz12_1
    try clear hcz12_2
    try clear hcz15_0
    try clear hcz15_1
    try clear hcz15_2
    try clear hcz19_0
    try clear hcz19_1
    try clear hcz19_2
    try clear hfz12_0
    try clear hfz12_1
    try clear hfz12_2
    try clear hfz15_0
    try clear hfz15_1
    try clear hfz15_2
    try clear hfz19_0
    try clear hfz19_1
    try clear hfz19_2
    obtain ⟨kq, x22_2, rfl, HA, HJ2, BK267, BK268, BK269, HB⟩ := hcut
    cases kq with
    | zero => exact absurd HA.out (by simp [impl_AddWide.j0])
    | succ kj2 =>
      have H := HA.out
      clear HA
      simp only [impl_AddWide.j0] at H
      by_cases c21 : x22_2 = true
      · subst c21
        have H1 : (some (false, 0, 0, false)) = some (r1, r2, r3, r4) := by rw [if_pos rfl] at H; exact H
        clear H
        have H := H1
        clear H1
        simp only [Option.some.injEq, Prod.mk.injEq] at H
        obtain ⟨rfl, rfl, rfl, rfl⟩ := H
        have hnb22 := NB269_267.out
        have hnc22 := NB267_269.out
        have hnb23 := NB269_268.out
        have hnc23 := NB268_269.out
        obtain ⟨hcz24_0, hcz24_1, hcz24_2, hfz24_0, hfz24_1, hfz24_2⟩ := cf3_ (w := wc) BK269.out
        go_wp2
        refine bodyPost_ret (results_ct rfl _ _ gb269 28 #[.bool false, .int .u64 0, .int .u64 0] (0, 0) _ rfl (pu_ #[.bool false, .int .u64 0, .int .u64 0] 2 (h := (pu_ #[.bool false, .int .u64 0, .int .u64 0] 1 (h := (pu_ #[.bool false, .int .u64 0, .int .u64 0] 0 (h := bk_)))))) Tryd.underlying28 rfl (by kernel_rfl)) rfl ?_
        exact ⟨rf_, bel_⟩
      · replace c21 := Bool.eq_false_iff.mpr c21
        subst c21
        have H1 : (if (a0_0 != a1_0) = true then ((impl_compareSizes.f kj2 a0_0 a0_1 a0_2 a1_0 a1_1 a1_2).bind fun t272 => (if t272 < 0 then ((bits_Sub64.f a1_2 a0_2 0).bind fun bt273 => ((bits_Sub64.f a1_1 a0_1 bt273.2).bind fun bt275 => ((impl_wideOf.f a1_0 bt275.1 bt273.1).bind fun bt277 => (some (bt277.1, bt277.2.1, bt277.2.2, true))))) else ((bits_Sub64.f a0_2 a1_2 0).bind fun bt280 => ((bits_Sub64.f a0_1 a1_1 bt280.2).bind fun bt282 => ((impl_wideOf.f a0_0 bt282.1 bt280.1).bind fun bt284 => (some (bt284.1, bt284.2.1, bt284.2.2, true))))))) else ((bits_Add64.f a0_2 a1_2 0).bind fun bt287 => ((bits_Add64.f a0_1 a1_1 bt287.2).bind fun bt289 => ((impl_wideOf.f a0_0 bt289.1 bt287.1).bind fun bt291 => ((impl_WideOk.f bt291.1 bt291.2.1 bt291.2.2).bind fun t295 => (if t295 = true then (some (bt291.1, bt291.2.1, bt291.2.2, true)) else (some (false, 0, 0, false)))))))) = some (r1, r2, r3, r4) := by rw [if_neg (show ¬ (false = true) by decide)] at H; exact H
        clear H
        have H := H1
        clear H1
        by_cases c25 : (a0_0 != a1_0) = true
        · rw [if_pos c25] at H
          have c25b0 : (a0_0 != a1_0) = true := c25
          (try (have c25b1 : decide (a0_0 = a1_0) = false := by simpa using c25))
          (try (have c25b2 : (a0_0 == a1_0) = false := by simpa using c25))
          (try (have c25b3 : ¬ (a0_0 = a1_0) := by simpa using c25))
          clear c25
          replace H := Option.bind_eq_some_iff.mp H
          obtain ⟨t272, A260, H⟩ := H
          replace H : (if t272 < 0 then ((bits_Sub64.f a1_2 a0_2 0).bind fun bt273 => ((bits_Sub64.f a1_1 a0_1 bt273.2).bind fun bt275 => ((impl_wideOf.f a1_0 bt275.1 bt273.1).bind fun bt277 => (some (bt277.1, bt277.2.1, bt277.2.2, true))))) else ((bits_Sub64.f a0_2 a1_2 0).bind fun bt280 => ((bits_Sub64.f a0_1 a1_1 bt280.2).bind fun bt282 => ((impl_wideOf.f a0_0 bt282.1 bt280.1).bind fun bt284 => (some (bt284.1, bt284.2.1, bt284.2.2, true)))))) = some (r1, r2, r3, r4) := H
          have A26 := Aside0.mk A260
          clear A260
          by_cases c27 : t272 < 0
          · rw [if_pos c27] at H
            have c27b0 : decide (t272 < 0) = true := decide_eq_true c27
            clear c27
            replace H := Option.bind_eq_some_iff.mp H
            obtain ⟨⟨t273, t274⟩, A280, H⟩ := H
            replace H : ((bits_Sub64.f a1_1 a0_1 t274).bind fun bt275 => ((impl_wideOf.f a1_0 bt275.1 t273).bind fun bt277 => (some (bt277.1, bt277.2.1, bt277.2.2, true)))) = some (r1, r2, r3, r4) := H
            have A28 := Aside0.mk A280
            clear A280
            replace H := Option.bind_eq_some_iff.mp H
            obtain ⟨⟨t275, t276⟩, A290, H⟩ := H
            replace H : ((impl_wideOf.f a1_0 t275 t273).bind fun bt277 => (some (bt277.1, bt277.2.1, bt277.2.2, true))) = some (r1, r2, r3, r4) := H
            have A29 := Aside0.mk A290
            clear A290
            replace H := Option.bind_eq_some_iff.mp H
            obtain ⟨⟨t277, t278, t279⟩, A300, H⟩ := H
            replace H : (some (t277, t278, t279, true)) = some (r1, r2, r3, r4) := H
            have A30 := Aside0.mk A300
            clear A300
            simp only [Option.some.injEq, Prod.mk.injEq] at H
            obtain ⟨rfl, rfl, rfl, rfl⟩ := H
            have hnb31 := NB267_268.out
            have hnc31 := NB268_267.out
            have hnb32 := NB267_269.out
            have hnc32 := NB269_267.out
            obtain ⟨hcz33_0, hcz33_1, hcz33_2, hfz33_0, hfz33_1, hfz33_2⟩ := cf3_ (w := wc) BK267.out
            have hnb34 := NB268_269.out
            have hnc34 := NB269_268.out
            obtain ⟨hcz35_0, hcz35_1, hcz35_2, hfz35_0, hfz35_1, hfz35_2⟩ := cf3_ (w := wc) BK268.out
            go_wp2_with (first | ((with_reducible refine gate_callee (f := 97) rfl ?_); refine goesL_ (some 31) rfl rfl Tryd.func97 (by kernel_rfl) rfl #[.agg #[.bool a0_0, .int .u64 a0_1, .int .u64 a0_2], .agg #[.bool a1_0, .int .u64 a1_1, .int .u64 a1_2]] rfl mp_ ?_; (with_reducible refine (impl_compareSizes.calls kj2 a0_0 a0_1 a0_2 a1_0 a1_1 a1_2 t272 _ A26.out).mono ?_); rintro e w36 ⟨rfl, hb⟩; refine ⟨_, rfl, ?_⟩; have n0_ := bb_ (g := gb267) hb; have n1_ := bb_ (g := gb268) hb; have n2_ := bb_ (g := gb269) hb; have n3_ := Aside0.mk (below_step bel_ hb); clear BK267; clear BK268; clear BK269; clear HB; have BK267 := n0_; have BK268 := n1_; have BK269 := n2_; have HB := n3_; clear n0_ n1_ n2_ n3_; (try clear hb); (try clear hb2); (try clear hk); (try clear hi); obtain ⟨hcz37_0, hcz37_1, hcz37_2, hfz37_0, hfz37_1, hfz37_2⟩ := cf3_ (w := w36) BK268.out; obtain ⟨hcz38_0, hcz38_1, hcz38_2, hfz38_0, hfz38_1, hfz38_2⟩ := cf3_ (w := w36) BK267.out) | ((with_reducible refine gate_callee (f := 98) rfl ?_); refine goesX_ (some 40) rfl rfl #[.int .u64 a1_2, .int .u64 a0_2, .int .u64 0] rfl mp_ (bits_Sub64.run a1_2 a0_2 0 t273 t274 _ A28.out) ?_) | ((with_reducible refine gate_callee (f := 98) rfl ?_); refine goesX_ (some 49) rfl rfl #[.int .u64 a1_1, .int .u64 a0_1, .int .u64 t274] rfl mp_ (bits_Sub64.run a1_1 a0_1 t274 t275 t276 _ A29.out) ?_) | ((with_reducible refine gate_callee (f := 49) rfl ?_); refine goesL_ (some 56) rfl rfl Tryd.func49 (by kernel_rfl) rfl #[.bool a1_0, .int .u64 t275, .int .u64 t273] rfl mp_ ?_; (with_reducible refine (impl_wideOf.calls a1_0 t275 t273 t277 t278 t279 _ A30.out).mono ?_); rintro e w39 ⟨rfl, hb⟩; refine ⟨_, rfl, ?_⟩; have n0_ := Aside0.mk (blk_below (g := gb267) (o := .cells #[.bool a1_0, .int .u64 a1_1, .int .u64 a1_2] 28 (0, 0)) (pu_ #[.bool a1_0, .int .u64 a1_1, .int .u64 a0_2] 2 (h := (pu_ #[.bool a1_0, .int .u64 a0_1, .int .u64 a0_2] 1 (h := (pu_ #[.bool a0_0, .int .u64 a0_1, .int .u64 a0_2] 0 (h := bk_)))))) hb); have n1_ := Aside0.mk (blk_below (g := gb268) (o := .cells #[.bool a0_0, .int .u64 a0_1, .int .u64 a0_2] 28 (0, 0)) (pu_ #[.bool a0_0, .int .u64 a0_1, .int .u64 a1_2] 2 (h := (pu_ #[.bool a0_0, .int .u64 a1_1, .int .u64 a1_2] 1 (h := (pu_ #[.bool a1_0, .int .u64 a1_1, .int .u64 a1_2] 0 (h := bk_)))))) hb); have n2_ := Aside0.mk (blk_below (g := gb269) (o := .cells #[.bool false, .int .u64 0, .int .u64 0] 28 (0, 0)) bk_ hb); have n3_ := Aside0.mk (below_step bel_ hb); clear BK267; clear BK268; clear BK269; clear HB; have BK267 := n0_; have BK268 := n1_; have BK269 := n2_; have HB := n3_; clear n0_ n1_ n2_ n3_; (try clear hb); (try clear hb2); (try clear hk); (try clear hi); obtain ⟨hcz40_0, hcz40_1, hcz40_2, hfz40_0, hfz40_1, hfz40_2⟩ := cf3_ (w := w39) BK269.out))
            refine bodyPost_ret (results_ct rfl _ _ gb269 28 #[.bool t277, .int .u64 t278, .int .u64 t279] (0, 0) _ rfl (pu_ #[.bool t277, .int .u64 t278, .int .u64 0] 2 (h := (pu_ #[.bool t277, .int .u64 0, .int .u64 0] 1 (h := (pu_ #[.bool false, .int .u64 0, .int .u64 0] 0 (h := bk_)))))) Tryd.underlying28 rfl (by kernel_rfl)) rfl ?_
            exact ⟨rf_, bel_⟩
          · rw [if_neg c27] at H
            have c27b0 : decide (t272 < 0) = false := decide_eq_false c27
            clear c27
            replace H := Option.bind_eq_some_iff.mp H
            obtain ⟨⟨t280, t281⟩, A410, H⟩ := H
            replace H : ((bits_Sub64.f a0_1 a1_1 t281).bind fun bt282 => ((impl_wideOf.f a0_0 bt282.1 t280).bind fun bt284 => (some (bt284.1, bt284.2.1, bt284.2.2, true)))) = some (r1, r2, r3, r4) := H
            have A41 := Aside0.mk A410
            clear A410
            replace H := Option.bind_eq_some_iff.mp H
            obtain ⟨⟨t282, t283⟩, A420, H⟩ := H
            replace H : ((impl_wideOf.f a0_0 t282 t280).bind fun bt284 => (some (bt284.1, bt284.2.1, bt284.2.2, true))) = some (r1, r2, r3, r4) := H
            have A42 := Aside0.mk A420
            clear A420
            replace H := Option.bind_eq_some_iff.mp H
            obtain ⟨⟨t284, t285, t286⟩, A430, H⟩ := H
            replace H : (some (t284, t285, t286, true)) = some (r1, r2, r3, r4) := H
            have A43 := Aside0.mk A430
            clear A430
            simp only [Option.some.injEq, Prod.mk.injEq] at H
            obtain ⟨rfl, rfl, rfl, rfl⟩ := H
            have hnb44 := NB267_268.out
            have hnc44 := NB268_267.out
            have hnb45 := NB267_269.out
            have hnc45 := NB269_267.out
            obtain ⟨hcz46_0, hcz46_1, hcz46_2, hfz46_0, hfz46_1, hfz46_2⟩ := cf3_ (w := wc) BK267.out
            have hnb47 := NB268_269.out
            have hnc47 := NB269_268.out
            obtain ⟨hcz48_0, hcz48_1, hcz48_2, hfz48_0, hfz48_1, hfz48_2⟩ := cf3_ (w := wc) BK268.out
            go_wp2_with (first | ((with_reducible refine gate_callee (f := 97) rfl ?_); refine goesL_ (some 31) rfl rfl Tryd.func97 (by kernel_rfl) rfl #[.agg #[.bool a0_0, .int .u64 a0_1, .int .u64 a0_2], .agg #[.bool a1_0, .int .u64 a1_1, .int .u64 a1_2]] rfl mp_ ?_; (with_reducible refine (impl_compareSizes.calls kj2 a0_0 a0_1 a0_2 a1_0 a1_1 a1_2 t272 _ A26.out).mono ?_); rintro e w49 ⟨rfl, hb⟩; refine ⟨_, rfl, ?_⟩; have n0_ := bb_ (g := gb267) hb; have n1_ := bb_ (g := gb268) hb; have n2_ := bb_ (g := gb269) hb; have n3_ := Aside0.mk (below_step bel_ hb); clear BK267; clear BK268; clear BK269; clear HB; have BK267 := n0_; have BK268 := n1_; have BK269 := n2_; have HB := n3_; clear n0_ n1_ n2_ n3_; (try clear hb); (try clear hb2); (try clear hk); (try clear hi); obtain ⟨hcz50_0, hcz50_1, hcz50_2, hfz50_0, hfz50_1, hfz50_2⟩ := cf3_ (w := w49) BK267.out; obtain ⟨hcz51_0, hcz51_1, hcz51_2, hfz51_0, hfz51_1, hfz51_2⟩ := cf3_ (w := w49) BK268.out) | ((with_reducible refine gate_callee (f := 98) rfl ?_); refine goesX_ (some 40) rfl rfl #[.int .u64 a0_2, .int .u64 a1_2, .int .u64 0] rfl mp_ (bits_Sub64.run a0_2 a1_2 0 t280 t281 _ A41.out) ?_; (try (rw [drewN_self w49]; generalize hq_ : World.drewN w49 _ = w49; have n0_ : Aside0 (w49.heap[gb267]? = some (.cells #[.bool a0_0, .int .u64 a0_1, .int .u64 a0_2] 28 (0, 0))) := ⟨by rw [← hq_]; exact bk_⟩; have n1_ : Aside0 (w49.heap[gb268]? = some (.cells #[.bool a1_0, .int .u64 a1_1, .int .u64 a1_2] 28 (0, 0))) := ⟨by rw [← hq_]; exact bk_⟩; have n2_ : Aside0 (w49.heap[gb269]? = some (.cells #[.bool false, .int .u64 0, .int .u64 0] 28 (0, 0))) := ⟨by rw [← hq_]; exact bk_⟩; have n3_ : Aside0 (Below w.heap.size w w49) := ⟨by rw [← hq_]; exact bel_⟩; clear BK267 BK268 BK269 HB hq_; have BK267 := n0_; have BK268 := n1_; have BK269 := n2_; have HB := n3_; clear n0_ n1_ n2_ n3_))) | ((with_reducible refine gate_callee (f := 98) rfl ?_); refine goesX_ (some 49) rfl rfl #[.int .u64 a0_1, .int .u64 a1_1, .int .u64 t281] rfl mp_ (bits_Sub64.run a0_1 a1_1 t281 t282 t283 _ A42.out) ?_; (try (rw [drewN_self w49]; generalize hq_ : World.drewN w49 _ = w49; have n0_ : Aside0 (w49.heap[gb267]? = some (.cells #[.bool a0_0, .int .u64 a0_1, .int .u64 a0_2] 28 (0, 0))) := ⟨by rw [← hq_]; exact bk_⟩; have n1_ : Aside0 (w49.heap[gb268]? = some (.cells #[.bool a1_0, .int .u64 a1_1, .int .u64 a1_2] 28 (0, 0))) := ⟨by rw [← hq_]; exact bk_⟩; have n2_ : Aside0 (w49.heap[gb269]? = some (.cells #[.bool false, .int .u64 0, .int .u64 0] 28 (0, 0))) := ⟨by rw [← hq_]; exact bk_⟩; have n3_ : Aside0 (Below w.heap.size w w49) := ⟨by rw [← hq_]; exact bel_⟩; clear BK267 BK268 BK269 HB hq_; have BK267 := n0_; have BK268 := n1_; have BK269 := n2_; have HB := n3_; clear n0_ n1_ n2_ n3_))) | ((with_reducible refine gate_callee (f := 49) rfl ?_); refine goesL_ (some 56) rfl rfl Tryd.func49 (by kernel_rfl) rfl #[.bool a0_0, .int .u64 t282, .int .u64 t280] rfl mp_ ?_; (with_reducible refine (impl_wideOf.calls a0_0 t282 t280 t284 t285 t286 _ A43.out).mono ?_); rintro e w52 ⟨rfl, hb⟩; refine ⟨_, rfl, ?_⟩; have n0_ := bb_ (g := gb267) hb; have n1_ := bb_ (g := gb268) hb; have n2_ := bb_ (g := gb269) hb; have n3_ := Aside0.mk (below_step bel_ hb); clear BK267; clear BK268; clear BK269; clear HB; have BK267 := n0_; have BK268 := n1_; have BK269 := n2_; have HB := n3_; clear n0_ n1_ n2_ n3_; (try clear hb); (try clear hb2); (try clear hk); (try clear hi); obtain ⟨hcz53_0, hcz53_1, hcz53_2, hfz53_0, hfz53_1, hfz53_2⟩ := cf3_ (w := w52) BK269.out))
            refine bodyPost_ret (results_ct rfl _ _ gb269 28 #[.bool t284, .int .u64 t285, .int .u64 t286] (0, 0) _ rfl (pu_ #[.bool t284, .int .u64 t285, .int .u64 0] 2 (h := (pu_ #[.bool t284, .int .u64 0, .int .u64 0] 1 (h := (pu_ #[.bool false, .int .u64 0, .int .u64 0] 0 (h := bk_)))))) Tryd.underlying28 rfl (by kernel_rfl)) rfl ?_
            exact ⟨rf_, bel_⟩
        · rw [if_neg c25] at H
          have c25b0 : (a0_0 != a1_0) = false := by simpa using c25
          (try (have c25b1 : decide (a0_0 = a1_0) = true := by simpa using c25))
          (try (have c25b2 : (a0_0 == a1_0) = true := by simpa using c25))
          clear c25
          replace H := Option.bind_eq_some_iff.mp H
          obtain ⟨⟨t287, t288⟩, A540, H⟩ := H
          replace H : ((bits_Add64.f a0_1 a1_1 t288).bind fun bt289 => ((impl_wideOf.f a0_0 bt289.1 t287).bind fun bt291 => ((impl_WideOk.f bt291.1 bt291.2.1 bt291.2.2).bind fun t295 => (if t295 = true then (some (bt291.1, bt291.2.1, bt291.2.2, true)) else (some (false, 0, 0, false)))))) = some (r1, r2, r3, r4) := H
          have A54 := Aside0.mk A540
          clear A540
          replace H := Option.bind_eq_some_iff.mp H
          obtain ⟨⟨t289, t290⟩, A550, H⟩ := H
          replace H : ((impl_wideOf.f a0_0 t289 t287).bind fun bt291 => ((impl_WideOk.f bt291.1 bt291.2.1 bt291.2.2).bind fun t295 => (if t295 = true then (some (bt291.1, bt291.2.1, bt291.2.2, true)) else (some (false, 0, 0, false))))) = some (r1, r2, r3, r4) := H
          have A55 := Aside0.mk A550
          clear A550
          replace H := Option.bind_eq_some_iff.mp H
          obtain ⟨⟨t291, t292, t293⟩, A560, H⟩ := H
          replace H : ((impl_WideOk.f t291 t292 t293).bind fun t295 => (if t295 = true then (some (t291, t292, t293, true)) else (some (false, 0, 0, false)))) = some (r1, r2, r3, r4) := H
          have A56 := Aside0.mk A560
          clear A560
          replace H := Option.bind_eq_some_iff.mp H
          obtain ⟨t295, A570, H⟩ := H
          replace H : (if t295 = true then (some (t291, t292, t293, true)) else (some (false, 0, 0, false))) = some (r1, r2, r3, r4) := H
          have A57 := Aside0.mk A570
          clear A570
          by_cases c58 : t295 = true
          · subst c58
            have H1 : (some (t291, t292, t293, true)) = some (r1, r2, r3, r4) := by rw [if_pos rfl] at H; exact H
            clear H
            have H := H1
            clear H1
            simp only [Option.some.injEq, Prod.mk.injEq] at H
            obtain ⟨rfl, rfl, rfl, rfl⟩ := H
            have hnb59 := NB267_268.out
            have hnc59 := NB268_267.out
            have hnb60 := NB267_269.out
            have hnc60 := NB269_267.out
            obtain ⟨hcz61_0, hcz61_1, hcz61_2, hfz61_0, hfz61_1, hfz61_2⟩ := cf3_ (w := wc) BK267.out
            have hnb62 := NB268_269.out
            have hnc62 := NB269_268.out
            obtain ⟨hcz63_0, hcz63_1, hcz63_2, hfz63_0, hfz63_1, hfz63_2⟩ := cf3_ (w := wc) BK268.out
            go_wp2_with (first | ((with_reducible refine gate_callee (f := 96) rfl ?_); refine goesX_ (some 62) rfl rfl #[.int .u64 a0_2, .int .u64 a1_2, .int .u64 0] rfl mp_ (bits_Add64.run a0_2 a1_2 0 t287 t288 _ A54.out) ?_; (try (rw [drewN_self wc]; generalize hq_ : World.drewN wc _ = wc; have n0_ : Aside0 (wc.heap[gb267]? = some (.cells #[.bool a0_0, .int .u64 a0_1, .int .u64 a0_2] 28 (0, 0))) := ⟨by rw [← hq_]; exact bk_⟩; have n1_ : Aside0 (wc.heap[gb268]? = some (.cells #[.bool a1_0, .int .u64 a1_1, .int .u64 a1_2] 28 (0, 0))) := ⟨by rw [← hq_]; exact bk_⟩; have n2_ : Aside0 (wc.heap[gb269]? = some (.cells #[.bool false, .int .u64 0, .int .u64 0] 28 (0, 0))) := ⟨by rw [← hq_]; exact bk_⟩; have n3_ : Aside0 (Below w.heap.size w wc) := ⟨by rw [← hq_]; exact bel_⟩; clear BK267 BK268 BK269 HB hq_; have BK267 := n0_; have BK268 := n1_; have BK269 := n2_; have HB := n3_; clear n0_ n1_ n2_ n3_))) | ((with_reducible refine gate_callee (f := 96) rfl ?_); refine goesX_ (some 71) rfl rfl #[.int .u64 a0_1, .int .u64 a1_1, .int .u64 t288] rfl mp_ (bits_Add64.run a0_1 a1_1 t288 t289 t290 _ A55.out) ?_; (try (rw [drewN_self wc]; generalize hq_ : World.drewN wc _ = wc; have n0_ : Aside0 (wc.heap[gb267]? = some (.cells #[.bool a0_0, .int .u64 a0_1, .int .u64 a0_2] 28 (0, 0))) := ⟨by rw [← hq_]; exact bk_⟩; have n1_ : Aside0 (wc.heap[gb268]? = some (.cells #[.bool a1_0, .int .u64 a1_1, .int .u64 a1_2] 28 (0, 0))) := ⟨by rw [← hq_]; exact bk_⟩; have n2_ : Aside0 (wc.heap[gb269]? = some (.cells #[.bool false, .int .u64 0, .int .u64 0] 28 (0, 0))) := ⟨by rw [← hq_]; exact bk_⟩; have n3_ : Aside0 (Below w.heap.size w wc) := ⟨by rw [← hq_]; exact bel_⟩; clear BK267 BK268 BK269 HB hq_; have BK267 := n0_; have BK268 := n1_; have BK269 := n2_; have HB := n3_; clear n0_ n1_ n2_ n3_))) | ((with_reducible refine gate_callee (f := 49) rfl ?_); refine goesL_ (some 78) rfl rfl Tryd.func49 (by kernel_rfl) rfl #[.bool a0_0, .int .u64 t289, .int .u64 t287] rfl mp_ ?_; (with_reducible refine (impl_wideOf.calls a0_0 t289 t287 t291 t292 t293 _ A56.out).mono ?_); rintro e w64 ⟨rfl, hb⟩; refine ⟨_, rfl, ?_⟩; have n0_ := bb_ (g := gb267) hb; have n1_ := bb_ (g := gb268) hb; have n2_ := bb_ (g := gb269) hb; have n3_ := Aside0.mk (below_step bel_ hb); clear BK267; clear BK268; clear BK269; clear HB; have BK267 := n0_; have BK268 := n1_; have BK269 := n2_; have HB := n3_; clear n0_ n1_ n2_ n3_; (try clear hb); (try clear hb2); (try clear hk); (try clear hi)) | ((with_reducible refine gate_dst (N := 14) rfl ?_); refine box_event ?hg (N := 14) ?hd (cs := #[.bool false, .int .u64 0, .int .u64 0]) (t := 28) ?hr ?_; (case hd => rfl); (case hg => rfl); (case hr => first | (go_simp; done) | (go_simp; rfl)); intro gb294 hg w65 hbox hb; have n0_ := bb_ (g := gb267) hb; have n1_ := bb_ (g := gb268) hb; have n2_ := bb_ (g := gb269) hb; have n3_ := Aside0.mk (below_step bel_ hb); have n4_ := Aside0.mk (hbox); have n5_ := bs_ (w := w) hg; have n6_ := bs_ (w := w) hg; have n7_ := nlt_ (g := gb267) hg; have n8_ := ngt_ (g := gb267) hg; have n9_ := nlt_ (g := gb268) hg; have n10_ := ngt_ (g := gb268) hg; have n11_ := nlt_ (g := gb269) hg; have n12_ := ngt_ (g := gb269) hg; clear BK267; clear BK268; clear BK269; clear HB; have BK267 := n0_; have BK268 := n1_; have BK269 := n2_; have HB := n3_; have BK294 := n4_; have GW294 := n5_; have GE294 := n6_; have NB267_294 := n7_; have NB294_267 := n8_; have NB268_294 := n9_; have NB294_268 := n10_; have NB269_294 := n11_; have NB294_269 := n12_; clear n0_ n1_ n2_ n3_ n4_ n5_ n6_ n7_ n8_ n9_ n10_ n11_ n12_; clear hb hbox hg; have hnb66 := NB294_267.out; have hnc66 := NB267_294.out; have hnb67 := NB294_268.out; have hnc67 := NB268_294.out; have hnb68 := NB294_269.out; have hnc68 := NB269_294.out; obtain ⟨hcz69_0, hcz69_1, hcz69_2, hfz69_0, hfz69_1, hfz69_2⟩ := cf3_ (w := w65) BK294.out) | ((with_reducible refine gate_callee (f := 45) rfl ?_); refine goesL_ (some 80) rfl rfl Tryd.func45 (by kernel_rfl) rfl #[.agg #[.bool t291, .int .u64 t292, .int .u64 t293]] rfl mp_ ?_; (with_reducible refine (impl_WideOk.calls t291 t292 t293 true _ A57.out).mono ?_); rintro e w70 ⟨rfl, hb⟩; refine ⟨_, rfl, ?_⟩; have n0_ := Aside0.mk (blk_below (g := gb267) (o := .cells #[.bool a0_0, .int .u64 a0_1, .int .u64 a0_2] 28 (0, 0)) bk_ hb); have n1_ := Aside0.mk (blk_below (g := gb268) (o := .cells #[.bool a1_0, .int .u64 a1_1, .int .u64 a1_2] 28 (0, 0)) bk_ hb); have n2_ := Aside0.mk (blk_below (g := gb269) (o := .cells #[.bool false, .int .u64 0, .int .u64 0] 28 (0, 0)) bk_ hb); have n3_ := Aside0.mk (blk_below (g := gb294) (o := .cells #[.bool t291, .int .u64 t292, .int .u64 t293] 28 (0, 0)) (pu_ #[.bool t291, .int .u64 t292, .int .u64 0] 2 (h := (pu_ #[.bool t291, .int .u64 0, .int .u64 0] 1 (h := (pu_ #[.bool false, .int .u64 0, .int .u64 0] 0 (h := bk_)))))) hb); have n4_ := Aside0.mk (below_step bel_ hb); clear BK267; clear BK268; clear BK269; clear BK294; clear HB; have BK267 := n0_; have BK268 := n1_; have BK269 := n2_; have BK294 := n3_; have HB := n4_; clear n0_ n1_ n2_ n3_ n4_; (try clear hb); (try clear hb2); (try clear hk); (try clear hi); obtain ⟨hcz71_0, hcz71_1, hcz71_2, hfz71_0, hfz71_1, hfz71_2⟩ := cf3_ (w := w70) BK294.out; obtain ⟨hcz72_0, hcz72_1, hcz72_2, hfz72_0, hfz72_1, hfz72_2⟩ := cf3_ (w := w70) BK269.out))
            refine bodyPost_ret (results_ct rfl _ _ gb269 28 #[.bool t291, .int .u64 t292, .int .u64 t293] (0, 0) _ rfl (pu_ #[.bool t291, .int .u64 t292, .int .u64 0] 2 (h := (pu_ #[.bool t291, .int .u64 0, .int .u64 0] 1 (h := (pu_ #[.bool false, .int .u64 0, .int .u64 0] 0 (h := bk_)))))) Tryd.underlying28 rfl (by kernel_rfl)) rfl ?_
            exact ⟨rf_, bel_⟩
          · replace c58 := Bool.eq_false_iff.mpr c58
            subst c58
            have H1 : (some (false, 0, 0, false)) = some (r1, r2, r3, r4) := by rw [if_neg (show ¬ (false = true) by decide)] at H; exact H
            clear H
            have H := H1
            clear H1
            simp only [Option.some.injEq, Prod.mk.injEq] at H
            obtain ⟨rfl, rfl, rfl, rfl⟩ := H
            have hnb73 := NB267_268.out
            have hnc73 := NB268_267.out
            have hnb74 := NB267_269.out
            have hnc74 := NB269_267.out
            obtain ⟨hcz75_0, hcz75_1, hcz75_2, hfz75_0, hfz75_1, hfz75_2⟩ := cf3_ (w := wc) BK267.out
            have hnb76 := NB268_269.out
            have hnc76 := NB269_268.out
            obtain ⟨hcz77_0, hcz77_1, hcz77_2, hfz77_0, hfz77_1, hfz77_2⟩ := cf3_ (w := wc) BK268.out
            go_wp2_with (first | ((with_reducible refine gate_callee (f := 96) rfl ?_); refine goesX_ (some 62) rfl rfl #[.int .u64 a0_2, .int .u64 a1_2, .int .u64 0] rfl mp_ (bits_Add64.run a0_2 a1_2 0 t287 t288 _ A54.out) ?_; (try (rw [drewN_self wc]; generalize hq_ : World.drewN wc _ = wc; have n0_ : Aside0 (wc.heap[gb267]? = some (.cells #[.bool a0_0, .int .u64 a0_1, .int .u64 a0_2] 28 (0, 0))) := ⟨by rw [← hq_]; exact bk_⟩; have n1_ : Aside0 (wc.heap[gb268]? = some (.cells #[.bool a1_0, .int .u64 a1_1, .int .u64 a1_2] 28 (0, 0))) := ⟨by rw [← hq_]; exact bk_⟩; have n2_ : Aside0 (wc.heap[gb269]? = some (.cells #[.bool false, .int .u64 0, .int .u64 0] 28 (0, 0))) := ⟨by rw [← hq_]; exact bk_⟩; have n3_ : Aside0 (Below w.heap.size w wc) := ⟨by rw [← hq_]; exact bel_⟩; clear BK267 BK268 BK269 HB hq_; have BK267 := n0_; have BK268 := n1_; have BK269 := n2_; have HB := n3_; clear n0_ n1_ n2_ n3_))) | ((with_reducible refine gate_callee (f := 96) rfl ?_); refine goesX_ (some 71) rfl rfl #[.int .u64 a0_1, .int .u64 a1_1, .int .u64 t288] rfl mp_ (bits_Add64.run a0_1 a1_1 t288 t289 t290 _ A55.out) ?_; (try (rw [drewN_self wc]; generalize hq_ : World.drewN wc _ = wc; have n0_ : Aside0 (wc.heap[gb267]? = some (.cells #[.bool a0_0, .int .u64 a0_1, .int .u64 a0_2] 28 (0, 0))) := ⟨by rw [← hq_]; exact bk_⟩; have n1_ : Aside0 (wc.heap[gb268]? = some (.cells #[.bool a1_0, .int .u64 a1_1, .int .u64 a1_2] 28 (0, 0))) := ⟨by rw [← hq_]; exact bk_⟩; have n2_ : Aside0 (wc.heap[gb269]? = some (.cells #[.bool false, .int .u64 0, .int .u64 0] 28 (0, 0))) := ⟨by rw [← hq_]; exact bk_⟩; have n3_ : Aside0 (Below w.heap.size w wc) := ⟨by rw [← hq_]; exact bel_⟩; clear BK267 BK268 BK269 HB hq_; have BK267 := n0_; have BK268 := n1_; have BK269 := n2_; have HB := n3_; clear n0_ n1_ n2_ n3_))) | ((with_reducible refine gate_callee (f := 49) rfl ?_); refine goesL_ (some 78) rfl rfl Tryd.func49 (by kernel_rfl) rfl #[.bool a0_0, .int .u64 t289, .int .u64 t287] rfl mp_ ?_; (with_reducible refine (impl_wideOf.calls a0_0 t289 t287 t291 t292 t293 _ A56.out).mono ?_); rintro e w78 ⟨rfl, hb⟩; refine ⟨_, rfl, ?_⟩; have n0_ := bb_ (g := gb267) hb; have n1_ := bb_ (g := gb268) hb; have n2_ := bb_ (g := gb269) hb; have n3_ := Aside0.mk (below_step bel_ hb); clear BK267; clear BK268; clear BK269; clear HB; have BK267 := n0_; have BK268 := n1_; have BK269 := n2_; have HB := n3_; clear n0_ n1_ n2_ n3_; (try clear hb); (try clear hb2); (try clear hk); (try clear hi)) | ((with_reducible refine gate_dst (N := 14) rfl ?_); refine box_event ?hg (N := 14) ?hd (cs := #[.bool false, .int .u64 0, .int .u64 0]) (t := 28) ?hr ?_; (case hd => rfl); (case hg => rfl); (case hr => first | (go_simp; done) | (go_simp; rfl)); intro gb294 hg w79 hbox hb; have n0_ := bb_ (g := gb267) hb; have n1_ := bb_ (g := gb268) hb; have n2_ := bb_ (g := gb269) hb; have n3_ := Aside0.mk (below_step bel_ hb); have n4_ := Aside0.mk (hbox); have n5_ := bs_ (w := w) hg; have n6_ := bs_ (w := w) hg; have n7_ := nlt_ (g := gb267) hg; have n8_ := ngt_ (g := gb267) hg; have n9_ := nlt_ (g := gb268) hg; have n10_ := ngt_ (g := gb268) hg; have n11_ := nlt_ (g := gb269) hg; have n12_ := ngt_ (g := gb269) hg; clear BK267; clear BK268; clear BK269; clear HB; have BK267 := n0_; have BK268 := n1_; have BK269 := n2_; have HB := n3_; have BK294 := n4_; have GW294 := n5_; have GE294 := n6_; have NB267_294 := n7_; have NB294_267 := n8_; have NB268_294 := n9_; have NB294_268 := n10_; have NB269_294 := n11_; have NB294_269 := n12_; clear n0_ n1_ n2_ n3_ n4_ n5_ n6_ n7_ n8_ n9_ n10_ n11_ n12_; clear hb hbox hg; have hnb80 := NB294_267.out; have hnc80 := NB267_294.out; have hnb81 := NB294_268.out; have hnc81 := NB268_294.out; have hnb82 := NB294_269.out; have hnc82 := NB269_294.out; obtain ⟨hcz83_0, hcz83_1, hcz83_2, hfz83_0, hfz83_1, hfz83_2⟩ := cf3_ (w := w79) BK294.out) | ((with_reducible refine gate_callee (f := 45) rfl ?_); refine goesL_ (some 80) rfl rfl Tryd.func45 (by kernel_rfl) rfl #[.agg #[.bool t291, .int .u64 t292, .int .u64 t293]] rfl mp_ ?_; (with_reducible refine (impl_WideOk.calls t291 t292 t293 false _ A57.out).mono ?_); rintro e w84 ⟨rfl, hb⟩; refine ⟨_, rfl, ?_⟩; have n0_ := Aside0.mk (blk_below (g := gb267) (o := .cells #[.bool a0_0, .int .u64 a0_1, .int .u64 a0_2] 28 (0, 0)) bk_ hb); have n1_ := Aside0.mk (blk_below (g := gb268) (o := .cells #[.bool a1_0, .int .u64 a1_1, .int .u64 a1_2] 28 (0, 0)) bk_ hb); have n2_ := Aside0.mk (blk_below (g := gb269) (o := .cells #[.bool false, .int .u64 0, .int .u64 0] 28 (0, 0)) bk_ hb); have n3_ := Aside0.mk (blk_below (g := gb294) (o := .cells #[.bool t291, .int .u64 t292, .int .u64 t293] 28 (0, 0)) (pu_ #[.bool t291, .int .u64 t292, .int .u64 0] 2 (h := (pu_ #[.bool t291, .int .u64 0, .int .u64 0] 1 (h := (pu_ #[.bool false, .int .u64 0, .int .u64 0] 0 (h := bk_)))))) hb); have n4_ := Aside0.mk (below_step bel_ hb); clear BK267; clear BK268; clear BK269; clear BK294; clear HB; have BK267 := n0_; have BK268 := n1_; have BK269 := n2_; have BK294 := n3_; have HB := n4_; clear n0_ n1_ n2_ n3_ n4_; (try clear hb); (try clear hb2); (try clear hk); (try clear hi); obtain ⟨hcz85_0, hcz85_1, hcz85_2, hfz85_0, hfz85_1, hfz85_2⟩ := cf3_ (w := w84) BK269.out))
            refine bodyPost_ret (results_ct rfl _ _ gb269 28 #[.bool false, .int .u64 0, .int .u64 0] (0, 0) _ rfl (pu_ #[.bool false, .int .u64 0, .int .u64 0] 2 (h := (pu_ #[.bool false, .int .u64 0, .int .u64 0] 1 (h := (pu_ #[.bool false, .int .u64 0, .int .u64 0] 0 (h := bk_)))))) Tryd.underlying28 rfl (by kernel_rfl)) rfl ?_
            exact ⟨rf_, bel_⟩

/-! ### impl_TenTimes: function 15 -/
def impl_TenTimes.j0 : Nat → Int → Bool → Bool → Int → Int → Bool → Int → Int → Option (Bool × Int × Int × Bool)
  | 0, _, _, _, _, _, _, _, _ => none
  | k + 1, x1, x19, x297000, x297001, x297002, x303000, x303001, x303002 => if x19 = true then (some (false, 0, 0, false)) else (if x297000 = true then ((impl_WideOf.f (wrap64 (-x1))).bind fun bt304 => ((impl_AddWide.f k x303000 x303001 x303002 bt304.1 bt304.2.1 bt304.2.2).bind fun bt307 => (some (bt307.1, bt307.2.1, bt307.2.2.1, bt307.2.2.2)))) else ((impl_WideOf.f x1).bind fun bt311 => ((impl_AddWide.f k x303000 x303001 x303002 bt311.1 bt311.2.1 bt311.2.2).bind fun bt314 => (some (bt314.1, bt314.2.1, bt314.2.2.1, bt314.2.2.2)))))
def impl_TenTimes.f (k : Nat) (a0_0 : Bool) (a0_1 : Int) (a0_2 : Int) (a1 : Int) : Option (Bool × Int × Int × Bool) := (impl_ScaleWide.f a0_0 a0_1 a0_2 10).bind fun bt298 => (if bt298.2.2.2 = true then ((impl_within.f a1 0 9).bind fun t303 => (impl_TenTimes.j0 k a1 (!t303) a0_0 a0_1 a0_2 bt298.1 bt298.2.1 bt298.2.2.1)) else (impl_TenTimes.j0 k a1 true a0_0 a0_1 a0_2 bt298.1 bt298.2.1 bt298.2.2.1))
theorem impl_TenTimes.mono_l : ∀ k, (∀ y0 y1 y2 y3 y4 y5 y6 y7, LeO (impl_TenTimes.j0 k y0 y1 y2 y3 y4 y5 y6 y7) (impl_TenTimes.j0 (k + 1) y0 y1 y2 y3 y4 y5 y6 y7))
  | 0 => fun _ _ _ _ _ _ _ _ r h => by simp [impl_TenTimes.j0] at h
  | k + 1 => by
    have ih0 := impl_TenTimes.mono_l k
    · intro y0 y1 y2 y3 y4 y5 y6 y7
      unfold impl_TenTimes.j0
      repeat' first
      | (with_reducible exact ih0 _ _ _ _ _ _ _ _)
      | (with_reducible exact impl_AddWide.mono _ _ _ _ _ _ _)
      | (with_reducible exact LeO.refl _)
      | (with_reducible exact LeO.none _)
      | (with_reducible refine LeO.ite ?_ ?_)
      | (with_reducible refine LeO.bind ?_ (fun _ => ?_))
      | exact ih0 _ _ _ _ _ _ _ _
      | exact impl_AddWide.mono _ _ _ _ _ _ _
      | exact LeO.none _
      | refine LeO.ite ?_ ?_
      | refine LeO.bind ?_ (fun _ => ?_)
theorem impl_TenTimes.mono : ∀ a0 a1 a2 a3 k, LeO (impl_TenTimes.f k a0 a1 a2 a3) (impl_TenTimes.f (k + 1) a0 a1 a2 a3) := by
  intro a0 a1 a2 a3 k
  have ih0 := impl_TenTimes.mono_l k
  unfold impl_TenTimes.f
  repeat' first
      | (with_reducible exact ih0 _ _ _ _ _ _ _ _)
      | (with_reducible exact impl_AddWide.mono _ _ _ _ _ _ _)
      | (with_reducible exact LeO.refl _)
      | (with_reducible exact LeO.none _)
      | (with_reducible refine LeO.ite ?_ ?_)
      | (with_reducible refine LeO.bind ?_ (fun _ => ?_))
      | exact ih0 _ _ _ _ _ _ _ _
      | exact impl_AddWide.mono _ _ _ _ _ _ _
      | exact LeO.none _
      | refine LeO.ite ?_ ?_
      | refine LeO.bind ?_ (fun _ => ?_)
def impl_TenTimes.T6 : Bool × List (List Nat × List Nat) := (true, [([], []), ([], []), ([1], [1]), ([0, 2, 2], [0, 2]), ([3], [3]), ([3], [3]), ([4, 3, 0, 1, 2, 3, 4, 5], [4]), ([5, 6, 0, 1, 2, 3, 4, 5, 6], [5])])
def impl_TenTimes.B6 : List Nat := [0, 0, 2, 7, 15, 15, 63, 127]
theorem impl_TenTimes.tab6 : rtab .any (opsOf Tryd.f15 6) = impl_TenTimes.T6 := by kernel_rfl
theorem impl_TenTimes.bits6 : waitsOk impl_TenTimes.T6.2 impl_TenTimes.B6 = true := by kernel_rfl
set_option maxHeartbeats 8000000 in
set_option maxRecDepth 100000 in
theorem impl_TenTimes.calls (k : Nat) (a0_0 : Bool) (a0_1 : Int) (a0_2 : Int) (a1 : Int) (r1 : Bool) (r2 : Int) (r3 : Int) (r4 : Bool) (w : World) (h : impl_TenTimes.f k a0_0 a0_1 a0_2 a1 = some (r1, r2, r3, r4)) :
    Calls Tryd.prog 15 #[.agg #[.bool a0_0, .int .u64 a0_1, .int .u64 a0_2], .int .i64 a1] w fun e w' => e = .returned (.tuple #[.agg #[.bool r1, .int .u64 r2, .int .u64 r3], .bool r4]) ∧ Below w.heap.size w w' := by
  have hu28 := Tryd.underlying28
  have HB := Aside0.mk (Below.refl w.heap.size w)
  have H : ((impl_ScaleWide.f a0_0 a0_1 a0_2 10).bind fun bt298 => (if bt298.2.2.2 = true then ((impl_within.f a1 0 9).bind fun t303 => (impl_TenTimes.j0 k a1 (!t303) a0_0 a0_1 a0_2 bt298.1 bt298.2.1 bt298.2.2.1)) else (impl_TenTimes.j0 k a1 true a0_0 a0_1 a0_2 bt298.1 bt298.2.1 bt298.2.2.1))) = some (r1, r2, r3, r4) := h
  clear h
  replace H := Option.bind_eq_some_iff.mp H
  obtain ⟨⟨t298, t299, t300, t301⟩, A30, H⟩ := H
  replace H : (if t301 = true then ((impl_within.f a1 0 9).bind fun t303 => (impl_TenTimes.j0 k a1 (!t303) a0_0 a0_1 a0_2 t298 t299 t300)) else (impl_TenTimes.j0 k a1 true a0_0 a0_1 a0_2 t298 t299 t300)) = some (r1, r2, r3, r4) := H
  have A3 := Aside0.mk A30
  clear A30
  have HC4 := Aside0.mk H
  clear H
  go_enter Tryd.func15, Tryd.ntmps15
  go_upto_region 2 with (first | ((with_reducible refine gate_dst (N := 2) rfl ?_); refine box_event ?hg (N := 2) ?hd (cs := #[.bool a0_0, .int .u64 a0_1, .int .u64 a0_2]) (t := 28) ?hr ?_; (case hd => rfl); (case hg => rfl); (case hr => first | (go_simp; done) | (go_simp; rfl)); intro gb296 hg w5 hbox hb; have n0_ := Aside0.mk (below_step bel_ hb); have n1_ := Aside0.mk (hbox); have n2_ := bs_ (w := w) hg; have n3_ := bs_ (w := w) hg; clear HB; have HB := n0_; have BK296 := n1_; have GW296 := n2_; have GE296 := n3_; clear n0_ n1_ n2_ n3_; clear hb hbox hg) | ((with_reducible refine gate_dst (N := 4) rfl ?_); refine box_event ?hg (N := 4) ?hd (cs := #[.bool false, .int .u64 0, .int .u64 0]) (t := 28) ?hr ?_; (case hd => rfl); (case hg => rfl); (case hr => first | (go_simp; done) | (go_simp; rfl)); intro gb297 hg w6 hbox hb; have n0_ := bb_ (g := gb296) hb; have n1_ := Aside0.mk (below_step bel_ hb); have n2_ := Aside0.mk (hbox); have n3_ := bs_ (w := w) hg; have n4_ := bs_ (w := w) hg; have n5_ := nlt_ (g := gb296) hg; have n6_ := ngt_ (g := gb296) hg; clear BK296; clear HB; have BK296 := n0_; have HB := n1_; have BK297 := n2_; have GW297 := n3_; have GE297 := n4_; have NB296_297 := n5_; have NB297_296 := n6_; clear n0_ n1_ n2_ n3_ n4_ n5_ n6_; clear hb hbox hg; have hnb7 := NB296_297.out; have hnc7 := NB297_296.out; obtain ⟨hcz8_0, hcz8_1, hcz8_2, hfz8_0, hfz8_1, hfz8_2⟩ := cf3_ (w := w6) BK296.out) | ((with_reducible refine gate_callee (f := 54) rfl ?_); refine goesL_ (some 10) rfl rfl Tryd.func54 (by kernel_rfl) rfl #[.agg #[.bool a0_0, .int .u64 a0_1, .int .u64 a0_2], .int .i64 10] rfl mp_ ?_; (with_reducible refine (impl_ScaleWide.calls a0_0 a0_1 a0_2 10 t298 t299 t300 t301 _ A3.out).mono ?_); rintro e w9 ⟨rfl, hb⟩; refine ⟨_, rfl, ?_⟩; have n0_ := bb_ (g := gb296) hb; have n1_ := bb_ (g := gb297) hb; have n2_ := Aside0.mk (below_step bel_ hb); clear BK296; clear BK297; clear HB; have BK296 := n0_; have BK297 := n1_; have HB := n2_; clear n0_ n1_ n2_; (try clear hb); (try clear hb2); (try clear hk); (try clear hi)) | ((with_reducible refine gate_dst (N := 6) rfl ?_); refine box_event ?hg (N := 6) ?hd (cs := #[.bool false, .int .u64 0, .int .u64 0]) (t := 28) ?hr ?_; (case hd => rfl); (case hg => rfl); (case hr => first | (go_simp; done) | (go_simp; rfl)); intro gb302 hg w10 hbox hb; have n0_ := bb_ (g := gb296) hb; have n1_ := bb_ (g := gb297) hb; have n2_ := Aside0.mk (below_step bel_ hb); have n3_ := Aside0.mk (hbox); have n4_ := bs_ (w := w) hg; have n5_ := bs_ (w := w) hg; have n6_ := nlt_ (g := gb296) hg; have n7_ := ngt_ (g := gb296) hg; have n8_ := nlt_ (g := gb297) hg; have n9_ := ngt_ (g := gb297) hg; clear BK296; clear BK297; clear HB; have BK296 := n0_; have BK297 := n1_; have HB := n2_; have BK302 := n3_; have GW302 := n4_; have GE302 := n5_; have NB296_302 := n6_; have NB302_296 := n7_; have NB297_302 := n8_; have NB302_297 := n9_; clear n0_ n1_ n2_ n3_ n4_ n5_ n6_ n7_ n8_ n9_; clear hb hbox hg; have hnb11 := NB302_296.out; have hnc11 := NB296_302.out; have hnb12 := NB302_297.out; have hnc12 := NB297_302.out; obtain ⟨hcz13_0, hcz13_1, hcz13_2, hfz13_0, hfz13_1, hfz13_2⟩ := cf3_ (w := w10) BK302.out))
  (try simp only [Act.put, la_, lb_, lc_])
  go_cut [19] (fun v19 wc => ∃ (kq : Nat) (x19_3 : Bool), v19 = .bool x19_3 ∧ Aside0 (impl_TenTimes.j0 kq a1 x19_3 a0_0 a0_1 a0_2 t298 t299 t300 = some (r1, r2, r3, r4)) ∧ Aside0 (kq ≤ k) ∧ Aside0 (wc.heap[gb296]? = some (.cells #[.bool a0_0, .int .u64 a0_1, .int .u64 a0_2] 28 (0, 0))) ∧ Aside0 (wc.heap[gb297]? = some (.cells #[.bool false, .int .u64 0, .int .u64 0] 28 (0, 0))) ∧ Aside0 (wc.heap[gb302]? = some (.cells #[.bool t298, .int .u64 t299, .int .u64 t300] 28 (0, 0))) ∧ Aside0 (Below w.heap.size w wc))
  case first =>
    have H := HC4.out
    clear HC4
    by_cases c14 : t301 = true
    · subst c14
      have H1 : ((impl_within.f a1 0 9).bind fun t303 => (impl_TenTimes.j0 k a1 (!t303) a0_0 a0_1 a0_2 t298 t299 t300)) = some (r1, r2, r3, r4) := by rw [if_pos rfl] at H; exact H
      clear H
      have H := H1
      clear H1
      replace H := Option.bind_eq_some_iff.mp H
      obtain ⟨t303, A150, H⟩ := H
      replace H : (impl_TenTimes.j0 k a1 (!t303) a0_0 a0_1 a0_2 t298 t299 t300) = some (r1, r2, r3, r4) := H
      have A15 := Aside0.mk A150
      clear A150
      have H' := Aside0.mk H
      clear H
      go_wp2_with (first | (go_at_call 55; (with_reducible refine (impl_within.calls a1 0 9 t303 _ A15.out).mono ?_); rintro e w' ⟨rfl, ⟨nd, rfl⟩⟩))
      go_meet
      case rel => exact ⟨_, (!t303), (by first | rfl | (simp; done) | (simp [*]; done)), H', ⟨by first | omega | exact Nat.le_refl _⟩, ⟨by (with_reducible repeat (first | refine bN_ _ ?_ | refine bd_ ?_ | refine ba_ _ ?_)); refine blk_far ?_ NB296_302.out _; (with_reducible repeat (first | refine bN_ _ ?_ | refine bd_ ?_ | refine ba_ _ ?_)); refine blk_far ?_ NB296_302.out _; (with_reducible repeat (first | refine bN_ _ ?_ | refine bd_ ?_ | refine ba_ _ ?_)); refine blk_far ?_ NB296_302.out _; (with_reducible repeat (first | refine bN_ _ ?_ | refine bd_ ?_ | refine ba_ _ ?_)); exact BK296.out⟩, ⟨by (with_reducible repeat (first | refine bN_ _ ?_ | refine bd_ ?_ | refine ba_ _ ?_)); refine blk_far ?_ NB297_302.out _; (with_reducible repeat (first | refine bN_ _ ?_ | refine bd_ ?_ | refine ba_ _ ?_)); refine blk_far ?_ NB297_302.out _; (with_reducible repeat (first | refine bN_ _ ?_ | refine bd_ ?_ | refine ba_ _ ?_)); refine blk_far ?_ NB297_302.out _; (with_reducible repeat (first | refine bN_ _ ?_ | refine bd_ ?_ | refine ba_ _ ?_)); exact BK297.out⟩, ⟨by (with_reducible repeat (first | refine bN_ _ ?_ | refine bd_ ?_ | refine ba_ _ ?_)); refine blk_put (cs := #[.bool t298, .int .u64 t299, .int .u64 0]) ?_ 2 _ rfl; (with_reducible repeat (first | refine bN_ _ ?_ | refine bd_ ?_ | refine ba_ _ ?_)); refine blk_put (cs := #[.bool t298, .int .u64 0, .int .u64 0]) ?_ 1 _ rfl; (with_reducible repeat (first | refine bN_ _ ?_ | refine bd_ ?_ | refine ba_ _ ?_)); refine blk_put (cs := #[.bool false, .int .u64 0, .int .u64 0]) ?_ 0 _ rfl; (with_reducible repeat (first | refine bN_ _ ?_ | refine bd_ ?_ | refine ba_ _ ?_)); exact BK302.out⟩, ⟨bel_⟩⟩
    · replace c14 := Bool.eq_false_iff.mpr c14
      subst c14
      have H1 : (impl_TenTimes.j0 k a1 true a0_0 a0_1 a0_2 t298 t299 t300) = some (r1, r2, r3, r4) := by rw [if_neg (show ¬ (false = true) by decide)] at H; exact H
      clear H
      have H := H1
      clear H1
      have H' := Aside0.mk H
      clear H
      go_wp2
      go_meet
      case rel => exact ⟨_, (true), (by first | rfl | (simp; done) | (simp [*]; done)), H', ⟨by first | omega | exact Nat.le_refl _⟩, ⟨by (with_reducible repeat (first | refine bN_ _ ?_ | refine bd_ ?_ | refine ba_ _ ?_)); refine blk_far ?_ NB296_302.out _; (with_reducible repeat (first | refine bN_ _ ?_ | refine bd_ ?_ | refine ba_ _ ?_)); refine blk_far ?_ NB296_302.out _; (with_reducible repeat (first | refine bN_ _ ?_ | refine bd_ ?_ | refine ba_ _ ?_)); refine blk_far ?_ NB296_302.out _; (with_reducible repeat (first | refine bN_ _ ?_ | refine bd_ ?_ | refine ba_ _ ?_)); exact BK296.out⟩, ⟨by (with_reducible repeat (first | refine bN_ _ ?_ | refine bd_ ?_ | refine ba_ _ ?_)); refine blk_far ?_ NB297_302.out _; (with_reducible repeat (first | refine bN_ _ ?_ | refine bd_ ?_ | refine ba_ _ ?_)); refine blk_far ?_ NB297_302.out _; (with_reducible repeat (first | refine bN_ _ ?_ | refine bd_ ?_ | refine ba_ _ ?_)); refine blk_far ?_ NB297_302.out _; (with_reducible repeat (first | refine bN_ _ ?_ | refine bd_ ?_ | refine ba_ _ ?_)); exact BK297.out⟩, ⟨by (with_reducible repeat (first | refine bN_ _ ?_ | refine bd_ ?_ | refine ba_ _ ?_)); refine blk_put (cs := #[.bool t298, .int .u64 t299, .int .u64 0]) ?_ 2 _ rfl; (with_reducible repeat (first | refine bN_ _ ?_ | refine bd_ ?_ | refine ba_ _ ?_)); refine blk_put (cs := #[.bool t298, .int .u64 0, .int .u64 0]) ?_ 1 _ rfl; (with_reducible repeat (first | refine bN_ _ ?_ | refine bd_ ?_ | refine ba_ _ ?_)); refine blk_put (cs := #[.bool false, .int .u64 0, .int .u64 0]) ?_ 0 _ rfl; (with_reducible repeat (first | refine bN_ _ ?_ | refine bd_ ?_ | refine ba_ _ ?_)); exact BK302.out⟩, ⟨bel_⟩⟩
  case rest =>
    clear HC4
    try clear c1
    try clear p2
    try clear c5
    try clear c7
    try clear c11
    try clear c12
    try clear c14
    try clear c15
    try clear hcz13_0
    try clear hcz13_1
    try clear hcz13_2
    try clear hcz8_0
    try clear hcz8_1
    try clear hcz8_2
    try clear hfz13_0
    try clear hfz13_1
    try clear hfz13_2
    try clear hfz8_0
    try clear hfz8_1
    try clear hfz8_2
    obtain ⟨kq, x19_3, rfl, HA, HJ3, BK296, BK297, BK302, HB⟩ := hcut
    cases kq with
    | zero => exact absurd HA.out (by simp [impl_TenTimes.j0])
    | succ kj3 =>
      have H := HA.out
      clear HA
      simp only [impl_TenTimes.j0] at H
      by_cases c16 : x19_3 = true
      · subst c16
        have H1 : (some (false, 0, 0, false)) = some (r1, r2, r3, r4) := by rw [if_pos rfl] at H; exact H
        clear H
        have H := H1
        clear H1
        simp only [Option.some.injEq, Prod.mk.injEq] at H
        obtain ⟨rfl, rfl, rfl, rfl⟩ := H
        have hnb17 := NB297_296.out
        have hnc17 := NB296_297.out
        have hnb18 := NB297_302.out
        have hnc18 := NB302_297.out
        obtain ⟨hcz19_0, hcz19_1, hcz19_2, hfz19_0, hfz19_1, hfz19_2⟩ := cf3_ (w := wc) BK297.out
        go_wp2
        refine bodyPost_ret (results_ct rfl _ _ gb297 28 #[.bool false, .int .u64 0, .int .u64 0] (0, 0) _ rfl (pu_ #[.bool false, .int .u64 0, .int .u64 0] 2 (h := (pu_ #[.bool false, .int .u64 0, .int .u64 0] 1 (h := (pu_ #[.bool false, .int .u64 0, .int .u64 0] 0 (h := bk_)))))) Tryd.underlying28 rfl (by kernel_rfl)) rfl ?_
        exact ⟨rf_, bel_⟩
      · replace c16 := Bool.eq_false_iff.mpr c16
        subst c16
        have H1 : (if a0_0 = true then ((impl_WideOf.f (wrap64 (-a1))).bind fun bt304 => ((impl_AddWide.f kj3 t298 t299 t300 bt304.1 bt304.2.1 bt304.2.2).bind fun bt307 => (some (bt307.1, bt307.2.1, bt307.2.2.1, bt307.2.2.2)))) else ((impl_WideOf.f a1).bind fun bt311 => ((impl_AddWide.f kj3 t298 t299 t300 bt311.1 bt311.2.1 bt311.2.2).bind fun bt314 => (some (bt314.1, bt314.2.1, bt314.2.2.1, bt314.2.2.2))))) = some (r1, r2, r3, r4) := by rw [if_neg (show ¬ (false = true) by decide)] at H; exact H
        clear H
        have H := H1
        clear H1
        by_cases c20 : a0_0 = true
        · subst c20
          have H1 : ((impl_WideOf.f (wrap64 (-a1))).bind fun bt304 => ((impl_AddWide.f kj3 t298 t299 t300 bt304.1 bt304.2.1 bt304.2.2).bind fun bt307 => (some (bt307.1, bt307.2.1, bt307.2.2.1, bt307.2.2.2)))) = some (r1, r2, r3, r4) := by rw [if_pos rfl] at H; exact H
          clear H
          have H := H1
          clear H1
          replace H := Option.bind_eq_some_iff.mp H
          obtain ⟨⟨t304, t305, t306⟩, A210, H⟩ := H
          replace H : ((impl_AddWide.f kj3 t298 t299 t300 t304 t305 t306).bind fun bt307 => (some (bt307.1, bt307.2.1, bt307.2.2.1, bt307.2.2.2))) = some (r1, r2, r3, r4) := H
          have A21 := Aside0.mk A210
          clear A210
          replace H := Option.bind_eq_some_iff.mp H
          obtain ⟨⟨t307, t308, t309, t310⟩, A220, H⟩ := H
          replace H : (some (t307, t308, t309, t310)) = some (r1, r2, r3, r4) := H
          have A22 := Aside0.mk A220
          clear A220
          simp only [Option.some.injEq, Prod.mk.injEq] at H
          obtain ⟨rfl, rfl, rfl, rfl⟩ := H
          have hnb23 := NB296_297.out
          have hnc23 := NB297_296.out
          have hnb24 := NB296_302.out
          have hnc24 := NB302_296.out
          obtain ⟨hcz25_0, hcz25_1, hcz25_2, hfz25_0, hfz25_1, hfz25_2⟩ := cf3_ (w := wc) BK296.out
          try go_wp2
          have n0_ := Aside0.mk (blk_drew BK296.out)
          have n1_ := Aside0.mk (blk_drew BK297.out)
          have n2_ := Aside0.mk (blk_drew BK302.out)
          have n3_ := Aside0.mk (below_drew1 HB.out)
          clear BK296
          clear BK297
          clear BK302
          clear HB
          have BK296 := n0_
          have BK297 := n1_
          have BK302 := n2_
          have HB := n3_
          clear n0_ n1_ n2_ n3_
          refine start_ (n := 8) (S := fun w' => w'.cell? ⟨gb302, 0, none⟩ = some (.bool t298) ∧ w'.cell? ⟨gb302, 1, none⟩ = some (.int .u64 t299) ∧ w'.cell? ⟨gb302, 2, none⟩ = some (.int .u64 t300)) (ds := []) #[false, false, false, false, false, false, false, false] (by kernel_rfl) rfl rfl ⟨bc_, bc_, bc_⟩ (fun hHeld => ?_); refine with_tabW impl_TenTimes.tab6 impl_TenTimes.bits6 (fun HT_ HW_ => ?_)
          generalize wc.drew = w26 at BK296 BK297 BK302 HB hHeld ⊢
          refine pure_ (i := 1) (N := some 26) (v := ?_) (a' := ?_) #[false, true, false, false, false, false, false, false] rfl rfl (any_of HT_.out (by kernel_rfl)) (fun _ _ _ h => h) (Or.inl ⟨by rfl, ?_⟩) ?_ ?_
          rotate_left
          · intro w'
            go_simp
            with_reducible rfl
          rotate_left
          · simp only [Act.put, la_, lb_, lc_, i64_w, i32_w]
            rfl
          refine take_ (i := 0) (N := some 25) (v := ?_) (a' := ?_) #[true, true, false, false, false, false, false, false] rfl rfl (take_ofW HT_.out HW_.out (by kernel_rfl)) (fun _ _ _ h => h) (Or.inl ⟨by rfl, ?_⟩) hHeld ?_ ?_
          rotate_left
          · rintro w' ⟨s0, s1, s2⟩
            go_simp
            with_reducible rfl
          rotate_left
          · simp only [Act.put, la_, lb_, lc_, i64_w, i32_w]
            rfl
          refine one_ (i := 2) (N := some 27) #[true, true, true, false, false, false, false, false] rfl rfl (one_of HT_.out (by kernel_rfl)) (by decide) (fun K hK => ?_)
          refine goes_ Tryd.func12 (by kernel_rfl) rfl #[.int .i64 (wrap64 (-a1))] (by rfl) rfl rfl mp_ ?_
          with_reducible refine (impl_WideOf.calls (wrap64 (-a1)) t304 t305 t306 _ A21.out).mono ?_
          rintro e w27 ⟨rfl, hb⟩
          refine ⟨_, rfl, ?_⟩
          have n0_ := bb_ (g := gb296) hb
          have n1_ := bb_ (g := gb297) hb
          have n2_ := bb_ (g := gb302) hb
          have n3_ := Aside0.mk (below_step bel_ hb)
          clear BK296
          clear BK297
          clear BK302
          clear HB
          have BK296 := n0_
          have BK297 := n1_
          have BK302 := n2_
          have HB := n3_
          clear n0_ n1_ n2_ n3_
          (try clear hb)
          (try clear hb2)
          (try clear hk)
          (try clear hi)
          refine hK.out _ _ ⟨bc_, bc_, bc_⟩ (fun hHeld => ?_)
          clear hK K
          refine norm_ (a' := ?_) ?_ ?_
          rotate_left
          · show Act.put _ (some 27) _ = _
            simp only [Act.put, la_, lb_, lc_, i64_w, i32_w]
            rfl
          refine one_ (i := 3) (N := some 28) #[true, true, true, true, false, false, false, false] rfl rfl (one_of HT_.out (by kernel_rfl)) (by decide) (fun K hK => ?_)
          refine goes_ Tryd.func56 (by kernel_rfl) rfl #[.agg #[.bool t298, .int .u64 t299, .int .u64 t300], .agg #[.bool t304, .int .u64 t305, .int .u64 t306]] (by rfl) rfl rfl mp_ ?_
          with_reducible refine (impl_AddWide.calls kj3 t298 t299 t300 t304 t305 t306 t307 t308 t309 t310 _ A22.out).mono ?_
          rintro e w28 ⟨rfl, hb⟩
          refine ⟨_, rfl, ?_⟩
          have n0_ := bb_ (g := gb296) hb
          have n1_ := bb_ (g := gb297) hb
          have n2_ := bb_ (g := gb302) hb
          have n3_ := Aside0.mk (below_step bel_ hb)
          clear BK296
          clear BK297
          clear BK302
          clear HB
          have BK296 := n0_
          have BK297 := n1_
          have BK302 := n2_
          have HB := n3_
          clear n0_ n1_ n2_ n3_
          (try clear hb)
          (try clear hb2)
          (try clear hk)
          (try clear hi)
          refine hK.out _ _ ⟨bc_, bc_, bc_⟩ (fun hHeld => ?_)
          clear hK K
          refine norm_ (a' := ?_) ?_ ?_
          rotate_left
          · show Act.put _ (some 28) _ = _
            simp only [Act.put, la_, lb_, lc_, i64_w, i32_w]
            rfl
          refine pure_ (i := 4) (N := some 29) (v := ?_) (a' := ?_) #[true, true, true, true, true, false, false, false] rfl rfl (any_of HT_.out (by kernel_rfl)) (fun _ _ _ h => h) (Or.inl ⟨by rfl, ?_⟩) ?_ ?_
          rotate_left
          · intro w'
            go_simp
            with_reducible rfl
          rotate_left
          · simp only [Act.put, la_, lb_, lc_, i64_w, i32_w]
            rfl
          refine pure_ (i := 5) (N := some 30) (v := ?_) (a' := ?_) #[true, true, true, true, true, true, false, false] rfl rfl (any_of HT_.out (by kernel_rfl)) (fun _ _ _ h => h) (Or.inl ⟨by rfl, ?_⟩) ?_ ?_
          rotate_left
          · intro w'
            go_simp
            with_reducible rfl
          rotate_left
          · simp only [Act.put, la_, lb_, lc_, i64_w, i32_w]
            rfl
          refine one_ (i := 6) (N := none) #[true, true, true, true, true, true, true, false] rfl rfl (one_of HT_.out (by kernel_rfl)) (by decide) (fun K hK => ?_)
          have hs29 : w28.cell? ⟨gb297, 0, none⟩ = some (.bool false) := (blk_cell BK297.out 0).trans rfl
          have hfs29 := blk_frozen BK297.out 0
          have hns29_0 := NB296_297.out
          have hns29_2 := NB302_297.out
          have hms29_0 := NB297_296.out
          have hms29_2 := NB297_302.out
          have hs30 : w28.cell? ⟨gb297, 1, none⟩ = some (.int .u64 0) := (blk_cell BK297.out 1).trans rfl
          have hfs30 := blk_frozen BK297.out 1
          have hns30_0 := NB296_297.out
          have hns30_2 := NB302_297.out
          have hms30_0 := NB297_296.out
          have hms30_2 := NB297_302.out
          have hs31 : w28.cell? ⟨gb297, 2, none⟩ = some (.int .u64 0) := (blk_cell BK297.out 2).trans rfl
          have hfs31 := blk_frozen BK297.out 2
          have hns31_0 := NB296_297.out
          have hns31_2 := NB302_297.out
          have hms31_0 := NB297_296.out
          have hms31_2 := NB297_302.out
          refine skip_ (w1 := ?_) ?_ ?_ ?_ ?_
          rotate_left
          · rfl
          · rfl
          · go_simp
            rfl
          refine hK.out _ _ ⟨(cfar_ hHeld.1), (cfar_ hHeld.2.1), (cfar_ hHeld.2.2)⟩ (fun hHeld => ?_)
          clear hK K
          refine pure_ (i := 7) (N := some 5) (v := ?_) (a' := ?_) #[true, true, true, true, true, true, true, true] rfl rfl (any_of HT_.out (by kernel_rfl)) (fun _ _ _ h => h) (Or.inl ⟨by rfl, ?_⟩) ?_ ?_
          rotate_left
          · intro w'
            go_simp
            with_reducible rfl
          rotate_left
          · simp only [Act.put, la_, lb_, lc_, i64_w, i32_w]
            rfl
          refine done_ (done_of HT_.out (by kernel_rfl)) ?_
          try go_wp2
          refine bodyPost_ret (results_ct rfl _ _ gb297 28 #[.bool t307, .int .u64 t308, .int .u64 t309] (0, 0) _ rfl (pu_ #[.bool t307, .int .u64 t308, .int .u64 0] 2 (h := (pu_ #[.bool t307, .int .u64 0, .int .u64 0] 1 (h := (pu_ #[.bool false, .int .u64 0, .int .u64 0] 0 (h := bk_)))))) Tryd.underlying28 rfl (by kernel_rfl)) rfl ?_
          exact ⟨rf_, bel_⟩
        · replace c20 := Bool.eq_false_iff.mpr c20
          subst c20
          have H1 : ((impl_WideOf.f a1).bind fun bt311 => ((impl_AddWide.f kj3 t298 t299 t300 bt311.1 bt311.2.1 bt311.2.2).bind fun bt314 => (some (bt314.1, bt314.2.1, bt314.2.2.1, bt314.2.2.2)))) = some (r1, r2, r3, r4) := by rw [if_neg (show ¬ (false = true) by decide)] at H; exact H
          clear H
          have H := H1
          clear H1
          replace H := Option.bind_eq_some_iff.mp H
          obtain ⟨⟨t311, t312, t313⟩, A320, H⟩ := H
          replace H : ((impl_AddWide.f kj3 t298 t299 t300 t311 t312 t313).bind fun bt314 => (some (bt314.1, bt314.2.1, bt314.2.2.1, bt314.2.2.2))) = some (r1, r2, r3, r4) := H
          have A32 := Aside0.mk A320
          clear A320
          replace H := Option.bind_eq_some_iff.mp H
          obtain ⟨⟨t314, t315, t316, t317⟩, A330, H⟩ := H
          replace H : (some (t314, t315, t316, t317)) = some (r1, r2, r3, r4) := H
          have A33 := Aside0.mk A330
          clear A330
          simp only [Option.some.injEq, Prod.mk.injEq] at H
          obtain ⟨rfl, rfl, rfl, rfl⟩ := H
          have hnb34 := NB296_297.out
          have hnc34 := NB297_296.out
          have hnb35 := NB296_302.out
          have hnc35 := NB302_296.out
          obtain ⟨hcz36_0, hcz36_1, hcz36_2, hfz36_0, hfz36_1, hfz36_2⟩ := cf3_ (w := wc) BK296.out
          try go_wp2
          have n0_ := Aside0.mk (blk_drew BK296.out)
          have n1_ := Aside0.mk (blk_drew BK297.out)
          have n2_ := Aside0.mk (blk_drew BK302.out)
          have n3_ := Aside0.mk (below_drew1 HB.out)
          clear BK296
          clear BK297
          clear BK302
          clear HB
          have BK296 := n0_
          have BK297 := n1_
          have BK302 := n2_
          have HB := n3_
          clear n0_ n1_ n2_ n3_
          refine start_ (n := 8) (S := fun w' => w'.cell? ⟨gb302, 0, none⟩ = some (.bool t298) ∧ w'.cell? ⟨gb302, 1, none⟩ = some (.int .u64 t299) ∧ w'.cell? ⟨gb302, 2, none⟩ = some (.int .u64 t300)) (ds := []) #[false, false, false, false, false, false, false, false] (by kernel_rfl) rfl rfl ⟨bc_, bc_, bc_⟩ (fun hHeld => ?_); refine with_tabW impl_TenTimes.tab6 impl_TenTimes.bits6 (fun HT_ HW_ => ?_)
          generalize wc.drew = w37 at BK296 BK297 BK302 HB hHeld ⊢
          refine pure_ (i := 1) (N := some 26) (v := ?_) (a' := ?_) #[false, true, false, false, false, false, false, false] rfl rfl (any_of HT_.out (by kernel_rfl)) (fun _ _ _ h => h) (Or.inl ⟨by rfl, ?_⟩) ?_ ?_
          rotate_left
          · intro w'
            go_simp
            with_reducible rfl
          rotate_left
          · simp only [Act.put, la_, lb_, lc_, i64_w, i32_w]
            rfl
          refine take_ (i := 0) (N := some 25) (v := ?_) (a' := ?_) #[true, true, false, false, false, false, false, false] rfl rfl (take_ofW HT_.out HW_.out (by kernel_rfl)) (fun _ _ _ h => h) (Or.inl ⟨by rfl, ?_⟩) hHeld ?_ ?_
          rotate_left
          · rintro w' ⟨s0, s1, s2⟩
            go_simp
            with_reducible rfl
          rotate_left
          · simp only [Act.put, la_, lb_, lc_, i64_w, i32_w]
            rfl
          refine one_ (i := 2) (N := some 27) #[true, true, true, false, false, false, false, false] rfl rfl (one_of HT_.out (by kernel_rfl)) (by decide) (fun K hK => ?_)
          refine goes_ Tryd.func12 (by kernel_rfl) rfl #[.int .i64 a1] (by rfl) rfl rfl mp_ ?_
          with_reducible refine (impl_WideOf.calls a1 t311 t312 t313 _ A32.out).mono ?_
          rintro e w38 ⟨rfl, hb⟩
          refine ⟨_, rfl, ?_⟩
          have n0_ := bb_ (g := gb296) hb
          have n1_ := bb_ (g := gb297) hb
          have n2_ := bb_ (g := gb302) hb
          have n3_ := Aside0.mk (below_step bel_ hb)
          clear BK296
          clear BK297
          clear BK302
          clear HB
          have BK296 := n0_
          have BK297 := n1_
          have BK302 := n2_
          have HB := n3_
          clear n0_ n1_ n2_ n3_
          (try clear hb)
          (try clear hb2)
          (try clear hk)
          (try clear hi)
          refine hK.out _ _ ⟨bc_, bc_, bc_⟩ (fun hHeld => ?_)
          clear hK K
          refine norm_ (a' := ?_) ?_ ?_
          rotate_left
          · show Act.put _ (some 27) _ = _
            simp only [Act.put, la_, lb_, lc_, i64_w, i32_w]
            rfl
          refine one_ (i := 3) (N := some 28) #[true, true, true, true, false, false, false, false] rfl rfl (one_of HT_.out (by kernel_rfl)) (by decide) (fun K hK => ?_)
          refine goes_ Tryd.func56 (by kernel_rfl) rfl #[.agg #[.bool t298, .int .u64 t299, .int .u64 t300], .agg #[.bool t311, .int .u64 t312, .int .u64 t313]] (by rfl) rfl rfl mp_ ?_
          with_reducible refine (impl_AddWide.calls kj3 t298 t299 t300 t311 t312 t313 t314 t315 t316 t317 _ A33.out).mono ?_
          rintro e w39 ⟨rfl, hb⟩
          refine ⟨_, rfl, ?_⟩
          have n0_ := bb_ (g := gb296) hb
          have n1_ := bb_ (g := gb297) hb
          have n2_ := bb_ (g := gb302) hb
          have n3_ := Aside0.mk (below_step bel_ hb)
          clear BK296
          clear BK297
          clear BK302
          clear HB
          have BK296 := n0_
          have BK297 := n1_
          have BK302 := n2_
          have HB := n3_
          clear n0_ n1_ n2_ n3_
          (try clear hb)
          (try clear hb2)
          (try clear hk)
          (try clear hi)
          refine hK.out _ _ ⟨bc_, bc_, bc_⟩ (fun hHeld => ?_)
          clear hK K
          refine norm_ (a' := ?_) ?_ ?_
          rotate_left
          · show Act.put _ (some 28) _ = _
            simp only [Act.put, la_, lb_, lc_, i64_w, i32_w]
            rfl
          refine pure_ (i := 4) (N := some 29) (v := ?_) (a' := ?_) #[true, true, true, true, true, false, false, false] rfl rfl (any_of HT_.out (by kernel_rfl)) (fun _ _ _ h => h) (Or.inl ⟨by rfl, ?_⟩) ?_ ?_
          rotate_left
          · intro w'
            go_simp
            with_reducible rfl
          rotate_left
          · simp only [Act.put, la_, lb_, lc_, i64_w, i32_w]
            rfl
          refine pure_ (i := 5) (N := some 30) (v := ?_) (a' := ?_) #[true, true, true, true, true, true, false, false] rfl rfl (any_of HT_.out (by kernel_rfl)) (fun _ _ _ h => h) (Or.inl ⟨by rfl, ?_⟩) ?_ ?_
          rotate_left
          · intro w'
            go_simp
            with_reducible rfl
          rotate_left
          · simp only [Act.put, la_, lb_, lc_, i64_w, i32_w]
            rfl
          refine one_ (i := 6) (N := none) #[true, true, true, true, true, true, true, false] rfl rfl (one_of HT_.out (by kernel_rfl)) (by decide) (fun K hK => ?_)
          have hs40 : w39.cell? ⟨gb297, 0, none⟩ = some (.bool false) := (blk_cell BK297.out 0).trans rfl
          have hfs40 := blk_frozen BK297.out 0
          have hns40_0 := NB296_297.out
          have hns40_2 := NB302_297.out
          have hms40_0 := NB297_296.out
          have hms40_2 := NB297_302.out
          have hs41 : w39.cell? ⟨gb297, 1, none⟩ = some (.int .u64 0) := (blk_cell BK297.out 1).trans rfl
          have hfs41 := blk_frozen BK297.out 1
          have hns41_0 := NB296_297.out
          have hns41_2 := NB302_297.out
          have hms41_0 := NB297_296.out
          have hms41_2 := NB297_302.out
          have hs42 : w39.cell? ⟨gb297, 2, none⟩ = some (.int .u64 0) := (blk_cell BK297.out 2).trans rfl
          have hfs42 := blk_frozen BK297.out 2
          have hns42_0 := NB296_297.out
          have hns42_2 := NB302_297.out
          have hms42_0 := NB297_296.out
          have hms42_2 := NB297_302.out
          refine skip_ (w1 := ?_) ?_ ?_ ?_ ?_
          rotate_left
          · rfl
          · rfl
          · go_simp
            rfl
          refine hK.out _ _ ⟨(cfar_ hHeld.1), (cfar_ hHeld.2.1), (cfar_ hHeld.2.2)⟩ (fun hHeld => ?_)
          clear hK K
          refine pure_ (i := 7) (N := some 5) (v := ?_) (a' := ?_) #[true, true, true, true, true, true, true, true] rfl rfl (any_of HT_.out (by kernel_rfl)) (fun _ _ _ h => h) (Or.inl ⟨by rfl, ?_⟩) ?_ ?_
          rotate_left
          · intro w'
            go_simp
            with_reducible rfl
          rotate_left
          · simp only [Act.put, la_, lb_, lc_, i64_w, i32_w]
            rfl
          refine done_ (done_of HT_.out (by kernel_rfl)) ?_
          try go_wp2
          refine bodyPost_ret (results_ct rfl _ _ gb297 28 #[.bool t314, .int .u64 t315, .int .u64 t316] (0, 0) _ rfl (pu_ #[.bool t314, .int .u64 t315, .int .u64 0] 2 (h := (pu_ #[.bool t314, .int .u64 0, .int .u64 0] 1 (h := (pu_ #[.bool false, .int .u64 0, .int .u64 0] 0 (h := bk_)))))) Tryd.underlying28 rfl (by kernel_rfl)) rfl ?_
          exact ⟨rf_, bel_⟩

/-! ### stringslite_CutPrefix: function 101 -/
def stringslite_CutPrefix.f (a0 : ByteArray) (a1 : ByteArray) : Option (ByteArray × Bool) := (stringslite_HasPrefix.f a0 a1).bind fun t318 => (if t318 = true then (if 0 ≤ (a1.size : Int) then (if (a1.size : Int) ≤ (a0.size : Int) then (some (a0.extract ((a1.size : Int) : Int).toNat a0.size, true)) else (none)) else (none)) else (some (a0, false)))
set_option maxHeartbeats 8000000 in
set_option maxRecDepth 100000 in
theorem stringslite_CutPrefix.calls (a0 : ByteArray) (a1 : ByteArray) (r1 : ByteArray) (r2 : Bool) (w : World) (h : stringslite_CutPrefix.f a0 a1 = some (r1, r2)) :
    Calls Tryd.prog 101 #[.string a0, .string a1] w fun e w' => e = .returned (.tuple #[.string r1, .bool r2]) ∧ Drawn0 w w' := by
  have H : ((stringslite_HasPrefix.f a0 a1).bind fun t318 => (if t318 = true then (if 0 ≤ (a1.size : Int) then (if (a1.size : Int) ≤ (a0.size : Int) then (some (a0.extract ((a1.size : Int) : Int).toNat a0.size, true)) else (none)) else (none)) else (some (a0, false)))) = some (r1, r2) := h
  clear h
  replace H := Option.bind_eq_some_iff.mp H
  obtain ⟨t318, A30, H⟩ := H
  replace H : (if t318 = true then (if 0 ≤ (a1.size : Int) then (if (a1.size : Int) ≤ (a0.size : Int) then (some (a0.extract ((a1.size : Int) : Int).toNat a0.size, true)) else (none)) else (none)) else (some (a0, false))) = some (r1, r2) := H
  have A3 := Aside0.mk A30
  clear A30
  by_cases c4 : t318 = true
  · subst c4
    have H1 : (if 0 ≤ (a1.size : Int) then (if (a1.size : Int) ≤ (a0.size : Int) then (some (a0.extract ((a1.size : Int) : Int).toNat a0.size, true)) else (none)) else (none)) = some (r1, r2) := by rw [if_pos rfl] at H; exact H
    clear H
    have H := H1
    clear H1
    by_cases c5 : 0 ≤ (a1.size : Int)
    · rw [if_pos c5] at H
      have c5b0 := eq_true c5
      have c5b1 : decide (0 ≤ (a1.size : Int)) = true := decide_eq_true c5
      clear c5
      by_cases c6 : (a1.size : Int) ≤ (a0.size : Int)
      · rw [if_pos c6] at H
        have c6b0 := eq_true c6
        have c6b1 : decide ((a1.size : Int) ≤ (a0.size : Int)) = true := decide_eq_true c6
        clear c6
        simp only [Option.some.injEq, Prod.mk.injEq] at H
        obtain ⟨rfl, rfl⟩ := H
        go_enter Tryd.func101, Tryd.ntmps101
        go_wp2_with (first | ((with_reducible refine gate_callee (f := 119) rfl ?_); refine goesL_ (some 8) rfl rfl Tryd.func119 (by kernel_rfl) rfl #[.string a0, .string a1] rfl mp_ ?_; (with_reducible refine (stringslite_HasPrefix.calls a0 a1 true _ A3.out).mono ?_); rintro e w' ⟨rfl, ⟨nd, rfl⟩⟩; refine ⟨_, rfl, ?_⟩))
        go_ret2
        exact ⟨by first | rfl | (simp; done) | (simp [*]; done), by repeat (first | exact Drawn0.refl _ | apply Drawn0.step)⟩
      · rw [if_neg c6] at H
        exact absurd H (by simp)
    · rw [if_neg c5] at H
      exact absurd H (by simp)
  · replace c4 := Bool.eq_false_iff.mpr c4
    subst c4
    have H1 : (some (a0, false)) = some (r1, r2) := by rw [if_neg (show ¬ (false = true) by decide)] at H; exact H
    clear H
    have H := H1
    clear H1
    simp only [Option.some.injEq, Prod.mk.injEq] at H
    obtain ⟨rfl, rfl⟩ := H
    go_enter Tryd.func101, Tryd.ntmps101
    go_wp2_with (first | ((with_reducible refine gate_callee (f := 119) rfl ?_); refine goesL_ (some 8) rfl rfl Tryd.func119 (by kernel_rfl) rfl #[.string a0, .string a1] rfl mp_ ?_; (with_reducible refine (stringslite_HasPrefix.calls a0 a1 false _ A3.out).mono ?_); rintro e w' ⟨rfl, ⟨nd, rfl⟩⟩; refine ⟨_, rfl, ?_⟩))
    go_ret2
    exact ⟨by first | rfl | (simp; done) | (simp [*]; done), by repeat (first | exact Drawn0.refl _ | apply Drawn0.step)⟩

end Go.Proofs.YtkpgpifkbdpnkaaDoor.PFnWideText
