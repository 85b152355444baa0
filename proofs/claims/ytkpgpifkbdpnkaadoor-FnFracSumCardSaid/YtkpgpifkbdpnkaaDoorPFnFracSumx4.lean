/- Contracts of Go functions, each with the Lean function that says what it computes: begun by the print, turned by this session. No condition beyond what each theorem states. -/
import Derived.Test.YtkpgpifkbdpnkaaDoorPFnFracSumx0
import Derived.Test.YtkpgpifkbdpnkaaDoorPFnFracSumx2
import Derived.Test.YtkpgpifkbdpnkaaDoorPFnFracSumx3
namespace Go.Proofs.YtkpgpifkbdpnkaaDoor.PFnFracSum
open Go.RowKit Go.Proofs.YtkpgpifkbdpnkaaDoorVFnFracSum.PrintWords Go.Proofs.YtkpgpifkbdpnkaaDoorVFnFracSum.PrintLast Go.Proofs.YtkpgpifkbdpnkaaDoorVFnFracSum.PrintMore
attribute [local go_sem] max2_int min2_int max_two min_two max_three min_three max_four min_four   -- for this text's walks alone
set_option linter.unusedVariables false
set_option linter.unusedSimpArgs false
/-! ### spec_AddWide: function 59 -/
mutual
def spec_AddWide.j0 : Nat → Bool → Bool → Int → Int → Bool → Int → Int → Option (Bool × Int × Int × Bool)
 | 0, _, _, _, _, _, _, _ => none
 | k + 1, x17, x137000, x137001, x137002, x138000, x138001, x138002 => if x17 = true then (some (false, 0, 0, false)) else (if (x137000 == x138000) = true then (if (IntKind.u64.wrap (x137002 + x138002)) < x137002 then ((spec_WideOk.f x137000 (IntKind.u64.wrap ((IntKind.u64.wrap (x137001 + x138001)) + 1)) (IntKind.u64.wrap (x137002 + x138002))).bind fun t142 => (if t142 = true then (some (x137000, IntKind.u64.wrap ((IntKind.u64.wrap (x137001 + x138001)) + 1), IntKind.u64.wrap (x137002 + x138002), true)) else (some (false, 0, 0, false)))) else ((spec_WideOk.f x137000 (IntKind.u64.wrap (x137001 + x138001)) (IntKind.u64.wrap (x137002 + x138002))).bind fun t143 => (if t143 = true then (some (x137000, IntKind.u64.wrap (x137001 + x138001), IntKind.u64.wrap (x137002 + x138002), true)) else (some (false, 0, 0, false))))) else ((spec_l3Order.f k x137000 x137001 x137002 x138000 x138001 x138002).bind fun t146 => (if t146 < 0 then (spec_AddWide.j1 k x138000 x138001 x138002 x137000 x137001 x137002) else (spec_AddWide.j1 k x137000 x137001 x137002 x138000 x138001 x138002))))
def spec_AddWide.j1 : Nat → Bool → Int → Int → Bool → Int → Int → Option (Bool × Int × Int × Bool)
 | 0, _, _, _, _, _, _ => none
 | k + 1, x145000, x145001, x145002, x146000, x146001, x146002 => if x145002 < x146002 then ((spec_l3Zero.f x145000 (IntKind.u64.wrap ((IntKind.u64.wrap (x145001 - x146001)) - 1)) (IntKind.u64.wrap (x145002 - x146002))).bind fun t148 => (if t148 = true then (some (false, IntKind.u64.wrap ((IntKind.u64.wrap (x145001 - x146001)) - 1), IntKind.u64.wrap (x145002 - x146002), true)) else (some (x145000, IntKind.u64.wrap ((IntKind.u64.wrap (x145001 - x146001)) - 1), IntKind.u64.wrap (x145002 - x146002), true)))) else ((spec_l3Zero.f x145000 (IntKind.u64.wrap (x145001 - x146001)) (IntKind.u64.wrap (x145002 - x146002))).bind fun t149 => (if t149 = true then (some (false, IntKind.u64.wrap (x145001 - x146001), IntKind.u64.wrap (x145002 - x146002), true)) else (some (x145000, IntKind.u64.wrap (x145001 - x146001), IntKind.u64.wrap (x145002 - x146002), true))))
end
def spec_AddWide.f (k : Nat) (a0_0 : Bool) (a0_1 : Int) (a0_2 : Int) (a1_0 : Bool) (a1_1 : Int) (a1_2 : Int) : Option (Bool × Int × Int × Bool) := (spec_WideOk.f a0_0 a0_1 a0_2).bind fun t139 => (if t139 = true then ((spec_WideOk.f a1_0 a1_1 a1_2).bind fun t140 => (spec_AddWide.j0 k (!t140) a0_0 a0_1 a0_2 a1_0 a1_1 a1_2)) else (spec_AddWide.j0 k true a0_0 a0_1 a0_2 a1_0 a1_1 a1_2))
theorem spec_AddWide.mono_l : ∀ k, (∀ y0 y1 y2 y3 y4 y5 y6, LeO (spec_AddWide.j0 k y0 y1 y2 y3 y4 y5 y6) (spec_AddWide.j0 (k + 1) y0 y1 y2 y3 y4 y5 y6)) ∧ (∀ y0 y1 y2 y3 y4 y5, LeO (spec_AddWide.j1 k y0 y1 y2 y3 y4 y5) (spec_AddWide.j1 (k + 1) y0 y1 y2 y3 y4 y5))
 | 0 => ⟨fun _ _ _ _ _ _ _ r h => by simp [spec_AddWide.j0] at h, fun _ _ _ _ _ _ r h => by simp [spec_AddWide.j1] at h⟩
 | k + 1 => by
  obtain ⟨ih0, ih1⟩ := spec_AddWide.mono_l k
  refine ⟨?_, ?_⟩
  ·intro y0 y1 y2 y3 y4 y5 y6
   unfold spec_AddWide.j0
   repeat' first
   | (with_reducible exact ih0 _ _ _ _ _ _ _)
   | (with_reducible exact ih1 _ _ _ _ _ _)
   | (with_reducible exact spec_l3Order.mono _ _ _ _ _ _ _)
   | (with_reducible exact LeO.refl _)
   | (with_reducible exact LeO.none _)
   | (with_reducible refine LeO.ite ?_ ?_)
   | (with_reducible refine LeO.bind ?_ (fun _ => ?_))
   | exact ih0 _ _ _ _ _ _ _
   | exact ih1 _ _ _ _ _ _
   | exact spec_l3Order.mono _ _ _ _ _ _ _
   | exact LeO.none _
   | refine LeO.ite ?_ ?_
   | refine LeO.bind ?_ (fun _ => ?_)
  ·intro y0 y1 y2 y3 y4 y5
   unfold spec_AddWide.j1
   repeat' first
   | (with_reducible exact ih0 _ _ _ _ _ _ _)
   | (with_reducible exact ih1 _ _ _ _ _ _)
   | (with_reducible exact spec_l3Order.mono _ _ _ _ _ _ _)
   | (with_reducible exact LeO.refl _)
   | (with_reducible exact LeO.none _)
   | (with_reducible refine LeO.ite ?_ ?_)
   | (with_reducible refine LeO.bind ?_ (fun _ => ?_))
   | exact ih0 _ _ _ _ _ _ _
   | exact ih1 _ _ _ _ _ _
   | exact spec_l3Order.mono _ _ _ _ _ _ _
   | exact LeO.none _
   | refine LeO.ite ?_ ?_
   | refine LeO.bind ?_ (fun _ => ?_)
theorem spec_AddWide.mono : ∀ a0 a1 a2 a3 a4 a5 k, LeO (spec_AddWide.f k a0 a1 a2 a3 a4 a5) (spec_AddWide.f (k + 1) a0 a1 a2 a3 a4 a5) := by
 intro a0 a1 a2 a3 a4 a5 k
 obtain ⟨ih0, ih1⟩ := spec_AddWide.mono_l k
 unfold spec_AddWide.f
 repeat' first
   | (with_reducible exact ih0 _ _ _ _ _ _ _)
   | (with_reducible exact ih1 _ _ _ _ _ _)
   | (with_reducible exact spec_l3Order.mono _ _ _ _ _ _ _)
   | (with_reducible exact LeO.refl _)
   | (with_reducible exact LeO.none _)
   | (with_reducible refine LeO.ite ?_ ?_)
   | (with_reducible refine LeO.bind ?_ (fun _ => ?_))
   | exact ih0 _ _ _ _ _ _ _
   | exact ih1 _ _ _ _ _ _
   | exact spec_l3Order.mono _ _ _ _ _ _ _
   | exact LeO.none _
   | refine LeO.ite ?_ ?_
   | refine LeO.bind ?_ (fun _ => ?_)
set_option maxHeartbeats 8000000 in
set_option maxRecDepth 100000 in
theorem spec_AddWide.calls (k : Nat) (a0_0 : Bool) (a0_1 : Int) (a0_2 : Int) (a1_0 : Bool) (a1_1 : Int) (a1_2 : Int) (r1 : Bool) (r2 : Int) (r3 : Int) (r4 : Bool) (w : World) (h : spec_AddWide.f k a0_0 a0_1 a0_2 a1_0 a1_1 a1_2 = some (r1, r2, r3, r4)) :
  Calls Tryd.prog 59 #[.agg #[.bool a0_0, .int .u64 a0_1, .int .u64 a0_2], .agg #[.bool a1_0, .int .u64 a1_1, .int .u64 a1_2]] w fun e w' => e = .returned (.tuple #[.agg #[.bool r1, .int .u64 r2, .int .u64 r3], .bool r4]) ∧ Below w.heap.size w w' := by
 have hu28 := Tryd.underlying28
 have HB := Aside0.mk (Below.refl w.heap.size w)
 have H : ((spec_WideOk.f a0_0 a0_1 a0_2).bind fun t139 => (if t139 = true then ((spec_WideOk.f a1_0 a1_1 a1_2).bind fun t140 => (spec_AddWide.j0 k (!t140) a0_0 a0_1 a0_2 a1_0 a1_1 a1_2)) else (spec_AddWide.j0 k true a0_0 a0_1 a0_2 a1_0 a1_1 a1_2))) = some (r1, r2, r3, r4) := h
 clear h
 have HC3 := Aside0.mk H
 clear H
 go_enter Tryd.func59, Tryd.ntmps59
 go_upto_region 1 with (first | ((with_reducible refine gate_dst (N := 2) rfl ?_); refine box_event ?hg (N := 2) ?hd (cs := #[.bool a0_0, .int .u64 a0_1, .int .u64 a0_2]) (t := 28) ?hr ?_; (case hd => rfl); (case hg => rfl); (case hr => first | (go_simp; done) | (go_simp; rfl)); intro gb136 hg w4 hbox hb; have BK136 := Aside0.mk (hbox); have GW136 := bs_ (w := w) hg; have GE136 := bs_ (w := w) hg; replace HB := Aside0.mk (below_step bel_ hb); clear hb hbox hg) | ((with_reducible refine gate_dst (N := 3) rfl ?_); refine box_event ?hg (N := 3) ?hd (cs := #[.bool a1_0, .int .u64 a1_1, .int .u64 a1_2]) (t := 28) ?hr ?_; (case hd => rfl); (case hg => rfl); (case hr => first | (go_simp; done) | (go_simp; rfl)); intro gb137 hg w5 hbox hb; have BK137 := Aside0.mk (hbox); have GW137 := bs_ (w := w) hg; have GE137 := bs_ (w := w) hg; have NB136_137 := nlt_ (g := gb136) hg; have NB137_136 := ngt_ (g := gb136) hg; replace HB := Aside0.mk (below_step bel_ hb); replace BK136 := bb_ (g := gb136) hb; clear hb hbox hg) | ((with_reducible refine gate_dst (N := 4) rfl ?_); refine box_event ?hg (N := 4) ?hd (cs := #[.bool false, .int .u64 0, .int .u64 0]) (t := 28) ?hr ?_; (case hd => rfl); (case hg => rfl); (case hr => first | (go_simp; done) | (go_simp; rfl)); intro gb138 hg w6 hbox hb; have BK138 := Aside0.mk (hbox); have GW138 := bs_ (w := w) hg; have GE138 := bs_ (w := w) hg; have NB136_138 := nlt_ (g := gb136) hg; have NB138_136 := ngt_ (g := gb136) hg; have NB137_138 := nlt_ (g := gb137) hg; have NB138_137 := ngt_ (g := gb137) hg; replace HB := Aside0.mk (below_step bel_ hb); replace BK136 := bb_ (g := gb136) hb; replace BK137 := bb_ (g := gb137) hb; clear hb hbox hg))
 (try simp only [Act.put, la_, lb_, lc_])
 go_cut [17] (fun v17 wc => ∃ (kq : Nat) (x17_2 : Bool), v17 = .bool x17_2 ∧ Aside0 (spec_AddWide.j0 kq x17_2 a0_0 a0_1 a0_2 a1_0 a1_1 a1_2 = some (r1, r2, r3, r4)) ∧ Aside0 (kq ≤ k) ∧ Aside0 (wc.heap[gb136]? = some (.cells #[.bool a0_0, .int .u64 a0_1, .int .u64 a0_2] 28 (0, 0))) ∧ Aside0 (wc.heap[gb137]? = some (.cells #[.bool a1_0, .int .u64 a1_1, .int .u64 a1_2] 28 (0, 0))) ∧ Aside0 (wc.heap[gb138]? = some (.cells #[.bool false, .int .u64 0, .int .u64 0] 28 (0, 0))) ∧ Aside0 (Below w.heap.size w wc))
 case first =>
  have H := HC3.out
  clear HC3
  replace H := Option.bind_eq_some_iff.mp H
  obtain ⟨t139, A70, H⟩ := H
  replace H : (if t139 = true then ((spec_WideOk.f a1_0 a1_1 a1_2).bind fun t140 => (spec_AddWide.j0 k (!t140) a0_0 a0_1 a0_2 a1_0 a1_1 a1_2)) else (spec_AddWide.j0 k true a0_0 a0_1 a0_2 a1_0 a1_1 a1_2)) = some (r1, r2, r3, r4) := H
  have A7 := Aside0.mk A70
  clear A70
  by_cases c8 : t139 = true
  ·subst c8
   have H1 : ((spec_WideOk.f a1_0 a1_1 a1_2).bind fun t140 => (spec_AddWide.j0 k (!t140) a0_0 a0_1 a0_2 a1_0 a1_1 a1_2)) = some (r1, r2, r3, r4) := by rw [if_pos rfl] at H; exact H
   clear H
   have H := H1
   clear H1
   replace H := Option.bind_eq_some_iff.mp H
   obtain ⟨t140, A90, H⟩ := H
   replace H : (spec_AddWide.j0 k (!t140) a0_0 a0_1 a0_2 a1_0 a1_1 a1_2) = some (r1, r2, r3, r4) := H
   have A9 := Aside0.mk A90
   clear A90
   have H' := Aside0.mk H
   clear H
   have hnb10 := NB136_137.out
   have hnc10 := NB137_136.out
   have hnb11 := NB136_138.out
   have hnc11 := NB138_136.out
   obtain ⟨hcz12_0, hcz12_1, hcz12_2, hfz12_0, hfz12_1, hfz12_2⟩ := cf3_ (w := w6) BK136.out
   go_wp2_with (first | ((with_reducible refine gate_callee (f := 24) rfl ?_); refine goesL_ (some 11) rfl rfl Tryd.func24 (by kernel_rfl) rfl #[.agg #[.bool a0_0, .int .u64 a0_1, .int .u64 a0_2]] rfl mp_ ?_; (with_reducible refine (spec_WideOk.calls a0_0 a0_1 a0_2 true _ A7.out).mono ?_); rintro e w13 ⟨rfl, hb⟩; refine ⟨_, rfl, ?_⟩; replace HB := Aside0.mk (below_step bel_ hb); replace BK136 := bb_ (g := gb136) hb; replace BK137 := bb_ (g := gb137) hb; replace BK138 := bb_ (g := gb138) hb; (try clear hb); (try clear hb2); (try clear hk); (try clear hi); have hnb14 := NB137_138.out; have hnc14 := NB138_137.out; obtain ⟨hcz15_0, hcz15_1, hcz15_2, hfz15_0, hfz15_1, hfz15_2⟩ := cf3_ (w := w13) BK137.out) | (go_at_call 24; (with_reducible refine (spec_WideOk.calls a1_0 a1_1 a1_2 t140 _ A9.out).mono ?_); rintro e w16 ⟨rfl, hb⟩; replace HB := Aside0.mk (below_step bel_ hb); replace BK136 := bb_ (g := gb136) hb; replace BK137 := bb_ (g := gb137) hb; replace BK138 := bb_ (g := gb138) hb; (try clear hb); (try clear hb2); (try clear hk); (try clear hi)))
   go_meet
   case rel => exact ⟨_, (!t140), (by first | rfl | (simp; done) | (simp [*]; done)), H', ⟨by first | omega | exact Nat.le_refl _⟩, ⟨by (with_reducible repeat (first | refine bN_ _ ?_ | refine bd_ ?_ | refine ba_ _ ?_)); exact BK136.out⟩, ⟨by (with_reducible repeat (first | refine bN_ _ ?_ | refine bd_ ?_ | refine ba_ _ ?_)); exact BK137.out⟩, ⟨by (with_reducible repeat (first | refine bN_ _ ?_ | refine bd_ ?_ | refine ba_ _ ?_)); exact BK138.out⟩, ⟨bel_⟩⟩
  ·replace c8 := Bool.eq_false_iff.mpr c8
   subst c8
   have H1 : (spec_AddWide.j0 k true a0_0 a0_1 a0_2 a1_0 a1_1 a1_2) = some (r1, r2, r3, r4) := by rw [if_neg (show ¬ (false = true) by decide)] at H; exact H
   clear H
   have H := H1
   clear H1
   have H' := Aside0.mk H
   clear H
   have hnb17 := NB136_137.out
   have hnc17 := NB137_136.out
   have hnb18 := NB136_138.out
   have hnc18 := NB138_136.out
   obtain ⟨hcz19_0, hcz19_1, hcz19_2, hfz19_0, hfz19_1, hfz19_2⟩ := cf3_ (w := w6) BK136.out
   go_wp2_with (first | ((with_reducible refine gate_callee (f := 24) rfl ?_); refine goesL_ (some 11) rfl rfl Tryd.func24 (by kernel_rfl) rfl #[.agg #[.bool a0_0, .int .u64 a0_1, .int .u64 a0_2]] rfl mp_ ?_; (with_reducible refine (spec_WideOk.calls a0_0 a0_1 a0_2 false _ A7.out).mono ?_); rintro e w20 ⟨rfl, hb⟩; refine ⟨_, rfl, ?_⟩; replace HB := Aside0.mk (below_step bel_ hb); replace BK136 := bb_ (g := gb136) hb; replace BK137 := bb_ (g := gb137) hb; replace BK138 := bb_ (g := gb138) hb; (try clear hb); (try clear hb2); (try clear hk); (try clear hi)))
   go_meet
   case rel => exact ⟨_, (true), (by first | rfl | (simp; done) | (simp [*]; done)), H', ⟨by first | omega | exact Nat.le_refl _⟩, ⟨by (with_reducible repeat (first | refine bN_ _ ?_ | refine bd_ ?_ | refine ba_ _ ?_)); exact BK136.out⟩, ⟨by (with_reducible repeat (first | refine bN_ _ ?_ | refine bd_ ?_ | refine ba_ _ ?_)); exact BK137.out⟩, ⟨by (with_reducible repeat (first | refine bN_ _ ?_ | refine bd_ ?_ | refine ba_ _ ?_)); exact BK138.out⟩, ⟨bel_⟩⟩
 case rest =>
  clear HC3
  try clear c1
  try clear c2
  try clear p2
  try clear c5
  try clear c8
  try clear c10
  try clear c11
  try clear c14
  try clear c17
  try clear c18
  try clear hcz12_0
  try clear hcz12_1
  try clear hcz12_2
  try clear hcz15_0
  try clear hcz15_1
  try clear hcz15_2
  try clear hcz19_0
  try clear hcz19_1
  try clear hcz19_2
  try clear hfz12_0
  try clear hfz12_1
  try clear hfz12_2
  try clear hfz15_0
  try clear hfz15_1
  try clear hfz15_2
  try clear hfz19_0
  try clear hfz19_1
  try clear hfz19_2
  obtain ⟨kq, x17_2, rfl, HA, HJ2, BK136, BK137, BK138, HB⟩ := hcut
  cases kq with
  | zero => exact absurd HA.out (by simp [spec_AddWide.j0])
  | succ kj2 =>
   have H := HA.out
   clear HA
   simp only [spec_AddWide.j0] at H
   by_cases c21 : x17_2 = true
   ·subst c21
    have H1 : (some (false, 0, 0, false)) = some (r1, r2, r3, r4) := by rw [if_pos rfl] at H; exact H
    clear H
    have H := H1
    clear H1
    simp only [Option.some.injEq, Prod.mk.injEq] at H
    obtain ⟨rfl, rfl, rfl, rfl⟩ := H
    have hnb22 := NB138_136.out
    have hnc22 := NB136_138.out
    have hnb23 := NB138_137.out
    have hnc23 := NB137_138.out
    obtain ⟨hcz24_0, hcz24_1, hcz24_2, hfz24_0, hfz24_1, hfz24_2⟩ := cf3_ (w := wc) BK138.out
    go_wp2
    refine bodyPost_ret (results_ct rfl _ _ gb138 28 #[.bool false, .int .u64 0, .int .u64 0] (0, 0) _ rfl (pu_ #[.bool false, .int .u64 0, .int .u64 0] 2 (h := (pu_ #[.bool false, .int .u64 0, .int .u64 0] 1 (h := (pu_ #[.bool false, .int .u64 0, .int .u64 0] 0 (h := bk_)))))) Tryd.underlying28 rfl (by kernel_rfl)) rfl ?_
    exact ⟨rf_, bel_⟩
   ·replace c21 := Bool.eq_false_iff.mpr c21
    subst c21
    have H1 : (if (a0_0 == a1_0) = true then (if (IntKind.u64.wrap (a0_2 + a1_2)) < a0_2 then ((spec_WideOk.f a0_0 (IntKind.u64.wrap ((IntKind.u64.wrap (a0_1 + a1_1)) + 1)) (IntKind.u64.wrap (a0_2 + a1_2))).bind fun t142 => (if t142 = true then (some (a0_0, IntKind.u64.wrap ((IntKind.u64.wrap (a0_1 + a1_1)) + 1), IntKind.u64.wrap (a0_2 + a1_2), true)) else (some (false, 0, 0, false)))) else ((spec_WideOk.f a0_0 (IntKind.u64.wrap (a0_1 + a1_1)) (IntKind.u64.wrap (a0_2 + a1_2))).bind fun t143 => (if t143 = true then (some (a0_0, IntKind.u64.wrap (a0_1 + a1_1), IntKind.u64.wrap (a0_2 + a1_2), true)) else (some (false, 0, 0, false))))) else ((spec_l3Order.f kj2 a0_0 a0_1 a0_2 a1_0 a1_1 a1_2).bind fun t146 => (if t146 < 0 then (spec_AddWide.j1 kj2 a1_0 a1_1 a1_2 a0_0 a0_1 a0_2) else (spec_AddWide.j1 kj2 a0_0 a0_1 a0_2 a1_0 a1_1 a1_2)))) = some (r1, r2, r3, r4) := by rw [if_neg (show ¬ (false = true) by decide)] at H; exact H
    clear H
    have H := H1
    clear H1
    by_cases c25 : (a0_0 == a1_0) = true
    ·rw [if_pos c25] at H
     have c25b0 : (a0_0 == a1_0) = true := c25
     (try (have c25b1 : decide (a0_0 = a1_0) = true := by simpa using c25))
     (try (have c25b2 : (a0_0 == a1_0) = true := by simpa using c25))
     clear c25
     by_cases c26 : (IntKind.u64.wrap (a0_2 + a1_2)) < a0_2
     ·rw [if_pos c26] at H
      have c26b0 : decide ((IntKind.u64.wrap (a0_2 + a1_2)) < a0_2) = true := decide_eq_true c26
      clear c26
      replace H := Option.bind_eq_some_iff.mp H
      obtain ⟨t142, A270, H⟩ := H
      replace H : (if t142 = true then (some (a0_0, IntKind.u64.wrap ((IntKind.u64.wrap (a0_1 + a1_1)) + 1), IntKind.u64.wrap (a0_2 + a1_2), true)) else (some (false, 0, 0, false))) = some (r1, r2, r3, r4) := H
      have A27 := Aside0.mk A270
      clear A270
      by_cases c28 : t142 = true
      ·subst c28
       have H1 : (some (a0_0, IntKind.u64.wrap ((IntKind.u64.wrap (a0_1 + a1_1)) + 1), IntKind.u64.wrap (a0_2 + a1_2), true)) = some (r1, r2, r3, r4) := by rw [if_pos rfl] at H; exact H
       clear H
       have H := H1
       clear H1
       simp only [Option.some.injEq, Prod.mk.injEq] at H
       obtain ⟨rfl, rfl, rfl, rfl⟩ := H
       have hnb29 := NB136_137.out
       have hnc29 := NB137_136.out
       have hnb30 := NB136_138.out
       have hnc30 := NB138_136.out
       obtain ⟨hcz31_0, hcz31_1, hcz31_2, hfz31_0, hfz31_1, hfz31_2⟩ := cf3_ (w := wc) BK136.out
       have hnb32 := NB137_138.out
       have hnc32 := NB138_137.out
       obtain ⟨hcz33_0, hcz33_1, hcz33_2, hfz33_0, hfz33_1, hfz33_2⟩ := cf3_ (w := wc) BK137.out
       go_wp2_with (first | ((with_reducible refine gate_dst (N := 6) rfl ?_); refine box_event ?hg (N := 6) ?hd (cs := #[.bool false, .int .u64 0, .int .u64 0]) (t := 28) ?hr ?_; (case hd => rfl); (case hg => rfl); (case hr => first | (go_simp; done) | (go_simp; rfl)); intro gb141 hg w34 hbox hb; have BK141 := Aside0.mk (hbox); have GW141 := bs_ (w := w) hg; have GE141 := bs_ (w := w) hg; have NB136_141 := nlt_ (g := gb136) hg; have NB141_136 := ngt_ (g := gb136) hg; have NB137_141 := nlt_ (g := gb137) hg; have NB141_137 := ngt_ (g := gb137) hg; have NB138_141 := nlt_ (g := gb138) hg; have NB141_138 := ngt_ (g := gb138) hg; replace HB := Aside0.mk (below_step bel_ hb); replace BK136 := bb_ (g := gb136) hb; replace BK137 := bb_ (g := gb137) hb; replace BK138 := bb_ (g := gb138) hb; clear hb hbox hg; have hnb35 := NB141_136.out; have hnc35 := NB136_141.out; have hnb36 := NB141_137.out; have hnc36 := NB137_141.out; have hnb37 := NB141_138.out; have hnc37 := NB138_141.out; obtain ⟨hcz38_0, hcz38_1, hcz38_2, hfz38_0, hfz38_1, hfz38_2⟩ := cf3_ (w := w34) BK141.out; have hs141_0 : ∀ v0 v1 v2 : Value, (((w34.setCell ⟨gb141, 0, none⟩ v0).setCell ⟨gb141, 1, none⟩ v1).setCell ⟨gb141, 2, none⟩ v2).cell? ⟨gb141, 0, none⟩ = some v0 := fun _ _ _ => set3_0 BK141.out; have hs141_1 : ∀ v0 v1 v2 : Value, (((w34.setCell ⟨gb141, 0, none⟩ v0).setCell ⟨gb141, 1, none⟩ v1).setCell ⟨gb141, 2, none⟩ v2).cell? ⟨gb141, 1, none⟩ = some v1 := fun _ _ _ => set3_1 BK141.out; have hs141_2 : ∀ v0 v1 v2 : Value, (((w34.setCell ⟨gb141, 0, none⟩ v0).setCell ⟨gb141, 1, none⟩ v1).setCell ⟨gb141, 2, none⟩ v2).cell? ⟨gb141, 2, none⟩ = some v2 := fun _ _ _ => set3_2 BK141.out; obtain ⟨hcz39_0, hcz39_1, hcz39_2, hfz39_0, hfz39_1, hfz39_2⟩ := cf3_ (w := w34) BK136.out) | ((with_reducible refine gate_callee (f := 24) rfl ?_); refine goesL_ (some 47) rfl rfl Tryd.func24 (by kernel_rfl) rfl #[.agg #[.bool a0_0, .int .u64 (IntKind.u64.wrap ((IntKind.u64.wrap (a0_1 + a1_1)) + 1)), .int .u64 (IntKind.u64.wrap (a0_2 + a1_2))]] rfl mp_ ?_; (with_reducible refine (spec_WideOk.calls a0_0 (IntKind.u64.wrap ((IntKind.u64.wrap (a0_1 + a1_1)) + 1)) (IntKind.u64.wrap (a0_2 + a1_2)) true _ A27.out).mono ?_); rintro e w40 ⟨rfl, hb⟩; refine ⟨_, rfl, ?_⟩; replace HB := Aside0.mk (below_step bel_ hb); replace BK136 := Aside0.mk (blk_below (g := gb136) (o := .cells #[.bool a0_0, .int .u64 a0_1, .int .u64 a0_2] 28 (0, 0)) bk_ hb); replace BK137 := Aside0.mk (blk_below (g := gb137) (o := .cells #[.bool a1_0, .int .u64 a1_1, .int .u64 a1_2] 28 (0, 0)) bk_ hb); replace BK138 := Aside0.mk (blk_below (g := gb138) (o := .cells #[.bool false, .int .u64 0, .int .u64 0] 28 (0, 0)) bk_ hb); replace BK141 := Aside0.mk (blk_below (g := gb141) (o := .cells #[.bool a0_0, .int .u64 (IntKind.u64.wrap ((IntKind.u64.wrap (a0_1 + a1_1)) + 1)), .int .u64 (IntKind.u64.wrap (a0_2 + a1_2))] 28 (0, 0)) (pu_ #[.bool a0_0, .int .u64 (IntKind.u64.wrap (a0_1 + a1_1)), .int .u64 (IntKind.u64.wrap (a0_2 + a1_2))] 1 (h := (pu_ #[.bool a0_0, .int .u64 (IntKind.u64.wrap (a0_1 + a1_1)), .int .u64 0] 2 (h := (pu_ #[.bool a0_0, .int .u64 0, .int .u64 0] 1 (h := (pu_ #[.bool false, .int .u64 0, .int .u64 0] 0 (h := bk_)))))))) hb); (try clear hb); (try clear hb2); (try clear hk); (try clear hi); obtain ⟨hcz41_0, hcz41_1, hcz41_2, hfz41_0, hfz41_1, hfz41_2⟩ := cf3_ (w := w40) BK141.out; obtain ⟨hcz42_0, hcz42_1, hcz42_2, hfz42_0, hfz42_1, hfz42_2⟩ := cf3_ (w := w40) BK138.out; have hs138_0 : ∀ v0 v1 v2 : Value, (((w40.setCell ⟨gb138, 0, none⟩ v0).setCell ⟨gb138, 1, none⟩ v1).setCell ⟨gb138, 2, none⟩ v2).cell? ⟨gb138, 0, none⟩ = some v0 := fun _ _ _ => set3_0 BK138.out; have hs138_1 : ∀ v0 v1 v2 : Value, (((w40.setCell ⟨gb138, 0, none⟩ v0).setCell ⟨gb138, 1, none⟩ v1).setCell ⟨gb138, 2, none⟩ v2).cell? ⟨gb138, 1, none⟩ = some v1 := fun _ _ _ => set3_1 BK138.out; have hs138_2 : ∀ v0 v1 v2 : Value, (((w40.setCell ⟨gb138, 0, none⟩ v0).setCell ⟨gb138, 1, none⟩ v1).setCell ⟨gb138, 2, none⟩ v2).cell? ⟨gb138, 2, none⟩ = some v2 := fun _ _ _ => set3_2 BK138.out))
       refine bodyPost_ret (results_ct rfl _ _ gb138 28 #[.bool a0_0, .int .u64 (IntKind.u64.wrap ((IntKind.u64.wrap (a0_1 + a1_1)) + 1)), .int .u64 (IntKind.u64.wrap (a0_2 + a1_2))] (0, 0) _ rfl (pu_ #[.bool a0_0, .int .u64 (IntKind.u64.wrap ((IntKind.u64.wrap (a0_1 + a1_1)) + 1)), .int .u64 0] 2 (h := (pu_ #[.bool a0_0, .int .u64 0, .int .u64 0] 1 (h := (pu_ #[.bool false, .int .u64 0, .int .u64 0] 0 (h := bk_)))))) Tryd.underlying28 rfl (by kernel_rfl)) rfl ?_
       exact ⟨rf_, bel_⟩
      ·replace c28 := Bool.eq_false_iff.mpr c28
       subst c28
       have H1 : (some (false, 0, 0, false)) = some (r1, r2, r3, r4) := by rw [if_neg (show ¬ (false = true) by decide)] at H; exact H
       clear H
       have H := H1
       clear H1
       simp only [Option.some.injEq, Prod.mk.injEq] at H
       obtain ⟨rfl, rfl, rfl, rfl⟩ := H
       have hnb43 := NB136_137.out
       have hnc43 := NB137_136.out
       have hnb44 := NB136_138.out
       have hnc44 := NB138_136.out
       obtain ⟨hcz45_0, hcz45_1, hcz45_2, hfz45_0, hfz45_1, hfz45_2⟩ := cf3_ (w := wc) BK136.out
       have hnb46 := NB137_138.out
       have hnc46 := NB138_137.out
       obtain ⟨hcz47_0, hcz47_1, hcz47_2, hfz47_0, hfz47_1, hfz47_2⟩ := cf3_ (w := wc) BK137.out
       go_wp2_with (first | ((with_reducible refine gate_dst (N := 6) rfl ?_); refine box_event ?hg (N := 6) ?hd (cs := #[.bool false, .int .u64 0, .int .u64 0]) (t := 28) ?hr ?_; (case hd => rfl); (case hg => rfl); (case hr => first | (go_simp; done) | (go_simp; rfl)); intro gb141 hg w48 hbox hb; have BK141 := Aside0.mk (hbox); have GW141 := bs_ (w := w) hg; have GE141 := bs_ (w := w) hg; have NB136_141 := nlt_ (g := gb136) hg; have NB141_136 := ngt_ (g := gb136) hg; have NB137_141 := nlt_ (g := gb137) hg; have NB141_137 := ngt_ (g := gb137) hg; have NB138_141 := nlt_ (g := gb138) hg; have NB141_138 := ngt_ (g := gb138) hg; replace HB := Aside0.mk (below_step bel_ hb); replace BK136 := bb_ (g := gb136) hb; replace BK137 := bb_ (g := gb137) hb; replace BK138 := bb_ (g := gb138) hb; clear hb hbox hg; have hnb49 := NB141_136.out; have hnc49 := NB136_141.out; have hnb50 := NB141_137.out; have hnc50 := NB137_141.out; have hnb51 := NB141_138.out; have hnc51 := NB138_141.out; obtain ⟨hcz52_0, hcz52_1, hcz52_2, hfz52_0, hfz52_1, hfz52_2⟩ := cf3_ (w := w48) BK141.out; have hs141_0 : ∀ v0 v1 v2 : Value, (((w48.setCell ⟨gb141, 0, none⟩ v0).setCell ⟨gb141, 1, none⟩ v1).setCell ⟨gb141, 2, none⟩ v2).cell? ⟨gb141, 0, none⟩ = some v0 := fun _ _ _ => set3_0 BK141.out; have hs141_1 : ∀ v0 v1 v2 : Value, (((w48.setCell ⟨gb141, 0, none⟩ v0).setCell ⟨gb141, 1, none⟩ v1).setCell ⟨gb141, 2, none⟩ v2).cell? ⟨gb141, 1, none⟩ = some v1 := fun _ _ _ => set3_1 BK141.out; have hs141_2 : ∀ v0 v1 v2 : Value, (((w48.setCell ⟨gb141, 0, none⟩ v0).setCell ⟨gb141, 1, none⟩ v1).setCell ⟨gb141, 2, none⟩ v2).cell? ⟨gb141, 2, none⟩ = some v2 := fun _ _ _ => set3_2 BK141.out; obtain ⟨hcz53_0, hcz53_1, hcz53_2, hfz53_0, hfz53_1, hfz53_2⟩ := cf3_ (w := w48) BK136.out) | ((with_reducible refine gate_callee (f := 24) rfl ?_); refine goesL_ (some 47) rfl rfl Tryd.func24 (by kernel_rfl) rfl #[.agg #[.bool a0_0, .int .u64 (IntKind.u64.wrap ((IntKind.u64.wrap (a0_1 + a1_1)) + 1)), .int .u64 (IntKind.u64.wrap (a0_2 + a1_2))]] rfl mp_ ?_; (with_reducible refine (spec_WideOk.calls a0_0 (IntKind.u64.wrap ((IntKind.u64.wrap (a0_1 + a1_1)) + 1)) (IntKind.u64.wrap (a0_2 + a1_2)) false _ A27.out).mono ?_); rintro e w54 ⟨rfl, hb⟩; refine ⟨_, rfl, ?_⟩; replace HB := Aside0.mk (below_step bel_ hb); replace BK136 := Aside0.mk (blk_below (g := gb136) (o := .cells #[.bool a0_0, .int .u64 a0_1, .int .u64 a0_2] 28 (0, 0)) bk_ hb); replace BK137 := Aside0.mk (blk_below (g := gb137) (o := .cells #[.bool a1_0, .int .u64 a1_1, .int .u64 a1_2] 28 (0, 0)) bk_ hb); replace BK138 := Aside0.mk (blk_below (g := gb138) (o := .cells #[.bool false, .int .u64 0, .int .u64 0] 28 (0, 0)) bk_ hb); replace BK141 := Aside0.mk (blk_below (g := gb141) (o := .cells #[.bool a0_0, .int .u64 (IntKind.u64.wrap ((IntKind.u64.wrap (a0_1 + a1_1)) + 1)), .int .u64 (IntKind.u64.wrap (a0_2 + a1_2))] 28 (0, 0)) (pu_ #[.bool a0_0, .int .u64 (IntKind.u64.wrap (a0_1 + a1_1)), .int .u64 (IntKind.u64.wrap (a0_2 + a1_2))] 1 (h := (pu_ #[.bool a0_0, .int .u64 (IntKind.u64.wrap (a0_1 + a1_1)), .int .u64 0] 2 (h := (pu_ #[.bool a0_0, .int .u64 0, .int .u64 0] 1 (h := (pu_ #[.bool false, .int .u64 0, .int .u64 0] 0 (h := bk_)))))))) hb); (try clear hb); (try clear hb2); (try clear hk); (try clear hi); obtain ⟨hcz55_0, hcz55_1, hcz55_2, hfz55_0, hfz55_1, hfz55_2⟩ := cf3_ (w := w54) BK138.out; have hs138_0 : ∀ v0 v1 v2 : Value, (((w54.setCell ⟨gb138, 0, none⟩ v0).setCell ⟨gb138, 1, none⟩ v1).setCell ⟨gb138, 2, none⟩ v2).cell? ⟨gb138, 0, none⟩ = some v0 := fun _ _ _ => set3_0 BK138.out; have hs138_1 : ∀ v0 v1 v2 : Value, (((w54.setCell ⟨gb138, 0, none⟩ v0).setCell ⟨gb138, 1, none⟩ v1).setCell ⟨gb138, 2, none⟩ v2).cell? ⟨gb138, 1, none⟩ = some v1 := fun _ _ _ => set3_1 BK138.out; have hs138_2 : ∀ v0 v1 v2 : Value, (((w54.setCell ⟨gb138, 0, none⟩ v0).setCell ⟨gb138, 1, none⟩ v1).setCell ⟨gb138, 2, none⟩ v2).cell? ⟨gb138, 2, none⟩ = some v2 := fun _ _ _ => set3_2 BK138.out))
       refine bodyPost_ret (results_ct rfl _ _ gb138 28 #[.bool false, .int .u64 0, .int .u64 0] (0, 0) _ rfl (pu_ #[.bool false, .int .u64 0, .int .u64 0] 2 (h := (pu_ #[.bool false, .int .u64 0, .int .u64 0] 1 (h := (pu_ #[.bool false, .int .u64 0, .int .u64 0] 0 (h := bk_)))))) Tryd.underlying28 rfl (by kernel_rfl)) rfl ?_
       exact ⟨rf_, bel_⟩
     ·rw [if_neg c26] at H
      have c26b0 : decide ((IntKind.u64.wrap (a0_2 + a1_2)) < a0_2) = false := decide_eq_false c26
      clear c26
      replace H := Option.bind_eq_some_iff.mp H
      obtain ⟨t143, A560, H⟩ := H
      replace H : (if t143 = true then (some (a0_0, IntKind.u64.wrap (a0_1 + a1_1), IntKind.u64.wrap (a0_2 + a1_2), true)) else (some (false, 0, 0, false))) = some (r1, r2, r3, r4) := H
      have A56 := Aside0.mk A560
      clear A560
      by_cases c57 : t143 = true
      ·subst c57
       have H1 : (some (a0_0, IntKind.u64.wrap (a0_1 + a1_1), IntKind.u64.wrap (a0_2 + a1_2), true)) = some (r1, r2, r3, r4) := by rw [if_pos rfl] at H; exact H
       clear H
       have H := H1
       clear H1
       simp only [Option.some.injEq, Prod.mk.injEq] at H
       obtain ⟨rfl, rfl, rfl, rfl⟩ := H
       have hnb58 := NB136_137.out
       have hnc58 := NB137_136.out
       have hnb59 := NB136_138.out
       have hnc59 := NB138_136.out
       obtain ⟨hcz60_0, hcz60_1, hcz60_2, hfz60_0, hfz60_1, hfz60_2⟩ := cf3_ (w := wc) BK136.out
       have hnb61 := NB137_138.out
       have hnc61 := NB138_137.out
       obtain ⟨hcz62_0, hcz62_1, hcz62_2, hfz62_0, hfz62_1, hfz62_2⟩ := cf3_ (w := wc) BK137.out
       go_wp2_with (first | ((with_reducible refine gate_dst (N := 6) rfl ?_); refine box_event ?hg (N := 6) ?hd (cs := #[.bool false, .int .u64 0, .int .u64 0]) (t := 28) ?hr ?_; (case hd => rfl); (case hg => rfl); (case hr => first | (go_simp; done) | (go_simp; rfl)); intro gb141 hg w63 hbox hb; have BK141 := Aside0.mk (hbox); have GW141 := bs_ (w := w) hg; have GE141 := bs_ (w := w) hg; have NB136_141 := nlt_ (g := gb136) hg; have NB141_136 := ngt_ (g := gb136) hg; have NB137_141 := nlt_ (g := gb137) hg; have NB141_137 := ngt_ (g := gb137) hg; have NB138_141 := nlt_ (g := gb138) hg; have NB141_138 := ngt_ (g := gb138) hg; replace HB := Aside0.mk (below_step bel_ hb); replace BK136 := bb_ (g := gb136) hb; replace BK137 := bb_ (g := gb137) hb; replace BK138 := bb_ (g := gb138) hb; clear hb hbox hg; have hnb64 := NB141_136.out; have hnc64 := NB136_141.out; have hnb65 := NB141_137.out; have hnc65 := NB137_141.out; have hnb66 := NB141_138.out; have hnc66 := NB138_141.out; obtain ⟨hcz67_0, hcz67_1, hcz67_2, hfz67_0, hfz67_1, hfz67_2⟩ := cf3_ (w := w63) BK141.out; have hs141_0 : ∀ v0 v1 v2 : Value, (((w63.setCell ⟨gb141, 0, none⟩ v0).setCell ⟨gb141, 1, none⟩ v1).setCell ⟨gb141, 2, none⟩ v2).cell? ⟨gb141, 0, none⟩ = some v0 := fun _ _ _ => set3_0 BK141.out; have hs141_1 : ∀ v0 v1 v2 : Value, (((w63.setCell ⟨gb141, 0, none⟩ v0).setCell ⟨gb141, 1, none⟩ v1).setCell ⟨gb141, 2, none⟩ v2).cell? ⟨gb141, 1, none⟩ = some v1 := fun _ _ _ => set3_1 BK141.out; have hs141_2 : ∀ v0 v1 v2 : Value, (((w63.setCell ⟨gb141, 0, none⟩ v0).setCell ⟨gb141, 1, none⟩ v1).setCell ⟨gb141, 2, none⟩ v2).cell? ⟨gb141, 2, none⟩ = some v2 := fun _ _ _ => set3_2 BK141.out; obtain ⟨hcz68_0, hcz68_1, hcz68_2, hfz68_0, hfz68_1, hfz68_2⟩ := cf3_ (w := w63) BK136.out) | ((with_reducible refine gate_callee (f := 24) rfl ?_); refine goesL_ (some 47) rfl rfl Tryd.func24 (by kernel_rfl) rfl #[.agg #[.bool a0_0, .int .u64 (IntKind.u64.wrap (a0_1 + a1_1)), .int .u64 (IntKind.u64.wrap (a0_2 + a1_2))]] rfl mp_ ?_; (with_reducible refine (spec_WideOk.calls a0_0 (IntKind.u64.wrap (a0_1 + a1_1)) (IntKind.u64.wrap (a0_2 + a1_2)) true _ A56.out).mono ?_); rintro e w69 ⟨rfl, hb⟩; refine ⟨_, rfl, ?_⟩; replace HB := Aside0.mk (below_step bel_ hb); replace BK136 := Aside0.mk (blk_below (g := gb136) (o := .cells #[.bool a0_0, .int .u64 a0_1, .int .u64 a0_2] 28 (0, 0)) bk_ hb); replace BK137 := Aside0.mk (blk_below (g := gb137) (o := .cells #[.bool a1_0, .int .u64 a1_1, .int .u64 a1_2] 28 (0, 0)) bk_ hb); replace BK138 := Aside0.mk (blk_below (g := gb138) (o := .cells #[.bool false, .int .u64 0, .int .u64 0] 28 (0, 0)) bk_ hb); replace BK141 := Aside0.mk (blk_below (g := gb141) (o := .cells #[.bool a0_0, .int .u64 (IntKind.u64.wrap (a0_1 + a1_1)), .int .u64 (IntKind.u64.wrap (a0_2 + a1_2))] 28 (0, 0)) (pu_ #[.bool a0_0, .int .u64 (IntKind.u64.wrap (a0_1 + a1_1)), .int .u64 0] 2 (h := (pu_ #[.bool a0_0, .int .u64 0, .int .u64 0] 1 (h := (pu_ #[.bool false, .int .u64 0, .int .u64 0] 0 (h := bk_)))))) hb); (try clear hb); (try clear hb2); (try clear hk); (try clear hi); obtain ⟨hcz70_0, hcz70_1, hcz70_2, hfz70_0, hfz70_1, hfz70_2⟩ := cf3_ (w := w69) BK141.out; obtain ⟨hcz71_0, hcz71_1, hcz71_2, hfz71_0, hfz71_1, hfz71_2⟩ := cf3_ (w := w69) BK138.out; have hs138_0 : ∀ v0 v1 v2 : Value, (((w69.setCell ⟨gb138, 0, none⟩ v0).setCell ⟨gb138, 1, none⟩ v1).setCell ⟨gb138, 2, none⟩ v2).cell? ⟨gb138, 0, none⟩ = some v0 := fun _ _ _ => set3_0 BK138.out; have hs138_1 : ∀ v0 v1 v2 : Value, (((w69.setCell ⟨gb138, 0, none⟩ v0).setCell ⟨gb138, 1, none⟩ v1).setCell ⟨gb138, 2, none⟩ v2).cell? ⟨gb138, 1, none⟩ = some v1 := fun _ _ _ => set3_1 BK138.out; have hs138_2 : ∀ v0 v1 v2 : Value, (((w69.setCell ⟨gb138, 0, none⟩ v0).setCell ⟨gb138, 1, none⟩ v1).setCell ⟨gb138, 2, none⟩ v2).cell? ⟨gb138, 2, none⟩ = some v2 := fun _ _ _ => set3_2 BK138.out))
       refine bodyPost_ret (results_ct rfl _ _ gb138 28 #[.bool a0_0, .int .u64 (IntKind.u64.wrap (a0_1 + a1_1)), .int .u64 (IntKind.u64.wrap (a0_2 + a1_2))] (0, 0) _ rfl (pu_ #[.bool a0_0, .int .u64 (IntKind.u64.wrap (a0_1 + a1_1)), .int .u64 0] 2 (h := (pu_ #[.bool a0_0, .int .u64 0, .int .u64 0] 1 (h := (pu_ #[.bool false, .int .u64 0, .int .u64 0] 0 (h := bk_)))))) Tryd.underlying28 rfl (by kernel_rfl)) rfl ?_
       exact ⟨rf_, bel_⟩
      ·replace c57 := Bool.eq_false_iff.mpr c57
       subst c57
       have H1 : (some (false, 0, 0, false)) = some (r1, r2, r3, r4) := by rw [if_neg (show ¬ (false = true) by decide)] at H; exact H
       clear H
       have H := H1
       clear H1
       simp only [Option.some.injEq, Prod.mk.injEq] at H
       obtain ⟨rfl, rfl, rfl, rfl⟩ := H
       have hnb72 := NB136_137.out
       have hnc72 := NB137_136.out
       have hnb73 := NB136_138.out
       have hnc73 := NB138_136.out
       obtain ⟨hcz74_0, hcz74_1, hcz74_2, hfz74_0, hfz74_1, hfz74_2⟩ := cf3_ (w := wc) BK136.out
       have hnb75 := NB137_138.out
       have hnc75 := NB138_137.out
       obtain ⟨hcz76_0, hcz76_1, hcz76_2, hfz76_0, hfz76_1, hfz76_2⟩ := cf3_ (w := wc) BK137.out
       go_wp2_with (first | ((with_reducible refine gate_dst (N := 6) rfl ?_); refine box_event ?hg (N := 6) ?hd (cs := #[.bool false, .int .u64 0, .int .u64 0]) (t := 28) ?hr ?_; (case hd => rfl); (case hg => rfl); (case hr => first | (go_simp; done) | (go_simp; rfl)); intro gb141 hg w77 hbox hb; have BK141 := Aside0.mk (hbox); have GW141 := bs_ (w := w) hg; have GE141 := bs_ (w := w) hg; have NB136_141 := nlt_ (g := gb136) hg; have NB141_136 := ngt_ (g := gb136) hg; have NB137_141 := nlt_ (g := gb137) hg; have NB141_137 := ngt_ (g := gb137) hg; have NB138_141 := nlt_ (g := gb138) hg; have NB141_138 := ngt_ (g := gb138) hg; replace HB := Aside0.mk (below_step bel_ hb); replace BK136 := bb_ (g := gb136) hb; replace BK137 := bb_ (g := gb137) hb; replace BK138 := bb_ (g := gb138) hb; clear hb hbox hg; have hnb78 := NB141_136.out; have hnc78 := NB136_141.out; have hnb79 := NB141_137.out; have hnc79 := NB137_141.out; have hnb80 := NB141_138.out; have hnc80 := NB138_141.out; obtain ⟨hcz81_0, hcz81_1, hcz81_2, hfz81_0, hfz81_1, hfz81_2⟩ := cf3_ (w := w77) BK141.out; have hs141_0 : ∀ v0 v1 v2 : Value, (((w77.setCell ⟨gb141, 0, none⟩ v0).setCell ⟨gb141, 1, none⟩ v1).setCell ⟨gb141, 2, none⟩ v2).cell? ⟨gb141, 0, none⟩ = some v0 := fun _ _ _ => set3_0 BK141.out; have hs141_1 : ∀ v0 v1 v2 : Value, (((w77.setCell ⟨gb141, 0, none⟩ v0).setCell ⟨gb141, 1, none⟩ v1).setCell ⟨gb141, 2, none⟩ v2).cell? ⟨gb141, 1, none⟩ = some v1 := fun _ _ _ => set3_1 BK141.out; have hs141_2 : ∀ v0 v1 v2 : Value, (((w77.setCell ⟨gb141, 0, none⟩ v0).setCell ⟨gb141, 1, none⟩ v1).setCell ⟨gb141, 2, none⟩ v2).cell? ⟨gb141, 2, none⟩ = some v2 := fun _ _ _ => set3_2 BK141.out; obtain ⟨hcz82_0, hcz82_1, hcz82_2, hfz82_0, hfz82_1, hfz82_2⟩ := cf3_ (w := w77) BK136.out) | ((with_reducible refine gate_callee (f := 24) rfl ?_); refine goesL_ (some 47) rfl rfl Tryd.func24 (by kernel_rfl) rfl #[.agg #[.bool a0_0, .int .u64 (IntKind.u64.wrap (a0_1 + a1_1)), .int .u64 (IntKind.u64.wrap (a0_2 + a1_2))]] rfl mp_ ?_; (with_reducible refine (spec_WideOk.calls a0_0 (IntKind.u64.wrap (a0_1 + a1_1)) (IntKind.u64.wrap (a0_2 + a1_2)) false _ A56.out).mono ?_); rintro e w83 ⟨rfl, hb⟩; refine ⟨_, rfl, ?_⟩; replace HB := Aside0.mk (below_step bel_ hb); replace BK136 := Aside0.mk (blk_below (g := gb136) (o := .cells #[.bool a0_0, .int .u64 a0_1, .int .u64 a0_2] 28 (0, 0)) bk_ hb); replace BK137 := Aside0.mk (blk_below (g := gb137) (o := .cells #[.bool a1_0, .int .u64 a1_1, .int .u64 a1_2] 28 (0, 0)) bk_ hb); replace BK138 := Aside0.mk (blk_below (g := gb138) (o := .cells #[.bool false, .int .u64 0, .int .u64 0] 28 (0, 0)) bk_ hb); replace BK141 := Aside0.mk (blk_below (g := gb141) (o := .cells #[.bool a0_0, .int .u64 (IntKind.u64.wrap (a0_1 + a1_1)), .int .u64 (IntKind.u64.wrap (a0_2 + a1_2))] 28 (0, 0)) (pu_ #[.bool a0_0, .int .u64 (IntKind.u64.wrap (a0_1 + a1_1)), .int .u64 0] 2 (h := (pu_ #[.bool a0_0, .int .u64 0, .int .u64 0] 1 (h := (pu_ #[.bool false, .int .u64 0, .int .u64 0] 0 (h := bk_)))))) hb); (try clear hb); (try clear hb2); (try clear hk); (try clear hi); obtain ⟨hcz84_0, hcz84_1, hcz84_2, hfz84_0, hfz84_1, hfz84_2⟩ := cf3_ (w := w83) BK138.out; have hs138_0 : ∀ v0 v1 v2 : Value, (((w83.setCell ⟨gb138, 0, none⟩ v0).setCell ⟨gb138, 1, none⟩ v1).setCell ⟨gb138, 2, none⟩ v2).cell? ⟨gb138, 0, none⟩ = some v0 := fun _ _ _ => set3_0 BK138.out; have hs138_1 : ∀ v0 v1 v2 : Value, (((w83.setCell ⟨gb138, 0, none⟩ v0).setCell ⟨gb138, 1, none⟩ v1).setCell ⟨gb138, 2, none⟩ v2).cell? ⟨gb138, 1, none⟩ = some v1 := fun _ _ _ => set3_1 BK138.out; have hs138_2 : ∀ v0 v1 v2 : Value, (((w83.setCell ⟨gb138, 0, none⟩ v0).setCell ⟨gb138, 1, none⟩ v1).setCell ⟨gb138, 2, none⟩ v2).cell? ⟨gb138, 2, none⟩ = some v2 := fun _ _ _ => set3_2 BK138.out))
       refine bodyPost_ret (results_ct rfl _ _ gb138 28 #[.bool false, .int .u64 0, .int .u64 0] (0, 0) _ rfl (pu_ #[.bool false, .int .u64 0, .int .u64 0] 2 (h := (pu_ #[.bool false, .int .u64 0, .int .u64 0] 1 (h := (pu_ #[.bool false, .int .u64 0, .int .u64 0] 0 (h := bk_)))))) Tryd.underlying28 rfl (by kernel_rfl)) rfl ?_
       exact ⟨rf_, bel_⟩
    ·rw [if_neg c25] at H
     have c25b0 : (a0_0 == a1_0) = false := by simpa using c25
     (try (have c25b1 : decide (a0_0 = a1_0) = false := by simpa using c25))
     (try (have c25b2 : (a0_0 == a1_0) = false := by simpa using c25))
     (try (have c25b3 : ¬ (a0_0 = a1_0) := by simpa using c25))
     clear c25
     replace H := Option.bind_eq_some_iff.mp H
     obtain ⟨t146, A850, H⟩ := H
     replace H : (if t146 < 0 then (spec_AddWide.j1 kj2 a1_0 a1_1 a1_2 a0_0 a0_1 a0_2) else (spec_AddWide.j1 kj2 a0_0 a0_1 a0_2 a1_0 a1_1 a1_2)) = some (r1, r2, r3, r4) := H
     have A85 := Aside0.mk A850
     clear A850
     have HC86 := Aside0.mk H
     clear H
     have hnb87 := NB136_137.out
     have hnc87 := NB137_136.out
     have hnb88 := NB136_138.out
     have hnc88 := NB138_136.out
     obtain ⟨hcz89_0, hcz89_1, hcz89_2, hfz89_0, hfz89_1, hfz89_2⟩ := cf3_ (w := wc) BK136.out
     have hnb90 := NB137_138.out
     have hnc90 := NB138_137.out
     obtain ⟨hcz91_0, hcz91_1, hcz91_2, hfz91_0, hfz91_1, hfz91_2⟩ := cf3_ (w := wc) BK137.out
     go_upto_if 56 with (first | ((with_reducible refine gate_dst (N := 7) rfl ?_); refine box_event ?hg (N := 7) ?hd (cs := #[.bool false, .int .u64 0, .int .u64 0]) (t := 28) ?hr ?_; (case hd => rfl); (case hg => rfl); (case hr => first | (go_simp; done) | (go_simp; rfl)); intro gb144 hg w92 hbox hb; have BK144 := Aside0.mk (hbox); have GW144 := bs_ (w := w) hg; have GE144 := bs_ (w := w) hg; have NB136_144 := nlt_ (g := gb136) hg; have NB144_136 := ngt_ (g := gb136) hg; have NB137_144 := nlt_ (g := gb137) hg; have NB144_137 := ngt_ (g := gb137) hg; have NB138_144 := nlt_ (g := gb138) hg; have NB144_138 := ngt_ (g := gb138) hg; replace HB := Aside0.mk (below_step bel_ hb); replace BK136 := bb_ (g := gb136) hb; replace BK137 := bb_ (g := gb137) hb; replace BK138 := bb_ (g := gb138) hb; clear hb hbox hg; have hnb93 := NB144_136.out; have hnc93 := NB136_144.out; have hnb94 := NB144_137.out; have hnc94 := NB137_144.out; have hnb95 := NB144_138.out; have hnc95 := NB138_144.out; obtain ⟨hcz96_0, hcz96_1, hcz96_2, hfz96_0, hfz96_1, hfz96_2⟩ := cf3_ (w := w92) BK144.out; have hs144_0 : ∀ v0 v1 v2 : Value, (((w92.setCell ⟨gb144, 0, none⟩ v0).setCell ⟨gb144, 1, none⟩ v1).setCell ⟨gb144, 2, none⟩ v2).cell? ⟨gb144, 0, none⟩ = some v0 := fun _ _ _ => set3_0 BK144.out; have hs144_1 : ∀ v0 v1 v2 : Value, (((w92.setCell ⟨gb144, 0, none⟩ v0).setCell ⟨gb144, 1, none⟩ v1).setCell ⟨gb144, 2, none⟩ v2).cell? ⟨gb144, 1, none⟩ = some v1 := fun _ _ _ => set3_1 BK144.out; have hs144_2 : ∀ v0 v1 v2 : Value, (((w92.setCell ⟨gb144, 0, none⟩ v0).setCell ⟨gb144, 1, none⟩ v1).setCell ⟨gb144, 2, none⟩ v2).cell? ⟨gb144, 2, none⟩ = some v2 := fun _ _ _ => set3_2 BK144.out; obtain ⟨hcz97_0, hcz97_1, hcz97_2, hfz97_0, hfz97_1, hfz97_2⟩ := cf3_ (w := w92) BK137.out) | ((with_reducible refine gate_dst (N := 8) rfl ?_); refine box_event ?hg (N := 8) ?hd (cs := #[.bool false, .int .u64 0, .int .u64 0]) (t := 28) ?hr ?_; (case hd => rfl); (case hg => rfl); (case hr => first | (go_simp; done) | (go_simp; rfl)); intro gb145 hg w98 hbox hb; have BK145 := Aside0.mk (hbox); have GW145 := bs_ (w := w) hg; have GE145 := bs_ (w := w) hg; have NB136_145 := Aside0.mk ((by rw [hg]; exact Nat.ne_of_lt (blk_lt (g := gb136) (o := .cells #[.bool a0_0, .int .u64 a0_1, .int .u64 a0_2] 28 (0, 0)) bk_) : gb136 ≠ gb145)); have NB145_136 := Aside0.mk ((by rw [hg]; exact Nat.ne_of_gt (blk_lt (g := gb136) (o := .cells #[.bool a0_0, .int .u64 a0_1, .int .u64 a0_2] 28 (0, 0)) bk_) : gb145 ≠ gb136)); have NB137_145 := Aside0.mk ((by rw [hg]; exact Nat.ne_of_lt (blk_lt (g := gb137) (o := .cells #[.bool a1_0, .int .u64 a1_1, .int .u64 a1_2] 28 (0, 0)) bk_) : gb137 ≠ gb145)); have NB145_137 := Aside0.mk ((by rw [hg]; exact Nat.ne_of_gt (blk_lt (g := gb137) (o := .cells #[.bool a1_0, .int .u64 a1_1, .int .u64 a1_2] 28 (0, 0)) bk_) : gb145 ≠ gb137)); have NB138_145 := Aside0.mk ((by rw [hg]; exact Nat.ne_of_lt (blk_lt (g := gb138) (o := .cells #[.bool false, .int .u64 0, .int .u64 0] 28 (0, 0)) bk_) : gb138 ≠ gb145)); have NB145_138 := Aside0.mk ((by rw [hg]; exact Nat.ne_of_gt (blk_lt (g := gb138) (o := .cells #[.bool false, .int .u64 0, .int .u64 0] 28 (0, 0)) bk_) : gb145 ≠ gb138)); have NB144_145 := Aside0.mk ((by rw [hg]; exact Nat.ne_of_lt (blk_lt (g := gb144) (o := .cells #[.bool a0_0, .int .u64 a0_1, .int .u64 a0_2] 28 (0, 0)) (pu_ #[.bool a0_0, .int .u64 a0_1, .int .u64 0] 2 (h := (pu_ #[.bool a0_0, .int .u64 0, .int .u64 0] 1 (h := (pu_ #[.bool false, .int .u64 0, .int .u64 0] 0 (h := bk_))))))) : gb144 ≠ gb145)); have NB145_144 := Aside0.mk ((by rw [hg]; exact Nat.ne_of_gt (blk_lt (g := gb144) (o := .cells #[.bool a0_0, .int .u64 a0_1, .int .u64 a0_2] 28 (0, 0)) (pu_ #[.bool a0_0, .int .u64 a0_1, .int .u64 0] 2 (h := (pu_ #[.bool a0_0, .int .u64 0, .int .u64 0] 1 (h := (pu_ #[.bool false, .int .u64 0, .int .u64 0] 0 (h := bk_))))))) : gb145 ≠ gb144)); replace HB := Aside0.mk (below_step bel_ hb); replace BK136 := Aside0.mk (blk_below (g := gb136) (o := .cells #[.bool a0_0, .int .u64 a0_1, .int .u64 a0_2] 28 (0, 0)) bk_ hb); replace BK137 := Aside0.mk (blk_below (g := gb137) (o := .cells #[.bool a1_0, .int .u64 a1_1, .int .u64 a1_2] 28 (0, 0)) bk_ hb); replace BK138 := Aside0.mk (blk_below (g := gb138) (o := .cells #[.bool false, .int .u64 0, .int .u64 0] 28 (0, 0)) bk_ hb); replace BK144 := Aside0.mk (blk_below (g := gb144) (o := .cells #[.bool a0_0, .int .u64 a0_1, .int .u64 a0_2] 28 (0, 0)) (pu_ #[.bool a0_0, .int .u64 a0_1, .int .u64 0] 2 (h := (pu_ #[.bool a0_0, .int .u64 0, .int .u64 0] 1 (h := (pu_ #[.bool false, .int .u64 0, .int .u64 0] 0 (h := bk_)))))) hb); clear hb hbox hg; have hnb99 := NB145_136.out; have hnc99 := NB136_145.out; have hnb100 := NB145_137.out; have hnc100 := NB137_145.out; have hnb101 := NB145_138.out; have hnc101 := NB138_145.out; have hnb102 := NB145_144.out; have hnc102 := NB144_145.out; obtain ⟨hcz103_0, hcz103_1, hcz103_2, hfz103_0, hfz103_1, hfz103_2⟩ := cf3_ (w := w98) BK145.out; have hs145_0 : ∀ v0 v1 v2 : Value, (((w98.setCell ⟨gb145, 0, none⟩ v0).setCell ⟨gb145, 1, none⟩ v1).setCell ⟨gb145, 2, none⟩ v2).cell? ⟨gb145, 0, none⟩ = some v0 := fun _ _ _ => set3_0 BK145.out; have hs145_1 : ∀ v0 v1 v2 : Value, (((w98.setCell ⟨gb145, 0, none⟩ v0).setCell ⟨gb145, 1, none⟩ v1).setCell ⟨gb145, 2, none⟩ v2).cell? ⟨gb145, 1, none⟩ = some v1 := fun _ _ _ => set3_1 BK145.out; have hs145_2 : ∀ v0 v1 v2 : Value, (((w98.setCell ⟨gb145, 0, none⟩ v0).setCell ⟨gb145, 1, none⟩ v1).setCell ⟨gb145, 2, none⟩ v2).cell? ⟨gb145, 2, none⟩ = some v2 := fun _ _ _ => set3_2 BK145.out; obtain ⟨hcz104_0, hcz104_1, hcz104_2, hfz104_0, hfz104_1, hfz104_2⟩ := cf3_ (w := w98) BK136.out; obtain ⟨hcz105_0, hcz105_1, hcz105_2, hfz105_0, hfz105_1, hfz105_2⟩ := cf3_ (w := w98) BK137.out) | ((with_reducible refine gate_callee (f := 74) rfl ?_); refine goesL_ (some 55) rfl rfl Tryd.func74 (by kernel_rfl) rfl #[.agg #[.bool a0_0, .int .u64 a0_1, .int .u64 a0_2], .agg #[.bool a1_0, .int .u64 a1_1, .int .u64 a1_2]] rfl mp_ ?_; (with_reducible refine (spec_l3Order.calls kj2 a0_0 a0_1 a0_2 a1_0 a1_1 a1_2 t146 _ A85.out).mono ?_); rintro e w106 ⟨rfl, hb⟩; refine ⟨_, rfl, ?_⟩; replace HB := Aside0.mk (below_step bel_ hb); replace BK136 := Aside0.mk (blk_below (g := gb136) (o := .cells #[.bool a0_0, .int .u64 a0_1, .int .u64 a0_2] 28 (0, 0)) bk_ hb); replace BK137 := Aside0.mk (blk_below (g := gb137) (o := .cells #[.bool a1_0, .int .u64 a1_1, .int .u64 a1_2] 28 (0, 0)) bk_ hb); replace BK138 := Aside0.mk (blk_below (g := gb138) (o := .cells #[.bool false, .int .u64 0, .int .u64 0] 28 (0, 0)) bk_ hb); replace BK144 := Aside0.mk (blk_below (g := gb144) (o := .cells #[.bool a0_0, .int .u64 a0_1, .int .u64 a0_2] 28 (0, 0)) bk_ hb); replace BK145 := Aside0.mk (blk_below (g := gb145) (o := .cells #[.bool a1_0, .int .u64 a1_1, .int .u64 a1_2] 28 (0, 0)) (pu_ #[.bool a1_0, .int .u64 a1_1, .int .u64 0] 2 (h := (pu_ #[.bool a1_0, .int .u64 0, .int .u64 0] 1 (h := (pu_ #[.bool false, .int .u64 0, .int .u64 0] 0 (h := bk_)))))) hb); (try clear hb); (try clear hb2); (try clear hk); (try clear hi)))
     (try simp only [Act.put, la_, lb_, lc_])
     go_cut [] (fun wc => ∃ (kq : Nat) (x145000_85 : Bool) (x145001_85 : Int) (x145002_85 : Int) (x146000_85 : Bool) (x146001_85 : Int) (x146002_85 : Int), Aside0 (spec_AddWide.j1 kq x145000_85 x145001_85 x145002_85 x146000_85 x146001_85 x146002_85 = some (r1, r2, r3, r4)) ∧ Aside0 (kq ≤ kj2) ∧ Aside0 (wc.heap[gb136]? = some (.cells #[.bool a0_0, .int .u64 a0_1, .int .u64 a0_2] 28 (0, 0))) ∧ Aside0 (wc.heap[gb137]? = some (.cells #[.bool a1_0, .int .u64 a1_1, .int .u64 a1_2] 28 (0, 0))) ∧ Aside0 (wc.heap[gb138]? = some (.cells #[.bool false, .int .u64 0, .int .u64 0] 28 (0, 0))) ∧ Aside0 (wc.heap[gb144]? = some (.cells #[.bool x145000_85, .int .u64 x145001_85, .int .u64 x145002_85] 28 (0, 0))) ∧ Aside0 (wc.heap[gb145]? = some (.cells #[.bool x146000_85, .int .u64 x146001_85, .int .u64 x146002_85] 28 (0, 0))) ∧ Aside0 (Below w.heap.size w wc))
     case first =>
      have H := HC86.out
      clear HC86
      by_cases c107 : t146 < 0
      ·rw [if_pos c107] at H
       have c107b0 : decide (t146 < 0) = true := decide_eq_true c107
       clear c107
       (first | rw [c107b0] | (simp only [i64_w, i32_w]; rw [c107b0]) | skip)
       have H' := Aside0.mk H
       clear H
       have hnb108 := NB137_136.out
       have hnc108 := NB136_137.out
       have hnb109 := NB137_138.out
       have hnc109 := NB138_137.out
       have hnb110 := NB137_144.out
       have hnc110 := NB144_137.out
       have hnb111 := NB137_145.out
       have hnc111 := NB145_137.out
       obtain ⟨hcz112_0, hcz112_1, hcz112_2, hfz112_0, hfz112_1, hfz112_2⟩ := cf3_ (w := w106) BK137.out
       have hnb113 := NB144_136.out
       have hnc113 := NB136_144.out
       have hnb114 := NB144_138.out
       have hnc114 := NB138_144.out
       have hnb115 := NB144_145.out
       have hnc115 := NB145_144.out
       obtain ⟨hcz116_0, hcz116_1, hcz116_2, hfz116_0, hfz116_1, hfz116_2⟩ := cf3_ (w := w106) BK144.out
       have hnb117 := NB136_138.out
       have hnc117 := NB138_136.out
       have hnb118 := NB136_145.out
       have hnc118 := NB145_136.out
       obtain ⟨hcz119_0, hcz119_1, hcz119_2, hfz119_0, hfz119_1, hfz119_2⟩ := cf3_ (w := w106) BK136.out
       have hnb120 := NB145_138.out
       have hnc120 := NB138_145.out
       obtain ⟨hcz121_0, hcz121_1, hcz121_2, hfz121_0, hfz121_1, hfz121_2⟩ := cf3_ (w := w106) BK145.out
       go_wp2
       go_meet
       case rel => exact ⟨_, (a1_0), (a1_1), (a1_2), (a0_0), (a0_1), (a0_2), H', ⟨by have := HJ2.out; first | omega | exact Nat.le_refl _⟩, ⟨by (with_reducible repeat (first | refine bN_ _ ?_ | refine bd_ ?_ | refine ba_ _ ?_)); refine blk_far ?_ NB136_145.out _; (with_reducible repeat (first | refine bN_ _ ?_ | refine bd_ ?_ | refine ba_ _ ?_)); refine blk_far ?_ NB136_145.out _; (with_reducible repeat (first | refine bN_ _ ?_ | refine bd_ ?_ | refine ba_ _ ?_)); refine blk_far ?_ NB136_145.out _; (with_reducible repeat (first | refine bN_ _ ?_ | refine bd_ ?_ | refine ba_ _ ?_)); refine blk_far ?_ NB136_144.out _; (with_reducible repeat (first | refine bN_ _ ?_ | refine bd_ ?_ | refine ba_ _ ?_)); refine blk_far ?_ NB136_144.out _; (with_reducible repeat (first | refine bN_ _ ?_ | refine bd_ ?_ | refine ba_ _ ?_)); refine blk_far ?_ NB136_144.out _; (with_reducible repeat (first | refine bN_ _ ?_ | refine bd_ ?_ | refine ba_ _ ?_)); exact BK136.out⟩, ⟨by (with_reducible repeat (first | refine bN_ _ ?_ | refine bd_ ?_ | refine ba_ _ ?_)); refine blk_far ?_ NB137_145.out _; (with_reducible repeat (first | refine bN_ _ ?_ | refine bd_ ?_ | refine ba_ _ ?_)); refine blk_far ?_ NB137_145.out _; (with_reducible repeat (first | refine bN_ _ ?_ | refine bd_ ?_ | refine ba_ _ ?_)); refine blk_far ?_ NB137_145.out _; (with_reducible repeat (first | refine bN_ _ ?_ | refine bd_ ?_ | refine ba_ _ ?_)); refine blk_far ?_ NB137_144.out _; (with_reducible repeat (first | refine bN_ _ ?_ | refine bd_ ?_ | refine ba_ _ ?_)); refine blk_far ?_ NB137_144.out _; (with_reducible repeat (first | refine bN_ _ ?_ | refine bd_ ?_ | refine ba_ _ ?_)); refine blk_far ?_ NB137_144.out _; (with_reducible repeat (first | refine bN_ _ ?_ | refine bd_ ?_ | refine ba_ _ ?_)); exact BK137.out⟩, ⟨by (with_reducible repeat (first | refine bN_ _ ?_ | refine bd_ ?_ | refine ba_ _ ?_)); refine blk_far ?_ NB138_145.out _; (with_reducible repeat (first | refine bN_ _ ?_ | refine bd_ ?_ | refine ba_ _ ?_)); refine blk_far ?_ NB138_145.out _; (with_reducible repeat (first | refine bN_ _ ?_ | refine bd_ ?_ | refine ba_ _ ?_)); refine blk_far ?_ NB138_145.out _; (with_reducible repeat (first | refine bN_ _ ?_ | refine bd_ ?_ | refine ba_ _ ?_)); refine blk_far ?_ NB138_144.out _; (with_reducible repeat (first | refine bN_ _ ?_ | refine bd_ ?_ | refine ba_ _ ?_)); refine blk_far ?_ NB138_144.out _; (with_reducible repeat (first | refine bN_ _ ?_ | refine bd_ ?_ | refine ba_ _ ?_)); refine blk_far ?_ NB138_144.out _; (with_reducible repeat (first | refine bN_ _ ?_ | refine bd_ ?_ | refine ba_ _ ?_)); exact BK138.out⟩, ⟨by (with_reducible repeat (first | refine bN_ _ ?_ | refine bd_ ?_ | refine ba_ _ ?_)); refine blk_far ?_ NB144_145.out _; (with_reducible repeat (first | refine bN_ _ ?_ | refine bd_ ?_ | refine ba_ _ ?_)); refine blk_far ?_ NB144_145.out _; (with_reducible repeat (first | refine bN_ _ ?_ | refine bd_ ?_ | refine ba_ _ ?_)); refine blk_far ?_ NB144_145.out _; (with_reducible repeat (first | refine bN_ _ ?_ | refine bd_ ?_ | refine ba_ _ ?_)); refine blk_put (cs := #[.bool a1_0, .int .u64 a1_1, .int .u64 a0_2]) ?_ 2 _ rfl; (with_reducible repeat (first | refine bN_ _ ?_ | refine bd_ ?_ | refine ba_ _ ?_)); refine blk_put (cs := #[.bool a1_0, .int .u64 a0_1, .int .u64 a0_2]) ?_ 1 _ rfl; (with_reducible repeat (first | refine bN_ _ ?_ | refine bd_ ?_ | refine ba_ _ ?_)); refine blk_put (cs := #[.bool a0_0, .int .u64 a0_1, .int .u64 a0_2]) ?_ 0 _ rfl; (with_reducible repeat (first | refine bN_ _ ?_ | refine bd_ ?_ | refine ba_ _ ?_)); exact BK144.out⟩, ⟨by (with_reducible repeat (first | refine bN_ _ ?_ | refine bd_ ?_ | refine ba_ _ ?_)); refine blk_put (cs := #[.bool a0_0, .int .u64 a0_1, .int .u64 a1_2]) ?_ 2 _ rfl; (with_reducible repeat (first | refine bN_ _ ?_ | refine bd_ ?_ | refine ba_ _ ?_)); refine blk_put (cs := #[.bool a0_0, .int .u64 a1_1, .int .u64 a1_2]) ?_ 1 _ rfl; (with_reducible repeat (first | refine bN_ _ ?_ | refine bd_ ?_ | refine ba_ _ ?_)); refine blk_put (cs := #[.bool a1_0, .int .u64 a1_1, .int .u64 a1_2]) ?_ 0 _ rfl; (with_reducible repeat (first | refine bN_ _ ?_ | refine bd_ ?_ | refine ba_ _ ?_)); refine blk_far ?_ NB145_144.out _; (with_reducible repeat (first | refine bN_ _ ?_ | refine bd_ ?_ | refine ba_ _ ?_)); refine blk_far ?_ NB145_144.out _; (with_reducible repeat (first | refine bN_ _ ?_ | refine bd_ ?_ | refine ba_ _ ?_)); refine blk_far ?_ NB145_144.out _; (with_reducible repeat (first | refine bN_ _ ?_ | refine bd_ ?_ | refine ba_ _ ?_)); exact BK145.out⟩, ⟨bel_⟩⟩
      ·rw [if_neg c107] at H
       have c107b0 : decide (t146 < 0) = false := decide_eq_false c107
       clear c107
       (first | rw [c107b0] | (simp only [i64_w, i32_w]; rw [c107b0]) | skip)
       have H' := Aside0.mk H
       clear H
       go_wp2
       go_meet
       case rel => exact ⟨_, (a0_0), (a0_1), (a0_2), (a1_0), (a1_1), (a1_2), H', ⟨by have := HJ2.out; first | omega | exact Nat.le_refl _⟩, ⟨by (with_reducible repeat (first | refine bN_ _ ?_ | refine bd_ ?_ | refine ba_ _ ?_)); exact BK136.out⟩, ⟨by (with_reducible repeat (first | refine bN_ _ ?_ | refine bd_ ?_ | refine ba_ _ ?_)); exact BK137.out⟩, ⟨by (with_reducible repeat (first | refine bN_ _ ?_ | refine bd_ ?_ | refine ba_ _ ?_)); exact BK138.out⟩, ⟨by (with_reducible repeat (first | refine bN_ _ ?_ | refine bd_ ?_ | refine ba_ _ ?_)); exact BK144.out⟩, ⟨by (with_reducible repeat (first | refine bN_ _ ?_ | refine bd_ ?_ | refine ba_ _ ?_)); exact BK145.out⟩, ⟨bel_⟩⟩
     case rest =>
      clear HC86
      try clear c1
      try clear c2
      try clear p2
      try clear c3
      try clear c4
      try clear c5
      try clear c6
      try clear c7
      try clear c8
      try clear c9
      try clear c10
      try clear c11
      try clear c12
      try clear c14
      try clear c17
      try clear c18
      try clear c21
      try clear c22
      try clear c23
      try clear c24
      try clear c25
      try clear c25b0
      try clear c25b1
      try clear c25b2
      try clear c26
      try clear c26b0
      try clear c28
      try clear c29
      try clear c30
      try clear c32
      try clear c35
      try clear c36
      try clear c37
      try clear c43
      try clear c44
      try clear c46
      try clear c49
      try clear c50
      try clear c51
      try clear c57
      try clear c58
      try clear c59
      try clear c61
      try clear c64
      try clear c65
      try clear c66
      try clear c72
      try clear c73
      try clear c74
      try clear c75
      try clear c78
      try clear c79
      try clear c80
      try clear c87
      try clear c88
      try clear c90
      try clear c93
      try clear c94
      try clear c95
      try clear c99
      try clear c100
      try clear c101
      try clear c102
      try clear c107
      try clear c107b0
      try clear c108
      try clear c109
      try clear c110
      try clear c111
      try clear c113
      try clear c114
      try clear c115
      try clear c117
      try clear c118
      try clear c120
      try clear hcz103_0
      try clear hcz103_1
      try clear hcz103_2
      try clear hcz104_0
      try clear hcz104_1
      try clear hcz104_2
      try clear hcz105_0
      try clear hcz105_1
      try clear hcz105_2
      try clear hcz112_0
      try clear hcz112_1
      try clear hcz112_2
      try clear hcz116_0
      try clear hcz116_1
      try clear hcz116_2
      try clear hcz119_0
      try clear hcz119_1
      try clear hcz119_2
      try clear hcz121_0
      try clear hcz121_1
      try clear hcz121_2
      try clear hcz12_0
      try clear hcz12_1
      try clear hcz12_2
      try clear hcz15_0
      try clear hcz15_1
      try clear hcz15_2
      try clear hcz19_0
      try clear hcz19_1
      try clear hcz19_2
      try clear hcz24_0
      try clear hcz24_1
      try clear hcz24_2
      try clear hcz31_0
      try clear hcz31_1
      try clear hcz31_2
      try clear hcz33_0
      try clear hcz33_1
      try clear hcz33_2
      try clear hcz38_0
      try clear hcz38_1
      try clear hcz38_2
      try clear hcz39_0
      try clear hcz39_1
      try clear hcz39_2
      try clear hcz41_0
      try clear hcz41_1
      try clear hcz41_2
      try clear hcz42_0
      try clear hcz42_1
      try clear hcz42_2
      try clear hcz45_0
      try clear hcz45_1
      try clear hcz45_2
      try clear hcz47_0
      try clear hcz47_1
      try clear hcz47_2
      try clear hcz52_0
      try clear hcz52_1
      try clear hcz52_2
      try clear hcz53_0
      try clear hcz53_1
      try clear hcz53_2
      try clear hcz55_0
      try clear hcz55_1
      try clear hcz55_2
      try clear hcz60_0
      try clear hcz60_1
      try clear hcz60_2
      try clear hcz62_0
      try clear hcz62_1
      try clear hcz62_2
      try clear hcz67_0
      try clear hcz67_1
      try clear hcz67_2
      try clear hcz68_0
      try clear hcz68_1
      try clear hcz68_2
      try clear hcz70_0
      try clear hcz70_1
      try clear hcz70_2
      try clear hcz71_0
      try clear hcz71_1
      try clear hcz71_2
      try clear hcz74_0
      try clear hcz74_1
      try clear hcz74_2
      try clear hcz76_0
      try clear hcz76_1
      try clear hcz76_2
      try clear hcz81_0
      try clear hcz81_1
      try clear hcz81_2
      try clear hcz82_0
      try clear hcz82_1
      try clear hcz82_2
      try clear hcz84_0
      try clear hcz84_1
      try clear hcz84_2
      try clear hcz89_0
      try clear hcz89_1
      try clear hcz89_2
      try clear hcz91_0
      try clear hcz91_1
      try clear hcz91_2
      try clear hcz96_0
      try clear hcz96_1
      try clear hcz96_2
      try clear hcz97_0
      try clear hcz97_1
      try clear hcz97_2
      try clear hfz103_0
      try clear hfz103_1
      try clear hfz103_2
      try clear hfz104_0
      try clear hfz104_1
      try clear hfz104_2
      try clear hfz105_0
      try clear hfz105_1
      try clear hfz105_2
      try clear hfz112_0
      try clear hfz112_1
      try clear hfz112_2
      try clear hfz116_0
      try clear hfz116_1
      try clear hfz116_2
      try clear hfz119_0
      try clear hfz119_1
      try clear hfz119_2
      try clear hfz121_0
      try clear hfz121_1
      try clear hfz121_2
      try clear hfz12_0
      try clear hfz12_1
      try clear hfz12_2
      try clear hfz15_0
      try clear hfz15_1
      try clear hfz15_2
      try clear hfz19_0
      try clear hfz19_1
      try clear hfz19_2
      try clear hfz24_0
      try clear hfz24_1
      try clear hfz24_2
      try clear hfz31_0
      try clear hfz31_1
      try clear hfz31_2
      try clear hfz33_0
      try clear hfz33_1
      try clear hfz33_2
      try clear hfz38_0
      try clear hfz38_1
      try clear hfz38_2
      try clear hfz39_0
      try clear hfz39_1
      try clear hfz39_2
      try clear hfz41_0
      try clear hfz41_1
      try clear hfz41_2
      try clear hfz42_0
      try clear hfz42_1
      try clear hfz42_2
      try clear hfz45_0
      try clear hfz45_1
      try clear hfz45_2
      try clear hfz47_0
      try clear hfz47_1
      try clear hfz47_2
      try clear hfz52_0
      try clear hfz52_1
      try clear hfz52_2
      try clear hfz53_0
      try clear hfz53_1
      try clear hfz53_2
      try clear hfz55_0
      try clear hfz55_1
      try clear hfz55_2
      try clear hfz60_0
      try clear hfz60_1
      try clear hfz60_2
      try clear hfz62_0
      try clear hfz62_1
      try clear hfz62_2
      try clear hfz67_0
      try clear hfz67_1
      try clear hfz67_2
      try clear hfz68_0
      try clear hfz68_1
      try clear hfz68_2
      try clear hfz70_0
      try clear hfz70_1
      try clear hfz70_2
      try clear hfz71_0
      try clear hfz71_1
      try clear hfz71_2
      try clear hfz74_0
      try clear hfz74_1
      try clear hfz74_2
      try clear hfz76_0
      try clear hfz76_1
      try clear hfz76_2
      try clear hfz81_0
      try clear hfz81_1
      try clear hfz81_2
      try clear hfz82_0
      try clear hfz82_1
      try clear hfz82_2
      try clear hfz84_0
      try clear hfz84_1
      try clear hfz84_2
      try clear hfz89_0
      try clear hfz89_1
      try clear hfz89_2
      try clear hfz91_0
      try clear hfz91_1
      try clear hfz91_2
      try clear hfz96_0
      try clear hfz96_1
      try clear hfz96_2
      try clear hfz97_0
      try clear hfz97_1
      try clear hfz97_2
      try clear p2
      obtain ⟨kq, x145000_85, x145001_85, x145002_85, x146000_85, x146001_85, x146002_85, HA, HJ85, BK136, BK137, BK138, BK144, BK145, HB⟩ := hcut
      cases kq with
      | zero => exact absurd HA.out (by simp [spec_AddWide.j1])
      | succ kj85 =>
       have H := HA.out
       clear HA
       simp only [spec_AddWide.j1] at H
       by_cases c122 : x145002_85 < x146002_85
       ·rw [if_pos c122] at H
        have c122b0 : decide (x145002_85 < x146002_85) = true := decide_eq_true c122
        clear c122
        replace H := Option.bind_eq_some_iff.mp H
        obtain ⟨t148, A1230, H⟩ := H
        replace H : (if t148 = true then (some (false, IntKind.u64.wrap ((IntKind.u64.wrap (x145001_85 - x146001_85)) - 1), IntKind.u64.wrap (x145002_85 - x146002_85), true)) else (some (x145000_85, IntKind.u64.wrap ((IntKind.u64.wrap (x145001_85 - x146001_85)) - 1), IntKind.u64.wrap (x145002_85 - x146002_85), true))) = some (r1, r2, r3, r4) := H
        have A123 := Aside0.mk A1230
        clear A1230
        by_cases c124 : t148 = true
        ·subst c124
         have H1 : (some (false, IntKind.u64.wrap ((IntKind.u64.wrap (x145001_85 - x146001_85)) - 1), IntKind.u64.wrap (x145002_85 - x146002_85), true)) = some (r1, r2, r3, r4) := by rw [if_pos rfl] at H; exact H
         clear H
         have H := H1
         clear H1
         simp only [Option.some.injEq, Prod.mk.injEq] at H
         obtain ⟨rfl, rfl, rfl, rfl⟩ := H
         have hnb125 := NB144_136.out
         have hnc125 := NB136_144.out
         have hnb126 := NB144_137.out
         have hnc126 := NB137_144.out
         have hnb127 := NB144_138.out
         have hnc127 := NB138_144.out
         have hnb128 := NB144_145.out
         have hnc128 := NB145_144.out
         obtain ⟨hcz129_0, hcz129_1, hcz129_2, hfz129_0, hfz129_1, hfz129_2⟩ := cf3_ (w := wc) BK144.out
         have hnb130 := NB145_136.out
         have hnc130 := NB136_145.out
         have hnb131 := NB145_137.out
         have hnc131 := NB137_145.out
         have hnb132 := NB145_138.out
         have hnc132 := NB138_145.out
         obtain ⟨hcz133_0, hcz133_1, hcz133_2, hfz133_0, hfz133_1, hfz133_2⟩ := cf3_ (w := wc) BK145.out
         go_wp2_with (first | ((with_reducible refine gate_dst (N := 9) rfl ?_); refine box_event ?hg (N := 9) ?hd (cs := #[.bool false, .int .u64 0, .int .u64 0]) (t := 28) ?hr ?_; (case hd => rfl); (case hg => rfl); (case hr => first | (go_simp; done) | (go_simp; rfl)); intro gb147 hg w134 hbox hb; have BK147 := Aside0.mk (hbox); have GW147 := bs_ (w := w) hg; have GE147 := bs_ (w := w) hg; have NB136_147 := nlt_ (g := gb136) hg; have NB147_136 := ngt_ (g := gb136) hg; have NB137_147 := nlt_ (g := gb137) hg; have NB147_137 := ngt_ (g := gb137) hg; have NB138_147 := nlt_ (g := gb138) hg; have NB147_138 := ngt_ (g := gb138) hg; have NB144_147 := nlt_ (g := gb144) hg; have NB147_144 := ngt_ (g := gb144) hg; have NB145_147 := nlt_ (g := gb145) hg; have NB147_145 := ngt_ (g := gb145) hg; replace HB := Aside0.mk (below_step bel_ hb); replace BK136 := bb_ (g := gb136) hb; replace BK137 := bb_ (g := gb137) hb; replace BK138 := bb_ (g := gb138) hb; replace BK144 := bb_ (g := gb144) hb; replace BK145 := bb_ (g := gb145) hb; clear hb hbox hg; have hnb135 := NB147_136.out; have hnc135 := NB136_147.out; have hnb136 := NB147_137.out; have hnc136 := NB137_147.out; have hnb137 := NB147_138.out; have hnc137 := NB138_147.out; have hnb138 := NB147_144.out; have hnc138 := NB144_147.out; have hnb139 := NB147_145.out; have hnc139 := NB145_147.out; obtain ⟨hcz140_0, hcz140_1, hcz140_2, hfz140_0, hfz140_1, hfz140_2⟩ := cf3_ (w := w134) BK147.out; have hs147_0 : ∀ v0 v1 v2 : Value, (((w134.setCell ⟨gb147, 0, none⟩ v0).setCell ⟨gb147, 1, none⟩ v1).setCell ⟨gb147, 2, none⟩ v2).cell? ⟨gb147, 0, none⟩ = some v0 := fun _ _ _ => set3_0 BK147.out; have hs147_1 : ∀ v0 v1 v2 : Value, (((w134.setCell ⟨gb147, 0, none⟩ v0).setCell ⟨gb147, 1, none⟩ v1).setCell ⟨gb147, 2, none⟩ v2).cell? ⟨gb147, 1, none⟩ = some v1 := fun _ _ _ => set3_1 BK147.out; have hs147_2 : ∀ v0 v1 v2 : Value, (((w134.setCell ⟨gb147, 0, none⟩ v0).setCell ⟨gb147, 1, none⟩ v1).setCell ⟨gb147, 2, none⟩ v2).cell? ⟨gb147, 2, none⟩ = some v2 := fun _ _ _ => set3_2 BK147.out; obtain ⟨hcz141_0, hcz141_1, hcz141_2, hfz141_0, hfz141_1, hfz141_2⟩ := cf3_ (w := w134) BK144.out; obtain ⟨hcz142_0, hcz142_1, hcz142_2, hfz142_0, hfz142_1, hfz142_2⟩ := cf3_ (w := w134) BK145.out) | ((with_reducible refine gate_callee (f := 61) rfl ?_); refine goesL_ (some 82) rfl rfl Tryd.func61 (by kernel_rfl) rfl #[.agg #[.bool x145000_85, .int .u64 (IntKind.u64.wrap ((IntKind.u64.wrap (x145001_85 - x146001_85)) - 1)), .int .u64 (IntKind.u64.wrap (x145002_85 - x146002_85))]] rfl mp_ ?_; (with_reducible refine (spec_l3Zero.calls x145000_85 (IntKind.u64.wrap ((IntKind.u64.wrap (x145001_85 - x146001_85)) - 1)) (IntKind.u64.wrap (x145002_85 - x146002_85)) true _ A123.out).mono ?_); rintro e w143 ⟨rfl, hb⟩; refine ⟨_, rfl, ?_⟩; replace HB := Aside0.mk (below_step bel_ hb); replace BK136 := Aside0.mk (blk_below (g := gb136) (o := .cells #[.bool a0_0, .int .u64 a0_1, .int .u64 a0_2] 28 (0, 0)) bk_ hb); replace BK137 := Aside0.mk (blk_below (g := gb137) (o := .cells #[.bool a1_0, .int .u64 a1_1, .int .u64 a1_2] 28 (0, 0)) bk_ hb); replace BK138 := Aside0.mk (blk_below (g := gb138) (o := .cells #[.bool false, .int .u64 0, .int .u64 0] 28 (0, 0)) bk_ hb); replace BK144 := Aside0.mk (blk_below (g := gb144) (o := .cells #[.bool x145000_85, .int .u64 x145001_85, .int .u64 x145002_85] 28 (0, 0)) bk_ hb); replace BK145 := Aside0.mk (blk_below (g := gb145) (o := .cells #[.bool x146000_85, .int .u64 x146001_85, .int .u64 x146002_85] 28 (0, 0)) bk_ hb); replace BK147 := Aside0.mk (blk_below (g := gb147) (o := .cells #[.bool x145000_85, .int .u64 (IntKind.u64.wrap ((IntKind.u64.wrap (x145001_85 - x146001_85)) - 1)), .int .u64 (IntKind.u64.wrap (x145002_85 - x146002_85))] 28 (0, 0)) (pu_ #[.bool x145000_85, .int .u64 (IntKind.u64.wrap (x145001_85 - x146001_85)), .int .u64 (IntKind.u64.wrap (x145002_85 - x146002_85))] 1 (h := (pu_ #[.bool x145000_85, .int .u64 (IntKind.u64.wrap (x145001_85 - x146001_85)), .int .u64 0] 2 (h := (pu_ #[.bool x145000_85, .int .u64 0, .int .u64 0] 1 (h := (pu_ #[.bool false, .int .u64 0, .int .u64 0] 0 (h := bk_)))))))) hb); (try clear hb); (try clear hb2); (try clear hk); (try clear hi); obtain ⟨hcz144_0, hcz144_1, hcz144_2, hfz144_0, hfz144_1, hfz144_2⟩ := cf3_ (w := w143) BK147.out; have hnb145 := NB138_136.out; have hnc145 := NB136_138.out; have hnb146 := NB138_137.out; have hnc146 := NB137_138.out; obtain ⟨hcz147_0, hcz147_1, hcz147_2, hfz147_0, hfz147_1, hfz147_2⟩ := cf3_ (w := w143) BK138.out; have hs138_0 : ∀ v0 v1 v2 : Value, (((w143.setCell ⟨gb138, 0, none⟩ v0).setCell ⟨gb138, 1, none⟩ v1).setCell ⟨gb138, 2, none⟩ v2).cell? ⟨gb138, 0, none⟩ = some v0 := fun _ _ _ => set3_0 BK138.out; have hs138_1 : ∀ v0 v1 v2 : Value, (((w143.setCell ⟨gb138, 0, none⟩ v0).setCell ⟨gb138, 1, none⟩ v1).setCell ⟨gb138, 2, none⟩ v2).cell? ⟨gb138, 1, none⟩ = some v1 := fun _ _ _ => set3_1 BK138.out; have hs138_2 : ∀ v0 v1 v2 : Value, (((w143.setCell ⟨gb138, 0, none⟩ v0).setCell ⟨gb138, 1, none⟩ v1).setCell ⟨gb138, 2, none⟩ v2).cell? ⟨gb138, 2, none⟩ = some v2 := fun _ _ _ => set3_2 BK138.out))
         refine bodyPost_ret (results_ct rfl _ _ gb138 28 #[.bool false, .int .u64 (IntKind.u64.wrap ((IntKind.u64.wrap (x145001_85 - x146001_85)) - 1)), .int .u64 (IntKind.u64.wrap (x145002_85 - x146002_85))] (0, 0) _ rfl (pu_ #[.bool false, .int .u64 (IntKind.u64.wrap ((IntKind.u64.wrap (x145001_85 - x146001_85)) - 1)), .int .u64 0] 2 (h := (pu_ #[.bool false, .int .u64 0, .int .u64 0] 1 (h := (pu_ #[.bool false, .int .u64 0, .int .u64 0] 0 (h := bk_)))))) Tryd.underlying28 rfl (by kernel_rfl)) rfl ?_
         exact ⟨rf_, bel_⟩
        ·replace c124 := Bool.eq_false_iff.mpr c124
         subst c124
         have H1 : (some (x145000_85, IntKind.u64.wrap ((IntKind.u64.wrap (x145001_85 - x146001_85)) - 1), IntKind.u64.wrap (x145002_85 - x146002_85), true)) = some (r1, r2, r3, r4) := by rw [if_neg (show ¬ (false = true) by decide)] at H; exact H
         clear H
         have H := H1
         clear H1
         simp only [Option.some.injEq, Prod.mk.injEq] at H
         obtain ⟨rfl, rfl, rfl, rfl⟩ := H
         have hnb148 := NB144_136.out
         have hnc148 := NB136_144.out
         have hnb149 := NB144_137.out
         have hnc149 := NB137_144.out
         have hnb150 := NB144_138.out
         have hnc150 := NB138_144.out
         have hnb151 := NB144_145.out
         have hnc151 := NB145_144.out
         obtain ⟨hcz152_0, hcz152_1, hcz152_2, hfz152_0, hfz152_1, hfz152_2⟩ := cf3_ (w := wc) BK144.out
         have hnb153 := NB145_136.out
         have hnc153 := NB136_145.out
         have hnb154 := NB145_137.out
         have hnc154 := NB137_145.out
         have hnb155 := NB145_138.out
         have hnc155 := NB138_145.out
         obtain ⟨hcz156_0, hcz156_1, hcz156_2, hfz156_0, hfz156_1, hfz156_2⟩ := cf3_ (w := wc) BK145.out
         go_wp2_with (first | ((with_reducible refine gate_dst (N := 9) rfl ?_); refine box_event ?hg (N := 9) ?hd (cs := #[.bool false, .int .u64 0, .int .u64 0]) (t := 28) ?hr ?_; (case hd => rfl); (case hg => rfl); (case hr => first | (go_simp; done) | (go_simp; rfl)); intro gb147 hg w157 hbox hb; have BK147 := Aside0.mk (hbox); have GW147 := bs_ (w := w) hg; have GE147 := bs_ (w := w) hg; have NB136_147 := nlt_ (g := gb136) hg; have NB147_136 := ngt_ (g := gb136) hg; have NB137_147 := nlt_ (g := gb137) hg; have NB147_137 := ngt_ (g := gb137) hg; have NB138_147 := nlt_ (g := gb138) hg; have NB147_138 := ngt_ (g := gb138) hg; have NB144_147 := nlt_ (g := gb144) hg; have NB147_144 := ngt_ (g := gb144) hg; have NB145_147 := nlt_ (g := gb145) hg; have NB147_145 := ngt_ (g := gb145) hg; replace HB := Aside0.mk (below_step bel_ hb); replace BK136 := bb_ (g := gb136) hb; replace BK137 := bb_ (g := gb137) hb; replace BK138 := bb_ (g := gb138) hb; replace BK144 := bb_ (g := gb144) hb; replace BK145 := bb_ (g := gb145) hb; clear hb hbox hg; have hnb158 := NB147_136.out; have hnc158 := NB136_147.out; have hnb159 := NB147_137.out; have hnc159 := NB137_147.out; have hnb160 := NB147_138.out; have hnc160 := NB138_147.out; have hnb161 := NB147_144.out; have hnc161 := NB144_147.out; have hnb162 := NB147_145.out; have hnc162 := NB145_147.out; obtain ⟨hcz163_0, hcz163_1, hcz163_2, hfz163_0, hfz163_1, hfz163_2⟩ := cf3_ (w := w157) BK147.out; have hs147_0 : ∀ v0 v1 v2 : Value, (((w157.setCell ⟨gb147, 0, none⟩ v0).setCell ⟨gb147, 1, none⟩ v1).setCell ⟨gb147, 2, none⟩ v2).cell? ⟨gb147, 0, none⟩ = some v0 := fun _ _ _ => set3_0 BK147.out; have hs147_1 : ∀ v0 v1 v2 : Value, (((w157.setCell ⟨gb147, 0, none⟩ v0).setCell ⟨gb147, 1, none⟩ v1).setCell ⟨gb147, 2, none⟩ v2).cell? ⟨gb147, 1, none⟩ = some v1 := fun _ _ _ => set3_1 BK147.out; have hs147_2 : ∀ v0 v1 v2 : Value, (((w157.setCell ⟨gb147, 0, none⟩ v0).setCell ⟨gb147, 1, none⟩ v1).setCell ⟨gb147, 2, none⟩ v2).cell? ⟨gb147, 2, none⟩ = some v2 := fun _ _ _ => set3_2 BK147.out; obtain ⟨hcz164_0, hcz164_1, hcz164_2, hfz164_0, hfz164_1, hfz164_2⟩ := cf3_ (w := w157) BK144.out; obtain ⟨hcz165_0, hcz165_1, hcz165_2, hfz165_0, hfz165_1, hfz165_2⟩ := cf3_ (w := w157) BK145.out) | ((with_reducible refine gate_callee (f := 61) rfl ?_); refine goesL_ (some 82) rfl rfl Tryd.func61 (by kernel_rfl) rfl #[.agg #[.bool x145000_85, .int .u64 (IntKind.u64.wrap ((IntKind.u64.wrap (x145001_85 - x146001_85)) - 1)), .int .u64 (IntKind.u64.wrap (x145002_85 - x146002_85))]] rfl mp_ ?_; (with_reducible refine (spec_l3Zero.calls x145000_85 (IntKind.u64.wrap ((IntKind.u64.wrap (x145001_85 - x146001_85)) - 1)) (IntKind.u64.wrap (x145002_85 - x146002_85)) false _ A123.out).mono ?_); rintro e w166 ⟨rfl, hb⟩; refine ⟨_, rfl, ?_⟩; replace HB := Aside0.mk (below_step bel_ hb); replace BK136 := Aside0.mk (blk_below (g := gb136) (o := .cells #[.bool a0_0, .int .u64 a0_1, .int .u64 a0_2] 28 (0, 0)) bk_ hb); replace BK137 := Aside0.mk (blk_below (g := gb137) (o := .cells #[.bool a1_0, .int .u64 a1_1, .int .u64 a1_2] 28 (0, 0)) bk_ hb); replace BK138 := Aside0.mk (blk_below (g := gb138) (o := .cells #[.bool false, .int .u64 0, .int .u64 0] 28 (0, 0)) bk_ hb); replace BK144 := Aside0.mk (blk_below (g := gb144) (o := .cells #[.bool x145000_85, .int .u64 x145001_85, .int .u64 x145002_85] 28 (0, 0)) bk_ hb); replace BK145 := Aside0.mk (blk_below (g := gb145) (o := .cells #[.bool x146000_85, .int .u64 x146001_85, .int .u64 x146002_85] 28 (0, 0)) bk_ hb); replace BK147 := Aside0.mk (blk_below (g := gb147) (o := .cells #[.bool x145000_85, .int .u64 (IntKind.u64.wrap ((IntKind.u64.wrap (x145001_85 - x146001_85)) - 1)), .int .u64 (IntKind.u64.wrap (x145002_85 - x146002_85))] 28 (0, 0)) (pu_ #[.bool x145000_85, .int .u64 (IntKind.u64.wrap (x145001_85 - x146001_85)), .int .u64 (IntKind.u64.wrap (x145002_85 - x146002_85))] 1 (h := (pu_ #[.bool x145000_85, .int .u64 (IntKind.u64.wrap (x145001_85 - x146001_85)), .int .u64 0] 2 (h := (pu_ #[.bool x145000_85, .int .u64 0, .int .u64 0] 1 (h := (pu_ #[.bool false, .int .u64 0, .int .u64 0] 0 (h := bk_)))))))) hb); (try clear hb); (try clear hb2); (try clear hk); (try clear hi); obtain ⟨hcz167_0, hcz167_1, hcz167_2, hfz167_0, hfz167_1, hfz167_2⟩ := cf3_ (w := w166) BK147.out; have hnb168 := NB138_136.out; have hnc168 := NB136_138.out; have hnb169 := NB138_137.out; have hnc169 := NB137_138.out; obtain ⟨hcz170_0, hcz170_1, hcz170_2, hfz170_0, hfz170_1, hfz170_2⟩ := cf3_ (w := w166) BK138.out; have hs138_0 : ∀ v0 v1 v2 : Value, (((w166.setCell ⟨gb138, 0, none⟩ v0).setCell ⟨gb138, 1, none⟩ v1).setCell ⟨gb138, 2, none⟩ v2).cell? ⟨gb138, 0, none⟩ = some v0 := fun _ _ _ => set3_0 BK138.out; have hs138_1 : ∀ v0 v1 v2 : Value, (((w166.setCell ⟨gb138, 0, none⟩ v0).setCell ⟨gb138, 1, none⟩ v1).setCell ⟨gb138, 2, none⟩ v2).cell? ⟨gb138, 1, none⟩ = some v1 := fun _ _ _ => set3_1 BK138.out; have hs138_2 : ∀ v0 v1 v2 : Value, (((w166.setCell ⟨gb138, 0, none⟩ v0).setCell ⟨gb138, 1, none⟩ v1).setCell ⟨gb138, 2, none⟩ v2).cell? ⟨gb138, 2, none⟩ = some v2 := fun _ _ _ => set3_2 BK138.out))
         refine bodyPost_ret (results_ct rfl _ _ gb138 28 #[.bool x145000_85, .int .u64 (IntKind.u64.wrap ((IntKind.u64.wrap (x145001_85 - x146001_85)) - 1)), .int .u64 (IntKind.u64.wrap (x145002_85 - x146002_85))] (0, 0) _ rfl (pu_ #[.bool x145000_85, .int .u64 (IntKind.u64.wrap ((IntKind.u64.wrap (x145001_85 - x146001_85)) - 1)), .int .u64 0] 2 (h := (pu_ #[.bool x145000_85, .int .u64 0, .int .u64 0] 1 (h := (pu_ #[.bool false, .int .u64 0, .int .u64 0] 0 (h := bk_)))))) Tryd.underlying28 rfl (by kernel_rfl)) rfl ?_
         exact ⟨rf_, bel_⟩
       ·rw [if_neg c122] at H
        have c122b0 : decide (x145002_85 < x146002_85) = false := decide_eq_false c122
        clear c122
        replace H := Option.bind_eq_some_iff.mp H
        obtain ⟨t149, A1710, H⟩ := H
        replace H : (if t149 = true then (some (false, IntKind.u64.wrap (x145001_85 - x146001_85), IntKind.u64.wrap (x145002_85 - x146002_85), true)) else (some (x145000_85, IntKind.u64.wrap (x145001_85 - x146001_85), IntKind.u64.wrap (x145002_85 - x146002_85), true))) = some (r1, r2, r3, r4) := H
        have A171 := Aside0.mk A1710
        clear A1710
        by_cases c172 : t149 = true
        ·subst c172
         have H1 : (some (false, IntKind.u64.wrap (x145001_85 - x146001_85), IntKind.u64.wrap (x145002_85 - x146002_85), true)) = some (r1, r2, r3, r4) := by rw [if_pos rfl] at H; exact H
         clear H
         have H := H1
         clear H1
         simp only [Option.some.injEq, Prod.mk.injEq] at H
         obtain ⟨rfl, rfl, rfl, rfl⟩ := H
         have hnb173 := NB144_136.out
         have hnc173 := NB136_144.out
         have hnb174 := NB144_137.out
         have hnc174 := NB137_144.out
         have hnb175 := NB144_138.out
         have hnc175 := NB138_144.out
         have hnb176 := NB144_145.out
         have hnc176 := NB145_144.out
         obtain ⟨hcz177_0, hcz177_1, hcz177_2, hfz177_0, hfz177_1, hfz177_2⟩ := cf3_ (w := wc) BK144.out
         have hnb178 := NB145_136.out
         have hnc178 := NB136_145.out
         have hnb179 := NB145_137.out
         have hnc179 := NB137_145.out
         have hnb180 := NB145_138.out
         have hnc180 := NB138_145.out
         obtain ⟨hcz181_0, hcz181_1, hcz181_2, hfz181_0, hfz181_1, hfz181_2⟩ := cf3_ (w := wc) BK145.out
         go_wp2_with (first | ((with_reducible refine gate_dst (N := 9) rfl ?_); refine box_event ?hg (N := 9) ?hd (cs := #[.bool false, .int .u64 0, .int .u64 0]) (t := 28) ?hr ?_; (case hd => rfl); (case hg => rfl); (case hr => first | (go_simp; done) | (go_simp; rfl)); intro gb147 hg w182 hbox hb; have BK147 := Aside0.mk (hbox); have GW147 := bs_ (w := w) hg; have GE147 := bs_ (w := w) hg; have NB136_147 := nlt_ (g := gb136) hg; have NB147_136 := ngt_ (g := gb136) hg; have NB137_147 := nlt_ (g := gb137) hg; have NB147_137 := ngt_ (g := gb137) hg; have NB138_147 := nlt_ (g := gb138) hg; have NB147_138 := ngt_ (g := gb138) hg; have NB144_147 := nlt_ (g := gb144) hg; have NB147_144 := ngt_ (g := gb144) hg; have NB145_147 := nlt_ (g := gb145) hg; have NB147_145 := ngt_ (g := gb145) hg; replace HB := Aside0.mk (below_step bel_ hb); replace BK136 := bb_ (g := gb136) hb; replace BK137 := bb_ (g := gb137) hb; replace BK138 := bb_ (g := gb138) hb; replace BK144 := bb_ (g := gb144) hb; replace BK145 := bb_ (g := gb145) hb; clear hb hbox hg; have hnb183 := NB147_136.out; have hnc183 := NB136_147.out; have hnb184 := NB147_137.out; have hnc184 := NB137_147.out; have hnb185 := NB147_138.out; have hnc185 := NB138_147.out; have hnb186 := NB147_144.out; have hnc186 := NB144_147.out; have hnb187 := NB147_145.out; have hnc187 := NB145_147.out; obtain ⟨hcz188_0, hcz188_1, hcz188_2, hfz188_0, hfz188_1, hfz188_2⟩ := cf3_ (w := w182) BK147.out; have hs147_0 : ∀ v0 v1 v2 : Value, (((w182.setCell ⟨gb147, 0, none⟩ v0).setCell ⟨gb147, 1, none⟩ v1).setCell ⟨gb147, 2, none⟩ v2).cell? ⟨gb147, 0, none⟩ = some v0 := fun _ _ _ => set3_0 BK147.out; have hs147_1 : ∀ v0 v1 v2 : Value, (((w182.setCell ⟨gb147, 0, none⟩ v0).setCell ⟨gb147, 1, none⟩ v1).setCell ⟨gb147, 2, none⟩ v2).cell? ⟨gb147, 1, none⟩ = some v1 := fun _ _ _ => set3_1 BK147.out; have hs147_2 : ∀ v0 v1 v2 : Value, (((w182.setCell ⟨gb147, 0, none⟩ v0).setCell ⟨gb147, 1, none⟩ v1).setCell ⟨gb147, 2, none⟩ v2).cell? ⟨gb147, 2, none⟩ = some v2 := fun _ _ _ => set3_2 BK147.out; obtain ⟨hcz189_0, hcz189_1, hcz189_2, hfz189_0, hfz189_1, hfz189_2⟩ := cf3_ (w := w182) BK144.out; obtain ⟨hcz190_0, hcz190_1, hcz190_2, hfz190_0, hfz190_1, hfz190_2⟩ := cf3_ (w := w182) BK145.out) | ((with_reducible refine gate_callee (f := 61) rfl ?_); refine goesL_ (some 82) rfl rfl Tryd.func61 (by kernel_rfl) rfl #[.agg #[.bool x145000_85, .int .u64 (IntKind.u64.wrap (x145001_85 - x146001_85)), .int .u64 (IntKind.u64.wrap (x145002_85 - x146002_85))]] rfl mp_ ?_; (with_reducible refine (spec_l3Zero.calls x145000_85 (IntKind.u64.wrap (x145001_85 - x146001_85)) (IntKind.u64.wrap (x145002_85 - x146002_85)) true _ A171.out).mono ?_); rintro e w191 ⟨rfl, hb⟩; refine ⟨_, rfl, ?_⟩; replace HB := Aside0.mk (below_step bel_ hb); replace BK136 := Aside0.mk (blk_below (g := gb136) (o := .cells #[.bool a0_0, .int .u64 a0_1, .int .u64 a0_2] 28 (0, 0)) bk_ hb); replace BK137 := Aside0.mk (blk_below (g := gb137) (o := .cells #[.bool a1_0, .int .u64 a1_1, .int .u64 a1_2] 28 (0, 0)) bk_ hb); replace BK138 := Aside0.mk (blk_below (g := gb138) (o := .cells #[.bool false, .int .u64 0, .int .u64 0] 28 (0, 0)) bk_ hb); replace BK144 := Aside0.mk (blk_below (g := gb144) (o := .cells #[.bool x145000_85, .int .u64 x145001_85, .int .u64 x145002_85] 28 (0, 0)) bk_ hb); replace BK145 := Aside0.mk (blk_below (g := gb145) (o := .cells #[.bool x146000_85, .int .u64 x146001_85, .int .u64 x146002_85] 28 (0, 0)) bk_ hb); replace BK147 := Aside0.mk (blk_below (g := gb147) (o := .cells #[.bool x145000_85, .int .u64 (IntKind.u64.wrap (x145001_85 - x146001_85)), .int .u64 (IntKind.u64.wrap (x145002_85 - x146002_85))] 28 (0, 0)) (pu_ #[.bool x145000_85, .int .u64 (IntKind.u64.wrap (x145001_85 - x146001_85)), .int .u64 0] 2 (h := (pu_ #[.bool x145000_85, .int .u64 0, .int .u64 0] 1 (h := (pu_ #[.bool false, .int .u64 0, .int .u64 0] 0 (h := bk_)))))) hb); (try clear hb); (try clear hb2); (try clear hk); (try clear hi); obtain ⟨hcz192_0, hcz192_1, hcz192_2, hfz192_0, hfz192_1, hfz192_2⟩ := cf3_ (w := w191) BK147.out; have hnb193 := NB138_136.out; have hnc193 := NB136_138.out; have hnb194 := NB138_137.out; have hnc194 := NB137_138.out; obtain ⟨hcz195_0, hcz195_1, hcz195_2, hfz195_0, hfz195_1, hfz195_2⟩ := cf3_ (w := w191) BK138.out; have hs138_0 : ∀ v0 v1 v2 : Value, (((w191.setCell ⟨gb138, 0, none⟩ v0).setCell ⟨gb138, 1, none⟩ v1).setCell ⟨gb138, 2, none⟩ v2).cell? ⟨gb138, 0, none⟩ = some v0 := fun _ _ _ => set3_0 BK138.out; have hs138_1 : ∀ v0 v1 v2 : Value, (((w191.setCell ⟨gb138, 0, none⟩ v0).setCell ⟨gb138, 1, none⟩ v1).setCell ⟨gb138, 2, none⟩ v2).cell? ⟨gb138, 1, none⟩ = some v1 := fun _ _ _ => set3_1 BK138.out; have hs138_2 : ∀ v0 v1 v2 : Value, (((w191.setCell ⟨gb138, 0, none⟩ v0).setCell ⟨gb138, 1, none⟩ v1).setCell ⟨gb138, 2, none⟩ v2).cell? ⟨gb138, 2, none⟩ = some v2 := fun _ _ _ => set3_2 BK138.out))
         refine bodyPost_ret (results_ct rfl _ _ gb138 28 #[.bool false, .int .u64 (IntKind.u64.wrap (x145001_85 - x146001_85)), .int .u64 (IntKind.u64.wrap (x145002_85 - x146002_85))] (0, 0) _ rfl (pu_ #[.bool false, .int .u64 (IntKind.u64.wrap (x145001_85 - x146001_85)), .int .u64 0] 2 (h := (pu_ #[.bool false, .int .u64 0, .int .u64 0] 1 (h := (pu_ #[.bool false, .int .u64 0, .int .u64 0] 0 (h := bk_)))))) Tryd.underlying28 rfl (by kernel_rfl)) rfl ?_
         exact ⟨rf_, bel_⟩
        ·replace c172 := Bool.eq_false_iff.mpr c172
         subst c172
         have H1 : (some (x145000_85, IntKind.u64.wrap (x145001_85 - x146001_85), IntKind.u64.wrap (x145002_85 - x146002_85), true)) = some (r1, r2, r3, r4) := by rw [if_neg (show ¬ (false = true) by decide)] at H; exact H
         clear H
         have H := H1
         clear H1
         simp only [Option.some.injEq, Prod.mk.injEq] at H
         obtain ⟨rfl, rfl, rfl, rfl⟩ := H
         have hnb196 := NB144_136.out
         have hnc196 := NB136_144.out
         have hnb197 := NB144_137.out
         have hnc197 := NB137_144.out
         have hnb198 := NB144_138.out
         have hnc198 := NB138_144.out
         have hnb199 := NB144_145.out
         have hnc199 := NB145_144.out
         obtain ⟨hcz200_0, hcz200_1, hcz200_2, hfz200_0, hfz200_1, hfz200_2⟩ := cf3_ (w := wc) BK144.out
         have hnb201 := NB145_136.out
         have hnc201 := NB136_145.out
         have hnb202 := NB145_137.out
         have hnc202 := NB137_145.out
         have hnb203 := NB145_138.out
         have hnc203 := NB138_145.out
         obtain ⟨hcz204_0, hcz204_1, hcz204_2, hfz204_0, hfz204_1, hfz204_2⟩ := cf3_ (w := wc) BK145.out
         go_wp2_with (first | ((with_reducible refine gate_dst (N := 9) rfl ?_); refine box_event ?hg (N := 9) ?hd (cs := #[.bool false, .int .u64 0, .int .u64 0]) (t := 28) ?hr ?_; (case hd => rfl); (case hg => rfl); (case hr => first | (go_simp; done) | (go_simp; rfl)); intro gb147 hg w205 hbox hb; have BK147 := Aside0.mk (hbox); have GW147 := bs_ (w := w) hg; have GE147 := bs_ (w := w) hg; have NB136_147 := nlt_ (g := gb136) hg; have NB147_136 := ngt_ (g := gb136) hg; have NB137_147 := nlt_ (g := gb137) hg; have NB147_137 := ngt_ (g := gb137) hg; have NB138_147 := nlt_ (g := gb138) hg; have NB147_138 := ngt_ (g := gb138) hg; have NB144_147 := nlt_ (g := gb144) hg; have NB147_144 := ngt_ (g := gb144) hg; have NB145_147 := nlt_ (g := gb145) hg; have NB147_145 := ngt_ (g := gb145) hg; replace HB := Aside0.mk (below_step bel_ hb); replace BK136 := bb_ (g := gb136) hb; replace BK137 := bb_ (g := gb137) hb; replace BK138 := bb_ (g := gb138) hb; replace BK144 := bb_ (g := gb144) hb; replace BK145 := bb_ (g := gb145) hb; clear hb hbox hg; have hnb206 := NB147_136.out; have hnc206 := NB136_147.out; have hnb207 := NB147_137.out; have hnc207 := NB137_147.out; have hnb208 := NB147_138.out; have hnc208 := NB138_147.out; have hnb209 := NB147_144.out; have hnc209 := NB144_147.out; have hnb210 := NB147_145.out; have hnc210 := NB145_147.out; obtain ⟨hcz211_0, hcz211_1, hcz211_2, hfz211_0, hfz211_1, hfz211_2⟩ := cf3_ (w := w205) BK147.out; have hs147_0 : ∀ v0 v1 v2 : Value, (((w205.setCell ⟨gb147, 0, none⟩ v0).setCell ⟨gb147, 1, none⟩ v1).setCell ⟨gb147, 2, none⟩ v2).cell? ⟨gb147, 0, none⟩ = some v0 := fun _ _ _ => set3_0 BK147.out; have hs147_1 : ∀ v0 v1 v2 : Value, (((w205.setCell ⟨gb147, 0, none⟩ v0).setCell ⟨gb147, 1, none⟩ v1).setCell ⟨gb147, 2, none⟩ v2).cell? ⟨gb147, 1, none⟩ = some v1 := fun _ _ _ => set3_1 BK147.out; have hs147_2 : ∀ v0 v1 v2 : Value, (((w205.setCell ⟨gb147, 0, none⟩ v0).setCell ⟨gb147, 1, none⟩ v1).setCell ⟨gb147, 2, none⟩ v2).cell? ⟨gb147, 2, none⟩ = some v2 := fun _ _ _ => set3_2 BK147.out; obtain ⟨hcz212_0, hcz212_1, hcz212_2, hfz212_0, hfz212_1, hfz212_2⟩ := cf3_ (w := w205) BK144.out; obtain ⟨hcz213_0, hcz213_1, hcz213_2, hfz213_0, hfz213_1, hfz213_2⟩ := cf3_ (w := w205) BK145.out) | ((with_reducible refine gate_callee (f := 61) rfl ?_); refine goesL_ (some 82) rfl rfl Tryd.func61 (by kernel_rfl) rfl #[.agg #[.bool x145000_85, .int .u64 (IntKind.u64.wrap (x145001_85 - x146001_85)), .int .u64 (IntKind.u64.wrap (x145002_85 - x146002_85))]] rfl mp_ ?_; (with_reducible refine (spec_l3Zero.calls x145000_85 (IntKind.u64.wrap (x145001_85 - x146001_85)) (IntKind.u64.wrap (x145002_85 - x146002_85)) false _ A171.out).mono ?_); rintro e w214 ⟨rfl, hb⟩; refine ⟨_, rfl, ?_⟩; replace HB := Aside0.mk (below_step bel_ hb); replace BK136 := Aside0.mk (blk_below (g := gb136) (o := .cells #[.bool a0_0, .int .u64 a0_1, .int .u64 a0_2] 28 (0, 0)) bk_ hb); replace BK137 := Aside0.mk (blk_below (g := gb137) (o := .cells #[.bool a1_0, .int .u64 a1_1, .int .u64 a1_2] 28 (0, 0)) bk_ hb); replace BK138 := Aside0.mk (blk_below (g := gb138) (o := .cells #[.bool false, .int .u64 0, .int .u64 0] 28 (0, 0)) bk_ hb); replace BK144 := Aside0.mk (blk_below (g := gb144) (o := .cells #[.bool x145000_85, .int .u64 x145001_85, .int .u64 x145002_85] 28 (0, 0)) bk_ hb); replace BK145 := Aside0.mk (blk_below (g := gb145) (o := .cells #[.bool x146000_85, .int .u64 x146001_85, .int .u64 x146002_85] 28 (0, 0)) bk_ hb); replace BK147 := Aside0.mk (blk_below (g := gb147) (o := .cells #[.bool x145000_85, .int .u64 (IntKind.u64.wrap (x145001_85 - x146001_85)), .int .u64 (IntKind.u64.wrap (x145002_85 - x146002_85))] 28 (0, 0)) (pu_ #[.bool x145000_85, .int .u64 (IntKind.u64.wrap (x145001_85 - x146001_85)), .int .u64 0] 2 (h := (pu_ #[.bool x145000_85, .int .u64 0, .int .u64 0] 1 (h := (pu_ #[.bool false, .int .u64 0, .int .u64 0] 0 (h := bk_)))))) hb); (try clear hb); (try clear hb2); (try clear hk); (try clear hi); obtain ⟨hcz215_0, hcz215_1, hcz215_2, hfz215_0, hfz215_1, hfz215_2⟩ := cf3_ (w := w214) BK147.out; have hnb216 := NB138_136.out; have hnc216 := NB136_138.out; have hnb217 := NB138_137.out; have hnc217 := NB137_138.out; obtain ⟨hcz218_0, hcz218_1, hcz218_2, hfz218_0, hfz218_1, hfz218_2⟩ := cf3_ (w := w214) BK138.out; have hs138_0 : ∀ v0 v1 v2 : Value, (((w214.setCell ⟨gb138, 0, none⟩ v0).setCell ⟨gb138, 1, none⟩ v1).setCell ⟨gb138, 2, none⟩ v2).cell? ⟨gb138, 0, none⟩ = some v0 := fun _ _ _ => set3_0 BK138.out; have hs138_1 : ∀ v0 v1 v2 : Value, (((w214.setCell ⟨gb138, 0, none⟩ v0).setCell ⟨gb138, 1, none⟩ v1).setCell ⟨gb138, 2, none⟩ v2).cell? ⟨gb138, 1, none⟩ = some v1 := fun _ _ _ => set3_1 BK138.out; have hs138_2 : ∀ v0 v1 v2 : Value, (((w214.setCell ⟨gb138, 0, none⟩ v0).setCell ⟨gb138, 1, none⟩ v1).setCell ⟨gb138, 2, none⟩ v2).cell? ⟨gb138, 2, none⟩ = some v2 := fun _ _ _ => set3_2 BK138.out))
         refine bodyPost_ret (results_ct rfl _ _ gb138 28 #[.bool x145000_85, .int .u64 (IntKind.u64.wrap (x145001_85 - x146001_85)), .int .u64 (IntKind.u64.wrap (x145002_85 - x146002_85))] (0, 0) _ rfl (pu_ #[.bool x145000_85, .int .u64 (IntKind.u64.wrap (x145001_85 - x146001_85)), .int .u64 0] 2 (h := (pu_ #[.bool x145000_85, .int .u64 0, .int .u64 0] 1 (h := (pu_ #[.bool false, .int .u64 0, .int .u64 0] 0 (h := bk_)))))) Tryd.underlying28 rfl (by kernel_rfl)) rfl ?_
         exact ⟨rf_, bel_⟩
end Go.Proofs.YtkpgpifkbdpnkaaDoor.PFnFracSum
