/- Contracts of Go functions, each with the Lean function that says what it computes: begun by the print, turned by this session. No condition beyond what each theorem states. -/
import Derived.Test.YteldfljjeofiaaaPFnExactSubWidex0
import Derived.Test.YteldfljjeofiaaaPFnExactSubWidex1
namespace Go.Proofs.Yteldfljjeofiaaa.PFnExactSubWide
open Go.RowKit Go.Proofs.YteldfljjeofiaaaW.PrintWords Go.Proofs.YteldfljjeofiaaaW.PrintLast Go.Proofs.YteldfljjeofiaaaW.PrintMore
attribute [local go_sem] max2_int min2_int max_two min_two max_three min_three max_four min_four   -- for this text's walks alone
set_option linter.unusedVariables false
set_option linter.unusedSimpArgs false

/-! ### spec_AddWide: function 47 -/
mutual
def spec_AddWide.j0 : Nat → Bool → Bool → Int → Int → Bool → Int → Int → Option (Bool × Int × Int × Bool)
  | 0, _, _, _, _, _, _, _ => none
  | k + 1, x17, x111000, x111001, x111002, x112000, x112001, x112002 => if x17 = true then (some (false, 0, 0, false)) else (if (x111000 == x112000) = true then (if (IntKind.u64.wrap (x111002 + x112002)) < x111002 then ((spec_WideOk.f x111000 (IntKind.u64.wrap ((IntKind.u64.wrap (x111001 + x112001)) + 1)) (IntKind.u64.wrap (x111002 + x112002))).bind fun t116 => (if t116 = true then (some (x111000, IntKind.u64.wrap ((IntKind.u64.wrap (x111001 + x112001)) + 1), IntKind.u64.wrap (x111002 + x112002), true)) else (some (false, 0, 0, false)))) else ((spec_WideOk.f x111000 (IntKind.u64.wrap (x111001 + x112001)) (IntKind.u64.wrap (x111002 + x112002))).bind fun t117 => (if t117 = true then (some (x111000, IntKind.u64.wrap (x111001 + x112001), IntKind.u64.wrap (x111002 + x112002), true)) else (some (false, 0, 0, false))))) else ((spec_l3Order.f k x111000 x111001 x111002 x112000 x112001 x112002).bind fun t120 => (if t120 < 0 then (spec_AddWide.j1 k x112000 x112001 x112002 x111000 x111001 x111002) else (spec_AddWide.j1 k x111000 x111001 x111002 x112000 x112001 x112002))))
def spec_AddWide.j1 : Nat → Bool → Int → Int → Bool → Int → Int → Option (Bool × Int × Int × Bool)
  | 0, _, _, _, _, _, _ => none
  | k + 1, x119000, x119001, x119002, x120000, x120001, x120002 => if x119002 < x120002 then ((spec_l3Zero.f x119000 (IntKind.u64.wrap ((IntKind.u64.wrap (x119001 - x120001)) - 1)) (IntKind.u64.wrap (x119002 - x120002))).bind fun t122 => (if t122 = true then (some (false, IntKind.u64.wrap ((IntKind.u64.wrap (x119001 - x120001)) - 1), IntKind.u64.wrap (x119002 - x120002), true)) else (some (x119000, IntKind.u64.wrap ((IntKind.u64.wrap (x119001 - x120001)) - 1), IntKind.u64.wrap (x119002 - x120002), true)))) else ((spec_l3Zero.f x119000 (IntKind.u64.wrap (x119001 - x120001)) (IntKind.u64.wrap (x119002 - x120002))).bind fun t123 => (if t123 = true then (some (false, IntKind.u64.wrap (x119001 - x120001), IntKind.u64.wrap (x119002 - x120002), true)) else (some (x119000, IntKind.u64.wrap (x119001 - x120001), IntKind.u64.wrap (x119002 - x120002), true))))
end
def spec_AddWide.f (k : Nat) (a0_0 : Bool) (a0_1 : Int) (a0_2 : Int) (a1_0 : Bool) (a1_1 : Int) (a1_2 : Int) : Option (Bool × Int × Int × Bool) := (spec_WideOk.f a0_0 a0_1 a0_2).bind fun t113 => (if t113 = true then ((spec_WideOk.f a1_0 a1_1 a1_2).bind fun t114 => (spec_AddWide.j0 k (!t114) a0_0 a0_1 a0_2 a1_0 a1_1 a1_2)) else (spec_AddWide.j0 k true a0_0 a0_1 a0_2 a1_0 a1_1 a1_2))
theorem spec_AddWide.mono_l : ∀ k, (∀ y0 y1 y2 y3 y4 y5 y6, LeO (spec_AddWide.j0 k y0 y1 y2 y3 y4 y5 y6) (spec_AddWide.j0 (k + 1) y0 y1 y2 y3 y4 y5 y6)) ∧ (∀ y0 y1 y2 y3 y4 y5, LeO (spec_AddWide.j1 k y0 y1 y2 y3 y4 y5) (spec_AddWide.j1 (k + 1) y0 y1 y2 y3 y4 y5))
  | 0 => ⟨fun _ _ _ _ _ _ _ r h => by simp [spec_AddWide.j0] at h, fun _ _ _ _ _ _ r h => by simp [spec_AddWide.j1] at h⟩
  | k + 1 => by
    obtain ⟨ih0, ih1⟩ := spec_AddWide.mono_l k
    refine ⟨?_, ?_⟩
    · intro y0 y1 y2 y3 y4 y5 y6
      unfold spec_AddWide.j0
      repeat' first
      | (with_reducible exact ih0 _ _ _ _ _ _ _)
      | (with_reducible exact ih1 _ _ _ _ _ _)
      | (with_reducible exact spec_l3Order.mono _ _ _ _ _ _ _)
      | (with_reducible exact LeO.refl _)
      | (with_reducible exact LeO.none _)
      | (with_reducible refine LeO.ite ?_ ?_)
      | (with_reducible refine LeO.bind ?_ (fun _ => ?_))
      | exact ih0 _ _ _ _ _ _ _
      | exact ih1 _ _ _ _ _ _
      | exact spec_l3Order.mono _ _ _ _ _ _ _
      | exact LeO.none _
      | refine LeO.ite ?_ ?_
      | refine LeO.bind ?_ (fun _ => ?_)
    · intro y0 y1 y2 y3 y4 y5
      unfold spec_AddWide.j1
      repeat' first
      | (with_reducible exact ih0 _ _ _ _ _ _ _)
      | (with_reducible exact ih1 _ _ _ _ _ _)
      | (with_reducible exact spec_l3Order.mono _ _ _ _ _ _ _)
      | (with_reducible exact LeO.refl _)
      | (with_reducible exact LeO.none _)
      | (with_reducible refine LeO.ite ?_ ?_)
      | (with_reducible refine LeO.bind ?_ (fun _ => ?_))
      | exact ih0 _ _ _ _ _ _ _
      | exact ih1 _ _ _ _ _ _
      | exact spec_l3Order.mono _ _ _ _ _ _ _
      | exact LeO.none _
      | refine LeO.ite ?_ ?_
      | refine LeO.bind ?_ (fun _ => ?_)
theorem spec_AddWide.mono : ∀ a0 a1 a2 a3 a4 a5 k, LeO (spec_AddWide.f k a0 a1 a2 a3 a4 a5) (spec_AddWide.f (k + 1) a0 a1 a2 a3 a4 a5) := by
  intro a0 a1 a2 a3 a4 a5 k
  obtain ⟨ih0, ih1⟩ := spec_AddWide.mono_l k
  unfold spec_AddWide.f
  repeat' first
      | (with_reducible exact ih0 _ _ _ _ _ _ _)
      | (with_reducible exact ih1 _ _ _ _ _ _)
      | (with_reducible exact spec_l3Order.mono _ _ _ _ _ _ _)
      | (with_reducible exact LeO.refl _)
      | (with_reducible exact LeO.none _)
      | (with_reducible refine LeO.ite ?_ ?_)
      | (with_reducible refine LeO.bind ?_ (fun _ => ?_))
      | exact ih0 _ _ _ _ _ _ _
      | exact ih1 _ _ _ _ _ _
      | exact spec_l3Order.mono _ _ _ _ _ _ _
      | exact LeO.none _
      | refine LeO.ite ?_ ?_
      | refine LeO.bind ?_ (fun _ => ?_)
set_option maxHeartbeats 8000000 in
set_option maxRecDepth 100000 in
theorem spec_AddWide.calls (k : Nat) (a0_0 : Bool) (a0_1 : Int) (a0_2 : Int) (a1_0 : Bool) (a1_1 : Int) (a1_2 : Int) (r1 : Bool) (r2 : Int) (r3 : Int) (r4 : Bool) (w : World) (h : spec_AddWide.f k a0_0 a0_1 a0_2 a1_0 a1_1 a1_2 = some (r1, r2, r3, r4)) :
    Calls Try.prog 47 #[.agg #[.bool a0_0, .int .u64 a0_1, .int .u64 a0_2], .agg #[.bool a1_0, .int .u64 a1_1, .int .u64 a1_2]] w fun e w' => e = .returned (.tuple #[.agg #[.bool r1, .int .u64 r2, .int .u64 r3], .bool r4]) ∧ Below w.heap.size w w' := by
  have hu33 := Try.underlying33
  have HB := Aside0.mk (Below.refl w.heap.size w)
  have H : ((spec_WideOk.f a0_0 a0_1 a0_2).bind fun t113 => (if t113 = true then ((spec_WideOk.f a1_0 a1_1 a1_2).bind fun t114 => (spec_AddWide.j0 k (!t114) a0_0 a0_1 a0_2 a1_0 a1_1 a1_2)) else (spec_AddWide.j0 k true a0_0 a0_1 a0_2 a1_0 a1_1 a1_2))) = some (r1, r2, r3, r4) := h
  clear h
  have HC3 := Aside0.mk H
  clear H
  go_enter Try.func47, Try.ntmps47
  go_upto_region 1 with (first | ((with_reducible refine gate_dst (N := 2) rfl ?_); refine box_event ?hg (N := 2) ?hd (cs := #[.bool a0_0, .int .u64 a0_1, .int .u64 a0_2]) (t := 33) ?hr ?_; (case hd => rfl); (case hg => rfl); (case hr => first | (go_simp; done) | (go_simp; rfl)); intro gb110 hg w4 hbox hb; have n0_ := Aside0.mk (below_step bel_ hb); have n1_ := Aside0.mk (hbox); have n2_ := Aside0.mk ((by rw [hg]; exact (below_size bel_) : w.heap.size ≤ gb110)); have n3_ := Aside0.mk ((by rw [hg]; exact (below_size bel_) : w.heap.size ≤ gb110)); clear HB; have HB := n0_; have BK110 := n1_; have GW110 := n2_; have GE110 := n3_; clear n0_ n1_ n2_ n3_; clear hb hbox hg) | ((with_reducible refine gate_dst (N := 3) rfl ?_); refine box_event ?hg (N := 3) ?hd (cs := #[.bool a1_0, .int .u64 a1_1, .int .u64 a1_2]) (t := 33) ?hr ?_; (case hd => rfl); (case hg => rfl); (case hr => first | (go_simp; done) | (go_simp; rfl)); intro gb111 hg w5 hbox hb; have n0_ := bb_ (g := gb110) (o := .cells #[.bool a0_0, .int .u64 a0_1, .int .u64 a0_2] 33 (0, 0)) hb; have n1_ := Aside0.mk (below_step bel_ hb); have n2_ := Aside0.mk (hbox); have n3_ := Aside0.mk ((by rw [hg]; exact (below_size bel_) : w.heap.size ≤ gb111)); have n4_ := Aside0.mk ((by rw [hg]; exact (below_size bel_) : w.heap.size ≤ gb111)); have n5_ := nlt_ (g := gb110) (o := .cells #[.bool a0_0, .int .u64 a0_1, .int .u64 a0_2] 33 (0, 0)) hg; have n6_ := ngt_ (g := gb110) (o := .cells #[.bool a0_0, .int .u64 a0_1, .int .u64 a0_2] 33 (0, 0)) hg; clear BK110; clear HB; have BK110 := n0_; have HB := n1_; have BK111 := n2_; have GW111 := n3_; have GE111 := n4_; have NB110_111 := n5_; have NB111_110 := n6_; clear n0_ n1_ n2_ n3_ n4_ n5_ n6_; clear hb hbox hg) | ((with_reducible refine gate_dst (N := 4) rfl ?_); refine box_event ?hg (N := 4) ?hd (cs := #[.bool false, .int .u64 0, .int .u64 0]) (t := 33) ?hr ?_; (case hd => rfl); (case hg => rfl); (case hr => first | (go_simp; done) | (go_simp; rfl)); intro gb112 hg w6 hbox hb; have n0_ := bb_ (g := gb110) (o := .cells #[.bool a0_0, .int .u64 a0_1, .int .u64 a0_2] 33 (0, 0)) hb; have n1_ := bb_ (g := gb111) (o := .cells #[.bool a1_0, .int .u64 a1_1, .int .u64 a1_2] 33 (0, 0)) hb; have n2_ := Aside0.mk (below_step bel_ hb); have n3_ := Aside0.mk (hbox); have n4_ := Aside0.mk ((by rw [hg]; exact (below_size bel_) : w.heap.size ≤ gb112)); have n5_ := Aside0.mk ((by rw [hg]; exact (below_size bel_) : w.heap.size ≤ gb112)); have n6_ := nlt_ (g := gb110) (o := .cells #[.bool a0_0, .int .u64 a0_1, .int .u64 a0_2] 33 (0, 0)) hg; have n7_ := ngt_ (g := gb110) (o := .cells #[.bool a0_0, .int .u64 a0_1, .int .u64 a0_2] 33 (0, 0)) hg; have n8_ := nlt_ (g := gb111) (o := .cells #[.bool a1_0, .int .u64 a1_1, .int .u64 a1_2] 33 (0, 0)) hg; have n9_ := ngt_ (g := gb111) (o := .cells #[.bool a1_0, .int .u64 a1_1, .int .u64 a1_2] 33 (0, 0)) hg; clear BK110; clear BK111; clear HB; have BK110 := n0_; have BK111 := n1_; have HB := n2_; have BK112 := n3_; have GW112 := n4_; have GE112 := n5_; have NB110_112 := n6_; have NB112_110 := n7_; have NB111_112 := n8_; have NB112_111 := n9_; clear n0_ n1_ n2_ n3_ n4_ n5_ n6_ n7_ n8_ n9_; clear hb hbox hg))
  (try simp only [Act.put, la_, lb_, lc_])
  go_cut [17] (fun v17 wc => ∃ (kq : Nat) (x17_2 : Bool), v17 = .bool x17_2 ∧ Aside0 (spec_AddWide.j0 kq x17_2 a0_0 a0_1 a0_2 a1_0 a1_1 a1_2 = some (r1, r2, r3, r4)) ∧ Aside0 (kq ≤ k) ∧ Aside0 (wc.heap[gb110]? = some (.cells #[.bool a0_0, .int .u64 a0_1, .int .u64 a0_2] 33 (0, 0))) ∧ Aside0 (wc.heap[gb111]? = some (.cells #[.bool a1_0, .int .u64 a1_1, .int .u64 a1_2] 33 (0, 0))) ∧ Aside0 (wc.heap[gb112]? = some (.cells #[.bool false, .int .u64 0, .int .u64 0] 33 (0, 0))) ∧ Aside0 (Below w.heap.size w wc))
  case first =>
    have H := HC3.out
    clear HC3
    replace H := Option.bind_eq_some_iff.mp H
    obtain ⟨t113, A70, H⟩ := H
    replace H : (if t113 = true then ((spec_WideOk.f a1_0 a1_1 a1_2).bind fun t114 => (spec_AddWide.j0 k (!t114) a0_0 a0_1 a0_2 a1_0 a1_1 a1_2)) else (spec_AddWide.j0 k true a0_0 a0_1 a0_2 a1_0 a1_1 a1_2)) = some (r1, r2, r3, r4) := H
    have A7 := Aside0.mk A70
    clear A70
    by_cases c8 : t113 = true
    · subst c8
      have H1 : ((spec_WideOk.f a1_0 a1_1 a1_2).bind fun t114 => (spec_AddWide.j0 k (!t114) a0_0 a0_1 a0_2 a1_0 a1_1 a1_2)) = some (r1, r2, r3, r4) := by rw [if_pos rfl] at H; exact H
      clear H
      have H := H1
      clear H1
      replace H := Option.bind_eq_some_iff.mp H
      obtain ⟨t114, A90, H⟩ := H
      replace H : (spec_AddWide.j0 k (!t114) a0_0 a0_1 a0_2 a1_0 a1_1 a1_2) = some (r1, r2, r3, r4) := H
      have A9 := Aside0.mk A90
      clear A90
      have H' := Aside0.mk H
      clear H
      have hnb10 := NB110_111.out
      have hnc10 := NB111_110.out
      have hnb11 := NB110_112.out
      have hnc11 := NB112_110.out
      have hcz12_0 : w6.cell? ⟨gb110, 0, none⟩ = some (.bool a0_0) := bc_
      have hcz12_1 : w6.cell? ⟨gb110, 1, none⟩ = some (.int .u64 a0_1) := bc_
      have hcz12_2 : w6.cell? ⟨gb110, 2, none⟩ = some (.int .u64 a0_2) := bc_
      have hfz12_0 := blk_frozen BK110.out 0
      have hfz12_1 := blk_frozen BK110.out 1
      have hfz12_2 := blk_frozen BK110.out 2
      go_wp2_with (first | ((with_reducible refine gate_callee (f := 41) rfl ?_); refine goesL_ (some 11) rfl rfl Try.func41 (by kernel_rfl) rfl #[.agg #[.bool a0_0, .int .u64 a0_1, .int .u64 a0_2]] rfl mp_ ?_; (with_reducible refine (spec_WideOk.calls a0_0 a0_1 a0_2 true _ A7.out).mono ?_); rintro e w13 ⟨rfl, hb⟩; refine ⟨_, rfl, ?_⟩; have n0_ := bb_ (g := gb110) (o := .cells #[.bool a0_0, .int .u64 a0_1, .int .u64 a0_2] 33 (0, 0)) hb; have n1_ := bb_ (g := gb111) (o := .cells #[.bool a1_0, .int .u64 a1_1, .int .u64 a1_2] 33 (0, 0)) hb; have n2_ := bb_ (g := gb112) (o := .cells #[.bool false, .int .u64 0, .int .u64 0] 33 (0, 0)) hb; have n3_ := Aside0.mk (below_step bel_ hb); clear BK110; clear BK111; clear BK112; clear HB; have BK110 := n0_; have BK111 := n1_; have BK112 := n2_; have HB := n3_; clear n0_ n1_ n2_ n3_; (try clear hb); (try clear hb2); (try clear hk); (try clear hi); have hnb14 := NB111_112.out; have hnc14 := NB112_111.out; have hcz15_0 : w13.cell? ⟨gb111, 0, none⟩ = some (.bool a1_0) := bc_; have hcz15_1 : w13.cell? ⟨gb111, 1, none⟩ = some (.int .u64 a1_1) := bc_; have hcz15_2 : w13.cell? ⟨gb111, 2, none⟩ = some (.int .u64 a1_2) := bc_; have hfz15_0 := blk_frozen BK111.out 0; have hfz15_1 := blk_frozen BK111.out 1; have hfz15_2 := blk_frozen BK111.out 2) | (go_at_call 41; (with_reducible refine (spec_WideOk.calls a1_0 a1_1 a1_2 t114 _ A9.out).mono ?_); rintro e w16 ⟨rfl, hb⟩; have n0_ := bb_ (g := gb110) (o := .cells #[.bool a0_0, .int .u64 a0_1, .int .u64 a0_2] 33 (0, 0)) hb; have n1_ := bb_ (g := gb111) (o := .cells #[.bool a1_0, .int .u64 a1_1, .int .u64 a1_2] 33 (0, 0)) hb; have n2_ := bb_ (g := gb112) (o := .cells #[.bool false, .int .u64 0, .int .u64 0] 33 (0, 0)) hb; have n3_ := Aside0.mk (below_step bel_ hb); clear BK110; clear BK111; clear BK112; clear HB; have BK110 := n0_; have BK111 := n1_; have BK112 := n2_; have HB := n3_; clear n0_ n1_ n2_ n3_; (try clear hb); (try clear hb2); (try clear hk); (try clear hi)))
      go_meet
      case rel => exact ⟨_, (!t114), (by first | rfl | (simp; done) | (simp [*]; done)), H', ⟨by first | omega | exact Nat.le_refl _⟩, ⟨by (with_reducible repeat (first | refine bN_ _ ?_ | refine bd_ ?_ | refine ba_ _ ?_)); exact BK110.out⟩, ⟨by (with_reducible repeat (first | refine bN_ _ ?_ | refine bd_ ?_ | refine ba_ _ ?_)); exact BK111.out⟩, ⟨by (with_reducible repeat (first | refine bN_ _ ?_ | refine bd_ ?_ | refine ba_ _ ?_)); exact BK112.out⟩, ⟨by repeat (first | (with_reducible first | exact HB.out | apply below_alloc | apply pw_below_drewN | apply below_drew1 | refine below_set ?_ GE110.out | refine below_set ?_ GE111.out | refine below_set ?_ GE112.out) | exact HB.out)⟩⟩
    · replace c8 := Bool.eq_false_iff.mpr c8
      subst c8
      have H1 : (spec_AddWide.j0 k true a0_0 a0_1 a0_2 a1_0 a1_1 a1_2) = some (r1, r2, r3, r4) := by rw [if_neg (show ¬ (false = true) by decide)] at H; exact H
      clear H
      have H := H1
      clear H1
      have H' := Aside0.mk H
      clear H
      have hnb17 := NB110_111.out
      have hnc17 := NB111_110.out
      have hnb18 := NB110_112.out
      have hnc18 := NB112_110.out
      have hcz19_0 : w6.cell? ⟨gb110, 0, none⟩ = some (.bool a0_0) := bc_
      have hcz19_1 : w6.cell? ⟨gb110, 1, none⟩ = some (.int .u64 a0_1) := bc_
      have hcz19_2 : w6.cell? ⟨gb110, 2, none⟩ = some (.int .u64 a0_2) := bc_
      have hfz19_0 := blk_frozen BK110.out 0
      have hfz19_1 := blk_frozen BK110.out 1
      have hfz19_2 := blk_frozen BK110.out 2
      go_wp2_with (first | ((with_reducible refine gate_callee (f := 41) rfl ?_); refine goesL_ (some 11) rfl rfl Try.func41 (by kernel_rfl) rfl #[.agg #[.bool a0_0, .int .u64 a0_1, .int .u64 a0_2]] rfl mp_ ?_; (with_reducible refine (spec_WideOk.calls a0_0 a0_1 a0_2 false _ A7.out).mono ?_); rintro e w20 ⟨rfl, hb⟩; refine ⟨_, rfl, ?_⟩; have n0_ := bb_ (g := gb110) (o := .cells #[.bool a0_0, .int .u64 a0_1, .int .u64 a0_2] 33 (0, 0)) hb; have n1_ := bb_ (g := gb111) (o := .cells #[.bool a1_0, .int .u64 a1_1, .int .u64 a1_2] 33 (0, 0)) hb; have n2_ := bb_ (g := gb112) (o := .cells #[.bool false, .int .u64 0, .int .u64 0] 33 (0, 0)) hb; have n3_ := Aside0.mk (below_step bel_ hb); clear BK110; clear BK111; clear BK112; clear HB; have BK110 := n0_; have BK111 := n1_; have BK112 := n2_; have HB := n3_; clear n0_ n1_ n2_ n3_; (try clear hb); (try clear hb2); (try clear hk); (try clear hi)))
      go_meet
      case rel => exact ⟨_, (true), (by first | rfl | (simp; done) | (simp [*]; done)), H', ⟨by first | omega | exact Nat.le_refl _⟩, ⟨by (with_reducible repeat (first | refine bN_ _ ?_ | refine bd_ ?_ | refine ba_ _ ?_)); exact BK110.out⟩, ⟨by (with_reducible repeat (first | refine bN_ _ ?_ | refine bd_ ?_ | refine ba_ _ ?_)); exact BK111.out⟩, ⟨by (with_reducible repeat (first | refine bN_ _ ?_ | refine bd_ ?_ | refine ba_ _ ?_)); exact BK112.out⟩, ⟨by repeat (first | (with_reducible first | exact HB.out | apply below_alloc | apply pw_below_drewN | apply below_drew1 | refine below_set ?_ GE110.out | refine below_set ?_ GE111.out | refine below_set ?_ GE112.out) | exact HB.out)⟩⟩
  case rest =>
    clear HC3
    try clear c1
    try clear p2
    try clear c4
    try clear c8
    try clear c10
    try clear c11
    try clear c14
    try clear c17
    try clear c18
    try clear hcz12_0
    try clear hcz12_1
    try clear hcz12_2
    try clear hcz15_0
    try clear hcz15_1
    try clear hcz15_2
    try clear hcz19_0
    try clear hcz19_1
    try clear hcz19_2
    try clear hfz12_0
    try clear hfz12_1
    try clear hfz12_2
    try clear hfz15_0
    try clear hfz15_1
    try clear hfz15_2
    try clear hfz19_0
    try clear hfz19_1
    try clear hfz19_2
    obtain ⟨kq, x17_2, rfl, HA, HJ2, BK110, BK111, BK112, HB⟩ := hcut
    cases kq with
    | zero => exact absurd HA.out (by simp [spec_AddWide.j0])
    | succ kj2 =>
      have H := HA.out
      clear HA
      simp only [spec_AddWide.j0] at H
      by_cases c21 : x17_2 = true
      · subst c21
        have H1 : (some (false, 0, 0, false)) = some (r1, r2, r3, r4) := by rw [if_pos rfl] at H; exact H
        clear H
        have H := H1
        clear H1
        simp only [Option.some.injEq, Prod.mk.injEq] at H
        obtain ⟨rfl, rfl, rfl, rfl⟩ := H
        have hnb22 := NB112_110.out
        have hnc22 := NB110_112.out
        have hnb23 := NB112_111.out
        have hnc23 := NB111_112.out
        have hcz24_0 : wc.cell? ⟨gb112, 0, none⟩ = some (.bool false) := bc_
        have hcz24_1 : wc.cell? ⟨gb112, 1, none⟩ = some (.int .u64 0) := bc_
        have hcz24_2 : wc.cell? ⟨gb112, 2, none⟩ = some (.int .u64 0) := bc_
        have hfz24_0 := blk_frozen BK112.out 0
        have hfz24_1 := blk_frozen BK112.out 1
        have hfz24_2 := blk_frozen BK112.out 2
        go_wp2
        refine bodyPost_ret (results_ct rfl _ _ gb112 33 #[.bool false, .int .u64 0, .int .u64 0] (0, 0) _ rfl (by (with_reducible repeat (first | refine bN_ _ ?_ | refine bd_ ?_ | refine ba_ _ ?_)); refine blk_put (cs := #[.bool false, .int .u64 0, .int .u64 0]) ?_ 2 _ rfl; (with_reducible repeat (first | refine bN_ _ ?_ | refine bd_ ?_ | refine ba_ _ ?_)); refine blk_put (cs := #[.bool false, .int .u64 0, .int .u64 0]) ?_ 1 _ rfl; (with_reducible repeat (first | refine bN_ _ ?_ | refine bd_ ?_ | refine ba_ _ ?_)); refine blk_put (cs := #[.bool false, .int .u64 0, .int .u64 0]) ?_ 0 _ rfl; (with_reducible repeat (first | refine bN_ _ ?_ | refine bd_ ?_ | refine ba_ _ ?_)); exact BK112.out) Try.underlying33 rfl (by kernel_rfl)) rfl ?_
        exact ⟨by first | rfl | (simp [errW_none, errW_some] <;> rfl) | (simp [*, errW_none, errW_some] <;> rfl), by repeat (first | (with_reducible first | exact HB.out | apply below_alloc | apply pw_below_drewN | apply below_drew1 | refine below_set ?_ GE110.out | refine below_set ?_ GE111.out | refine below_set ?_ GE112.out) | exact HB.out)⟩
      · replace c21 := Bool.eq_false_iff.mpr c21
        subst c21
        have H1 : (if (a0_0 == a1_0) = true then (if (IntKind.u64.wrap (a0_2 + a1_2)) < a0_2 then ((spec_WideOk.f a0_0 (IntKind.u64.wrap ((IntKind.u64.wrap (a0_1 + a1_1)) + 1)) (IntKind.u64.wrap (a0_2 + a1_2))).bind fun t116 => (if t116 = true then (some (a0_0, IntKind.u64.wrap ((IntKind.u64.wrap (a0_1 + a1_1)) + 1), IntKind.u64.wrap (a0_2 + a1_2), true)) else (some (false, 0, 0, false)))) else ((spec_WideOk.f a0_0 (IntKind.u64.wrap (a0_1 + a1_1)) (IntKind.u64.wrap (a0_2 + a1_2))).bind fun t117 => (if t117 = true then (some (a0_0, IntKind.u64.wrap (a0_1 + a1_1), IntKind.u64.wrap (a0_2 + a1_2), true)) else (some (false, 0, 0, false))))) else ((spec_l3Order.f kj2 a0_0 a0_1 a0_2 a1_0 a1_1 a1_2).bind fun t120 => (if t120 < 0 then (spec_AddWide.j1 kj2 a1_0 a1_1 a1_2 a0_0 a0_1 a0_2) else (spec_AddWide.j1 kj2 a0_0 a0_1 a0_2 a1_0 a1_1 a1_2)))) = some (r1, r2, r3, r4) := by rw [if_neg (show ¬ (false = true) by decide)] at H; exact H
        clear H
        have H := H1
        clear H1
        by_cases c25 : (a0_0 == a1_0) = true
        · rw [if_pos c25] at H
          have c25b0 : (a0_0 == a1_0) = true := c25
          (try (have c25b1 : decide (a0_0 = a1_0) = true := by simpa using c25))
          (try (have c25b2 : (a0_0 == a1_0) = true := by simpa using c25))
          clear c25
          by_cases c26 : (IntKind.u64.wrap (a0_2 + a1_2)) < a0_2
          · rw [if_pos c26] at H
            have c26b0 : decide ((IntKind.u64.wrap (a0_2 + a1_2)) < a0_2) = true := decide_eq_true c26
            clear c26
            replace H := Option.bind_eq_some_iff.mp H
            obtain ⟨t116, A270, H⟩ := H
            replace H : (if t116 = true then (some (a0_0, IntKind.u64.wrap ((IntKind.u64.wrap (a0_1 + a1_1)) + 1), IntKind.u64.wrap (a0_2 + a1_2), true)) else (some (false, 0, 0, false))) = some (r1, r2, r3, r4) := H
            have A27 := Aside0.mk A270
            clear A270
            by_cases c28 : t116 = true
            · subst c28
              have H1 : (some (a0_0, IntKind.u64.wrap ((IntKind.u64.wrap (a0_1 + a1_1)) + 1), IntKind.u64.wrap (a0_2 + a1_2), true)) = some (r1, r2, r3, r4) := by rw [if_pos rfl] at H; exact H
              clear H
              have H := H1
              clear H1
              simp only [Option.some.injEq, Prod.mk.injEq] at H
              obtain ⟨rfl, rfl, rfl, rfl⟩ := H
              have hnb29 := NB110_111.out
              have hnc29 := NB111_110.out
              have hnb30 := NB110_112.out
              have hnc30 := NB112_110.out
              have hcz31_0 : wc.cell? ⟨gb110, 0, none⟩ = some (.bool a0_0) := bc_
              have hcz31_1 : wc.cell? ⟨gb110, 1, none⟩ = some (.int .u64 a0_1) := bc_
              have hcz31_2 : wc.cell? ⟨gb110, 2, none⟩ = some (.int .u64 a0_2) := bc_
              have hfz31_0 := blk_frozen BK110.out 0
              have hfz31_1 := blk_frozen BK110.out 1
              have hfz31_2 := blk_frozen BK110.out 2
              have hnb32 := NB111_112.out
              have hnc32 := NB112_111.out
              have hcz33_0 : wc.cell? ⟨gb111, 0, none⟩ = some (.bool a1_0) := bc_
              have hcz33_1 : wc.cell? ⟨gb111, 1, none⟩ = some (.int .u64 a1_1) := bc_
              have hcz33_2 : wc.cell? ⟨gb111, 2, none⟩ = some (.int .u64 a1_2) := bc_
              have hfz33_0 := blk_frozen BK111.out 0
              have hfz33_1 := blk_frozen BK111.out 1
              have hfz33_2 := blk_frozen BK111.out 2
              go_wp2_with (first | ((with_reducible refine gate_dst (N := 6) rfl ?_); refine box_event ?hg (N := 6) ?hd (cs := #[.bool false, .int .u64 0, .int .u64 0]) (t := 33) ?hr ?_; (case hd => rfl); (case hg => rfl); (case hr => first | (go_simp; done) | (go_simp; rfl)); intro gb115 hg w34 hbox hb; have n0_ := bb_ (g := gb110) (o := .cells #[.bool a0_0, .int .u64 a0_1, .int .u64 a0_2] 33 (0, 0)) hb; have n1_ := bb_ (g := gb111) (o := .cells #[.bool a1_0, .int .u64 a1_1, .int .u64 a1_2] 33 (0, 0)) hb; have n2_ := bb_ (g := gb112) (o := .cells #[.bool false, .int .u64 0, .int .u64 0] 33 (0, 0)) hb; have n3_ := Aside0.mk (below_step bel_ hb); have n4_ := Aside0.mk (hbox); have n5_ := Aside0.mk ((by rw [hg]; exact (below_size bel_) : w.heap.size ≤ gb115)); have n6_ := Aside0.mk ((by rw [hg]; exact (below_size bel_) : w.heap.size ≤ gb115)); have n7_ := nlt_ (g := gb110) (o := .cells #[.bool a0_0, .int .u64 a0_1, .int .u64 a0_2] 33 (0, 0)) hg; have n8_ := ngt_ (g := gb110) (o := .cells #[.bool a0_0, .int .u64 a0_1, .int .u64 a0_2] 33 (0, 0)) hg; have n9_ := nlt_ (g := gb111) (o := .cells #[.bool a1_0, .int .u64 a1_1, .int .u64 a1_2] 33 (0, 0)) hg; have n10_ := ngt_ (g := gb111) (o := .cells #[.bool a1_0, .int .u64 a1_1, .int .u64 a1_2] 33 (0, 0)) hg; have n11_ := nlt_ (g := gb112) (o := .cells #[.bool false, .int .u64 0, .int .u64 0] 33 (0, 0)) hg; have n12_ := ngt_ (g := gb112) (o := .cells #[.bool false, .int .u64 0, .int .u64 0] 33 (0, 0)) hg; clear BK110; clear BK111; clear BK112; clear HB; have BK110 := n0_; have BK111 := n1_; have BK112 := n2_; have HB := n3_; have BK115 := n4_; have GW115 := n5_; have GE115 := n6_; have NB110_115 := n7_; have NB115_110 := n8_; have NB111_115 := n9_; have NB115_111 := n10_; have NB112_115 := n11_; have NB115_112 := n12_; clear n0_ n1_ n2_ n3_ n4_ n5_ n6_ n7_ n8_ n9_ n10_ n11_ n12_; clear hb hbox hg; have hnb35 := NB115_110.out; have hnc35 := NB110_115.out; have hnb36 := NB115_111.out; have hnc36 := NB111_115.out; have hnb37 := NB115_112.out; have hnc37 := NB112_115.out; have hcz38_0 : w34.cell? ⟨gb115, 0, none⟩ = some (.bool false) := bc_; have hcz38_1 : w34.cell? ⟨gb115, 1, none⟩ = some (.int .u64 0) := bc_; have hcz38_2 : w34.cell? ⟨gb115, 2, none⟩ = some (.int .u64 0) := bc_; have hfz38_0 := blk_frozen BK115.out 0; have hfz38_1 := blk_frozen BK115.out 1; have hfz38_2 := blk_frozen BK115.out 2; have hs115_0 : ∀ v0 v1 v2 : Value, (((w34.setCell ⟨gb115, 0, none⟩ v0).setCell ⟨gb115, 1, none⟩ v1).setCell ⟨gb115, 2, none⟩ v2).cell? ⟨gb115, 0, none⟩ = some v0 := fun _ _ _ => set3_0 BK115.out; have hs115_1 : ∀ v0 v1 v2 : Value, (((w34.setCell ⟨gb115, 0, none⟩ v0).setCell ⟨gb115, 1, none⟩ v1).setCell ⟨gb115, 2, none⟩ v2).cell? ⟨gb115, 1, none⟩ = some v1 := fun _ _ _ => set3_1 BK115.out; have hs115_2 : ∀ v0 v1 v2 : Value, (((w34.setCell ⟨gb115, 0, none⟩ v0).setCell ⟨gb115, 1, none⟩ v1).setCell ⟨gb115, 2, none⟩ v2).cell? ⟨gb115, 2, none⟩ = some v2 := fun _ _ _ => set3_2 BK115.out; have hcz39_0 : w34.cell? ⟨gb110, 0, none⟩ = some (.bool a0_0) := bc_; have hcz39_1 : w34.cell? ⟨gb110, 1, none⟩ = some (.int .u64 a0_1) := bc_; have hcz39_2 : w34.cell? ⟨gb110, 2, none⟩ = some (.int .u64 a0_2) := bc_; have hfz39_0 := blk_frozen BK110.out 0; have hfz39_1 := blk_frozen BK110.out 1; have hfz39_2 := blk_frozen BK110.out 2) | ((with_reducible refine gate_callee (f := 41) rfl ?_); refine goesL_ (some 47) rfl rfl Try.func41 (by kernel_rfl) rfl #[.agg #[.bool a0_0, .int .u64 (IntKind.u64.wrap ((IntKind.u64.wrap (a0_1 + a1_1)) + 1)), .int .u64 (IntKind.u64.wrap (a0_2 + a1_2))]] rfl mp_ ?_; (with_reducible refine (spec_WideOk.calls a0_0 (IntKind.u64.wrap ((IntKind.u64.wrap (a0_1 + a1_1)) + 1)) (IntKind.u64.wrap (a0_2 + a1_2)) true _ A27.out).mono ?_); rintro e w40 ⟨rfl, hb⟩; refine ⟨_, rfl, ?_⟩; have n0_ := Aside0.mk (blk_below (g := gb110) (o := .cells #[.bool a0_0, .int .u64 a0_1, .int .u64 a0_2] 33 (0, 0)) (by (with_reducible repeat (first | refine bN_ _ ?_ | refine bd_ ?_ | refine ba_ _ ?_)); refine blk_far ?_ NB110_115.out _; (with_reducible repeat (first | refine bN_ _ ?_ | refine bd_ ?_ | refine ba_ _ ?_)); refine blk_far ?_ NB110_115.out _; (with_reducible repeat (first | refine bN_ _ ?_ | refine bd_ ?_ | refine ba_ _ ?_)); refine blk_far ?_ NB110_115.out _; (with_reducible repeat (first | refine bN_ _ ?_ | refine bd_ ?_ | refine ba_ _ ?_)); refine blk_far ?_ NB110_115.out _; (with_reducible repeat (first | refine bN_ _ ?_ | refine bd_ ?_ | refine ba_ _ ?_)); exact BK110.out) hb); have n1_ := Aside0.mk (blk_below (g := gb111) (o := .cells #[.bool a1_0, .int .u64 a1_1, .int .u64 a1_2] 33 (0, 0)) (by (with_reducible repeat (first | refine bN_ _ ?_ | refine bd_ ?_ | refine ba_ _ ?_)); refine blk_far ?_ NB111_115.out _; (with_reducible repeat (first | refine bN_ _ ?_ | refine bd_ ?_ | refine ba_ _ ?_)); refine blk_far ?_ NB111_115.out _; (with_reducible repeat (first | refine bN_ _ ?_ | refine bd_ ?_ | refine ba_ _ ?_)); refine blk_far ?_ NB111_115.out _; (with_reducible repeat (first | refine bN_ _ ?_ | refine bd_ ?_ | refine ba_ _ ?_)); refine blk_far ?_ NB111_115.out _; (with_reducible repeat (first | refine bN_ _ ?_ | refine bd_ ?_ | refine ba_ _ ?_)); exact BK111.out) hb); have n2_ := Aside0.mk (blk_below (g := gb112) (o := .cells #[.bool false, .int .u64 0, .int .u64 0] 33 (0, 0)) (by (with_reducible repeat (first | refine bN_ _ ?_ | refine bd_ ?_ | refine ba_ _ ?_)); refine blk_far ?_ NB112_115.out _; (with_reducible repeat (first | refine bN_ _ ?_ | refine bd_ ?_ | refine ba_ _ ?_)); refine blk_far ?_ NB112_115.out _; (with_reducible repeat (first | refine bN_ _ ?_ | refine bd_ ?_ | refine ba_ _ ?_)); refine blk_far ?_ NB112_115.out _; (with_reducible repeat (first | refine bN_ _ ?_ | refine bd_ ?_ | refine ba_ _ ?_)); refine blk_far ?_ NB112_115.out _; (with_reducible repeat (first | refine bN_ _ ?_ | refine bd_ ?_ | refine ba_ _ ?_)); exact BK112.out) hb); have n3_ := Aside0.mk (blk_below (g := gb115) (o := .cells #[.bool a0_0, .int .u64 (IntKind.u64.wrap ((IntKind.u64.wrap (a0_1 + a1_1)) + 1)), .int .u64 (IntKind.u64.wrap (a0_2 + a1_2))] 33 (0, 0)) (by (with_reducible repeat (first | refine bN_ _ ?_ | refine bd_ ?_ | refine ba_ _ ?_)); refine blk_put (cs := #[.bool a0_0, .int .u64 (IntKind.u64.wrap (a0_1 + a1_1)), .int .u64 (IntKind.u64.wrap (a0_2 + a1_2))]) ?_ 1 _ rfl; (with_reducible repeat (first | refine bN_ _ ?_ | refine bd_ ?_ | refine ba_ _ ?_)); refine blk_put (cs := #[.bool a0_0, .int .u64 (IntKind.u64.wrap (a0_1 + a1_1)), .int .u64 0]) ?_ 2 _ rfl; (with_reducible repeat (first | refine bN_ _ ?_ | refine bd_ ?_ | refine ba_ _ ?_)); refine blk_put (cs := #[.bool a0_0, .int .u64 0, .int .u64 0]) ?_ 1 _ rfl; (with_reducible repeat (first | refine bN_ _ ?_ | refine bd_ ?_ | refine ba_ _ ?_)); refine blk_put (cs := #[.bool false, .int .u64 0, .int .u64 0]) ?_ 0 _ rfl; (with_reducible repeat (first | refine bN_ _ ?_ | refine bd_ ?_ | refine ba_ _ ?_)); exact BK115.out) hb); have n4_ := Aside0.mk (below_step bel_ hb); clear BK110; clear BK111; clear BK112; clear BK115; clear HB; have BK110 := n0_; have BK111 := n1_; have BK112 := n2_; have BK115 := n3_; have HB := n4_; clear n0_ n1_ n2_ n3_ n4_; (try clear hb); (try clear hb2); (try clear hk); (try clear hi); have hcz41_0 : w40.cell? ⟨gb115, 0, none⟩ = some (.bool a0_0) := bc_; have hcz41_1 : w40.cell? ⟨gb115, 1, none⟩ = some (.int .u64 (IntKind.u64.wrap ((IntKind.u64.wrap (a0_1 + a1_1)) + 1))) := bc_; have hcz41_2 : w40.cell? ⟨gb115, 2, none⟩ = some (.int .u64 (IntKind.u64.wrap (a0_2 + a1_2))) := bc_; have hfz41_0 := blk_frozen BK115.out 0; have hfz41_1 := blk_frozen BK115.out 1; have hfz41_2 := blk_frozen BK115.out 2; have hcz42_0 : w40.cell? ⟨gb112, 0, none⟩ = some (.bool false) := bc_; have hcz42_1 : w40.cell? ⟨gb112, 1, none⟩ = some (.int .u64 0) := bc_; have hcz42_2 : w40.cell? ⟨gb112, 2, none⟩ = some (.int .u64 0) := bc_; have hfz42_0 := blk_frozen BK112.out 0; have hfz42_1 := blk_frozen BK112.out 1; have hfz42_2 := blk_frozen BK112.out 2; have hs112_0 : ∀ v0 v1 v2 : Value, (((w40.setCell ⟨gb112, 0, none⟩ v0).setCell ⟨gb112, 1, none⟩ v1).setCell ⟨gb112, 2, none⟩ v2).cell? ⟨gb112, 0, none⟩ = some v0 := fun _ _ _ => set3_0 BK112.out; have hs112_1 : ∀ v0 v1 v2 : Value, (((w40.setCell ⟨gb112, 0, none⟩ v0).setCell ⟨gb112, 1, none⟩ v1).setCell ⟨gb112, 2, none⟩ v2).cell? ⟨gb112, 1, none⟩ = some v1 := fun _ _ _ => set3_1 BK112.out; have hs112_2 : ∀ v0 v1 v2 : Value, (((w40.setCell ⟨gb112, 0, none⟩ v0).setCell ⟨gb112, 1, none⟩ v1).setCell ⟨gb112, 2, none⟩ v2).cell? ⟨gb112, 2, none⟩ = some v2 := fun _ _ _ => set3_2 BK112.out))
              refine bodyPost_ret (results_ct rfl _ _ gb112 33 #[.bool a0_0, .int .u64 (IntKind.u64.wrap ((IntKind.u64.wrap (a0_1 + a1_1)) + 1)), .int .u64 (IntKind.u64.wrap (a0_2 + a1_2))] (0, 0) _ rfl (by (with_reducible repeat (first | refine bN_ _ ?_ | refine bd_ ?_ | refine ba_ _ ?_)); refine blk_put (cs := #[.bool a0_0, .int .u64 (IntKind.u64.wrap ((IntKind.u64.wrap (a0_1 + a1_1)) + 1)), .int .u64 0]) ?_ 2 _ rfl; (with_reducible repeat (first | refine bN_ _ ?_ | refine bd_ ?_ | refine ba_ _ ?_)); refine blk_put (cs := #[.bool a0_0, .int .u64 0, .int .u64 0]) ?_ 1 _ rfl; (with_reducible repeat (first | refine bN_ _ ?_ | refine bd_ ?_ | refine ba_ _ ?_)); refine blk_put (cs := #[.bool false, .int .u64 0, .int .u64 0]) ?_ 0 _ rfl; (with_reducible repeat (first | refine bN_ _ ?_ | refine bd_ ?_ | refine ba_ _ ?_)); exact BK112.out) Try.underlying33 rfl (by kernel_rfl)) rfl ?_
              exact ⟨by first | rfl | (simp [errW_none, errW_some] <;> rfl) | (simp [*, errW_none, errW_some] <;> rfl), by repeat (first | (with_reducible first | exact HB.out | apply below_alloc | apply pw_below_drewN | apply below_drew1 | refine below_set ?_ GE110.out | refine below_set ?_ GE111.out | refine below_set ?_ GE112.out | refine below_set ?_ GE115.out) | exact HB.out)⟩
            · replace c28 := Bool.eq_false_iff.mpr c28
              subst c28
              have H1 : (some (false, 0, 0, false)) = some (r1, r2, r3, r4) := by rw [if_neg (show ¬ (false = true) by decide)] at H; exact H
              clear H
              have H := H1
              clear H1
              simp only [Option.some.injEq, Prod.mk.injEq] at H
              obtain ⟨rfl, rfl, rfl, rfl⟩ := H
              have hnb43 := NB110_111.out
              have hnc43 := NB111_110.out
              have hnb44 := NB110_112.out
              have hnc44 := NB112_110.out
              have hcz45_0 : wc.cell? ⟨gb110, 0, none⟩ = some (.bool a0_0) := bc_
              have hcz45_1 : wc.cell? ⟨gb110, 1, none⟩ = some (.int .u64 a0_1) := bc_
              have hcz45_2 : wc.cell? ⟨gb110, 2, none⟩ = some (.int .u64 a0_2) := bc_
              have hfz45_0 := blk_frozen BK110.out 0
              have hfz45_1 := blk_frozen BK110.out 1
              have hfz45_2 := blk_frozen BK110.out 2
              have hnb46 := NB111_112.out
              have hnc46 := NB112_111.out
              have hcz47_0 : wc.cell? ⟨gb111, 0, none⟩ = some (.bool a1_0) := bc_
              have hcz47_1 : wc.cell? ⟨gb111, 1, none⟩ = some (.int .u64 a1_1) := bc_
              have hcz47_2 : wc.cell? ⟨gb111, 2, none⟩ = some (.int .u64 a1_2) := bc_
              have hfz47_0 := blk_frozen BK111.out 0
              have hfz47_1 := blk_frozen BK111.out 1
              have hfz47_2 := blk_frozen BK111.out 2
              go_wp2_with (first | ((with_reducible refine gate_dst (N := 6) rfl ?_); refine box_event ?hg (N := 6) ?hd (cs := #[.bool false, .int .u64 0, .int .u64 0]) (t := 33) ?hr ?_; (case hd => rfl); (case hg => rfl); (case hr => first | (go_simp; done) | (go_simp; rfl)); intro gb115 hg w48 hbox hb; have n0_ := bb_ (g := gb110) (o := .cells #[.bool a0_0, .int .u64 a0_1, .int .u64 a0_2] 33 (0, 0)) hb; have n1_ := bb_ (g := gb111) (o := .cells #[.bool a1_0, .int .u64 a1_1, .int .u64 a1_2] 33 (0, 0)) hb; have n2_ := bb_ (g := gb112) (o := .cells #[.bool false, .int .u64 0, .int .u64 0] 33 (0, 0)) hb; have n3_ := Aside0.mk (below_step bel_ hb); have n4_ := Aside0.mk (hbox); have n5_ := Aside0.mk ((by rw [hg]; exact (below_size bel_) : w.heap.size ≤ gb115)); have n6_ := Aside0.mk ((by rw [hg]; exact (below_size bel_) : w.heap.size ≤ gb115)); have n7_ := nlt_ (g := gb110) (o := .cells #[.bool a0_0, .int .u64 a0_1, .int .u64 a0_2] 33 (0, 0)) hg; have n8_ := ngt_ (g := gb110) (o := .cells #[.bool a0_0, .int .u64 a0_1, .int .u64 a0_2] 33 (0, 0)) hg; have n9_ := nlt_ (g := gb111) (o := .cells #[.bool a1_0, .int .u64 a1_1, .int .u64 a1_2] 33 (0, 0)) hg; have n10_ := ngt_ (g := gb111) (o := .cells #[.bool a1_0, .int .u64 a1_1, .int .u64 a1_2] 33 (0, 0)) hg; have n11_ := nlt_ (g := gb112) (o := .cells #[.bool false, .int .u64 0, .int .u64 0] 33 (0, 0)) hg; have n12_ := ngt_ (g := gb112) (o := .cells #[.bool false, .int .u64 0, .int .u64 0] 33 (0, 0)) hg; clear BK110; clear BK111; clear BK112; clear HB; have BK110 := n0_; have BK111 := n1_; have BK112 := n2_; have HB := n3_; have BK115 := n4_; have GW115 := n5_; have GE115 := n6_; have NB110_115 := n7_; have NB115_110 := n8_; have NB111_115 := n9_; have NB115_111 := n10_; have NB112_115 := n11_; have NB115_112 := n12_; clear n0_ n1_ n2_ n3_ n4_ n5_ n6_ n7_ n8_ n9_ n10_ n11_ n12_; clear hb hbox hg; have hnb49 := NB115_110.out; have hnc49 := NB110_115.out; have hnb50 := NB115_111.out; have hnc50 := NB111_115.out; have hnb51 := NB115_112.out; have hnc51 := NB112_115.out; have hcz52_0 : w48.cell? ⟨gb115, 0, none⟩ = some (.bool false) := bc_; have hcz52_1 : w48.cell? ⟨gb115, 1, none⟩ = some (.int .u64 0) := bc_; have hcz52_2 : w48.cell? ⟨gb115, 2, none⟩ = some (.int .u64 0) := bc_; have hfz52_0 := blk_frozen BK115.out 0; have hfz52_1 := blk_frozen BK115.out 1; have hfz52_2 := blk_frozen BK115.out 2; have hs115_0 : ∀ v0 v1 v2 : Value, (((w48.setCell ⟨gb115, 0, none⟩ v0).setCell ⟨gb115, 1, none⟩ v1).setCell ⟨gb115, 2, none⟩ v2).cell? ⟨gb115, 0, none⟩ = some v0 := fun _ _ _ => set3_0 BK115.out; have hs115_1 : ∀ v0 v1 v2 : Value, (((w48.setCell ⟨gb115, 0, none⟩ v0).setCell ⟨gb115, 1, none⟩ v1).setCell ⟨gb115, 2, none⟩ v2).cell? ⟨gb115, 1, none⟩ = some v1 := fun _ _ _ => set3_1 BK115.out; have hs115_2 : ∀ v0 v1 v2 : Value, (((w48.setCell ⟨gb115, 0, none⟩ v0).setCell ⟨gb115, 1, none⟩ v1).setCell ⟨gb115, 2, none⟩ v2).cell? ⟨gb115, 2, none⟩ = some v2 := fun _ _ _ => set3_2 BK115.out; have hcz53_0 : w48.cell? ⟨gb110, 0, none⟩ = some (.bool a0_0) := bc_; have hcz53_1 : w48.cell? ⟨gb110, 1, none⟩ = some (.int .u64 a0_1) := bc_; have hcz53_2 : w48.cell? ⟨gb110, 2, none⟩ = some (.int .u64 a0_2) := bc_; have hfz53_0 := blk_frozen BK110.out 0; have hfz53_1 := blk_frozen BK110.out 1; have hfz53_2 := blk_frozen BK110.out 2) | ((with_reducible refine gate_callee (f := 41) rfl ?_); refine goesL_ (some 47) rfl rfl Try.func41 (by kernel_rfl) rfl #[.agg #[.bool a0_0, .int .u64 (IntKind.u64.wrap ((IntKind.u64.wrap (a0_1 + a1_1)) + 1)), .int .u64 (IntKind.u64.wrap (a0_2 + a1_2))]] rfl mp_ ?_; (with_reducible refine (spec_WideOk.calls a0_0 (IntKind.u64.wrap ((IntKind.u64.wrap (a0_1 + a1_1)) + 1)) (IntKind.u64.wrap (a0_2 + a1_2)) false _ A27.out).mono ?_); rintro e w54 ⟨rfl, hb⟩; refine ⟨_, rfl, ?_⟩; have n0_ := Aside0.mk (blk_below (g := gb110) (o := .cells #[.bool a0_0, .int .u64 a0_1, .int .u64 a0_2] 33 (0, 0)) (by (with_reducible repeat (first | refine bN_ _ ?_ | refine bd_ ?_ | refine ba_ _ ?_)); refine blk_far ?_ NB110_115.out _; (with_reducible repeat (first | refine bN_ _ ?_ | refine bd_ ?_ | refine ba_ _ ?_)); refine blk_far ?_ NB110_115.out _; (with_reducible repeat (first | refine bN_ _ ?_ | refine bd_ ?_ | refine ba_ _ ?_)); refine blk_far ?_ NB110_115.out _; (with_reducible repeat (first | refine bN_ _ ?_ | refine bd_ ?_ | refine ba_ _ ?_)); refine blk_far ?_ NB110_115.out _; (with_reducible repeat (first | refine bN_ _ ?_ | refine bd_ ?_ | refine ba_ _ ?_)); exact BK110.out) hb); have n1_ := Aside0.mk (blk_below (g := gb111) (o := .cells #[.bool a1_0, .int .u64 a1_1, .int .u64 a1_2] 33 (0, 0)) (by (with_reducible repeat (first | refine bN_ _ ?_ | refine bd_ ?_ | refine ba_ _ ?_)); refine blk_far ?_ NB111_115.out _; (with_reducible repeat (first | refine bN_ _ ?_ | refine bd_ ?_ | refine ba_ _ ?_)); refine blk_far ?_ NB111_115.out _; (with_reducible repeat (first | refine bN_ _ ?_ | refine bd_ ?_ | refine ba_ _ ?_)); refine blk_far ?_ NB111_115.out _; (with_reducible repeat (first | refine bN_ _ ?_ | refine bd_ ?_ | refine ba_ _ ?_)); refine blk_far ?_ NB111_115.out _; (with_reducible repeat (first | refine bN_ _ ?_ | refine bd_ ?_ | refine ba_ _ ?_)); exact BK111.out) hb); have n2_ := Aside0.mk (blk_below (g := gb112) (o := .cells #[.bool false, .int .u64 0, .int .u64 0] 33 (0, 0)) (by (with_reducible repeat (first | refine bN_ _ ?_ | refine bd_ ?_ | refine ba_ _ ?_)); refine blk_far ?_ NB112_115.out _; (with_reducible repeat (first | refine bN_ _ ?_ | refine bd_ ?_ | refine ba_ _ ?_)); refine blk_far ?_ NB112_115.out _; (with_reducible repeat (first | refine bN_ _ ?_ | refine bd_ ?_ | refine ba_ _ ?_)); refine blk_far ?_ NB112_115.out _; (with_reducible repeat (first | refine bN_ _ ?_ | refine bd_ ?_ | refine ba_ _ ?_)); refine blk_far ?_ NB112_115.out _; (with_reducible repeat (first | refine bN_ _ ?_ | refine bd_ ?_ | refine ba_ _ ?_)); exact BK112.out) hb); have n3_ := Aside0.mk (blk_below (g := gb115) (o := .cells #[.bool a0_0, .int .u64 (IntKind.u64.wrap ((IntKind.u64.wrap (a0_1 + a1_1)) + 1)), .int .u64 (IntKind.u64.wrap (a0_2 + a1_2))] 33 (0, 0)) (by (with_reducible repeat (first | refine bN_ _ ?_ | refine bd_ ?_ | refine ba_ _ ?_)); refine blk_put (cs := #[.bool a0_0, .int .u64 (IntKind.u64.wrap (a0_1 + a1_1)), .int .u64 (IntKind.u64.wrap (a0_2 + a1_2))]) ?_ 1 _ rfl; (with_reducible repeat (first | refine bN_ _ ?_ | refine bd_ ?_ | refine ba_ _ ?_)); refine blk_put (cs := #[.bool a0_0, .int .u64 (IntKind.u64.wrap (a0_1 + a1_1)), .int .u64 0]) ?_ 2 _ rfl; (with_reducible repeat (first | refine bN_ _ ?_ | refine bd_ ?_ | refine ba_ _ ?_)); refine blk_put (cs := #[.bool a0_0, .int .u64 0, .int .u64 0]) ?_ 1 _ rfl; (with_reducible repeat (first | refine bN_ _ ?_ | refine bd_ ?_ | refine ba_ _ ?_)); refine blk_put (cs := #[.bool false, .int .u64 0, .int .u64 0]) ?_ 0 _ rfl; (with_reducible repeat (first | refine bN_ _ ?_ | refine bd_ ?_ | refine ba_ _ ?_)); exact BK115.out) hb); have n4_ := Aside0.mk (below_step bel_ hb); clear BK110; clear BK111; clear BK112; clear BK115; clear HB; have BK110 := n0_; have BK111 := n1_; have BK112 := n2_; have BK115 := n3_; have HB := n4_; clear n0_ n1_ n2_ n3_ n4_; (try clear hb); (try clear hb2); (try clear hk); (try clear hi); have hcz55_0 : w54.cell? ⟨gb112, 0, none⟩ = some (.bool false) := bc_; have hcz55_1 : w54.cell? ⟨gb112, 1, none⟩ = some (.int .u64 0) := bc_; have hcz55_2 : w54.cell? ⟨gb112, 2, none⟩ = some (.int .u64 0) := bc_; have hfz55_0 := blk_frozen BK112.out 0; have hfz55_1 := blk_frozen BK112.out 1; have hfz55_2 := blk_frozen BK112.out 2; have hs112_0 : ∀ v0 v1 v2 : Value, (((w54.setCell ⟨gb112, 0, none⟩ v0).setCell ⟨gb112, 1, none⟩ v1).setCell ⟨gb112, 2, none⟩ v2).cell? ⟨gb112, 0, none⟩ = some v0 := fun _ _ _ => set3_0 BK112.out; have hs112_1 : ∀ v0 v1 v2 : Value, (((w54.setCell ⟨gb112, 0, none⟩ v0).setCell ⟨gb112, 1, none⟩ v1).setCell ⟨gb112, 2, none⟩ v2).cell? ⟨gb112, 1, none⟩ = some v1 := fun _ _ _ => set3_1 BK112.out; have hs112_2 : ∀ v0 v1 v2 : Value, (((w54.setCell ⟨gb112, 0, none⟩ v0).setCell ⟨gb112, 1, none⟩ v1).setCell ⟨gb112, 2, none⟩ v2).cell? ⟨gb112, 2, none⟩ = some v2 := fun _ _ _ => set3_2 BK112.out))
              refine bodyPost_ret (results_ct rfl _ _ gb112 33 #[.bool false, .int .u64 0, .int .u64 0] (0, 0) _ rfl (by (with_reducible repeat (first | refine bN_ _ ?_ | refine bd_ ?_ | refine ba_ _ ?_)); refine blk_put (cs := #[.bool false, .int .u64 0, .int .u64 0]) ?_ 2 _ rfl; (with_reducible repeat (first | refine bN_ _ ?_ | refine bd_ ?_ | refine ba_ _ ?_)); refine blk_put (cs := #[.bool false, .int .u64 0, .int .u64 0]) ?_ 1 _ rfl; (with_reducible repeat (first | refine bN_ _ ?_ | refine bd_ ?_ | refine ba_ _ ?_)); refine blk_put (cs := #[.bool false, .int .u64 0, .int .u64 0]) ?_ 0 _ rfl; (with_reducible repeat (first | refine bN_ _ ?_ | refine bd_ ?_ | refine ba_ _ ?_)); exact BK112.out) Try.underlying33 rfl (by kernel_rfl)) rfl ?_
              exact ⟨by first | rfl | (simp [errW_none, errW_some] <;> rfl) | (simp [*, errW_none, errW_some] <;> rfl), by repeat (first | (with_reducible first | exact HB.out | apply below_alloc | apply pw_below_drewN | apply below_drew1 | refine below_set ?_ GE110.out | refine below_set ?_ GE111.out | refine below_set ?_ GE112.out | refine below_set ?_ GE115.out) | exact HB.out)⟩
          · rw [if_neg c26] at H
            have c26b0 : decide ((IntKind.u64.wrap (a0_2 + a1_2)) < a0_2) = false := decide_eq_false c26
            clear c26
            replace H := Option.bind_eq_some_iff.mp H
            obtain ⟨t117, A560, H⟩ := H
            replace H : (if t117 = true then (some (a0_0, IntKind.u64.wrap (a0_1 + a1_1), IntKind.u64.wrap (a0_2 + a1_2), true)) else (some (false, 0, 0, false))) = some (r1, r2, r3, r4) := H
            have A56 := Aside0.mk A560
            clear A560
            by_cases c57 : t117 = true
            · subst c57
              have H1 : (some (a0_0, IntKind.u64.wrap (a0_1 + a1_1), IntKind.u64.wrap (a0_2 + a1_2), true)) = some (r1, r2, r3, r4) := by rw [if_pos rfl] at H; exact H
              clear H
              have H := H1
              clear H1
              simp only [Option.some.injEq, Prod.mk.injEq] at H
              obtain ⟨rfl, rfl, rfl, rfl⟩ := H
              have hnb58 := NB110_111.out
              have hnc58 := NB111_110.out
              have hnb59 := NB110_112.out
              have hnc59 := NB112_110.out
              have hcz60_0 : wc.cell? ⟨gb110, 0, none⟩ = some (.bool a0_0) := bc_
              have hcz60_1 : wc.cell? ⟨gb110, 1, none⟩ = some (.int .u64 a0_1) := bc_
              have hcz60_2 : wc.cell? ⟨gb110, 2, none⟩ = some (.int .u64 a0_2) := bc_
              have hfz60_0 := blk_frozen BK110.out 0
              have hfz60_1 := blk_frozen BK110.out 1
              have hfz60_2 := blk_frozen BK110.out 2
              have hnb61 := NB111_112.out
              have hnc61 := NB112_111.out
              have hcz62_0 : wc.cell? ⟨gb111, 0, none⟩ = some (.bool a1_0) := bc_
              have hcz62_1 : wc.cell? ⟨gb111, 1, none⟩ = some (.int .u64 a1_1) := bc_
              have hcz62_2 : wc.cell? ⟨gb111, 2, none⟩ = some (.int .u64 a1_2) := bc_
              have hfz62_0 := blk_frozen BK111.out 0
              have hfz62_1 := blk_frozen BK111.out 1
              have hfz62_2 := blk_frozen BK111.out 2
              go_wp2_with (first | ((with_reducible refine gate_dst (N := 6) rfl ?_); refine box_event ?hg (N := 6) ?hd (cs := #[.bool false, .int .u64 0, .int .u64 0]) (t := 33) ?hr ?_; (case hd => rfl); (case hg => rfl); (case hr => first | (go_simp; done) | (go_simp; rfl)); intro gb115 hg w63 hbox hb; have n0_ := bb_ (g := gb110) (o := .cells #[.bool a0_0, .int .u64 a0_1, .int .u64 a0_2] 33 (0, 0)) hb; have n1_ := bb_ (g := gb111) (o := .cells #[.bool a1_0, .int .u64 a1_1, .int .u64 a1_2] 33 (0, 0)) hb; have n2_ := bb_ (g := gb112) (o := .cells #[.bool false, .int .u64 0, .int .u64 0] 33 (0, 0)) hb; have n3_ := Aside0.mk (below_step bel_ hb); have n4_ := Aside0.mk (hbox); have n5_ := Aside0.mk ((by rw [hg]; exact (below_size bel_) : w.heap.size ≤ gb115)); have n6_ := Aside0.mk ((by rw [hg]; exact (below_size bel_) : w.heap.size ≤ gb115)); have n7_ := nlt_ (g := gb110) (o := .cells #[.bool a0_0, .int .u64 a0_1, .int .u64 a0_2] 33 (0, 0)) hg; have n8_ := ngt_ (g := gb110) (o := .cells #[.bool a0_0, .int .u64 a0_1, .int .u64 a0_2] 33 (0, 0)) hg; have n9_ := nlt_ (g := gb111) (o := .cells #[.bool a1_0, .int .u64 a1_1, .int .u64 a1_2] 33 (0, 0)) hg; have n10_ := ngt_ (g := gb111) (o := .cells #[.bool a1_0, .int .u64 a1_1, .int .u64 a1_2] 33 (0, 0)) hg; have n11_ := nlt_ (g := gb112) (o := .cells #[.bool false, .int .u64 0, .int .u64 0] 33 (0, 0)) hg; have n12_ := ngt_ (g := gb112) (o := .cells #[.bool false, .int .u64 0, .int .u64 0] 33 (0, 0)) hg; clear BK110; clear BK111; clear BK112; clear HB; have BK110 := n0_; have BK111 := n1_; have BK112 := n2_; have HB := n3_; have BK115 := n4_; have GW115 := n5_; have GE115 := n6_; have NB110_115 := n7_; have NB115_110 := n8_; have NB111_115 := n9_; have NB115_111 := n10_; have NB112_115 := n11_; have NB115_112 := n12_; clear n0_ n1_ n2_ n3_ n4_ n5_ n6_ n7_ n8_ n9_ n10_ n11_ n12_; clear hb hbox hg; have hnb64 := NB115_110.out; have hnc64 := NB110_115.out; have hnb65 := NB115_111.out; have hnc65 := NB111_115.out; have hnb66 := NB115_112.out; have hnc66 := NB112_115.out; have hcz67_0 : w63.cell? ⟨gb115, 0, none⟩ = some (.bool false) := bc_; have hcz67_1 : w63.cell? ⟨gb115, 1, none⟩ = some (.int .u64 0) := bc_; have hcz67_2 : w63.cell? ⟨gb115, 2, none⟩ = some (.int .u64 0) := bc_; have hfz67_0 := blk_frozen BK115.out 0; have hfz67_1 := blk_frozen BK115.out 1; have hfz67_2 := blk_frozen BK115.out 2; have hs115_0 : ∀ v0 v1 v2 : Value, (((w63.setCell ⟨gb115, 0, none⟩ v0).setCell ⟨gb115, 1, none⟩ v1).setCell ⟨gb115, 2, none⟩ v2).cell? ⟨gb115, 0, none⟩ = some v0 := fun _ _ _ => set3_0 BK115.out; have hs115_1 : ∀ v0 v1 v2 : Value, (((w63.setCell ⟨gb115, 0, none⟩ v0).setCell ⟨gb115, 1, none⟩ v1).setCell ⟨gb115, 2, none⟩ v2).cell? ⟨gb115, 1, none⟩ = some v1 := fun _ _ _ => set3_1 BK115.out; have hs115_2 : ∀ v0 v1 v2 : Value, (((w63.setCell ⟨gb115, 0, none⟩ v0).setCell ⟨gb115, 1, none⟩ v1).setCell ⟨gb115, 2, none⟩ v2).cell? ⟨gb115, 2, none⟩ = some v2 := fun _ _ _ => set3_2 BK115.out; have hcz68_0 : w63.cell? ⟨gb110, 0, none⟩ = some (.bool a0_0) := bc_; have hcz68_1 : w63.cell? ⟨gb110, 1, none⟩ = some (.int .u64 a0_1) := bc_; have hcz68_2 : w63.cell? ⟨gb110, 2, none⟩ = some (.int .u64 a0_2) := bc_; have hfz68_0 := blk_frozen BK110.out 0; have hfz68_1 := blk_frozen BK110.out 1; have hfz68_2 := blk_frozen BK110.out 2) | ((with_reducible refine gate_callee (f := 41) rfl ?_); refine goesL_ (some 47) rfl rfl Try.func41 (by kernel_rfl) rfl #[.agg #[.bool a0_0, .int .u64 (IntKind.u64.wrap (a0_1 + a1_1)), .int .u64 (IntKind.u64.wrap (a0_2 + a1_2))]] rfl mp_ ?_; (with_reducible refine (spec_WideOk.calls a0_0 (IntKind.u64.wrap (a0_1 + a1_1)) (IntKind.u64.wrap (a0_2 + a1_2)) true _ A56.out).mono ?_); rintro e w69 ⟨rfl, hb⟩; refine ⟨_, rfl, ?_⟩; have n0_ := Aside0.mk (blk_below (g := gb110) (o := .cells #[.bool a0_0, .int .u64 a0_1, .int .u64 a0_2] 33 (0, 0)) (by (with_reducible repeat (first | refine bN_ _ ?_ | refine bd_ ?_ | refine ba_ _ ?_)); refine blk_far ?_ NB110_115.out _; (with_reducible repeat (first | refine bN_ _ ?_ | refine bd_ ?_ | refine ba_ _ ?_)); refine blk_far ?_ NB110_115.out _; (with_reducible repeat (first | refine bN_ _ ?_ | refine bd_ ?_ | refine ba_ _ ?_)); refine blk_far ?_ NB110_115.out _; (with_reducible repeat (first | refine bN_ _ ?_ | refine bd_ ?_ | refine ba_ _ ?_)); exact BK110.out) hb); have n1_ := Aside0.mk (blk_below (g := gb111) (o := .cells #[.bool a1_0, .int .u64 a1_1, .int .u64 a1_2] 33 (0, 0)) (by (with_reducible repeat (first | refine bN_ _ ?_ | refine bd_ ?_ | refine ba_ _ ?_)); refine blk_far ?_ NB111_115.out _; (with_reducible repeat (first | refine bN_ _ ?_ | refine bd_ ?_ | refine ba_ _ ?_)); refine blk_far ?_ NB111_115.out _; (with_reducible repeat (first | refine bN_ _ ?_ | refine bd_ ?_ | refine ba_ _ ?_)); refine blk_far ?_ NB111_115.out _; (with_reducible repeat (first | refine bN_ _ ?_ | refine bd_ ?_ | refine ba_ _ ?_)); exact BK111.out) hb); have n2_ := Aside0.mk (blk_below (g := gb112) (o := .cells #[.bool false, .int .u64 0, .int .u64 0] 33 (0, 0)) (by (with_reducible repeat (first | refine bN_ _ ?_ | refine bd_ ?_ | refine ba_ _ ?_)); refine blk_far ?_ NB112_115.out _; (with_reducible repeat (first | refine bN_ _ ?_ | refine bd_ ?_ | refine ba_ _ ?_)); refine blk_far ?_ NB112_115.out _; (with_reducible repeat (first | refine bN_ _ ?_ | refine bd_ ?_ | refine ba_ _ ?_)); refine blk_far ?_ NB112_115.out _; (with_reducible repeat (first | refine bN_ _ ?_ | refine bd_ ?_ | refine ba_ _ ?_)); exact BK112.out) hb); have n3_ := Aside0.mk (blk_below (g := gb115) (o := .cells #[.bool a0_0, .int .u64 (IntKind.u64.wrap (a0_1 + a1_1)), .int .u64 (IntKind.u64.wrap (a0_2 + a1_2))] 33 (0, 0)) (by (with_reducible repeat (first | refine bN_ _ ?_ | refine bd_ ?_ | refine ba_ _ ?_)); refine blk_put (cs := #[.bool a0_0, .int .u64 (IntKind.u64.wrap (a0_1 + a1_1)), .int .u64 0]) ?_ 2 _ rfl; (with_reducible repeat (first | refine bN_ _ ?_ | refine bd_ ?_ | refine ba_ _ ?_)); refine blk_put (cs := #[.bool a0_0, .int .u64 0, .int .u64 0]) ?_ 1 _ rfl; (with_reducible repeat (first | refine bN_ _ ?_ | refine bd_ ?_ | refine ba_ _ ?_)); refine blk_put (cs := #[.bool false, .int .u64 0, .int .u64 0]) ?_ 0 _ rfl; (with_reducible repeat (first | refine bN_ _ ?_ | refine bd_ ?_ | refine ba_ _ ?_)); exact BK115.out) hb); have n4_ := Aside0.mk (below_step bel_ hb); clear BK110; clear BK111; clear BK112; clear BK115; clear HB; have BK110 := n0_; have BK111 := n1_; have BK112 := n2_; have BK115 := n3_; have HB := n4_; clear n0_ n1_ n2_ n3_ n4_; (try clear hb); (try clear hb2); (try clear hk); (try clear hi); have hcz70_0 : w69.cell? ⟨gb115, 0, none⟩ = some (.bool a0_0) := bc_; have hcz70_1 : w69.cell? ⟨gb115, 1, none⟩ = some (.int .u64 (IntKind.u64.wrap (a0_1 + a1_1))) := bc_; have hcz70_2 : w69.cell? ⟨gb115, 2, none⟩ = some (.int .u64 (IntKind.u64.wrap (a0_2 + a1_2))) := bc_; have hfz70_0 := blk_frozen BK115.out 0; have hfz70_1 := blk_frozen BK115.out 1; have hfz70_2 := blk_frozen BK115.out 2; have hcz71_0 : w69.cell? ⟨gb112, 0, none⟩ = some (.bool false) := bc_; have hcz71_1 : w69.cell? ⟨gb112, 1, none⟩ = some (.int .u64 0) := bc_; have hcz71_2 : w69.cell? ⟨gb112, 2, none⟩ = some (.int .u64 0) := bc_; have hfz71_0 := blk_frozen BK112.out 0; have hfz71_1 := blk_frozen BK112.out 1; have hfz71_2 := blk_frozen BK112.out 2; have hs112_0 : ∀ v0 v1 v2 : Value, (((w69.setCell ⟨gb112, 0, none⟩ v0).setCell ⟨gb112, 1, none⟩ v1).setCell ⟨gb112, 2, none⟩ v2).cell? ⟨gb112, 0, none⟩ = some v0 := fun _ _ _ => set3_0 BK112.out; have hs112_1 : ∀ v0 v1 v2 : Value, (((w69.setCell ⟨gb112, 0, none⟩ v0).setCell ⟨gb112, 1, none⟩ v1).setCell ⟨gb112, 2, none⟩ v2).cell? ⟨gb112, 1, none⟩ = some v1 := fun _ _ _ => set3_1 BK112.out; have hs112_2 : ∀ v0 v1 v2 : Value, (((w69.setCell ⟨gb112, 0, none⟩ v0).setCell ⟨gb112, 1, none⟩ v1).setCell ⟨gb112, 2, none⟩ v2).cell? ⟨gb112, 2, none⟩ = some v2 := fun _ _ _ => set3_2 BK112.out))
              refine bodyPost_ret (results_ct rfl _ _ gb112 33 #[.bool a0_0, .int .u64 (IntKind.u64.wrap (a0_1 + a1_1)), .int .u64 (IntKind.u64.wrap (a0_2 + a1_2))] (0, 0) _ rfl (by (with_reducible repeat (first | refine bN_ _ ?_ | refine bd_ ?_ | refine ba_ _ ?_)); refine blk_put (cs := #[.bool a0_0, .int .u64 (IntKind.u64.wrap (a0_1 + a1_1)), .int .u64 0]) ?_ 2 _ rfl; (with_reducible repeat (first | refine bN_ _ ?_ | refine bd_ ?_ | refine ba_ _ ?_)); refine blk_put (cs := #[.bool a0_0, .int .u64 0, .int .u64 0]) ?_ 1 _ rfl; (with_reducible repeat (first | refine bN_ _ ?_ | refine bd_ ?_ | refine ba_ _ ?_)); refine blk_put (cs := #[.bool false, .int .u64 0, .int .u64 0]) ?_ 0 _ rfl; (with_reducible repeat (first | refine bN_ _ ?_ | refine bd_ ?_ | refine ba_ _ ?_)); exact BK112.out) Try.underlying33 rfl (by kernel_rfl)) rfl ?_
              exact ⟨by first | rfl | (simp [errW_none, errW_some] <;> rfl) | (simp [*, errW_none, errW_some] <;> rfl), by repeat (first | (with_reducible first | exact HB.out | apply below_alloc | apply pw_below_drewN | apply below_drew1 | refine below_set ?_ GE110.out | refine below_set ?_ GE111.out | refine below_set ?_ GE112.out | refine below_set ?_ GE115.out) | exact HB.out)⟩
            · replace c57 := Bool.eq_false_iff.mpr c57
              subst c57
              have H1 : (some (false, 0, 0, false)) = some (r1, r2, r3, r4) := by rw [if_neg (show ¬ (false = true) by decide)] at H; exact H
              clear H
              have H := H1
              clear H1
              simp only [Option.some.injEq, Prod.mk.injEq] at H
              obtain ⟨rfl, rfl, rfl, rfl⟩ := H
              have hnb72 := NB110_111.out
              have hnc72 := NB111_110.out
              have hnb73 := NB110_112.out
              have hnc73 := NB112_110.out
              have hcz74_0 : wc.cell? ⟨gb110, 0, none⟩ = some (.bool a0_0) := bc_
              have hcz74_1 : wc.cell? ⟨gb110, 1, none⟩ = some (.int .u64 a0_1) := bc_
              have hcz74_2 : wc.cell? ⟨gb110, 2, none⟩ = some (.int .u64 a0_2) := bc_
              have hfz74_0 := blk_frozen BK110.out 0
              have hfz74_1 := blk_frozen BK110.out 1
              have hfz74_2 := blk_frozen BK110.out 2
              have hnb75 := NB111_112.out
              have hnc75 := NB112_111.out
              have hcz76_0 : wc.cell? ⟨gb111, 0, none⟩ = some (.bool a1_0) := bc_
              have hcz76_1 : wc.cell? ⟨gb111, 1, none⟩ = some (.int .u64 a1_1) := bc_
              have hcz76_2 : wc.cell? ⟨gb111, 2, none⟩ = some (.int .u64 a1_2) := bc_
              have hfz76_0 := blk_frozen BK111.out 0
              have hfz76_1 := blk_frozen BK111.out 1
              have hfz76_2 := blk_frozen BK111.out 2
              go_wp2_with (first | ((with_reducible refine gate_dst (N := 6) rfl ?_); refine box_event ?hg (N := 6) ?hd (cs := #[.bool false, .int .u64 0, .int .u64 0]) (t := 33) ?hr ?_; (case hd => rfl); (case hg => rfl); (case hr => first | (go_simp; done) | (go_simp; rfl)); intro gb115 hg w77 hbox hb; have n0_ := bb_ (g := gb110) (o := .cells #[.bool a0_0, .int .u64 a0_1, .int .u64 a0_2] 33 (0, 0)) hb; have n1_ := bb_ (g := gb111) (o := .cells #[.bool a1_0, .int .u64 a1_1, .int .u64 a1_2] 33 (0, 0)) hb; have n2_ := bb_ (g := gb112) (o := .cells #[.bool false, .int .u64 0, .int .u64 0] 33 (0, 0)) hb; have n3_ := Aside0.mk (below_step bel_ hb); have n4_ := Aside0.mk (hbox); have n5_ := Aside0.mk ((by rw [hg]; exact (below_size bel_) : w.heap.size ≤ gb115)); have n6_ := Aside0.mk ((by rw [hg]; exact (below_size bel_) : w.heap.size ≤ gb115)); have n7_ := nlt_ (g := gb110) (o := .cells #[.bool a0_0, .int .u64 a0_1, .int .u64 a0_2] 33 (0, 0)) hg; have n8_ := ngt_ (g := gb110) (o := .cells #[.bool a0_0, .int .u64 a0_1, .int .u64 a0_2] 33 (0, 0)) hg; have n9_ := nlt_ (g := gb111) (o := .cells #[.bool a1_0, .int .u64 a1_1, .int .u64 a1_2] 33 (0, 0)) hg; have n10_ := ngt_ (g := gb111) (o := .cells #[.bool a1_0, .int .u64 a1_1, .int .u64 a1_2] 33 (0, 0)) hg; have n11_ := nlt_ (g := gb112) (o := .cells #[.bool false, .int .u64 0, .int .u64 0] 33 (0, 0)) hg; have n12_ := ngt_ (g := gb112) (o := .cells #[.bool false, .int .u64 0, .int .u64 0] 33 (0, 0)) hg; clear BK110; clear BK111; clear BK112; clear HB; have BK110 := n0_; have BK111 := n1_; have BK112 := n2_; have HB := n3_; have BK115 := n4_; have GW115 := n5_; have GE115 := n6_; have NB110_115 := n7_; have NB115_110 := n8_; have NB111_115 := n9_; have NB115_111 := n10_; have NB112_115 := n11_; have NB115_112 := n12_; clear n0_ n1_ n2_ n3_ n4_ n5_ n6_ n7_ n8_ n9_ n10_ n11_ n12_; clear hb hbox hg; have hnb78 := NB115_110.out; have hnc78 := NB110_115.out; have hnb79 := NB115_111.out; have hnc79 := NB111_115.out; have hnb80 := NB115_112.out; have hnc80 := NB112_115.out; have hcz81_0 : w77.cell? ⟨gb115, 0, none⟩ = some (.bool false) := bc_; have hcz81_1 : w77.cell? ⟨gb115, 1, none⟩ = some (.int .u64 0) := bc_; have hcz81_2 : w77.cell? ⟨gb115, 2, none⟩ = some (.int .u64 0) := bc_; have hfz81_0 := blk_frozen BK115.out 0; have hfz81_1 := blk_frozen BK115.out 1; have hfz81_2 := blk_frozen BK115.out 2; have hs115_0 : ∀ v0 v1 v2 : Value, (((w77.setCell ⟨gb115, 0, none⟩ v0).setCell ⟨gb115, 1, none⟩ v1).setCell ⟨gb115, 2, none⟩ v2).cell? ⟨gb115, 0, none⟩ = some v0 := fun _ _ _ => set3_0 BK115.out; have hs115_1 : ∀ v0 v1 v2 : Value, (((w77.setCell ⟨gb115, 0, none⟩ v0).setCell ⟨gb115, 1, none⟩ v1).setCell ⟨gb115, 2, none⟩ v2).cell? ⟨gb115, 1, none⟩ = some v1 := fun _ _ _ => set3_1 BK115.out; have hs115_2 : ∀ v0 v1 v2 : Value, (((w77.setCell ⟨gb115, 0, none⟩ v0).setCell ⟨gb115, 1, none⟩ v1).setCell ⟨gb115, 2, none⟩ v2).cell? ⟨gb115, 2, none⟩ = some v2 := fun _ _ _ => set3_2 BK115.out; have hcz82_0 : w77.cell? ⟨gb110, 0, none⟩ = some (.bool a0_0) := bc_; have hcz82_1 : w77.cell? ⟨gb110, 1, none⟩ = some (.int .u64 a0_1) := bc_; have hcz82_2 : w77.cell? ⟨gb110, 2, none⟩ = some (.int .u64 a0_2) := bc_; have hfz82_0 := blk_frozen BK110.out 0; have hfz82_1 := blk_frozen BK110.out 1; have hfz82_2 := blk_frozen BK110.out 2) | ((with_reducible refine gate_callee (f := 41) rfl ?_); refine goesL_ (some 47) rfl rfl Try.func41 (by kernel_rfl) rfl #[.agg #[.bool a0_0, .int .u64 (IntKind.u64.wrap (a0_1 + a1_1)), .int .u64 (IntKind.u64.wrap (a0_2 + a1_2))]] rfl mp_ ?_; (with_reducible refine (spec_WideOk.calls a0_0 (IntKind.u64.wrap (a0_1 + a1_1)) (IntKind.u64.wrap (a0_2 + a1_2)) false _ A56.out).mono ?_); rintro e w83 ⟨rfl, hb⟩; refine ⟨_, rfl, ?_⟩; have n0_ := Aside0.mk (blk_below (g := gb110) (o := .cells #[.bool a0_0, .int .u64 a0_1, .int .u64 a0_2] 33 (0, 0)) (by (with_reducible repeat (first | refine bN_ _ ?_ | refine bd_ ?_ | refine ba_ _ ?_)); refine blk_far ?_ NB110_115.out _; (with_reducible repeat (first | refine bN_ _ ?_ | refine bd_ ?_ | refine ba_ _ ?_)); refine blk_far ?_ NB110_115.out _; (with_reducible repeat (first | refine bN_ _ ?_ | refine bd_ ?_ | refine ba_ _ ?_)); refine blk_far ?_ NB110_115.out _; (with_reducible repeat (first | refine bN_ _ ?_ | refine bd_ ?_ | refine ba_ _ ?_)); exact BK110.out) hb); have n1_ := Aside0.mk (blk_below (g := gb111) (o := .cells #[.bool a1_0, .int .u64 a1_1, .int .u64 a1_2] 33 (0, 0)) (by (with_reducible repeat (first | refine bN_ _ ?_ | refine bd_ ?_ | refine ba_ _ ?_)); refine blk_far ?_ NB111_115.out _; (with_reducible repeat (first | refine bN_ _ ?_ | refine bd_ ?_ | refine ba_ _ ?_)); refine blk_far ?_ NB111_115.out _; (with_reducible repeat (first | refine bN_ _ ?_ | refine bd_ ?_ | refine ba_ _ ?_)); refine blk_far ?_ NB111_115.out _; (with_reducible repeat (first | refine bN_ _ ?_ | refine bd_ ?_ | refine ba_ _ ?_)); exact BK111.out) hb); have n2_ := Aside0.mk (blk_below (g := gb112) (o := .cells #[.bool false, .int .u64 0, .int .u64 0] 33 (0, 0)) (by (with_reducible repeat (first | refine bN_ _ ?_ | refine bd_ ?_ | refine ba_ _ ?_)); refine blk_far ?_ NB112_115.out _; (with_reducible repeat (first | refine bN_ _ ?_ | refine bd_ ?_ | refine ba_ _ ?_)); refine blk_far ?_ NB112_115.out _; (with_reducible repeat (first | refine bN_ _ ?_ | refine bd_ ?_ | refine ba_ _ ?_)); refine blk_far ?_ NB112_115.out _; (with_reducible repeat (first | refine bN_ _ ?_ | refine bd_ ?_ | refine ba_ _ ?_)); exact BK112.out) hb); have n3_ := Aside0.mk (blk_below (g := gb115) (o := .cells #[.bool a0_0, .int .u64 (IntKind.u64.wrap (a0_1 + a1_1)), .int .u64 (IntKind.u64.wrap (a0_2 + a1_2))] 33 (0, 0)) (by (with_reducible repeat (first | refine bN_ _ ?_ | refine bd_ ?_ | refine ba_ _ ?_)); refine blk_put (cs := #[.bool a0_0, .int .u64 (IntKind.u64.wrap (a0_1 + a1_1)), .int .u64 0]) ?_ 2 _ rfl; (with_reducible repeat (first | refine bN_ _ ?_ | refine bd_ ?_ | refine ba_ _ ?_)); refine blk_put (cs := #[.bool a0_0, .int .u64 0, .int .u64 0]) ?_ 1 _ rfl; (with_reducible repeat (first | refine bN_ _ ?_ | refine bd_ ?_ | refine ba_ _ ?_)); refine blk_put (cs := #[.bool false, .int .u64 0, .int .u64 0]) ?_ 0 _ rfl; (with_reducible repeat (first | refine bN_ _ ?_ | refine bd_ ?_ | refine ba_ _ ?_)); exact BK115.out) hb); have n4_ := Aside0.mk (below_step bel_ hb); clear BK110; clear BK111; clear BK112; clear BK115; clear HB; have BK110 := n0_; have BK111 := n1_; have BK112 := n2_; have BK115 := n3_; have HB := n4_; clear n0_ n1_ n2_ n3_ n4_; (try clear hb); (try clear hb2); (try clear hk); (try clear hi); have hcz84_0 : w83.cell? ⟨gb112, 0, none⟩ = some (.bool false) := bc_; have hcz84_1 : w83.cell? ⟨gb112, 1, none⟩ = some (.int .u64 0) := bc_; have hcz84_2 : w83.cell? ⟨gb112, 2, none⟩ = some (.int .u64 0) := bc_; have hfz84_0 := blk_frozen BK112.out 0; have hfz84_1 := blk_frozen BK112.out 1; have hfz84_2 := blk_frozen BK112.out 2; have hs112_0 : ∀ v0 v1 v2 : Value, (((w83.setCell ⟨gb112, 0, none⟩ v0).setCell ⟨gb112, 1, none⟩ v1).setCell ⟨gb112, 2, none⟩ v2).cell? ⟨gb112, 0, none⟩ = some v0 := fun _ _ _ => set3_0 BK112.out; have hs112_1 : ∀ v0 v1 v2 : Value, (((w83.setCell ⟨gb112, 0, none⟩ v0).setCell ⟨gb112, 1, none⟩ v1).setCell ⟨gb112, 2, none⟩ v2).cell? ⟨gb112, 1, none⟩ = some v1 := fun _ _ _ => set3_1 BK112.out; have hs112_2 : ∀ v0 v1 v2 : Value, (((w83.setCell ⟨gb112, 0, none⟩ v0).setCell ⟨gb112, 1, none⟩ v1).setCell ⟨gb112, 2, none⟩ v2).cell? ⟨gb112, 2, none⟩ = some v2 := fun _ _ _ => set3_2 BK112.out))
              refine bodyPost_ret (results_ct rfl _ _ gb112 33 #[.bool false, .int .u64 0, .int .u64 0] (0, 0) _ rfl (by (with_reducible repeat (first | refine bN_ _ ?_ | refine bd_ ?_ | refine ba_ _ ?_)); refine blk_put (cs := #[.bool false, .int .u64 0, .int .u64 0]) ?_ 2 _ rfl; (with_reducible repeat (first | refine bN_ _ ?_ | refine bd_ ?_ | refine ba_ _ ?_)); refine blk_put (cs := #[.bool false, .int .u64 0, .int .u64 0]) ?_ 1 _ rfl; (with_reducible repeat (first | refine bN_ _ ?_ | refine bd_ ?_ | refine ba_ _ ?_)); refine blk_put (cs := #[.bool false, .int .u64 0, .int .u64 0]) ?_ 0 _ rfl; (with_reducible repeat (first | refine bN_ _ ?_ | refine bd_ ?_ | refine ba_ _ ?_)); exact BK112.out) Try.underlying33 rfl (by kernel_rfl)) rfl ?_
              exact ⟨by first | rfl | (simp [errW_none, errW_some] <;> rfl) | (simp [*, errW_none, errW_some] <;> rfl), by repeat (first | (with_reducible first | exact HB.out | apply below_alloc | apply pw_below_drewN | apply below_drew1 | refine below_set ?_ GE110.out | refine below_set ?_ GE111.out | refine below_set ?_ GE112.out | refine below_set ?_ GE115.out) | exact HB.out)⟩
        · rw [if_neg c25] at H
          have c25b0 : (a0_0 == a1_0) = false := by simpa using c25
          (try (have c25b1 : decide (a0_0 = a1_0) = false := by simpa using c25))
          (try (have c25b2 : (a0_0 == a1_0) = false := by simpa using c25))
          (try (have c25b3 : ¬ (a0_0 = a1_0) := by simpa using c25))
          clear c25
          replace H := Option.bind_eq_some_iff.mp H
          obtain ⟨t120, A850, H⟩ := H
          replace H : (if t120 < 0 then (spec_AddWide.j1 kj2 a1_0 a1_1 a1_2 a0_0 a0_1 a0_2) else (spec_AddWide.j1 kj2 a0_0 a0_1 a0_2 a1_0 a1_1 a1_2)) = some (r1, r2, r3, r4) := H
          have A85 := Aside0.mk A850
          clear A850
          have HC86 := Aside0.mk H
          clear H
          have hnb87 := NB110_111.out
          have hnc87 := NB111_110.out
          have hnb88 := NB110_112.out
          have hnc88 := NB112_110.out
          have hcz89_0 : wc.cell? ⟨gb110, 0, none⟩ = some (.bool a0_0) := bc_
          have hcz89_1 : wc.cell? ⟨gb110, 1, none⟩ = some (.int .u64 a0_1) := bc_
          have hcz89_2 : wc.cell? ⟨gb110, 2, none⟩ = some (.int .u64 a0_2) := bc_
          have hfz89_0 := blk_frozen BK110.out 0
          have hfz89_1 := blk_frozen BK110.out 1
          have hfz89_2 := blk_frozen BK110.out 2
          have hnb90 := NB111_112.out
          have hnc90 := NB112_111.out
          have hcz91_0 : wc.cell? ⟨gb111, 0, none⟩ = some (.bool a1_0) := bc_
          have hcz91_1 : wc.cell? ⟨gb111, 1, none⟩ = some (.int .u64 a1_1) := bc_
          have hcz91_2 : wc.cell? ⟨gb111, 2, none⟩ = some (.int .u64 a1_2) := bc_
          have hfz91_0 := blk_frozen BK111.out 0
          have hfz91_1 := blk_frozen BK111.out 1
          have hfz91_2 := blk_frozen BK111.out 2
          go_upto_if 56 with (first | ((with_reducible refine gate_dst (N := 7) rfl ?_); refine box_event ?hg (N := 7) ?hd (cs := #[.bool false, .int .u64 0, .int .u64 0]) (t := 33) ?hr ?_; (case hd => rfl); (case hg => rfl); (case hr => first | (go_simp; done) | (go_simp; rfl)); intro gb118 hg w92 hbox hb; have n0_ := bb_ (g := gb110) (o := .cells #[.bool a0_0, .int .u64 a0_1, .int .u64 a0_2] 33 (0, 0)) hb; have n1_ := bb_ (g := gb111) (o := .cells #[.bool a1_0, .int .u64 a1_1, .int .u64 a1_2] 33 (0, 0)) hb; have n2_ := bb_ (g := gb112) (o := .cells #[.bool false, .int .u64 0, .int .u64 0] 33 (0, 0)) hb; have n3_ := Aside0.mk (below_step bel_ hb); have n4_ := Aside0.mk (hbox); have n5_ := Aside0.mk ((by rw [hg]; exact (below_size bel_) : w.heap.size ≤ gb118)); have n6_ := Aside0.mk ((by rw [hg]; exact (below_size bel_) : w.heap.size ≤ gb118)); have n7_ := nlt_ (g := gb110) (o := .cells #[.bool a0_0, .int .u64 a0_1, .int .u64 a0_2] 33 (0, 0)) hg; have n8_ := ngt_ (g := gb110) (o := .cells #[.bool a0_0, .int .u64 a0_1, .int .u64 a0_2] 33 (0, 0)) hg; have n9_ := nlt_ (g := gb111) (o := .cells #[.bool a1_0, .int .u64 a1_1, .int .u64 a1_2] 33 (0, 0)) hg; have n10_ := ngt_ (g := gb111) (o := .cells #[.bool a1_0, .int .u64 a1_1, .int .u64 a1_2] 33 (0, 0)) hg; have n11_ := nlt_ (g := gb112) (o := .cells #[.bool false, .int .u64 0, .int .u64 0] 33 (0, 0)) hg; have n12_ := ngt_ (g := gb112) (o := .cells #[.bool false, .int .u64 0, .int .u64 0] 33 (0, 0)) hg; clear BK110; clear BK111; clear BK112; clear HB; have BK110 := n0_; have BK111 := n1_; have BK112 := n2_; have HB := n3_; have BK118 := n4_; have GW118 := n5_; have GE118 := n6_; have NB110_118 := n7_; have NB118_110 := n8_; have NB111_118 := n9_; have NB118_111 := n10_; have NB112_118 := n11_; have NB118_112 := n12_; clear n0_ n1_ n2_ n3_ n4_ n5_ n6_ n7_ n8_ n9_ n10_ n11_ n12_; clear hb hbox hg; have hnb93 := NB118_110.out; have hnc93 := NB110_118.out; have hnb94 := NB118_111.out; have hnc94 := NB111_118.out; have hnb95 := NB118_112.out; have hnc95 := NB112_118.out; have hcz96_0 : w92.cell? ⟨gb118, 0, none⟩ = some (.bool false) := bc_; have hcz96_1 : w92.cell? ⟨gb118, 1, none⟩ = some (.int .u64 0) := bc_; have hcz96_2 : w92.cell? ⟨gb118, 2, none⟩ = some (.int .u64 0) := bc_; have hfz96_0 := blk_frozen BK118.out 0; have hfz96_1 := blk_frozen BK118.out 1; have hfz96_2 := blk_frozen BK118.out 2; have hs118_0 : ∀ v0 v1 v2 : Value, (((w92.setCell ⟨gb118, 0, none⟩ v0).setCell ⟨gb118, 1, none⟩ v1).setCell ⟨gb118, 2, none⟩ v2).cell? ⟨gb118, 0, none⟩ = some v0 := fun _ _ _ => set3_0 BK118.out; have hs118_1 : ∀ v0 v1 v2 : Value, (((w92.setCell ⟨gb118, 0, none⟩ v0).setCell ⟨gb118, 1, none⟩ v1).setCell ⟨gb118, 2, none⟩ v2).cell? ⟨gb118, 1, none⟩ = some v1 := fun _ _ _ => set3_1 BK118.out; have hs118_2 : ∀ v0 v1 v2 : Value, (((w92.setCell ⟨gb118, 0, none⟩ v0).setCell ⟨gb118, 1, none⟩ v1).setCell ⟨gb118, 2, none⟩ v2).cell? ⟨gb118, 2, none⟩ = some v2 := fun _ _ _ => set3_2 BK118.out; have hcz97_0 : w92.cell? ⟨gb111, 0, none⟩ = some (.bool a1_0) := bc_; have hcz97_1 : w92.cell? ⟨gb111, 1, none⟩ = some (.int .u64 a1_1) := bc_; have hcz97_2 : w92.cell? ⟨gb111, 2, none⟩ = some (.int .u64 a1_2) := bc_; have hfz97_0 := blk_frozen BK111.out 0; have hfz97_1 := blk_frozen BK111.out 1; have hfz97_2 := blk_frozen BK111.out 2) | ((with_reducible refine gate_dst (N := 8) rfl ?_); refine box_event ?hg (N := 8) ?hd (cs := #[.bool false, .int .u64 0, .int .u64 0]) (t := 33) ?hr ?_; (case hd => rfl); (case hg => rfl); (case hr => first | (go_simp; done) | (go_simp; rfl)); intro gb119 hg w98 hbox hb; have n0_ := Aside0.mk (blk_below (g := gb110) (o := .cells #[.bool a0_0, .int .u64 a0_1, .int .u64 a0_2] 33 (0, 0)) (by (with_reducible repeat (first | refine bN_ _ ?_ | refine bd_ ?_ | refine ba_ _ ?_)); refine blk_far ?_ NB110_118.out _; (with_reducible repeat (first | refine bN_ _ ?_ | refine bd_ ?_ | refine ba_ _ ?_)); refine blk_far ?_ NB110_118.out _; (with_reducible repeat (first | refine bN_ _ ?_ | refine bd_ ?_ | refine ba_ _ ?_)); refine blk_far ?_ NB110_118.out _; (with_reducible repeat (first | refine bN_ _ ?_ | refine bd_ ?_ | refine ba_ _ ?_)); exact BK110.out) hb); have n1_ := Aside0.mk (blk_below (g := gb111) (o := .cells #[.bool a1_0, .int .u64 a1_1, .int .u64 a1_2] 33 (0, 0)) (by (with_reducible repeat (first | refine bN_ _ ?_ | refine bd_ ?_ | refine ba_ _ ?_)); refine blk_far ?_ NB111_118.out _; (with_reducible repeat (first | refine bN_ _ ?_ | refine bd_ ?_ | refine ba_ _ ?_)); refine blk_far ?_ NB111_118.out _; (with_reducible repeat (first | refine bN_ _ ?_ | refine bd_ ?_ | refine ba_ _ ?_)); refine blk_far ?_ NB111_118.out _; (with_reducible repeat (first | refine bN_ _ ?_ | refine bd_ ?_ | refine ba_ _ ?_)); exact BK111.out) hb); have n2_ := Aside0.mk (blk_below (g := gb112) (o := .cells #[.bool false, .int .u64 0, .int .u64 0] 33 (0, 0)) (by (with_reducible repeat (first | refine bN_ _ ?_ | refine bd_ ?_ | refine ba_ _ ?_)); refine blk_far ?_ NB112_118.out _; (with_reducible repeat (first | refine bN_ _ ?_ | refine bd_ ?_ | refine ba_ _ ?_)); refine blk_far ?_ NB112_118.out _; (with_reducible repeat (first | refine bN_ _ ?_ | refine bd_ ?_ | refine ba_ _ ?_)); refine blk_far ?_ NB112_118.out _; (with_reducible repeat (first | refine bN_ _ ?_ | refine bd_ ?_ | refine ba_ _ ?_)); exact BK112.out) hb); have n3_ := Aside0.mk (blk_below (g := gb118) (o := .cells #[.bool a0_0, .int .u64 a0_1, .int .u64 a0_2] 33 (0, 0)) (by (with_reducible repeat (first | refine bN_ _ ?_ | refine bd_ ?_ | refine ba_ _ ?_)); refine blk_put (cs := #[.bool a0_0, .int .u64 a0_1, .int .u64 0]) ?_ 2 _ rfl; (with_reducible repeat (first | refine bN_ _ ?_ | refine bd_ ?_ | refine ba_ _ ?_)); refine blk_put (cs := #[.bool a0_0, .int .u64 0, .int .u64 0]) ?_ 1 _ rfl; (with_reducible repeat (first | refine bN_ _ ?_ | refine bd_ ?_ | refine ba_ _ ?_)); refine blk_put (cs := #[.bool false, .int .u64 0, .int .u64 0]) ?_ 0 _ rfl; (with_reducible repeat (first | refine bN_ _ ?_ | refine bd_ ?_ | refine ba_ _ ?_)); exact BK118.out) hb); have n4_ := Aside0.mk (below_step bel_ hb); have n5_ := Aside0.mk (hbox); have n6_ := Aside0.mk ((by rw [hg]; exact (below_size bel_) : w.heap.size ≤ gb119)); have n7_ := Aside0.mk ((by rw [hg]; exact (below_size bel_) : w.heap.size ≤ gb119)); have n8_ := Aside0.mk ((by rw [hg]; exact Nat.ne_of_lt (blk_lt (g := gb110) (o := .cells #[.bool a0_0, .int .u64 a0_1, .int .u64 a0_2] 33 (0, 0)) (by (with_reducible repeat (first | refine bN_ _ ?_ | refine bd_ ?_ | refine ba_ _ ?_)); refine blk_far ?_ NB110_118.out _; (with_reducible repeat (first | refine bN_ _ ?_ | refine bd_ ?_ | refine ba_ _ ?_)); refine blk_far ?_ NB110_118.out _; (with_reducible repeat (first | refine bN_ _ ?_ | refine bd_ ?_ | refine ba_ _ ?_)); refine blk_far ?_ NB110_118.out _; (with_reducible repeat (first | refine bN_ _ ?_ | refine bd_ ?_ | refine ba_ _ ?_)); exact BK110.out)) : gb110 ≠ gb119)); have n9_ := Aside0.mk ((by rw [hg]; exact Nat.ne_of_gt (blk_lt (g := gb110) (o := .cells #[.bool a0_0, .int .u64 a0_1, .int .u64 a0_2] 33 (0, 0)) (by (with_reducible repeat (first | refine bN_ _ ?_ | refine bd_ ?_ | refine ba_ _ ?_)); refine blk_far ?_ NB110_118.out _; (with_reducible repeat (first | refine bN_ _ ?_ | refine bd_ ?_ | refine ba_ _ ?_)); refine blk_far ?_ NB110_118.out _; (with_reducible repeat (first | refine bN_ _ ?_ | refine bd_ ?_ | refine ba_ _ ?_)); refine blk_far ?_ NB110_118.out _; (with_reducible repeat (first | refine bN_ _ ?_ | refine bd_ ?_ | refine ba_ _ ?_)); exact BK110.out)) : gb119 ≠ gb110)); have n10_ := Aside0.mk ((by rw [hg]; exact Nat.ne_of_lt (blk_lt (g := gb111) (o := .cells #[.bool a1_0, .int .u64 a1_1, .int .u64 a1_2] 33 (0, 0)) (by (with_reducible repeat (first | refine bN_ _ ?_ | refine bd_ ?_ | refine ba_ _ ?_)); refine blk_far ?_ NB111_118.out _; (with_reducible repeat (first | refine bN_ _ ?_ | refine bd_ ?_ | refine ba_ _ ?_)); refine blk_far ?_ NB111_118.out _; (with_reducible repeat (first | refine bN_ _ ?_ | refine bd_ ?_ | refine ba_ _ ?_)); refine blk_far ?_ NB111_118.out _; (with_reducible repeat (first | refine bN_ _ ?_ | refine bd_ ?_ | refine ba_ _ ?_)); exact BK111.out)) : gb111 ≠ gb119)); have n11_ := Aside0.mk ((by rw [hg]; exact Nat.ne_of_gt (blk_lt (g := gb111) (o := .cells #[.bool a1_0, .int .u64 a1_1, .int .u64 a1_2] 33 (0, 0)) (by (with_reducible repeat (first | refine bN_ _ ?_ | refine bd_ ?_ | refine ba_ _ ?_)); refine blk_far ?_ NB111_118.out _; (with_reducible repeat (first | refine bN_ _ ?_ | refine bd_ ?_ | refine ba_ _ ?_)); refine blk_far ?_ NB111_118.out _; (with_reducible repeat (first | refine bN_ _ ?_ | refine bd_ ?_ | refine ba_ _ ?_)); refine blk_far ?_ NB111_118.out _; (with_reducible repeat (first | refine bN_ _ ?_ | refine bd_ ?_ | refine ba_ _ ?_)); exact BK111.out)) : gb119 ≠ gb111)); have n12_ := Aside0.mk ((by rw [hg]; exact Nat.ne_of_lt (blk_lt (g := gb112) (o := .cells #[.bool false, .int .u64 0, .int .u64 0] 33 (0, 0)) (by (with_reducible repeat (first | refine bN_ _ ?_ | refine bd_ ?_ | refine ba_ _ ?_)); refine blk_far ?_ NB112_118.out _; (with_reducible repeat (first | refine bN_ _ ?_ | refine bd_ ?_ | refine ba_ _ ?_)); refine blk_far ?_ NB112_118.out _; (with_reducible repeat (first | refine bN_ _ ?_ | refine bd_ ?_ | refine ba_ _ ?_)); refine blk_far ?_ NB112_118.out _; (with_reducible repeat (first | refine bN_ _ ?_ | refine bd_ ?_ | refine ba_ _ ?_)); exact BK112.out)) : gb112 ≠ gb119)); have n13_ := Aside0.mk ((by rw [hg]; exact Nat.ne_of_gt (blk_lt (g := gb112) (o := .cells #[.bool false, .int .u64 0, .int .u64 0] 33 (0, 0)) (by (with_reducible repeat (first | refine bN_ _ ?_ | refine bd_ ?_ | refine ba_ _ ?_)); refine blk_far ?_ NB112_118.out _; (with_reducible repeat (first | refine bN_ _ ?_ | refine bd_ ?_ | refine ba_ _ ?_)); refine blk_far ?_ NB112_118.out _; (with_reducible repeat (first | refine bN_ _ ?_ | refine bd_ ?_ | refine ba_ _ ?_)); refine blk_far ?_ NB112_118.out _; (with_reducible repeat (first | refine bN_ _ ?_ | refine bd_ ?_ | refine ba_ _ ?_)); exact BK112.out)) : gb119 ≠ gb112)); have n14_ := Aside0.mk ((by rw [hg]; exact Nat.ne_of_lt (blk_lt (g := gb118) (o := .cells #[.bool a0_0, .int .u64 a0_1, .int .u64 a0_2] 33 (0, 0)) (by (with_reducible repeat (first | refine bN_ _ ?_ | refine bd_ ?_ | refine ba_ _ ?_)); refine blk_put (cs := #[.bool a0_0, .int .u64 a0_1, .int .u64 0]) ?_ 2 _ rfl; (with_reducible repeat (first | refine bN_ _ ?_ | refine bd_ ?_ | refine ba_ _ ?_)); refine blk_put (cs := #[.bool a0_0, .int .u64 0, .int .u64 0]) ?_ 1 _ rfl; (with_reducible repeat (first | refine bN_ _ ?_ | refine bd_ ?_ | refine ba_ _ ?_)); refine blk_put (cs := #[.bool false, .int .u64 0, .int .u64 0]) ?_ 0 _ rfl; (with_reducible repeat (first | refine bN_ _ ?_ | refine bd_ ?_ | refine ba_ _ ?_)); exact BK118.out)) : gb118 ≠ gb119)); have n15_ := Aside0.mk ((by rw [hg]; exact Nat.ne_of_gt (blk_lt (g := gb118) (o := .cells #[.bool a0_0, .int .u64 a0_1, .int .u64 a0_2] 33 (0, 0)) (by (with_reducible repeat (first | refine bN_ _ ?_ | refine bd_ ?_ | refine ba_ _ ?_)); refine blk_put (cs := #[.bool a0_0, .int .u64 a0_1, .int .u64 0]) ?_ 2 _ rfl; (with_reducible repeat (first | refine bN_ _ ?_ | refine bd_ ?_ | refine ba_ _ ?_)); refine blk_put (cs := #[.bool a0_0, .int .u64 0, .int .u64 0]) ?_ 1 _ rfl; (with_reducible repeat (first | refine bN_ _ ?_ | refine bd_ ?_ | refine ba_ _ ?_)); refine blk_put (cs := #[.bool false, .int .u64 0, .int .u64 0]) ?_ 0 _ rfl; (with_reducible repeat (first | refine bN_ _ ?_ | refine bd_ ?_ | refine ba_ _ ?_)); exact BK118.out)) : gb119 ≠ gb118)); clear BK110; clear BK111; clear BK112; clear BK118; clear HB; have BK110 := n0_; have BK111 := n1_; have BK112 := n2_; have BK118 := n3_; have HB := n4_; have BK119 := n5_; have GW119 := n6_; have GE119 := n7_; have NB110_119 := n8_; have NB119_110 := n9_; have NB111_119 := n10_; have NB119_111 := n11_; have NB112_119 := n12_; have NB119_112 := n13_; have NB118_119 := n14_; have NB119_118 := n15_; clear n0_ n1_ n2_ n3_ n4_ n5_ n6_ n7_ n8_ n9_ n10_ n11_ n12_ n13_ n14_ n15_; clear hb hbox hg; have hnb99 := NB119_110.out; have hnc99 := NB110_119.out; have hnb100 := NB119_111.out; have hnc100 := NB111_119.out; have hnb101 := NB119_112.out; have hnc101 := NB112_119.out; have hnb102 := NB119_118.out; have hnc102 := NB118_119.out; have hcz103_0 : w98.cell? ⟨gb119, 0, none⟩ = some (.bool false) := bc_; have hcz103_1 : w98.cell? ⟨gb119, 1, none⟩ = some (.int .u64 0) := bc_; have hcz103_2 : w98.cell? ⟨gb119, 2, none⟩ = some (.int .u64 0) := bc_; have hfz103_0 := blk_frozen BK119.out 0; have hfz103_1 := blk_frozen BK119.out 1; have hfz103_2 := blk_frozen BK119.out 2; have hs119_0 : ∀ v0 v1 v2 : Value, (((w98.setCell ⟨gb119, 0, none⟩ v0).setCell ⟨gb119, 1, none⟩ v1).setCell ⟨gb119, 2, none⟩ v2).cell? ⟨gb119, 0, none⟩ = some v0 := fun _ _ _ => set3_0 BK119.out; have hs119_1 : ∀ v0 v1 v2 : Value, (((w98.setCell ⟨gb119, 0, none⟩ v0).setCell ⟨gb119, 1, none⟩ v1).setCell ⟨gb119, 2, none⟩ v2).cell? ⟨gb119, 1, none⟩ = some v1 := fun _ _ _ => set3_1 BK119.out; have hs119_2 : ∀ v0 v1 v2 : Value, (((w98.setCell ⟨gb119, 0, none⟩ v0).setCell ⟨gb119, 1, none⟩ v1).setCell ⟨gb119, 2, none⟩ v2).cell? ⟨gb119, 2, none⟩ = some v2 := fun _ _ _ => set3_2 BK119.out; have hcz104_0 : w98.cell? ⟨gb110, 0, none⟩ = some (.bool a0_0) := bc_; have hcz104_1 : w98.cell? ⟨gb110, 1, none⟩ = some (.int .u64 a0_1) := bc_; have hcz104_2 : w98.cell? ⟨gb110, 2, none⟩ = some (.int .u64 a0_2) := bc_; have hfz104_0 := blk_frozen BK110.out 0; have hfz104_1 := blk_frozen BK110.out 1; have hfz104_2 := blk_frozen BK110.out 2; have hcz105_0 : w98.cell? ⟨gb111, 0, none⟩ = some (.bool a1_0) := bc_; have hcz105_1 : w98.cell? ⟨gb111, 1, none⟩ = some (.int .u64 a1_1) := bc_; have hcz105_2 : w98.cell? ⟨gb111, 2, none⟩ = some (.int .u64 a1_2) := bc_; have hfz105_0 := blk_frozen BK111.out 0; have hfz105_1 := blk_frozen BK111.out 1; have hfz105_2 := blk_frozen BK111.out 2) | ((with_reducible refine gate_callee (f := 90) rfl ?_); refine goesL_ (some 55) rfl rfl Try.func90 (by kernel_rfl) rfl #[.agg #[.bool a0_0, .int .u64 a0_1, .int .u64 a0_2], .agg #[.bool a1_0, .int .u64 a1_1, .int .u64 a1_2]] rfl mp_ ?_; (with_reducible refine (spec_l3Order.calls kj2 a0_0 a0_1 a0_2 a1_0 a1_1 a1_2 t120 _ A85.out).mono ?_); rintro e w106 ⟨rfl, hb⟩; refine ⟨_, rfl, ?_⟩; have n0_ := Aside0.mk (blk_below (g := gb110) (o := .cells #[.bool a0_0, .int .u64 a0_1, .int .u64 a0_2] 33 (0, 0)) (by (with_reducible repeat (first | refine bN_ _ ?_ | refine bd_ ?_ | refine ba_ _ ?_)); refine blk_far ?_ NB110_119.out _; (with_reducible repeat (first | refine bN_ _ ?_ | refine bd_ ?_ | refine ba_ _ ?_)); refine blk_far ?_ NB110_119.out _; (with_reducible repeat (first | refine bN_ _ ?_ | refine bd_ ?_ | refine ba_ _ ?_)); refine blk_far ?_ NB110_119.out _; (with_reducible repeat (first | refine bN_ _ ?_ | refine bd_ ?_ | refine ba_ _ ?_)); exact BK110.out) hb); have n1_ := Aside0.mk (blk_below (g := gb111) (o := .cells #[.bool a1_0, .int .u64 a1_1, .int .u64 a1_2] 33 (0, 0)) (by (with_reducible repeat (first | refine bN_ _ ?_ | refine bd_ ?_ | refine ba_ _ ?_)); refine blk_far ?_ NB111_119.out _; (with_reducible repeat (first | refine bN_ _ ?_ | refine bd_ ?_ | refine ba_ _ ?_)); refine blk_far ?_ NB111_119.out _; (with_reducible repeat (first | refine bN_ _ ?_ | refine bd_ ?_ | refine ba_ _ ?_)); refine blk_far ?_ NB111_119.out _; (with_reducible repeat (first | refine bN_ _ ?_ | refine bd_ ?_ | refine ba_ _ ?_)); exact BK111.out) hb); have n2_ := Aside0.mk (blk_below (g := gb112) (o := .cells #[.bool false, .int .u64 0, .int .u64 0] 33 (0, 0)) (by (with_reducible repeat (first | refine bN_ _ ?_ | refine bd_ ?_ | refine ba_ _ ?_)); refine blk_far ?_ NB112_119.out _; (with_reducible repeat (first | refine bN_ _ ?_ | refine bd_ ?_ | refine ba_ _ ?_)); refine blk_far ?_ NB112_119.out _; (with_reducible repeat (first | refine bN_ _ ?_ | refine bd_ ?_ | refine ba_ _ ?_)); refine blk_far ?_ NB112_119.out _; (with_reducible repeat (first | refine bN_ _ ?_ | refine bd_ ?_ | refine ba_ _ ?_)); exact BK112.out) hb); have n3_ := Aside0.mk (blk_below (g := gb118) (o := .cells #[.bool a0_0, .int .u64 a0_1, .int .u64 a0_2] 33 (0, 0)) (by (with_reducible repeat (first | refine bN_ _ ?_ | refine bd_ ?_ | refine ba_ _ ?_)); refine blk_far ?_ NB118_119.out _; (with_reducible repeat (first | refine bN_ _ ?_ | refine bd_ ?_ | refine ba_ _ ?_)); refine blk_far ?_ NB118_119.out _; (with_reducible repeat (first | refine bN_ _ ?_ | refine bd_ ?_ | refine ba_ _ ?_)); refine blk_far ?_ NB118_119.out _; (with_reducible repeat (first | refine bN_ _ ?_ | refine bd_ ?_ | refine ba_ _ ?_)); exact BK118.out) hb); have n4_ := Aside0.mk (blk_below (g := gb119) (o := .cells #[.bool a1_0, .int .u64 a1_1, .int .u64 a1_2] 33 (0, 0)) (by (with_reducible repeat (first | refine bN_ _ ?_ | refine bd_ ?_ | refine ba_ _ ?_)); refine blk_put (cs := #[.bool a1_0, .int .u64 a1_1, .int .u64 0]) ?_ 2 _ rfl; (with_reducible repeat (first | refine bN_ _ ?_ | refine bd_ ?_ | refine ba_ _ ?_)); refine blk_put (cs := #[.bool a1_0, .int .u64 0, .int .u64 0]) ?_ 1 _ rfl; (with_reducible repeat (first | refine bN_ _ ?_ | refine bd_ ?_ | refine ba_ _ ?_)); refine blk_put (cs := #[.bool false, .int .u64 0, .int .u64 0]) ?_ 0 _ rfl; (with_reducible repeat (first | refine bN_ _ ?_ | refine bd_ ?_ | refine ba_ _ ?_)); exact BK119.out) hb); have n5_ := Aside0.mk (below_step bel_ hb); clear BK110; clear BK111; clear BK112; clear BK118; clear BK119; clear HB; have BK110 := n0_; have BK111 := n1_; have BK112 := n2_; have BK118 := n3_; have BK119 := n4_; have HB := n5_; clear n0_ n1_ n2_ n3_ n4_ n5_; (try clear hb); (try clear hb2); (try clear hk); (try clear hi)))
          (try simp only [Act.put, la_, lb_, lc_])
          go_cut [] (fun wc => ∃ (kq : Nat) (x119000_85 : Bool) (x119001_85 : Int) (x119002_85 : Int) (x120000_85 : Bool) (x120001_85 : Int) (x120002_85 : Int), Aside0 (spec_AddWide.j1 kq x119000_85 x119001_85 x119002_85 x120000_85 x120001_85 x120002_85 = some (r1, r2, r3, r4)) ∧ Aside0 (kq ≤ kj2) ∧ Aside0 (wc.heap[gb110]? = some (.cells #[.bool a0_0, .int .u64 a0_1, .int .u64 a0_2] 33 (0, 0))) ∧ Aside0 (wc.heap[gb111]? = some (.cells #[.bool a1_0, .int .u64 a1_1, .int .u64 a1_2] 33 (0, 0))) ∧ Aside0 (wc.heap[gb112]? = some (.cells #[.bool false, .int .u64 0, .int .u64 0] 33 (0, 0))) ∧ Aside0 (wc.heap[gb118]? = some (.cells #[.bool x119000_85, .int .u64 x119001_85, .int .u64 x119002_85] 33 (0, 0))) ∧ Aside0 (wc.heap[gb119]? = some (.cells #[.bool x120000_85, .int .u64 x120001_85, .int .u64 x120002_85] 33 (0, 0))) ∧ Aside0 (Below w.heap.size w wc))
          case first =>
            have H := HC86.out
            clear HC86
            by_cases c107 : t120 < 0
            · rw [if_pos c107] at H
              have c107b0 : decide (t120 < 0) = true := decide_eq_true c107
              clear c107
              (first | rw [c107b0] | (simp only [i64_w, i32_w]; rw [c107b0]) | skip)
              have H' := Aside0.mk H
              clear H
              have hnb108 := NB111_110.out
              have hnc108 := NB110_111.out
              have hnb109 := NB111_112.out
              have hnc109 := NB112_111.out
              have hnb110 := NB111_118.out
              have hnc110 := NB118_111.out
              have hnb111 := NB111_119.out
              have hnc111 := NB119_111.out
              have hcz112_0 : w106.cell? ⟨gb111, 0, none⟩ = some (.bool a1_0) := bc_
              have hcz112_1 : w106.cell? ⟨gb111, 1, none⟩ = some (.int .u64 a1_1) := bc_
              have hcz112_2 : w106.cell? ⟨gb111, 2, none⟩ = some (.int .u64 a1_2) := bc_
              have hfz112_0 := blk_frozen BK111.out 0
              have hfz112_1 := blk_frozen BK111.out 1
              have hfz112_2 := blk_frozen BK111.out 2
              have hnb113 := NB118_110.out
              have hnc113 := NB110_118.out
              have hnb114 := NB118_112.out
              have hnc114 := NB112_118.out
              have hnb115 := NB118_119.out
              have hnc115 := NB119_118.out
              have hcz116_0 : w106.cell? ⟨gb118, 0, none⟩ = some (.bool a0_0) := bc_
              have hcz116_1 : w106.cell? ⟨gb118, 1, none⟩ = some (.int .u64 a0_1) := bc_
              have hcz116_2 : w106.cell? ⟨gb118, 2, none⟩ = some (.int .u64 a0_2) := bc_
              have hfz116_0 := blk_frozen BK118.out 0
              have hfz116_1 := blk_frozen BK118.out 1
              have hfz116_2 := blk_frozen BK118.out 2
              have hnb117 := NB110_112.out
              have hnc117 := NB112_110.out
              have hnb118 := NB110_119.out
              have hnc118 := NB119_110.out
              have hcz119_0 : w106.cell? ⟨gb110, 0, none⟩ = some (.bool a0_0) := bc_
              have hcz119_1 : w106.cell? ⟨gb110, 1, none⟩ = some (.int .u64 a0_1) := bc_
              have hcz119_2 : w106.cell? ⟨gb110, 2, none⟩ = some (.int .u64 a0_2) := bc_
              have hfz119_0 := blk_frozen BK110.out 0
              have hfz119_1 := blk_frozen BK110.out 1
              have hfz119_2 := blk_frozen BK110.out 2
              have hnb120 := NB119_112.out
              have hnc120 := NB112_119.out
              have hcz121_0 : w106.cell? ⟨gb119, 0, none⟩ = some (.bool a1_0) := bc_
              have hcz121_1 : w106.cell? ⟨gb119, 1, none⟩ = some (.int .u64 a1_1) := bc_
              have hcz121_2 : w106.cell? ⟨gb119, 2, none⟩ = some (.int .u64 a1_2) := bc_
              have hfz121_0 := blk_frozen BK119.out 0
              have hfz121_1 := blk_frozen BK119.out 1
              have hfz121_2 := blk_frozen BK119.out 2
              go_wp2
              go_meet
              case rel => exact ⟨_, (a1_0), (a1_1), (a1_2), (a0_0), (a0_1), (a0_2), H', ⟨by have := HJ2.out; first | omega | exact Nat.le_refl _⟩, ⟨by (with_reducible repeat (first | refine bN_ _ ?_ | refine bd_ ?_ | refine ba_ _ ?_)); refine blk_far ?_ NB110_119.out _; (with_reducible repeat (first | refine bN_ _ ?_ | refine bd_ ?_ | refine ba_ _ ?_)); refine blk_far ?_ NB110_119.out _; (with_reducible repeat (first | refine bN_ _ ?_ | refine bd_ ?_ | refine ba_ _ ?_)); refine blk_far ?_ NB110_119.out _; (with_reducible repeat (first | refine bN_ _ ?_ | refine bd_ ?_ | refine ba_ _ ?_)); refine blk_far ?_ NB110_118.out _; (with_reducible repeat (first | refine bN_ _ ?_ | refine bd_ ?_ | refine ba_ _ ?_)); refine blk_far ?_ NB110_118.out _; (with_reducible repeat (first | refine bN_ _ ?_ | refine bd_ ?_ | refine ba_ _ ?_)); refine blk_far ?_ NB110_118.out _; (with_reducible repeat (first | refine bN_ _ ?_ | refine bd_ ?_ | refine ba_ _ ?_)); exact BK110.out⟩, ⟨by (with_reducible repeat (first | refine bN_ _ ?_ | refine bd_ ?_ | refine ba_ _ ?_)); refine blk_far ?_ NB111_119.out _; (with_reducible repeat (first | refine bN_ _ ?_ | refine bd_ ?_ | refine ba_ _ ?_)); refine blk_far ?_ NB111_119.out _; (with_reducible repeat (first | refine bN_ _ ?_ | refine bd_ ?_ | refine ba_ _ ?_)); refine blk_far ?_ NB111_119.out _; (with_reducible repeat (first | refine bN_ _ ?_ | refine bd_ ?_ | refine ba_ _ ?_)); refine blk_far ?_ NB111_118.out _; (with_reducible repeat (first | refine bN_ _ ?_ | refine bd_ ?_ | refine ba_ _ ?_)); refine blk_far ?_ NB111_118.out _; (with_reducible repeat (first | refine bN_ _ ?_ | refine bd_ ?_ | refine ba_ _ ?_)); refine blk_far ?_ NB111_118.out _; (with_reducible repeat (first | refine bN_ _ ?_ | refine bd_ ?_ | refine ba_ _ ?_)); exact BK111.out⟩, ⟨by (with_reducible repeat (first | refine bN_ _ ?_ | refine bd_ ?_ | refine ba_ _ ?_)); refine blk_far ?_ NB112_119.out _; (with_reducible repeat (first | refine bN_ _ ?_ | refine bd_ ?_ | refine ba_ _ ?_)); refine blk_far ?_ NB112_119.out _; (with_reducible repeat (first | refine bN_ _ ?_ | refine bd_ ?_ | refine ba_ _ ?_)); refine blk_far ?_ NB112_119.out _; (with_reducible repeat (first | refine bN_ _ ?_ | refine bd_ ?_ | refine ba_ _ ?_)); refine blk_far ?_ NB112_118.out _; (with_reducible repeat (first | refine bN_ _ ?_ | refine bd_ ?_ | refine ba_ _ ?_)); refine blk_far ?_ NB112_118.out _; (with_reducible repeat (first | refine bN_ _ ?_ | refine bd_ ?_ | refine ba_ _ ?_)); refine blk_far ?_ NB112_118.out _; (with_reducible repeat (first | refine bN_ _ ?_ | refine bd_ ?_ | refine ba_ _ ?_)); exact BK112.out⟩, ⟨by (with_reducible repeat (first | refine bN_ _ ?_ | refine bd_ ?_ | refine ba_ _ ?_)); refine blk_far ?_ NB118_119.out _; (with_reducible repeat (first | refine bN_ _ ?_ | refine bd_ ?_ | refine ba_ _ ?_)); refine blk_far ?_ NB118_119.out _; (with_reducible repeat (first | refine bN_ _ ?_ | refine bd_ ?_ | refine ba_ _ ?_)); refine blk_far ?_ NB118_119.out _; (with_reducible repeat (first | refine bN_ _ ?_ | refine bd_ ?_ | refine ba_ _ ?_)); refine blk_put (cs := #[.bool a1_0, .int .u64 a1_1, .int .u64 a0_2]) ?_ 2 _ rfl; (with_reducible repeat (first | refine bN_ _ ?_ | refine bd_ ?_ | refine ba_ _ ?_)); refine blk_put (cs := #[.bool a1_0, .int .u64 a0_1, .int .u64 a0_2]) ?_ 1 _ rfl; (with_reducible repeat (first | refine bN_ _ ?_ | refine bd_ ?_ | refine ba_ _ ?_)); refine blk_put (cs := #[.bool a0_0, .int .u64 a0_1, .int .u64 a0_2]) ?_ 0 _ rfl; (with_reducible repeat (first | refine bN_ _ ?_ | refine bd_ ?_ | refine ba_ _ ?_)); exact BK118.out⟩, ⟨by (with_reducible repeat (first | refine bN_ _ ?_ | refine bd_ ?_ | refine ba_ _ ?_)); refine blk_put (cs := #[.bool a0_0, .int .u64 a0_1, .int .u64 a1_2]) ?_ 2 _ rfl; (with_reducible repeat (first | refine bN_ _ ?_ | refine bd_ ?_ | refine ba_ _ ?_)); refine blk_put (cs := #[.bool a0_0, .int .u64 a1_1, .int .u64 a1_2]) ?_ 1 _ rfl; (with_reducible repeat (first | refine bN_ _ ?_ | refine bd_ ?_ | refine ba_ _ ?_)); refine blk_put (cs := #[.bool a1_0, .int .u64 a1_1, .int .u64 a1_2]) ?_ 0 _ rfl; (with_reducible repeat (first | refine bN_ _ ?_ | refine bd_ ?_ | refine ba_ _ ?_)); refine blk_far ?_ NB119_118.out _; (with_reducible repeat (first | refine bN_ _ ?_ | refine bd_ ?_ | refine ba_ _ ?_)); refine blk_far ?_ NB119_118.out _; (with_reducible repeat (first | refine bN_ _ ?_ | refine bd_ ?_ | refine ba_ _ ?_)); refine blk_far ?_ NB119_118.out _; (with_reducible repeat (first | refine bN_ _ ?_ | refine bd_ ?_ | refine ba_ _ ?_)); exact BK119.out⟩, ⟨by repeat (first | (with_reducible first | exact HB.out | apply below_alloc | apply pw_below_drewN | apply below_drew1 | refine below_set ?_ GE110.out | refine below_set ?_ GE111.out | refine below_set ?_ GE112.out | refine below_set ?_ GE118.out | refine below_set ?_ GE119.out) | exact HB.out)⟩⟩
            · rw [if_neg c107] at H
              have c107b0 : decide (t120 < 0) = false := decide_eq_false c107
              clear c107
              (first | rw [c107b0] | (simp only [i64_w, i32_w]; rw [c107b0]) | skip)
              have H' := Aside0.mk H
              clear H
              go_wp2
              go_meet
              case rel => exact ⟨_, (a0_0), (a0_1), (a0_2), (a1_0), (a1_1), (a1_2), H', ⟨by have := HJ2.out; first | omega | exact Nat.le_refl _⟩, ⟨by (with_reducible repeat (first | refine bN_ _ ?_ | refine bd_ ?_ | refine ba_ _ ?_)); exact BK110.out⟩, ⟨by (with_reducible repeat (first | refine bN_ _ ?_ | refine bd_ ?_ | refine ba_ _ ?_)); exact BK111.out⟩, ⟨by (with_reducible repeat (first | refine bN_ _ ?_ | refine bd_ ?_ | refine ba_ _ ?_)); exact BK112.out⟩, ⟨by (with_reducible repeat (first | refine bN_ _ ?_ | refine bd_ ?_ | refine ba_ _ ?_)); exact BK118.out⟩, ⟨by (with_reducible repeat (first | refine bN_ _ ?_ | refine bd_ ?_ | refine ba_ _ ?_)); exact BK119.out⟩, ⟨by repeat (first | (with_reducible first | exact HB.out | apply below_alloc | apply pw_below_drewN | apply below_drew1 | refine below_set ?_ GE110.out | refine below_set ?_ GE111.out | refine below_set ?_ GE112.out | refine below_set ?_ GE118.out | refine below_set ?_ GE119.out) | exact HB.out)⟩⟩
          case rest =>
            clear HC86
            try clear c1
            try clear c2
            try clear p2
            try clear c3
            try clear c4
            try clear c5
            try clear c6
            try clear c7
            try clear c8
            try clear c9
            try clear c10
            try clear c11
            try clear c12
            try clear c14
            try clear c17
            try clear c18
            try clear c21
            try clear c22
            try clear c23
            try clear c25
            try clear c25b0
            try clear c25b1
            try clear c25b2
            try clear c26
            try clear c26b0
            try clear c28
            try clear c29
            try clear c30
            try clear c32
            try clear c35
            try clear c36
            try clear c37
            try clear c41
            try clear c43
            try clear c44
            try clear c46
            try clear c47
            try clear c49
            try clear c50
            try clear c51
            try clear c57
            try clear c58
            try clear c59
            try clear c61
            try clear c64
            try clear c65
            try clear c66
            try clear c72
            try clear c73
            try clear c75
            try clear c78
            try clear c79
            try clear c80
            try clear c87
            try clear c88
            try clear c90
            try clear c93
            try clear c94
            try clear c95
            try clear c99
            try clear c100
            try clear c101
            try clear c102
            try clear c107
            try clear c107b0
            try clear c108
            try clear c109
            try clear c110
            try clear c111
            try clear c113
            try clear c114
            try clear c115
            try clear c117
            try clear c118
            try clear c120
            try clear hcz103_0
            try clear hcz103_1
            try clear hcz103_2
            try clear hcz104_0
            try clear hcz104_1
            try clear hcz104_2
            try clear hcz105_0
            try clear hcz105_1
            try clear hcz105_2
            try clear hcz112_0
            try clear hcz112_1
            try clear hcz112_2
            try clear hcz116_0
            try clear hcz116_1
            try clear hcz116_2
            try clear hcz119_0
            try clear hcz119_1
            try clear hcz119_2
            try clear hcz121_0
            try clear hcz121_1
            try clear hcz121_2
            try clear hcz12_0
            try clear hcz12_1
            try clear hcz12_2
            try clear hcz15_0
            try clear hcz15_1
            try clear hcz15_2
            try clear hcz19_0
            try clear hcz19_1
            try clear hcz19_2
            try clear hcz24_0
            try clear hcz24_1
            try clear hcz24_2
            try clear hcz31_0
            try clear hcz31_1
            try clear hcz31_2
            try clear hcz33_0
            try clear hcz33_1
            try clear hcz33_2
            try clear hcz38_0
            try clear hcz38_1
            try clear hcz38_2
            try clear hcz39_0
            try clear hcz39_1
            try clear hcz39_2
            try clear hcz41_0
            try clear hcz41_1
            try clear hcz41_2
            try clear hcz42_0
            try clear hcz42_1
            try clear hcz42_2
            try clear hcz45_0
            try clear hcz45_1
            try clear hcz45_2
            try clear hcz47_0
            try clear hcz47_1
            try clear hcz47_2
            try clear hcz52_0
            try clear hcz52_1
            try clear hcz52_2
            try clear hcz53_0
            try clear hcz53_1
            try clear hcz53_2
            try clear hcz55_0
            try clear hcz55_1
            try clear hcz55_2
            try clear hcz60_0
            try clear hcz60_1
            try clear hcz60_2
            try clear hcz62_0
            try clear hcz62_1
            try clear hcz62_2
            try clear hcz67_0
            try clear hcz67_1
            try clear hcz67_2
            try clear hcz68_0
            try clear hcz68_1
            try clear hcz68_2
            try clear hcz70_0
            try clear hcz70_1
            try clear hcz70_2
            try clear hcz71_0
            try clear hcz71_1
            try clear hcz71_2
            try clear hcz74_0
            try clear hcz74_1
            try clear hcz74_2
            try clear hcz76_0
            try clear hcz76_1
            try clear hcz76_2
            try clear hcz81_0
            try clear hcz81_1
            try clear hcz81_2
            try clear hcz82_0
            try clear hcz82_1
            try clear hcz82_2
            try clear hcz84_0
            try clear hcz84_1
            try clear hcz84_2
            try clear hcz89_0
            try clear hcz89_1
            try clear hcz89_2
            try clear hcz91_0
            try clear hcz91_1
            try clear hcz91_2
            try clear hcz96_0
            try clear hcz96_1
            try clear hcz96_2
            try clear hcz97_0
            try clear hcz97_1
            try clear hcz97_2
            try clear hfz103_0
            try clear hfz103_1
            try clear hfz103_2
            try clear hfz104_0
            try clear hfz104_1
            try clear hfz104_2
            try clear hfz105_0
            try clear hfz105_1
            try clear hfz105_2
            try clear hfz112_0
            try clear hfz112_1
            try clear hfz112_2
            try clear hfz116_0
            try clear hfz116_1
            try clear hfz116_2
            try clear hfz119_0
            try clear hfz119_1
            try clear hfz119_2
            try clear hfz121_0
            try clear hfz121_1
            try clear hfz121_2
            try clear hfz12_0
            try clear hfz12_1
            try clear hfz12_2
            try clear hfz15_0
            try clear hfz15_1
            try clear hfz15_2
            try clear hfz19_0
            try clear hfz19_1
            try clear hfz19_2
            try clear hfz24_0
            try clear hfz24_1
            try clear hfz24_2
            try clear hfz31_0
            try clear hfz31_1
            try clear hfz31_2
            try clear hfz33_0
            try clear hfz33_1
            try clear hfz33_2
            try clear hfz38_0
            try clear hfz38_1
            try clear hfz38_2
            try clear hfz39_0
            try clear hfz39_1
            try clear hfz39_2
            try clear hfz41_0
            try clear hfz41_1
            try clear hfz41_2
            try clear hfz42_0
            try clear hfz42_1
            try clear hfz42_2
            try clear hfz45_0
            try clear hfz45_1
            try clear hfz45_2
            try clear hfz47_0
            try clear hfz47_1
            try clear hfz47_2
            try clear hfz52_0
            try clear hfz52_1
            try clear hfz52_2
            try clear hfz53_0
            try clear hfz53_1
            try clear hfz53_2
            try clear hfz55_0
            try clear hfz55_1
            try clear hfz55_2
            try clear hfz60_0
            try clear hfz60_1
            try clear hfz60_2
            try clear hfz62_0
            try clear hfz62_1
            try clear hfz62_2
            try clear hfz67_0
            try clear hfz67_1
            try clear hfz67_2
            try clear hfz68_0
            try clear hfz68_1
            try clear hfz68_2
            try clear hfz70_0
            try clear hfz70_1
            try clear hfz70_2
            try clear hfz71_0
            try clear hfz71_1
            try clear hfz71_2
            try clear hfz74_0
            try clear hfz74_1
            try clear hfz74_2
            try clear hfz76_0
            try clear hfz76_1
            try clear hfz76_2
            try clear hfz81_0
            try clear hfz81_1
            try clear hfz81_2
            try clear hfz82_0
            try clear hfz82_1
            try clear hfz82_2
            try clear hfz84_0
            try clear hfz84_1
            try clear hfz84_2
            try clear hfz89_0
            try clear hfz89_1
            try clear hfz89_2
            try clear hfz91_0
            try clear hfz91_1
            try clear hfz91_2
            try clear hfz96_0
            try clear hfz96_1
            try clear hfz96_2
            try clear hfz97_0
            try clear hfz97_1
            try clear hfz97_2
            try clear p2
            obtain ⟨kq, x119000_85, x119001_85, x119002_85, x120000_85, x120001_85, x120002_85, HA, HJ85, BK110, BK111, BK112, BK118, BK119, HB⟩ := hcut
            cases kq with
            | zero => exact absurd HA.out (by simp [spec_AddWide.j1])
            | succ kj85 =>
              have H := HA.out
              clear HA
              simp only [spec_AddWide.j1] at H
              by_cases c122 : x119002_85 < x120002_85
              · rw [if_pos c122] at H
                have c122b0 : decide (x119002_85 < x120002_85) = true := decide_eq_true c122
                clear c122
                replace H := Option.bind_eq_some_iff.mp H
                obtain ⟨t122, A1230, H⟩ := H
                replace H : (if t122 = true then (some (false, IntKind.u64.wrap ((IntKind.u64.wrap (x119001_85 - x120001_85)) - 1), IntKind.u64.wrap (x119002_85 - x120002_85), true)) else (some (x119000_85, IntKind.u64.wrap ((IntKind.u64.wrap (x119001_85 - x120001_85)) - 1), IntKind.u64.wrap (x119002_85 - x120002_85), true))) = some (r1, r2, r3, r4) := H
                have A123 := Aside0.mk A1230
                clear A1230
                by_cases c124 : t122 = true
                · subst c124
                  have H1 : (some (false, IntKind.u64.wrap ((IntKind.u64.wrap (x119001_85 - x120001_85)) - 1), IntKind.u64.wrap (x119002_85 - x120002_85), true)) = some (r1, r2, r3, r4) := by rw [if_pos rfl] at H; exact H
                  clear H
                  have H := H1
                  clear H1
                  simp only [Option.some.injEq, Prod.mk.injEq] at H
                  obtain ⟨rfl, rfl, rfl, rfl⟩ := H
                  have hnb125 := NB118_110.out
                  have hnc125 := NB110_118.out
                  have hnb126 := NB118_111.out
                  have hnc126 := NB111_118.out
                  have hnb127 := NB118_112.out
                  have hnc127 := NB112_118.out
                  have hnb128 := NB118_119.out
                  have hnc128 := NB119_118.out
                  have hcz129_0 : wc.cell? ⟨gb118, 0, none⟩ = some (.bool x119000_85) := bc_
                  have hcz129_1 : wc.cell? ⟨gb118, 1, none⟩ = some (.int .u64 x119001_85) := bc_
                  have hcz129_2 : wc.cell? ⟨gb118, 2, none⟩ = some (.int .u64 x119002_85) := bc_
                  have hfz129_0 := blk_frozen BK118.out 0
                  have hfz129_1 := blk_frozen BK118.out 1
                  have hfz129_2 := blk_frozen BK118.out 2
                  have hnb130 := NB119_110.out
                  have hnc130 := NB110_119.out
                  have hnb131 := NB119_111.out
                  have hnc131 := NB111_119.out
                  have hnb132 := NB119_112.out
                  have hnc132 := NB112_119.out
                  have hcz133_0 : wc.cell? ⟨gb119, 0, none⟩ = some (.bool x120000_85) := bc_
                  have hcz133_1 : wc.cell? ⟨gb119, 1, none⟩ = some (.int .u64 x120001_85) := bc_
                  have hcz133_2 : wc.cell? ⟨gb119, 2, none⟩ = some (.int .u64 x120002_85) := bc_
                  have hfz133_0 := blk_frozen BK119.out 0
                  have hfz133_1 := blk_frozen BK119.out 1
                  have hfz133_2 := blk_frozen BK119.out 2
                  go_wp2_with (first | ((with_reducible refine gate_dst (N := 9) rfl ?_); refine box_event ?hg (N := 9) ?hd (cs := #[.bool false, .int .u64 0, .int .u64 0]) (t := 33) ?hr ?_; (case hd => rfl); (case hg => rfl); (case hr => first | (go_simp; done) | (go_simp; rfl)); intro gb121 hg w134 hbox hb; have n0_ := bb_ (g := gb110) (o := .cells #[.bool a0_0, .int .u64 a0_1, .int .u64 a0_2] 33 (0, 0)) hb; have n1_ := bb_ (g := gb111) (o := .cells #[.bool a1_0, .int .u64 a1_1, .int .u64 a1_2] 33 (0, 0)) hb; have n2_ := bb_ (g := gb112) (o := .cells #[.bool false, .int .u64 0, .int .u64 0] 33 (0, 0)) hb; have n3_ := bb_ (g := gb118) (o := .cells #[.bool x119000_85, .int .u64 x119001_85, .int .u64 x119002_85] 33 (0, 0)) hb; have n4_ := bb_ (g := gb119) (o := .cells #[.bool x120000_85, .int .u64 x120001_85, .int .u64 x120002_85] 33 (0, 0)) hb; have n5_ := Aside0.mk (below_step bel_ hb); have n6_ := Aside0.mk (hbox); have n7_ := Aside0.mk ((by rw [hg]; exact (below_size bel_) : w.heap.size ≤ gb121)); have n8_ := Aside0.mk ((by rw [hg]; exact (below_size bel_) : w.heap.size ≤ gb121)); have n9_ := nlt_ (g := gb110) (o := .cells #[.bool a0_0, .int .u64 a0_1, .int .u64 a0_2] 33 (0, 0)) hg; have n10_ := ngt_ (g := gb110) (o := .cells #[.bool a0_0, .int .u64 a0_1, .int .u64 a0_2] 33 (0, 0)) hg; have n11_ := nlt_ (g := gb111) (o := .cells #[.bool a1_0, .int .u64 a1_1, .int .u64 a1_2] 33 (0, 0)) hg; have n12_ := ngt_ (g := gb111) (o := .cells #[.bool a1_0, .int .u64 a1_1, .int .u64 a1_2] 33 (0, 0)) hg; have n13_ := nlt_ (g := gb112) (o := .cells #[.bool false, .int .u64 0, .int .u64 0] 33 (0, 0)) hg; have n14_ := ngt_ (g := gb112) (o := .cells #[.bool false, .int .u64 0, .int .u64 0] 33 (0, 0)) hg; have n15_ := nlt_ (g := gb118) (o := .cells #[.bool x119000_85, .int .u64 x119001_85, .int .u64 x119002_85] 33 (0, 0)) hg; have n16_ := ngt_ (g := gb118) (o := .cells #[.bool x119000_85, .int .u64 x119001_85, .int .u64 x119002_85] 33 (0, 0)) hg; have n17_ := nlt_ (g := gb119) (o := .cells #[.bool x120000_85, .int .u64 x120001_85, .int .u64 x120002_85] 33 (0, 0)) hg; have n18_ := ngt_ (g := gb119) (o := .cells #[.bool x120000_85, .int .u64 x120001_85, .int .u64 x120002_85] 33 (0, 0)) hg; clear BK110; clear BK111; clear BK112; clear BK118; clear BK119; clear HB; have BK110 := n0_; have BK111 := n1_; have BK112 := n2_; have BK118 := n3_; have BK119 := n4_; have HB := n5_; have BK121 := n6_; have GW121 := n7_; have GE121 := n8_; have NB110_121 := n9_; have NB121_110 := n10_; have NB111_121 := n11_; have NB121_111 := n12_; have NB112_121 := n13_; have NB121_112 := n14_; have NB118_121 := n15_; have NB121_118 := n16_; have NB119_121 := n17_; have NB121_119 := n18_; clear n0_ n1_ n2_ n3_ n4_ n5_ n6_ n7_ n8_ n9_ n10_ n11_ n12_ n13_ n14_ n15_ n16_ n17_ n18_; clear hb hbox hg; have hnb135 := NB121_110.out; have hnc135 := NB110_121.out; have hnb136 := NB121_111.out; have hnc136 := NB111_121.out; have hnb137 := NB121_112.out; have hnc137 := NB112_121.out; have hnb138 := NB121_118.out; have hnc138 := NB118_121.out; have hnb139 := NB121_119.out; have hnc139 := NB119_121.out; have hcz140_0 : w134.cell? ⟨gb121, 0, none⟩ = some (.bool false) := bc_; have hcz140_1 : w134.cell? ⟨gb121, 1, none⟩ = some (.int .u64 0) := bc_; have hcz140_2 : w134.cell? ⟨gb121, 2, none⟩ = some (.int .u64 0) := bc_; have hfz140_0 := blk_frozen BK121.out 0; have hfz140_1 := blk_frozen BK121.out 1; have hfz140_2 := blk_frozen BK121.out 2; have hs121_0 : ∀ v0 v1 v2 : Value, (((w134.setCell ⟨gb121, 0, none⟩ v0).setCell ⟨gb121, 1, none⟩ v1).setCell ⟨gb121, 2, none⟩ v2).cell? ⟨gb121, 0, none⟩ = some v0 := fun _ _ _ => set3_0 BK121.out; have hs121_1 : ∀ v0 v1 v2 : Value, (((w134.setCell ⟨gb121, 0, none⟩ v0).setCell ⟨gb121, 1, none⟩ v1).setCell ⟨gb121, 2, none⟩ v2).cell? ⟨gb121, 1, none⟩ = some v1 := fun _ _ _ => set3_1 BK121.out; have hs121_2 : ∀ v0 v1 v2 : Value, (((w134.setCell ⟨gb121, 0, none⟩ v0).setCell ⟨gb121, 1, none⟩ v1).setCell ⟨gb121, 2, none⟩ v2).cell? ⟨gb121, 2, none⟩ = some v2 := fun _ _ _ => set3_2 BK121.out; have hcz141_0 : w134.cell? ⟨gb118, 0, none⟩ = some (.bool x119000_85) := bc_; have hcz141_1 : w134.cell? ⟨gb118, 1, none⟩ = some (.int .u64 x119001_85) := bc_; have hcz141_2 : w134.cell? ⟨gb118, 2, none⟩ = some (.int .u64 x119002_85) := bc_; have hfz141_0 := blk_frozen BK118.out 0; have hfz141_1 := blk_frozen BK118.out 1; have hfz141_2 := blk_frozen BK118.out 2; have hcz142_0 : w134.cell? ⟨gb119, 0, none⟩ = some (.bool x120000_85) := bc_; have hcz142_1 : w134.cell? ⟨gb119, 1, none⟩ = some (.int .u64 x120001_85) := bc_; have hcz142_2 : w134.cell? ⟨gb119, 2, none⟩ = some (.int .u64 x120002_85) := bc_; have hfz142_0 := blk_frozen BK119.out 0; have hfz142_1 := blk_frozen BK119.out 1; have hfz142_2 := blk_frozen BK119.out 2) | ((with_reducible refine gate_callee (f := 66) rfl ?_); refine goesL_ (some 82) rfl rfl Try.func66 (by kernel_rfl) rfl #[.agg #[.bool x119000_85, .int .u64 (IntKind.u64.wrap ((IntKind.u64.wrap (x119001_85 - x120001_85)) - 1)), .int .u64 (IntKind.u64.wrap (x119002_85 - x120002_85))]] rfl mp_ ?_; (with_reducible refine (spec_l3Zero.calls x119000_85 (IntKind.u64.wrap ((IntKind.u64.wrap (x119001_85 - x120001_85)) - 1)) (IntKind.u64.wrap (x119002_85 - x120002_85)) true _ A123.out).mono ?_); rintro e w143 ⟨rfl, hb⟩; refine ⟨_, rfl, ?_⟩; have n0_ := Aside0.mk (blk_below (g := gb110) (o := .cells #[.bool a0_0, .int .u64 a0_1, .int .u64 a0_2] 33 (0, 0)) (by (with_reducible repeat (first | refine bN_ _ ?_ | refine bd_ ?_ | refine ba_ _ ?_)); refine blk_far ?_ NB110_121.out _; (with_reducible repeat (first | refine bN_ _ ?_ | refine bd_ ?_ | refine ba_ _ ?_)); refine blk_far ?_ NB110_121.out _; (with_reducible repeat (first | refine bN_ _ ?_ | refine bd_ ?_ | refine ba_ _ ?_)); refine blk_far ?_ NB110_121.out _; (with_reducible repeat (first | refine bN_ _ ?_ | refine bd_ ?_ | refine ba_ _ ?_)); refine blk_far ?_ NB110_121.out _; (with_reducible repeat (first | refine bN_ _ ?_ | refine bd_ ?_ | refine ba_ _ ?_)); exact BK110.out) hb); have n1_ := Aside0.mk (blk_below (g := gb111) (o := .cells #[.bool a1_0, .int .u64 a1_1, .int .u64 a1_2] 33 (0, 0)) (by (with_reducible repeat (first | refine bN_ _ ?_ | refine bd_ ?_ | refine ba_ _ ?_)); refine blk_far ?_ NB111_121.out _; (with_reducible repeat (first | refine bN_ _ ?_ | refine bd_ ?_ | refine ba_ _ ?_)); refine blk_far ?_ NB111_121.out _; (with_reducible repeat (first | refine bN_ _ ?_ | refine bd_ ?_ | refine ba_ _ ?_)); refine blk_far ?_ NB111_121.out _; (with_reducible repeat (first | refine bN_ _ ?_ | refine bd_ ?_ | refine ba_ _ ?_)); refine blk_far ?_ NB111_121.out _; (with_reducible repeat (first | refine bN_ _ ?_ | refine bd_ ?_ | refine ba_ _ ?_)); exact BK111.out) hb); have n2_ := Aside0.mk (blk_below (g := gb112) (o := .cells #[.bool false, .int .u64 0, .int .u64 0] 33 (0, 0)) (by (with_reducible repeat (first | refine bN_ _ ?_ | refine bd_ ?_ | refine ba_ _ ?_)); refine blk_far ?_ NB112_121.out _; (with_reducible repeat (first | refine bN_ _ ?_ | refine bd_ ?_ | refine ba_ _ ?_)); refine blk_far ?_ NB112_121.out _; (with_reducible repeat (first | refine bN_ _ ?_ | refine bd_ ?_ | refine ba_ _ ?_)); refine blk_far ?_ NB112_121.out _; (with_reducible repeat (first | refine bN_ _ ?_ | refine bd_ ?_ | refine ba_ _ ?_)); refine blk_far ?_ NB112_121.out _; (with_reducible repeat (first | refine bN_ _ ?_ | refine bd_ ?_ | refine ba_ _ ?_)); exact BK112.out) hb); have n3_ := Aside0.mk (blk_below (g := gb118) (o := .cells #[.bool x119000_85, .int .u64 x119001_85, .int .u64 x119002_85] 33 (0, 0)) (by (with_reducible repeat (first | refine bN_ _ ?_ | refine bd_ ?_ | refine ba_ _ ?_)); refine blk_far ?_ NB118_121.out _; (with_reducible repeat (first | refine bN_ _ ?_ | refine bd_ ?_ | refine ba_ _ ?_)); refine blk_far ?_ NB118_121.out _; (with_reducible repeat (first | refine bN_ _ ?_ | refine bd_ ?_ | refine ba_ _ ?_)); refine blk_far ?_ NB118_121.out _; (with_reducible repeat (first | refine bN_ _ ?_ | refine bd_ ?_ | refine ba_ _ ?_)); refine blk_far ?_ NB118_121.out _; (with_reducible repeat (first | refine bN_ _ ?_ | refine bd_ ?_ | refine ba_ _ ?_)); exact BK118.out) hb); have n4_ := Aside0.mk (blk_below (g := gb119) (o := .cells #[.bool x120000_85, .int .u64 x120001_85, .int .u64 x120002_85] 33 (0, 0)) (by (with_reducible repeat (first | refine bN_ _ ?_ | refine bd_ ?_ | refine ba_ _ ?_)); refine blk_far ?_ NB119_121.out _; (with_reducible repeat (first | refine bN_ _ ?_ | refine bd_ ?_ | refine ba_ _ ?_)); refine blk_far ?_ NB119_121.out _; (with_reducible repeat (first | refine bN_ _ ?_ | refine bd_ ?_ | refine ba_ _ ?_)); refine blk_far ?_ NB119_121.out _; (with_reducible repeat (first | refine bN_ _ ?_ | refine bd_ ?_ | refine ba_ _ ?_)); refine blk_far ?_ NB119_121.out _; (with_reducible repeat (first | refine bN_ _ ?_ | refine bd_ ?_ | refine ba_ _ ?_)); exact BK119.out) hb); have n5_ := Aside0.mk (blk_below (g := gb121) (o := .cells #[.bool x119000_85, .int .u64 (IntKind.u64.wrap ((IntKind.u64.wrap (x119001_85 - x120001_85)) - 1)), .int .u64 (IntKind.u64.wrap (x119002_85 - x120002_85))] 33 (0, 0)) (by (with_reducible repeat (first | refine bN_ _ ?_ | refine bd_ ?_ | refine ba_ _ ?_)); refine blk_put (cs := #[.bool x119000_85, .int .u64 (IntKind.u64.wrap (x119001_85 - x120001_85)), .int .u64 (IntKind.u64.wrap (x119002_85 - x120002_85))]) ?_ 1 _ rfl; (with_reducible repeat (first | refine bN_ _ ?_ | refine bd_ ?_ | refine ba_ _ ?_)); refine blk_put (cs := #[.bool x119000_85, .int .u64 (IntKind.u64.wrap (x119001_85 - x120001_85)), .int .u64 0]) ?_ 2 _ rfl; (with_reducible repeat (first | refine bN_ _ ?_ | refine bd_ ?_ | refine ba_ _ ?_)); refine blk_put (cs := #[.bool x119000_85, .int .u64 0, .int .u64 0]) ?_ 1 _ rfl; (with_reducible repeat (first | refine bN_ _ ?_ | refine bd_ ?_ | refine ba_ _ ?_)); refine blk_put (cs := #[.bool false, .int .u64 0, .int .u64 0]) ?_ 0 _ rfl; (with_reducible repeat (first | refine bN_ _ ?_ | refine bd_ ?_ | refine ba_ _ ?_)); exact BK121.out) hb); have n6_ := Aside0.mk (below_step bel_ hb); clear BK110; clear BK111; clear BK112; clear BK118; clear BK119; clear BK121; clear HB; have BK110 := n0_; have BK111 := n1_; have BK112 := n2_; have BK118 := n3_; have BK119 := n4_; have BK121 := n5_; have HB := n6_; clear n0_ n1_ n2_ n3_ n4_ n5_ n6_; (try clear hb); (try clear hb2); (try clear hk); (try clear hi); have hcz144_0 : w143.cell? ⟨gb121, 0, none⟩ = some (.bool x119000_85) := bc_; have hcz144_1 : w143.cell? ⟨gb121, 1, none⟩ = some (.int .u64 (IntKind.u64.wrap ((IntKind.u64.wrap (x119001_85 - x120001_85)) - 1))) := bc_; have hcz144_2 : w143.cell? ⟨gb121, 2, none⟩ = some (.int .u64 (IntKind.u64.wrap (x119002_85 - x120002_85))) := bc_; have hfz144_0 := blk_frozen BK121.out 0; have hfz144_1 := blk_frozen BK121.out 1; have hfz144_2 := blk_frozen BK121.out 2; have hnb145 := NB112_110.out; have hnc145 := NB110_112.out; have hnb146 := NB112_111.out; have hnc146 := NB111_112.out; have hcz147_0 : w143.cell? ⟨gb112, 0, none⟩ = some (.bool false) := bc_; have hcz147_1 : w143.cell? ⟨gb112, 1, none⟩ = some (.int .u64 0) := bc_; have hcz147_2 : w143.cell? ⟨gb112, 2, none⟩ = some (.int .u64 0) := bc_; have hfz147_0 := blk_frozen BK112.out 0; have hfz147_1 := blk_frozen BK112.out 1; have hfz147_2 := blk_frozen BK112.out 2; have hs112_0 : ∀ v0 v1 v2 : Value, (((w143.setCell ⟨gb112, 0, none⟩ v0).setCell ⟨gb112, 1, none⟩ v1).setCell ⟨gb112, 2, none⟩ v2).cell? ⟨gb112, 0, none⟩ = some v0 := fun _ _ _ => set3_0 BK112.out; have hs112_1 : ∀ v0 v1 v2 : Value, (((w143.setCell ⟨gb112, 0, none⟩ v0).setCell ⟨gb112, 1, none⟩ v1).setCell ⟨gb112, 2, none⟩ v2).cell? ⟨gb112, 1, none⟩ = some v1 := fun _ _ _ => set3_1 BK112.out; have hs112_2 : ∀ v0 v1 v2 : Value, (((w143.setCell ⟨gb112, 0, none⟩ v0).setCell ⟨gb112, 1, none⟩ v1).setCell ⟨gb112, 2, none⟩ v2).cell? ⟨gb112, 2, none⟩ = some v2 := fun _ _ _ => set3_2 BK112.out))
                  refine bodyPost_ret (results_ct rfl _ _ gb112 33 #[.bool false, .int .u64 (IntKind.u64.wrap ((IntKind.u64.wrap (x119001_85 - x120001_85)) - 1)), .int .u64 (IntKind.u64.wrap (x119002_85 - x120002_85))] (0, 0) _ rfl (by (with_reducible repeat (first | refine bN_ _ ?_ | refine bd_ ?_ | refine ba_ _ ?_)); refine blk_put (cs := #[.bool false, .int .u64 (IntKind.u64.wrap ((IntKind.u64.wrap (x119001_85 - x120001_85)) - 1)), .int .u64 0]) ?_ 2 _ rfl; (with_reducible repeat (first | refine bN_ _ ?_ | refine bd_ ?_ | refine ba_ _ ?_)); refine blk_put (cs := #[.bool false, .int .u64 0, .int .u64 0]) ?_ 1 _ rfl; (with_reducible repeat (first | refine bN_ _ ?_ | refine bd_ ?_ | refine ba_ _ ?_)); refine blk_put (cs := #[.bool false, .int .u64 0, .int .u64 0]) ?_ 0 _ rfl; (with_reducible repeat (first | refine bN_ _ ?_ | refine bd_ ?_ | refine ba_ _ ?_)); refine blk_far ?_ NB112_121.out _; (with_reducible repeat (first | refine bN_ _ ?_ | refine bd_ ?_ | refine ba_ _ ?_)); exact BK112.out) Try.underlying33 rfl (by kernel_rfl)) rfl ?_
                  exact ⟨by first | rfl | (simp [errW_none, errW_some] <;> rfl) | (simp [*, errW_none, errW_some] <;> rfl), by repeat (first | (with_reducible first | exact HB.out | apply below_alloc | apply pw_below_drewN | apply below_drew1 | refine below_set ?_ GE110.out | refine below_set ?_ GE111.out | refine below_set ?_ GE112.out | refine below_set ?_ GE118.out | refine below_set ?_ GE119.out | refine below_set ?_ GE121.out) | exact HB.out)⟩
                · replace c124 := Bool.eq_false_iff.mpr c124
                  subst c124
                  have H1 : (some (x119000_85, IntKind.u64.wrap ((IntKind.u64.wrap (x119001_85 - x120001_85)) - 1), IntKind.u64.wrap (x119002_85 - x120002_85), true)) = some (r1, r2, r3, r4) := by rw [if_neg (show ¬ (false = true) by decide)] at H; exact H
                  clear H
                  have H := H1
                  clear H1
                  simp only [Option.some.injEq, Prod.mk.injEq] at H
                  obtain ⟨rfl, rfl, rfl, rfl⟩ := H
                  have hnb148 := NB118_110.out
                  have hnc148 := NB110_118.out
                  have hnb149 := NB118_111.out
                  have hnc149 := NB111_118.out
                  have hnb150 := NB118_112.out
                  have hnc150 := NB112_118.out
                  have hnb151 := NB118_119.out
                  have hnc151 := NB119_118.out
                  have hcz152_0 : wc.cell? ⟨gb118, 0, none⟩ = some (.bool x119000_85) := bc_
                  have hcz152_1 : wc.cell? ⟨gb118, 1, none⟩ = some (.int .u64 x119001_85) := bc_
                  have hcz152_2 : wc.cell? ⟨gb118, 2, none⟩ = some (.int .u64 x119002_85) := bc_
                  have hfz152_0 := blk_frozen BK118.out 0
                  have hfz152_1 := blk_frozen BK118.out 1
                  have hfz152_2 := blk_frozen BK118.out 2
                  have hnb153 := NB119_110.out
                  have hnc153 := NB110_119.out
                  have hnb154 := NB119_111.out
                  have hnc154 := NB111_119.out
                  have hnb155 := NB119_112.out
                  have hnc155 := NB112_119.out
                  have hcz156_0 : wc.cell? ⟨gb119, 0, none⟩ = some (.bool x120000_85) := bc_
                  have hcz156_1 : wc.cell? ⟨gb119, 1, none⟩ = some (.int .u64 x120001_85) := bc_
                  have hcz156_2 : wc.cell? ⟨gb119, 2, none⟩ = some (.int .u64 x120002_85) := bc_
                  have hfz156_0 := blk_frozen BK119.out 0
                  have hfz156_1 := blk_frozen BK119.out 1
                  have hfz156_2 := blk_frozen BK119.out 2
                  go_wp2_with (first | ((with_reducible refine gate_dst (N := 9) rfl ?_); refine box_event ?hg (N := 9) ?hd (cs := #[.bool false, .int .u64 0, .int .u64 0]) (t := 33) ?hr ?_; (case hd => rfl); (case hg => rfl); (case hr => first | (go_simp; done) | (go_simp; rfl)); intro gb121 hg w157 hbox hb; have n0_ := bb_ (g := gb110) (o := .cells #[.bool a0_0, .int .u64 a0_1, .int .u64 a0_2] 33 (0, 0)) hb; have n1_ := bb_ (g := gb111) (o := .cells #[.bool a1_0, .int .u64 a1_1, .int .u64 a1_2] 33 (0, 0)) hb; have n2_ := bb_ (g := gb112) (o := .cells #[.bool false, .int .u64 0, .int .u64 0] 33 (0, 0)) hb; have n3_ := bb_ (g := gb118) (o := .cells #[.bool x119000_85, .int .u64 x119001_85, .int .u64 x119002_85] 33 (0, 0)) hb; have n4_ := bb_ (g := gb119) (o := .cells #[.bool x120000_85, .int .u64 x120001_85, .int .u64 x120002_85] 33 (0, 0)) hb; have n5_ := Aside0.mk (below_step bel_ hb); have n6_ := Aside0.mk (hbox); have n7_ := Aside0.mk ((by rw [hg]; exact (below_size bel_) : w.heap.size ≤ gb121)); have n8_ := Aside0.mk ((by rw [hg]; exact (below_size bel_) : w.heap.size ≤ gb121)); have n9_ := nlt_ (g := gb110) (o := .cells #[.bool a0_0, .int .u64 a0_1, .int .u64 a0_2] 33 (0, 0)) hg; have n10_ := ngt_ (g := gb110) (o := .cells #[.bool a0_0, .int .u64 a0_1, .int .u64 a0_2] 33 (0, 0)) hg; have n11_ := nlt_ (g := gb111) (o := .cells #[.bool a1_0, .int .u64 a1_1, .int .u64 a1_2] 33 (0, 0)) hg; have n12_ := ngt_ (g := gb111) (o := .cells #[.bool a1_0, .int .u64 a1_1, .int .u64 a1_2] 33 (0, 0)) hg; have n13_ := nlt_ (g := gb112) (o := .cells #[.bool false, .int .u64 0, .int .u64 0] 33 (0, 0)) hg; have n14_ := ngt_ (g := gb112) (o := .cells #[.bool false, .int .u64 0, .int .u64 0] 33 (0, 0)) hg; have n15_ := nlt_ (g := gb118) (o := .cells #[.bool x119000_85, .int .u64 x119001_85, .int .u64 x119002_85] 33 (0, 0)) hg; have n16_ := ngt_ (g := gb118) (o := .cells #[.bool x119000_85, .int .u64 x119001_85, .int .u64 x119002_85] 33 (0, 0)) hg; have n17_ := nlt_ (g := gb119) (o := .cells #[.bool x120000_85, .int .u64 x120001_85, .int .u64 x120002_85] 33 (0, 0)) hg; have n18_ := ngt_ (g := gb119) (o := .cells #[.bool x120000_85, .int .u64 x120001_85, .int .u64 x120002_85] 33 (0, 0)) hg; clear BK110; clear BK111; clear BK112; clear BK118; clear BK119; clear HB; have BK110 := n0_; have BK111 := n1_; have BK112 := n2_; have BK118 := n3_; have BK119 := n4_; have HB := n5_; have BK121 := n6_; have GW121 := n7_; have GE121 := n8_; have NB110_121 := n9_; have NB121_110 := n10_; have NB111_121 := n11_; have NB121_111 := n12_; have NB112_121 := n13_; have NB121_112 := n14_; have NB118_121 := n15_; have NB121_118 := n16_; have NB119_121 := n17_; have NB121_119 := n18_; clear n0_ n1_ n2_ n3_ n4_ n5_ n6_ n7_ n8_ n9_ n10_ n11_ n12_ n13_ n14_ n15_ n16_ n17_ n18_; clear hb hbox hg; have hnb158 := NB121_110.out; have hnc158 := NB110_121.out; have hnb159 := NB121_111.out; have hnc159 := NB111_121.out; have hnb160 := NB121_112.out; have hnc160 := NB112_121.out; have hnb161 := NB121_118.out; have hnc161 := NB118_121.out; have hnb162 := NB121_119.out; have hnc162 := NB119_121.out; have hcz163_0 : w157.cell? ⟨gb121, 0, none⟩ = some (.bool false) := bc_; have hcz163_1 : w157.cell? ⟨gb121, 1, none⟩ = some (.int .u64 0) := bc_; have hcz163_2 : w157.cell? ⟨gb121, 2, none⟩ = some (.int .u64 0) := bc_; have hfz163_0 := blk_frozen BK121.out 0; have hfz163_1 := blk_frozen BK121.out 1; have hfz163_2 := blk_frozen BK121.out 2; have hs121_0 : ∀ v0 v1 v2 : Value, (((w157.setCell ⟨gb121, 0, none⟩ v0).setCell ⟨gb121, 1, none⟩ v1).setCell ⟨gb121, 2, none⟩ v2).cell? ⟨gb121, 0, none⟩ = some v0 := fun _ _ _ => set3_0 BK121.out; have hs121_1 : ∀ v0 v1 v2 : Value, (((w157.setCell ⟨gb121, 0, none⟩ v0).setCell ⟨gb121, 1, none⟩ v1).setCell ⟨gb121, 2, none⟩ v2).cell? ⟨gb121, 1, none⟩ = some v1 := fun _ _ _ => set3_1 BK121.out; have hs121_2 : ∀ v0 v1 v2 : Value, (((w157.setCell ⟨gb121, 0, none⟩ v0).setCell ⟨gb121, 1, none⟩ v1).setCell ⟨gb121, 2, none⟩ v2).cell? ⟨gb121, 2, none⟩ = some v2 := fun _ _ _ => set3_2 BK121.out; have hcz164_0 : w157.cell? ⟨gb118, 0, none⟩ = some (.bool x119000_85) := bc_; have hcz164_1 : w157.cell? ⟨gb118, 1, none⟩ = some (.int .u64 x119001_85) := bc_; have hcz164_2 : w157.cell? ⟨gb118, 2, none⟩ = some (.int .u64 x119002_85) := bc_; have hfz164_0 := blk_frozen BK118.out 0; have hfz164_1 := blk_frozen BK118.out 1; have hfz164_2 := blk_frozen BK118.out 2; have hcz165_0 : w157.cell? ⟨gb119, 0, none⟩ = some (.bool x120000_85) := bc_; have hcz165_1 : w157.cell? ⟨gb119, 1, none⟩ = some (.int .u64 x120001_85) := bc_; have hcz165_2 : w157.cell? ⟨gb119, 2, none⟩ = some (.int .u64 x120002_85) := bc_; have hfz165_0 := blk_frozen BK119.out 0; have hfz165_1 := blk_frozen BK119.out 1; have hfz165_2 := blk_frozen BK119.out 2) | ((with_reducible refine gate_callee (f := 66) rfl ?_); refine goesL_ (some 82) rfl rfl Try.func66 (by kernel_rfl) rfl #[.agg #[.bool x119000_85, .int .u64 (IntKind.u64.wrap ((IntKind.u64.wrap (x119001_85 - x120001_85)) - 1)), .int .u64 (IntKind.u64.wrap (x119002_85 - x120002_85))]] rfl mp_ ?_; (with_reducible refine (spec_l3Zero.calls x119000_85 (IntKind.u64.wrap ((IntKind.u64.wrap (x119001_85 - x120001_85)) - 1)) (IntKind.u64.wrap (x119002_85 - x120002_85)) false _ A123.out).mono ?_); rintro e w166 ⟨rfl, hb⟩; refine ⟨_, rfl, ?_⟩; have n0_ := Aside0.mk (blk_below (g := gb110) (o := .cells #[.bool a0_0, .int .u64 a0_1, .int .u64 a0_2] 33 (0, 0)) (by (with_reducible repeat (first | refine bN_ _ ?_ | refine bd_ ?_ | refine ba_ _ ?_)); refine blk_far ?_ NB110_121.out _; (with_reducible repeat (first | refine bN_ _ ?_ | refine bd_ ?_ | refine ba_ _ ?_)); refine blk_far ?_ NB110_121.out _; (with_reducible repeat (first | refine bN_ _ ?_ | refine bd_ ?_ | refine ba_ _ ?_)); refine blk_far ?_ NB110_121.out _; (with_reducible repeat (first | refine bN_ _ ?_ | refine bd_ ?_ | refine ba_ _ ?_)); refine blk_far ?_ NB110_121.out _; (with_reducible repeat (first | refine bN_ _ ?_ | refine bd_ ?_ | refine ba_ _ ?_)); exact BK110.out) hb); have n1_ := Aside0.mk (blk_below (g := gb111) (o := .cells #[.bool a1_0, .int .u64 a1_1, .int .u64 a1_2] 33 (0, 0)) (by (with_reducible repeat (first | refine bN_ _ ?_ | refine bd_ ?_ | refine ba_ _ ?_)); refine blk_far ?_ NB111_121.out _; (with_reducible repeat (first | refine bN_ _ ?_ | refine bd_ ?_ | refine ba_ _ ?_)); refine blk_far ?_ NB111_121.out _; (with_reducible repeat (first | refine bN_ _ ?_ | refine bd_ ?_ | refine ba_ _ ?_)); refine blk_far ?_ NB111_121.out _; (with_reducible repeat (first | refine bN_ _ ?_ | refine bd_ ?_ | refine ba_ _ ?_)); refine blk_far ?_ NB111_121.out _; (with_reducible repeat (first | refine bN_ _ ?_ | refine bd_ ?_ | refine ba_ _ ?_)); exact BK111.out) hb); have n2_ := Aside0.mk (blk_below (g := gb112) (o := .cells #[.bool false, .int .u64 0, .int .u64 0] 33 (0, 0)) (by (with_reducible repeat (first | refine bN_ _ ?_ | refine bd_ ?_ | refine ba_ _ ?_)); refine blk_far ?_ NB112_121.out _; (with_reducible repeat (first | refine bN_ _ ?_ | refine bd_ ?_ | refine ba_ _ ?_)); refine blk_far ?_ NB112_121.out _; (with_reducible repeat (first | refine bN_ _ ?_ | refine bd_ ?_ | refine ba_ _ ?_)); refine blk_far ?_ NB112_121.out _; (with_reducible repeat (first | refine bN_ _ ?_ | refine bd_ ?_ | refine ba_ _ ?_)); refine blk_far ?_ NB112_121.out _; (with_reducible repeat (first | refine bN_ _ ?_ | refine bd_ ?_ | refine ba_ _ ?_)); exact BK112.out) hb); have n3_ := Aside0.mk (blk_below (g := gb118) (o := .cells #[.bool x119000_85, .int .u64 x119001_85, .int .u64 x119002_85] 33 (0, 0)) (by (with_reducible repeat (first | refine bN_ _ ?_ | refine bd_ ?_ | refine ba_ _ ?_)); refine blk_far ?_ NB118_121.out _; (with_reducible repeat (first | refine bN_ _ ?_ | refine bd_ ?_ | refine ba_ _ ?_)); refine blk_far ?_ NB118_121.out _; (with_reducible repeat (first | refine bN_ _ ?_ | refine bd_ ?_ | refine ba_ _ ?_)); refine blk_far ?_ NB118_121.out _; (with_reducible repeat (first | refine bN_ _ ?_ | refine bd_ ?_ | refine ba_ _ ?_)); refine blk_far ?_ NB118_121.out _; (with_reducible repeat (first | refine bN_ _ ?_ | refine bd_ ?_ | refine ba_ _ ?_)); exact BK118.out) hb); have n4_ := Aside0.mk (blk_below (g := gb119) (o := .cells #[.bool x120000_85, .int .u64 x120001_85, .int .u64 x120002_85] 33 (0, 0)) (by (with_reducible repeat (first | refine bN_ _ ?_ | refine bd_ ?_ | refine ba_ _ ?_)); refine blk_far ?_ NB119_121.out _; (with_reducible repeat (first | refine bN_ _ ?_ | refine bd_ ?_ | refine ba_ _ ?_)); refine blk_far ?_ NB119_121.out _; (with_reducible repeat (first | refine bN_ _ ?_ | refine bd_ ?_ | refine ba_ _ ?_)); refine blk_far ?_ NB119_121.out _; (with_reducible repeat (first | refine bN_ _ ?_ | refine bd_ ?_ | refine ba_ _ ?_)); refine blk_far ?_ NB119_121.out _; (with_reducible repeat (first | refine bN_ _ ?_ | refine bd_ ?_ | refine ba_ _ ?_)); exact BK119.out) hb); have n5_ := Aside0.mk (blk_below (g := gb121) (o := .cells #[.bool x119000_85, .int .u64 (IntKind.u64.wrap ((IntKind.u64.wrap (x119001_85 - x120001_85)) - 1)), .int .u64 (IntKind.u64.wrap (x119002_85 - x120002_85))] 33 (0, 0)) (by (with_reducible repeat (first | refine bN_ _ ?_ | refine bd_ ?_ | refine ba_ _ ?_)); refine blk_put (cs := #[.bool x119000_85, .int .u64 (IntKind.u64.wrap (x119001_85 - x120001_85)), .int .u64 (IntKind.u64.wrap (x119002_85 - x120002_85))]) ?_ 1 _ rfl; (with_reducible repeat (first | refine bN_ _ ?_ | refine bd_ ?_ | refine ba_ _ ?_)); refine blk_put (cs := #[.bool x119000_85, .int .u64 (IntKind.u64.wrap (x119001_85 - x120001_85)), .int .u64 0]) ?_ 2 _ rfl; (with_reducible repeat (first | refine bN_ _ ?_ | refine bd_ ?_ | refine ba_ _ ?_)); refine blk_put (cs := #[.bool x119000_85, .int .u64 0, .int .u64 0]) ?_ 1 _ rfl; (with_reducible repeat (first | refine bN_ _ ?_ | refine bd_ ?_ | refine ba_ _ ?_)); refine blk_put (cs := #[.bool false, .int .u64 0, .int .u64 0]) ?_ 0 _ rfl; (with_reducible repeat (first | refine bN_ _ ?_ | refine bd_ ?_ | refine ba_ _ ?_)); exact BK121.out) hb); have n6_ := Aside0.mk (below_step bel_ hb); clear BK110; clear BK111; clear BK112; clear BK118; clear BK119; clear BK121; clear HB; have BK110 := n0_; have BK111 := n1_; have BK112 := n2_; have BK118 := n3_; have BK119 := n4_; have BK121 := n5_; have HB := n6_; clear n0_ n1_ n2_ n3_ n4_ n5_ n6_; (try clear hb); (try clear hb2); (try clear hk); (try clear hi); have hcz167_0 : w166.cell? ⟨gb121, 0, none⟩ = some (.bool x119000_85) := bc_; have hcz167_1 : w166.cell? ⟨gb121, 1, none⟩ = some (.int .u64 (IntKind.u64.wrap ((IntKind.u64.wrap (x119001_85 - x120001_85)) - 1))) := bc_; have hcz167_2 : w166.cell? ⟨gb121, 2, none⟩ = some (.int .u64 (IntKind.u64.wrap (x119002_85 - x120002_85))) := bc_; have hfz167_0 := blk_frozen BK121.out 0; have hfz167_1 := blk_frozen BK121.out 1; have hfz167_2 := blk_frozen BK121.out 2; have hnb168 := NB112_110.out; have hnc168 := NB110_112.out; have hnb169 := NB112_111.out; have hnc169 := NB111_112.out; have hcz170_0 : w166.cell? ⟨gb112, 0, none⟩ = some (.bool false) := bc_; have hcz170_1 : w166.cell? ⟨gb112, 1, none⟩ = some (.int .u64 0) := bc_; have hcz170_2 : w166.cell? ⟨gb112, 2, none⟩ = some (.int .u64 0) := bc_; have hfz170_0 := blk_frozen BK112.out 0; have hfz170_1 := blk_frozen BK112.out 1; have hfz170_2 := blk_frozen BK112.out 2; have hs112_0 : ∀ v0 v1 v2 : Value, (((w166.setCell ⟨gb112, 0, none⟩ v0).setCell ⟨gb112, 1, none⟩ v1).setCell ⟨gb112, 2, none⟩ v2).cell? ⟨gb112, 0, none⟩ = some v0 := fun _ _ _ => set3_0 BK112.out; have hs112_1 : ∀ v0 v1 v2 : Value, (((w166.setCell ⟨gb112, 0, none⟩ v0).setCell ⟨gb112, 1, none⟩ v1).setCell ⟨gb112, 2, none⟩ v2).cell? ⟨gb112, 1, none⟩ = some v1 := fun _ _ _ => set3_1 BK112.out; have hs112_2 : ∀ v0 v1 v2 : Value, (((w166.setCell ⟨gb112, 0, none⟩ v0).setCell ⟨gb112, 1, none⟩ v1).setCell ⟨gb112, 2, none⟩ v2).cell? ⟨gb112, 2, none⟩ = some v2 := fun _ _ _ => set3_2 BK112.out))
                  refine bodyPost_ret (results_ct rfl _ _ gb112 33 #[.bool x119000_85, .int .u64 (IntKind.u64.wrap ((IntKind.u64.wrap (x119001_85 - x120001_85)) - 1)), .int .u64 (IntKind.u64.wrap (x119002_85 - x120002_85))] (0, 0) _ rfl (by (with_reducible repeat (first | refine bN_ _ ?_ | refine bd_ ?_ | refine ba_ _ ?_)); refine blk_put (cs := #[.bool x119000_85, .int .u64 (IntKind.u64.wrap ((IntKind.u64.wrap (x119001_85 - x120001_85)) - 1)), .int .u64 0]) ?_ 2 _ rfl; (with_reducible repeat (first | refine bN_ _ ?_ | refine bd_ ?_ | refine ba_ _ ?_)); refine blk_put (cs := #[.bool x119000_85, .int .u64 0, .int .u64 0]) ?_ 1 _ rfl; (with_reducible repeat (first | refine bN_ _ ?_ | refine bd_ ?_ | refine ba_ _ ?_)); refine blk_put (cs := #[.bool false, .int .u64 0, .int .u64 0]) ?_ 0 _ rfl; (with_reducible repeat (first | refine bN_ _ ?_ | refine bd_ ?_ | refine ba_ _ ?_)); exact BK112.out) Try.underlying33 rfl (by kernel_rfl)) rfl ?_
                  exact ⟨by first | rfl | (simp [errW_none, errW_some] <;> rfl) | (simp [*, errW_none, errW_some] <;> rfl), by repeat (first | (with_reducible first | exact HB.out | apply below_alloc | apply pw_below_drewN | apply below_drew1 | refine below_set ?_ GE110.out | refine below_set ?_ GE111.out | refine below_set ?_ GE112.out | refine below_set ?_ GE118.out | refine below_set ?_ GE119.out | refine below_set ?_ GE121.out) | exact HB.out)⟩
              · rw [if_neg c122] at H
                have c122b0 : decide (x119002_85 < x120002_85) = false := decide_eq_false c122
                clear c122
                replace H := Option.bind_eq_some_iff.mp H
                obtain ⟨t123, A1710, H⟩ := H
                replace H : (if t123 = true then (some (false, IntKind.u64.wrap (x119001_85 - x120001_85), IntKind.u64.wrap (x119002_85 - x120002_85), true)) else (some (x119000_85, IntKind.u64.wrap (x119001_85 - x120001_85), IntKind.u64.wrap (x119002_85 - x120002_85), true))) = some (r1, r2, r3, r4) := H
                have A171 := Aside0.mk A1710
                clear A1710
                by_cases c172 : t123 = true
                · subst c172
                  have H1 : (some (false, IntKind.u64.wrap (x119001_85 - x120001_85), IntKind.u64.wrap (x119002_85 - x120002_85), true)) = some (r1, r2, r3, r4) := by rw [if_pos rfl] at H; exact H
                  clear H
                  have H := H1
                  clear H1
                  simp only [Option.some.injEq, Prod.mk.injEq] at H
                  obtain ⟨rfl, rfl, rfl, rfl⟩ := H
                  have hnb173 := NB118_110.out
                  have hnc173 := NB110_118.out
                  have hnb174 := NB118_111.out
                  have hnc174 := NB111_118.out
                  have hnb175 := NB118_112.out
                  have hnc175 := NB112_118.out
                  have hnb176 := NB118_119.out
                  have hnc176 := NB119_118.out
                  have hcz177_0 : wc.cell? ⟨gb118, 0, none⟩ = some (.bool x119000_85) := bc_
                  have hcz177_1 : wc.cell? ⟨gb118, 1, none⟩ = some (.int .u64 x119001_85) := bc_
                  have hcz177_2 : wc.cell? ⟨gb118, 2, none⟩ = some (.int .u64 x119002_85) := bc_
                  have hfz177_0 := blk_frozen BK118.out 0
                  have hfz177_1 := blk_frozen BK118.out 1
                  have hfz177_2 := blk_frozen BK118.out 2
                  have hnb178 := NB119_110.out
                  have hnc178 := NB110_119.out
                  have hnb179 := NB119_111.out
                  have hnc179 := NB111_119.out
                  have hnb180 := NB119_112.out
                  have hnc180 := NB112_119.out
                  have hcz181_0 : wc.cell? ⟨gb119, 0, none⟩ = some (.bool x120000_85) := bc_
                  have hcz181_1 : wc.cell? ⟨gb119, 1, none⟩ = some (.int .u64 x120001_85) := bc_
                  have hcz181_2 : wc.cell? ⟨gb119, 2, none⟩ = some (.int .u64 x120002_85) := bc_
                  have hfz181_0 := blk_frozen BK119.out 0
                  have hfz181_1 := blk_frozen BK119.out 1
                  have hfz181_2 := blk_frozen BK119.out 2
                  go_wp2_with (first | ((with_reducible refine gate_dst (N := 9) rfl ?_); refine box_event ?hg (N := 9) ?hd (cs := #[.bool false, .int .u64 0, .int .u64 0]) (t := 33) ?hr ?_; (case hd => rfl); (case hg => rfl); (case hr => first | (go_simp; done) | (go_simp; rfl)); intro gb121 hg w182 hbox hb; have n0_ := bb_ (g := gb110) (o := .cells #[.bool a0_0, .int .u64 a0_1, .int .u64 a0_2] 33 (0, 0)) hb; have n1_ := bb_ (g := gb111) (o := .cells #[.bool a1_0, .int .u64 a1_1, .int .u64 a1_2] 33 (0, 0)) hb; have n2_ := bb_ (g := gb112) (o := .cells #[.bool false, .int .u64 0, .int .u64 0] 33 (0, 0)) hb; have n3_ := bb_ (g := gb118) (o := .cells #[.bool x119000_85, .int .u64 x119001_85, .int .u64 x119002_85] 33 (0, 0)) hb; have n4_ := bb_ (g := gb119) (o := .cells #[.bool x120000_85, .int .u64 x120001_85, .int .u64 x120002_85] 33 (0, 0)) hb; have n5_ := Aside0.mk (below_step bel_ hb); have n6_ := Aside0.mk (hbox); have n7_ := Aside0.mk ((by rw [hg]; exact (below_size bel_) : w.heap.size ≤ gb121)); have n8_ := Aside0.mk ((by rw [hg]; exact (below_size bel_) : w.heap.size ≤ gb121)); have n9_ := nlt_ (g := gb110) (o := .cells #[.bool a0_0, .int .u64 a0_1, .int .u64 a0_2] 33 (0, 0)) hg; have n10_ := ngt_ (g := gb110) (o := .cells #[.bool a0_0, .int .u64 a0_1, .int .u64 a0_2] 33 (0, 0)) hg; have n11_ := nlt_ (g := gb111) (o := .cells #[.bool a1_0, .int .u64 a1_1, .int .u64 a1_2] 33 (0, 0)) hg; have n12_ := ngt_ (g := gb111) (o := .cells #[.bool a1_0, .int .u64 a1_1, .int .u64 a1_2] 33 (0, 0)) hg; have n13_ := nlt_ (g := gb112) (o := .cells #[.bool false, .int .u64 0, .int .u64 0] 33 (0, 0)) hg; have n14_ := ngt_ (g := gb112) (o := .cells #[.bool false, .int .u64 0, .int .u64 0] 33 (0, 0)) hg; have n15_ := nlt_ (g := gb118) (o := .cells #[.bool x119000_85, .int .u64 x119001_85, .int .u64 x119002_85] 33 (0, 0)) hg; have n16_ := ngt_ (g := gb118) (o := .cells #[.bool x119000_85, .int .u64 x119001_85, .int .u64 x119002_85] 33 (0, 0)) hg; have n17_ := nlt_ (g := gb119) (o := .cells #[.bool x120000_85, .int .u64 x120001_85, .int .u64 x120002_85] 33 (0, 0)) hg; have n18_ := ngt_ (g := gb119) (o := .cells #[.bool x120000_85, .int .u64 x120001_85, .int .u64 x120002_85] 33 (0, 0)) hg; clear BK110; clear BK111; clear BK112; clear BK118; clear BK119; clear HB; have BK110 := n0_; have BK111 := n1_; have BK112 := n2_; have BK118 := n3_; have BK119 := n4_; have HB := n5_; have BK121 := n6_; have GW121 := n7_; have GE121 := n8_; have NB110_121 := n9_; have NB121_110 := n10_; have NB111_121 := n11_; have NB121_111 := n12_; have NB112_121 := n13_; have NB121_112 := n14_; have NB118_121 := n15_; have NB121_118 := n16_; have NB119_121 := n17_; have NB121_119 := n18_; clear n0_ n1_ n2_ n3_ n4_ n5_ n6_ n7_ n8_ n9_ n10_ n11_ n12_ n13_ n14_ n15_ n16_ n17_ n18_; clear hb hbox hg; have hnb183 := NB121_110.out; have hnc183 := NB110_121.out; have hnb184 := NB121_111.out; have hnc184 := NB111_121.out; have hnb185 := NB121_112.out; have hnc185 := NB112_121.out; have hnb186 := NB121_118.out; have hnc186 := NB118_121.out; have hnb187 := NB121_119.out; have hnc187 := NB119_121.out; have hcz188_0 : w182.cell? ⟨gb121, 0, none⟩ = some (.bool false) := bc_; have hcz188_1 : w182.cell? ⟨gb121, 1, none⟩ = some (.int .u64 0) := bc_; have hcz188_2 : w182.cell? ⟨gb121, 2, none⟩ = some (.int .u64 0) := bc_; have hfz188_0 := blk_frozen BK121.out 0; have hfz188_1 := blk_frozen BK121.out 1; have hfz188_2 := blk_frozen BK121.out 2; have hs121_0 : ∀ v0 v1 v2 : Value, (((w182.setCell ⟨gb121, 0, none⟩ v0).setCell ⟨gb121, 1, none⟩ v1).setCell ⟨gb121, 2, none⟩ v2).cell? ⟨gb121, 0, none⟩ = some v0 := fun _ _ _ => set3_0 BK121.out; have hs121_1 : ∀ v0 v1 v2 : Value, (((w182.setCell ⟨gb121, 0, none⟩ v0).setCell ⟨gb121, 1, none⟩ v1).setCell ⟨gb121, 2, none⟩ v2).cell? ⟨gb121, 1, none⟩ = some v1 := fun _ _ _ => set3_1 BK121.out; have hs121_2 : ∀ v0 v1 v2 : Value, (((w182.setCell ⟨gb121, 0, none⟩ v0).setCell ⟨gb121, 1, none⟩ v1).setCell ⟨gb121, 2, none⟩ v2).cell? ⟨gb121, 2, none⟩ = some v2 := fun _ _ _ => set3_2 BK121.out; have hcz189_0 : w182.cell? ⟨gb118, 0, none⟩ = some (.bool x119000_85) := bc_; have hcz189_1 : w182.cell? ⟨gb118, 1, none⟩ = some (.int .u64 x119001_85) := bc_; have hcz189_2 : w182.cell? ⟨gb118, 2, none⟩ = some (.int .u64 x119002_85) := bc_; have hfz189_0 := blk_frozen BK118.out 0; have hfz189_1 := blk_frozen BK118.out 1; have hfz189_2 := blk_frozen BK118.out 2; have hcz190_0 : w182.cell? ⟨gb119, 0, none⟩ = some (.bool x120000_85) := bc_; have hcz190_1 : w182.cell? ⟨gb119, 1, none⟩ = some (.int .u64 x120001_85) := bc_; have hcz190_2 : w182.cell? ⟨gb119, 2, none⟩ = some (.int .u64 x120002_85) := bc_; have hfz190_0 := blk_frozen BK119.out 0; have hfz190_1 := blk_frozen BK119.out 1; have hfz190_2 := blk_frozen BK119.out 2) | ((with_reducible refine gate_callee (f := 66) rfl ?_); refine goesL_ (some 82) rfl rfl Try.func66 (by kernel_rfl) rfl #[.agg #[.bool x119000_85, .int .u64 (IntKind.u64.wrap (x119001_85 - x120001_85)), .int .u64 (IntKind.u64.wrap (x119002_85 - x120002_85))]] rfl mp_ ?_; (with_reducible refine (spec_l3Zero.calls x119000_85 (IntKind.u64.wrap (x119001_85 - x120001_85)) (IntKind.u64.wrap (x119002_85 - x120002_85)) true _ A171.out).mono ?_); rintro e w191 ⟨rfl, hb⟩; refine ⟨_, rfl, ?_⟩; have n0_ := Aside0.mk (blk_below (g := gb110) (o := .cells #[.bool a0_0, .int .u64 a0_1, .int .u64 a0_2] 33 (0, 0)) (by (with_reducible repeat (first | refine bN_ _ ?_ | refine bd_ ?_ | refine ba_ _ ?_)); refine blk_far ?_ NB110_121.out _; (with_reducible repeat (first | refine bN_ _ ?_ | refine bd_ ?_ | refine ba_ _ ?_)); refine blk_far ?_ NB110_121.out _; (with_reducible repeat (first | refine bN_ _ ?_ | refine bd_ ?_ | refine ba_ _ ?_)); refine blk_far ?_ NB110_121.out _; (with_reducible repeat (first | refine bN_ _ ?_ | refine bd_ ?_ | refine ba_ _ ?_)); exact BK110.out) hb); have n1_ := Aside0.mk (blk_below (g := gb111) (o := .cells #[.bool a1_0, .int .u64 a1_1, .int .u64 a1_2] 33 (0, 0)) (by (with_reducible repeat (first | refine bN_ _ ?_ | refine bd_ ?_ | refine ba_ _ ?_)); refine blk_far ?_ NB111_121.out _; (with_reducible repeat (first | refine bN_ _ ?_ | refine bd_ ?_ | refine ba_ _ ?_)); refine blk_far ?_ NB111_121.out _; (with_reducible repeat (first | refine bN_ _ ?_ | refine bd_ ?_ | refine ba_ _ ?_)); refine blk_far ?_ NB111_121.out _; (with_reducible repeat (first | refine bN_ _ ?_ | refine bd_ ?_ | refine ba_ _ ?_)); exact BK111.out) hb); have n2_ := Aside0.mk (blk_below (g := gb112) (o := .cells #[.bool false, .int .u64 0, .int .u64 0] 33 (0, 0)) (by (with_reducible repeat (first | refine bN_ _ ?_ | refine bd_ ?_ | refine ba_ _ ?_)); refine blk_far ?_ NB112_121.out _; (with_reducible repeat (first | refine bN_ _ ?_ | refine bd_ ?_ | refine ba_ _ ?_)); refine blk_far ?_ NB112_121.out _; (with_reducible repeat (first | refine bN_ _ ?_ | refine bd_ ?_ | refine ba_ _ ?_)); refine blk_far ?_ NB112_121.out _; (with_reducible repeat (first | refine bN_ _ ?_ | refine bd_ ?_ | refine ba_ _ ?_)); exact BK112.out) hb); have n3_ := Aside0.mk (blk_below (g := gb118) (o := .cells #[.bool x119000_85, .int .u64 x119001_85, .int .u64 x119002_85] 33 (0, 0)) (by (with_reducible repeat (first | refine bN_ _ ?_ | refine bd_ ?_ | refine ba_ _ ?_)); refine blk_far ?_ NB118_121.out _; (with_reducible repeat (first | refine bN_ _ ?_ | refine bd_ ?_ | refine ba_ _ ?_)); refine blk_far ?_ NB118_121.out _; (with_reducible repeat (first | refine bN_ _ ?_ | refine bd_ ?_ | refine ba_ _ ?_)); refine blk_far ?_ NB118_121.out _; (with_reducible repeat (first | refine bN_ _ ?_ | refine bd_ ?_ | refine ba_ _ ?_)); exact BK118.out) hb); have n4_ := Aside0.mk (blk_below (g := gb119) (o := .cells #[.bool x120000_85, .int .u64 x120001_85, .int .u64 x120002_85] 33 (0, 0)) (by (with_reducible repeat (first | refine bN_ _ ?_ | refine bd_ ?_ | refine ba_ _ ?_)); refine blk_far ?_ NB119_121.out _; (with_reducible repeat (first | refine bN_ _ ?_ | refine bd_ ?_ | refine ba_ _ ?_)); refine blk_far ?_ NB119_121.out _; (with_reducible repeat (first | refine bN_ _ ?_ | refine bd_ ?_ | refine ba_ _ ?_)); refine blk_far ?_ NB119_121.out _; (with_reducible repeat (first | refine bN_ _ ?_ | refine bd_ ?_ | refine ba_ _ ?_)); exact BK119.out) hb); have n5_ := Aside0.mk (blk_below (g := gb121) (o := .cells #[.bool x119000_85, .int .u64 (IntKind.u64.wrap (x119001_85 - x120001_85)), .int .u64 (IntKind.u64.wrap (x119002_85 - x120002_85))] 33 (0, 0)) (by (with_reducible repeat (first | refine bN_ _ ?_ | refine bd_ ?_ | refine ba_ _ ?_)); refine blk_put (cs := #[.bool x119000_85, .int .u64 (IntKind.u64.wrap (x119001_85 - x120001_85)), .int .u64 0]) ?_ 2 _ rfl; (with_reducible repeat (first | refine bN_ _ ?_ | refine bd_ ?_ | refine ba_ _ ?_)); refine blk_put (cs := #[.bool x119000_85, .int .u64 0, .int .u64 0]) ?_ 1 _ rfl; (with_reducible repeat (first | refine bN_ _ ?_ | refine bd_ ?_ | refine ba_ _ ?_)); refine blk_put (cs := #[.bool false, .int .u64 0, .int .u64 0]) ?_ 0 _ rfl; (with_reducible repeat (first | refine bN_ _ ?_ | refine bd_ ?_ | refine ba_ _ ?_)); exact BK121.out) hb); have n6_ := Aside0.mk (below_step bel_ hb); clear BK110; clear BK111; clear BK112; clear BK118; clear BK119; clear BK121; clear HB; have BK110 := n0_; have BK111 := n1_; have BK112 := n2_; have BK118 := n3_; have BK119 := n4_; have BK121 := n5_; have HB := n6_; clear n0_ n1_ n2_ n3_ n4_ n5_ n6_; (try clear hb); (try clear hb2); (try clear hk); (try clear hi); have hcz192_0 : w191.cell? ⟨gb121, 0, none⟩ = some (.bool x119000_85) := bc_; have hcz192_1 : w191.cell? ⟨gb121, 1, none⟩ = some (.int .u64 (IntKind.u64.wrap (x119001_85 - x120001_85))) := bc_; have hcz192_2 : w191.cell? ⟨gb121, 2, none⟩ = some (.int .u64 (IntKind.u64.wrap (x119002_85 - x120002_85))) := bc_; have hfz192_0 := blk_frozen BK121.out 0; have hfz192_1 := blk_frozen BK121.out 1; have hfz192_2 := blk_frozen BK121.out 2; have hnb193 := NB112_110.out; have hnc193 := NB110_112.out; have hnb194 := NB112_111.out; have hnc194 := NB111_112.out; have hcz195_0 : w191.cell? ⟨gb112, 0, none⟩ = some (.bool false) := bc_; have hcz195_1 : w191.cell? ⟨gb112, 1, none⟩ = some (.int .u64 0) := bc_; have hcz195_2 : w191.cell? ⟨gb112, 2, none⟩ = some (.int .u64 0) := bc_; have hfz195_0 := blk_frozen BK112.out 0; have hfz195_1 := blk_frozen BK112.out 1; have hfz195_2 := blk_frozen BK112.out 2; have hs112_0 : ∀ v0 v1 v2 : Value, (((w191.setCell ⟨gb112, 0, none⟩ v0).setCell ⟨gb112, 1, none⟩ v1).setCell ⟨gb112, 2, none⟩ v2).cell? ⟨gb112, 0, none⟩ = some v0 := fun _ _ _ => set3_0 BK112.out; have hs112_1 : ∀ v0 v1 v2 : Value, (((w191.setCell ⟨gb112, 0, none⟩ v0).setCell ⟨gb112, 1, none⟩ v1).setCell ⟨gb112, 2, none⟩ v2).cell? ⟨gb112, 1, none⟩ = some v1 := fun _ _ _ => set3_1 BK112.out; have hs112_2 : ∀ v0 v1 v2 : Value, (((w191.setCell ⟨gb112, 0, none⟩ v0).setCell ⟨gb112, 1, none⟩ v1).setCell ⟨gb112, 2, none⟩ v2).cell? ⟨gb112, 2, none⟩ = some v2 := fun _ _ _ => set3_2 BK112.out))
                  refine bodyPost_ret (results_ct rfl _ _ gb112 33 #[.bool false, .int .u64 (IntKind.u64.wrap (x119001_85 - x120001_85)), .int .u64 (IntKind.u64.wrap (x119002_85 - x120002_85))] (0, 0) _ rfl (by (with_reducible repeat (first | refine bN_ _ ?_ | refine bd_ ?_ | refine ba_ _ ?_)); refine blk_put (cs := #[.bool false, .int .u64 (IntKind.u64.wrap (x119001_85 - x120001_85)), .int .u64 0]) ?_ 2 _ rfl; (with_reducible repeat (first | refine bN_ _ ?_ | refine bd_ ?_ | refine ba_ _ ?_)); refine blk_put (cs := #[.bool false, .int .u64 0, .int .u64 0]) ?_ 1 _ rfl; (with_reducible repeat (first | refine bN_ _ ?_ | refine bd_ ?_ | refine ba_ _ ?_)); refine blk_put (cs := #[.bool false, .int .u64 0, .int .u64 0]) ?_ 0 _ rfl; (with_reducible repeat (first | refine bN_ _ ?_ | refine bd_ ?_ | refine ba_ _ ?_)); refine blk_far ?_ NB112_121.out _; (with_reducible repeat (first | refine bN_ _ ?_ | refine bd_ ?_ | refine ba_ _ ?_)); exact BK112.out) Try.underlying33 rfl (by kernel_rfl)) rfl ?_
                  exact ⟨by first | rfl | (simp [errW_none, errW_some] <;> rfl) | (simp [*, errW_none, errW_some] <;> rfl), by repeat (first | (with_reducible first | exact HB.out | apply below_alloc | apply pw_below_drewN | apply below_drew1 | refine below_set ?_ GE110.out | refine below_set ?_ GE111.out | refine below_set ?_ GE112.out | refine below_set ?_ GE118.out | refine below_set ?_ GE119.out | refine below_set ?_ GE121.out) | exact HB.out)⟩
                · replace c172 := Bool.eq_false_iff.mpr c172
                  subst c172
                  have H1 : (some (x119000_85, IntKind.u64.wrap (x119001_85 - x120001_85), IntKind.u64.wrap (x119002_85 - x120002_85), true)) = some (r1, r2, r3, r4) := by rw [if_neg (show ¬ (false = true) by decide)] at H; exact H
                  clear H
                  have H := H1
                  clear H1
                  simp only [Option.some.injEq, Prod.mk.injEq] at H
                  obtain ⟨rfl, rfl, rfl, rfl⟩ := H
                  have hnb196 := NB118_110.out
                  have hnc196 := NB110_118.out
                  have hnb197 := NB118_111.out
                  have hnc197 := NB111_118.out
                  have hnb198 := NB118_112.out
                  have hnc198 := NB112_118.out
                  have hnb199 := NB118_119.out
                  have hnc199 := NB119_118.out
                  have hcz200_0 : wc.cell? ⟨gb118, 0, none⟩ = some (.bool x119000_85) := bc_
                  have hcz200_1 : wc.cell? ⟨gb118, 1, none⟩ = some (.int .u64 x119001_85) := bc_
                  have hcz200_2 : wc.cell? ⟨gb118, 2, none⟩ = some (.int .u64 x119002_85) := bc_
                  have hfz200_0 := blk_frozen BK118.out 0
                  have hfz200_1 := blk_frozen BK118.out 1
                  have hfz200_2 := blk_frozen BK118.out 2
                  have hnb201 := NB119_110.out
                  have hnc201 := NB110_119.out
                  have hnb202 := NB119_111.out
                  have hnc202 := NB111_119.out
                  have hnb203 := NB119_112.out
                  have hnc203 := NB112_119.out
                  have hcz204_0 : wc.cell? ⟨gb119, 0, none⟩ = some (.bool x120000_85) := bc_
                  have hcz204_1 : wc.cell? ⟨gb119, 1, none⟩ = some (.int .u64 x120001_85) := bc_
                  have hcz204_2 : wc.cell? ⟨gb119, 2, none⟩ = some (.int .u64 x120002_85) := bc_
                  have hfz204_0 := blk_frozen BK119.out 0
                  have hfz204_1 := blk_frozen BK119.out 1
                  have hfz204_2 := blk_frozen BK119.out 2
                  go_wp2_with (first | ((with_reducible refine gate_dst (N := 9) rfl ?_); refine box_event ?hg (N := 9) ?hd (cs := #[.bool false, .int .u64 0, .int .u64 0]) (t := 33) ?hr ?_; (case hd => rfl); (case hg => rfl); (case hr => first | (go_simp; done) | (go_simp; rfl)); intro gb121 hg w205 hbox hb; have n0_ := bb_ (g := gb110) (o := .cells #[.bool a0_0, .int .u64 a0_1, .int .u64 a0_2] 33 (0, 0)) hb; have n1_ := bb_ (g := gb111) (o := .cells #[.bool a1_0, .int .u64 a1_1, .int .u64 a1_2] 33 (0, 0)) hb; have n2_ := bb_ (g := gb112) (o := .cells #[.bool false, .int .u64 0, .int .u64 0] 33 (0, 0)) hb; have n3_ := bb_ (g := gb118) (o := .cells #[.bool x119000_85, .int .u64 x119001_85, .int .u64 x119002_85] 33 (0, 0)) hb; have n4_ := bb_ (g := gb119) (o := .cells #[.bool x120000_85, .int .u64 x120001_85, .int .u64 x120002_85] 33 (0, 0)) hb; have n5_ := Aside0.mk (below_step bel_ hb); have n6_ := Aside0.mk (hbox); have n7_ := Aside0.mk ((by rw [hg]; exact (below_size bel_) : w.heap.size ≤ gb121)); have n8_ := Aside0.mk ((by rw [hg]; exact (below_size bel_) : w.heap.size ≤ gb121)); have n9_ := nlt_ (g := gb110) (o := .cells #[.bool a0_0, .int .u64 a0_1, .int .u64 a0_2] 33 (0, 0)) hg; have n10_ := ngt_ (g := gb110) (o := .cells #[.bool a0_0, .int .u64 a0_1, .int .u64 a0_2] 33 (0, 0)) hg; have n11_ := nlt_ (g := gb111) (o := .cells #[.bool a1_0, .int .u64 a1_1, .int .u64 a1_2] 33 (0, 0)) hg; have n12_ := ngt_ (g := gb111) (o := .cells #[.bool a1_0, .int .u64 a1_1, .int .u64 a1_2] 33 (0, 0)) hg; have n13_ := nlt_ (g := gb112) (o := .cells #[.bool false, .int .u64 0, .int .u64 0] 33 (0, 0)) hg; have n14_ := ngt_ (g := gb112) (o := .cells #[.bool false, .int .u64 0, .int .u64 0] 33 (0, 0)) hg; have n15_ := nlt_ (g := gb118) (o := .cells #[.bool x119000_85, .int .u64 x119001_85, .int .u64 x119002_85] 33 (0, 0)) hg; have n16_ := ngt_ (g := gb118) (o := .cells #[.bool x119000_85, .int .u64 x119001_85, .int .u64 x119002_85] 33 (0, 0)) hg; have n17_ := nlt_ (g := gb119) (o := .cells #[.bool x120000_85, .int .u64 x120001_85, .int .u64 x120002_85] 33 (0, 0)) hg; have n18_ := ngt_ (g := gb119) (o := .cells #[.bool x120000_85, .int .u64 x120001_85, .int .u64 x120002_85] 33 (0, 0)) hg; clear BK110; clear BK111; clear BK112; clear BK118; clear BK119; clear HB; have BK110 := n0_; have BK111 := n1_; have BK112 := n2_; have BK118 := n3_; have BK119 := n4_; have HB := n5_; have BK121 := n6_; have GW121 := n7_; have GE121 := n8_; have NB110_121 := n9_; have NB121_110 := n10_; have NB111_121 := n11_; have NB121_111 := n12_; have NB112_121 := n13_; have NB121_112 := n14_; have NB118_121 := n15_; have NB121_118 := n16_; have NB119_121 := n17_; have NB121_119 := n18_; clear n0_ n1_ n2_ n3_ n4_ n5_ n6_ n7_ n8_ n9_ n10_ n11_ n12_ n13_ n14_ n15_ n16_ n17_ n18_; clear hb hbox hg; have hnb206 := NB121_110.out; have hnc206 := NB110_121.out; have hnb207 := NB121_111.out; have hnc207 := NB111_121.out; have hnb208 := NB121_112.out; have hnc208 := NB112_121.out; have hnb209 := NB121_118.out; have hnc209 := NB118_121.out; have hnb210 := NB121_119.out; have hnc210 := NB119_121.out; have hcz211_0 : w205.cell? ⟨gb121, 0, none⟩ = some (.bool false) := bc_; have hcz211_1 : w205.cell? ⟨gb121, 1, none⟩ = some (.int .u64 0) := bc_; have hcz211_2 : w205.cell? ⟨gb121, 2, none⟩ = some (.int .u64 0) := bc_; have hfz211_0 := blk_frozen BK121.out 0; have hfz211_1 := blk_frozen BK121.out 1; have hfz211_2 := blk_frozen BK121.out 2; have hs121_0 : ∀ v0 v1 v2 : Value, (((w205.setCell ⟨gb121, 0, none⟩ v0).setCell ⟨gb121, 1, none⟩ v1).setCell ⟨gb121, 2, none⟩ v2).cell? ⟨gb121, 0, none⟩ = some v0 := fun _ _ _ => set3_0 BK121.out; have hs121_1 : ∀ v0 v1 v2 : Value, (((w205.setCell ⟨gb121, 0, none⟩ v0).setCell ⟨gb121, 1, none⟩ v1).setCell ⟨gb121, 2, none⟩ v2).cell? ⟨gb121, 1, none⟩ = some v1 := fun _ _ _ => set3_1 BK121.out; have hs121_2 : ∀ v0 v1 v2 : Value, (((w205.setCell ⟨gb121, 0, none⟩ v0).setCell ⟨gb121, 1, none⟩ v1).setCell ⟨gb121, 2, none⟩ v2).cell? ⟨gb121, 2, none⟩ = some v2 := fun _ _ _ => set3_2 BK121.out; have hcz212_0 : w205.cell? ⟨gb118, 0, none⟩ = some (.bool x119000_85) := bc_; have hcz212_1 : w205.cell? ⟨gb118, 1, none⟩ = some (.int .u64 x119001_85) := bc_; have hcz212_2 : w205.cell? ⟨gb118, 2, none⟩ = some (.int .u64 x119002_85) := bc_; have hfz212_0 := blk_frozen BK118.out 0; have hfz212_1 := blk_frozen BK118.out 1; have hfz212_2 := blk_frozen BK118.out 2; have hcz213_0 : w205.cell? ⟨gb119, 0, none⟩ = some (.bool x120000_85) := bc_; have hcz213_1 : w205.cell? ⟨gb119, 1, none⟩ = some (.int .u64 x120001_85) := bc_; have hcz213_2 : w205.cell? ⟨gb119, 2, none⟩ = some (.int .u64 x120002_85) := bc_; have hfz213_0 := blk_frozen BK119.out 0; have hfz213_1 := blk_frozen BK119.out 1; have hfz213_2 := blk_frozen BK119.out 2) | ((with_reducible refine gate_callee (f := 66) rfl ?_); refine goesL_ (some 82) rfl rfl Try.func66 (by kernel_rfl) rfl #[.agg #[.bool x119000_85, .int .u64 (IntKind.u64.wrap (x119001_85 - x120001_85)), .int .u64 (IntKind.u64.wrap (x119002_85 - x120002_85))]] rfl mp_ ?_; (with_reducible refine (spec_l3Zero.calls x119000_85 (IntKind.u64.wrap (x119001_85 - x120001_85)) (IntKind.u64.wrap (x119002_85 - x120002_85)) false _ A171.out).mono ?_); rintro e w214 ⟨rfl, hb⟩; refine ⟨_, rfl, ?_⟩; have n0_ := Aside0.mk (blk_below (g := gb110) (o := .cells #[.bool a0_0, .int .u64 a0_1, .int .u64 a0_2] 33 (0, 0)) (by (with_reducible repeat (first | refine bN_ _ ?_ | refine bd_ ?_ | refine ba_ _ ?_)); refine blk_far ?_ NB110_121.out _; (with_reducible repeat (first | refine bN_ _ ?_ | refine bd_ ?_ | refine ba_ _ ?_)); refine blk_far ?_ NB110_121.out _; (with_reducible repeat (first | refine bN_ _ ?_ | refine bd_ ?_ | refine ba_ _ ?_)); refine blk_far ?_ NB110_121.out _; (with_reducible repeat (first | refine bN_ _ ?_ | refine bd_ ?_ | refine ba_ _ ?_)); exact BK110.out) hb); have n1_ := Aside0.mk (blk_below (g := gb111) (o := .cells #[.bool a1_0, .int .u64 a1_1, .int .u64 a1_2] 33 (0, 0)) (by (with_reducible repeat (first | refine bN_ _ ?_ | refine bd_ ?_ | refine ba_ _ ?_)); refine blk_far ?_ NB111_121.out _; (with_reducible repeat (first | refine bN_ _ ?_ | refine bd_ ?_ | refine ba_ _ ?_)); refine blk_far ?_ NB111_121.out _; (with_reducible repeat (first | refine bN_ _ ?_ | refine bd_ ?_ | refine ba_ _ ?_)); refine blk_far ?_ NB111_121.out _; (with_reducible repeat (first | refine bN_ _ ?_ | refine bd_ ?_ | refine ba_ _ ?_)); exact BK111.out) hb); have n2_ := Aside0.mk (blk_below (g := gb112) (o := .cells #[.bool false, .int .u64 0, .int .u64 0] 33 (0, 0)) (by (with_reducible repeat (first | refine bN_ _ ?_ | refine bd_ ?_ | refine ba_ _ ?_)); refine blk_far ?_ NB112_121.out _; (with_reducible repeat (first | refine bN_ _ ?_ | refine bd_ ?_ | refine ba_ _ ?_)); refine blk_far ?_ NB112_121.out _; (with_reducible repeat (first | refine bN_ _ ?_ | refine bd_ ?_ | refine ba_ _ ?_)); refine blk_far ?_ NB112_121.out _; (with_reducible repeat (first | refine bN_ _ ?_ | refine bd_ ?_ | refine ba_ _ ?_)); exact BK112.out) hb); have n3_ := Aside0.mk (blk_below (g := gb118) (o := .cells #[.bool x119000_85, .int .u64 x119001_85, .int .u64 x119002_85] 33 (0, 0)) (by (with_reducible repeat (first | refine bN_ _ ?_ | refine bd_ ?_ | refine ba_ _ ?_)); refine blk_far ?_ NB118_121.out _; (with_reducible repeat (first | refine bN_ _ ?_ | refine bd_ ?_ | refine ba_ _ ?_)); refine blk_far ?_ NB118_121.out _; (with_reducible repeat (first | refine bN_ _ ?_ | refine bd_ ?_ | refine ba_ _ ?_)); refine blk_far ?_ NB118_121.out _; (with_reducible repeat (first | refine bN_ _ ?_ | refine bd_ ?_ | refine ba_ _ ?_)); exact BK118.out) hb); have n4_ := Aside0.mk (blk_below (g := gb119) (o := .cells #[.bool x120000_85, .int .u64 x120001_85, .int .u64 x120002_85] 33 (0, 0)) (by (with_reducible repeat (first | refine bN_ _ ?_ | refine bd_ ?_ | refine ba_ _ ?_)); refine blk_far ?_ NB119_121.out _; (with_reducible repeat (first | refine bN_ _ ?_ | refine bd_ ?_ | refine ba_ _ ?_)); refine blk_far ?_ NB119_121.out _; (with_reducible repeat (first | refine bN_ _ ?_ | refine bd_ ?_ | refine ba_ _ ?_)); refine blk_far ?_ NB119_121.out _; (with_reducible repeat (first | refine bN_ _ ?_ | refine bd_ ?_ | refine ba_ _ ?_)); exact BK119.out) hb); have n5_ := Aside0.mk (blk_below (g := gb121) (o := .cells #[.bool x119000_85, .int .u64 (IntKind.u64.wrap (x119001_85 - x120001_85)), .int .u64 (IntKind.u64.wrap (x119002_85 - x120002_85))] 33 (0, 0)) (by (with_reducible repeat (first | refine bN_ _ ?_ | refine bd_ ?_ | refine ba_ _ ?_)); refine blk_put (cs := #[.bool x119000_85, .int .u64 (IntKind.u64.wrap (x119001_85 - x120001_85)), .int .u64 0]) ?_ 2 _ rfl; (with_reducible repeat (first | refine bN_ _ ?_ | refine bd_ ?_ | refine ba_ _ ?_)); refine blk_put (cs := #[.bool x119000_85, .int .u64 0, .int .u64 0]) ?_ 1 _ rfl; (with_reducible repeat (first | refine bN_ _ ?_ | refine bd_ ?_ | refine ba_ _ ?_)); refine blk_put (cs := #[.bool false, .int .u64 0, .int .u64 0]) ?_ 0 _ rfl; (with_reducible repeat (first | refine bN_ _ ?_ | refine bd_ ?_ | refine ba_ _ ?_)); exact BK121.out) hb); have n6_ := Aside0.mk (below_step bel_ hb); clear BK110; clear BK111; clear BK112; clear BK118; clear BK119; clear BK121; clear HB; have BK110 := n0_; have BK111 := n1_; have BK112 := n2_; have BK118 := n3_; have BK119 := n4_; have BK121 := n5_; have HB := n6_; clear n0_ n1_ n2_ n3_ n4_ n5_ n6_; (try clear hb); (try clear hb2); (try clear hk); (try clear hi); have hcz215_0 : w214.cell? ⟨gb121, 0, none⟩ = some (.bool x119000_85) := bc_; have hcz215_1 : w214.cell? ⟨gb121, 1, none⟩ = some (.int .u64 (IntKind.u64.wrap (x119001_85 - x120001_85))) := bc_; have hcz215_2 : w214.cell? ⟨gb121, 2, none⟩ = some (.int .u64 (IntKind.u64.wrap (x119002_85 - x120002_85))) := bc_; have hfz215_0 := blk_frozen BK121.out 0; have hfz215_1 := blk_frozen BK121.out 1; have hfz215_2 := blk_frozen BK121.out 2; have hnb216 := NB112_110.out; have hnc216 := NB110_112.out; have hnb217 := NB112_111.out; have hnc217 := NB111_112.out; have hcz218_0 : w214.cell? ⟨gb112, 0, none⟩ = some (.bool false) := bc_; have hcz218_1 : w214.cell? ⟨gb112, 1, none⟩ = some (.int .u64 0) := bc_; have hcz218_2 : w214.cell? ⟨gb112, 2, none⟩ = some (.int .u64 0) := bc_; have hfz218_0 := blk_frozen BK112.out 0; have hfz218_1 := blk_frozen BK112.out 1; have hfz218_2 := blk_frozen BK112.out 2; have hs112_0 : ∀ v0 v1 v2 : Value, (((w214.setCell ⟨gb112, 0, none⟩ v0).setCell ⟨gb112, 1, none⟩ v1).setCell ⟨gb112, 2, none⟩ v2).cell? ⟨gb112, 0, none⟩ = some v0 := fun _ _ _ => set3_0 BK112.out; have hs112_1 : ∀ v0 v1 v2 : Value, (((w214.setCell ⟨gb112, 0, none⟩ v0).setCell ⟨gb112, 1, none⟩ v1).setCell ⟨gb112, 2, none⟩ v2).cell? ⟨gb112, 1, none⟩ = some v1 := fun _ _ _ => set3_1 BK112.out; have hs112_2 : ∀ v0 v1 v2 : Value, (((w214.setCell ⟨gb112, 0, none⟩ v0).setCell ⟨gb112, 1, none⟩ v1).setCell ⟨gb112, 2, none⟩ v2).cell? ⟨gb112, 2, none⟩ = some v2 := fun _ _ _ => set3_2 BK112.out))
                  refine bodyPost_ret (results_ct rfl _ _ gb112 33 #[.bool x119000_85, .int .u64 (IntKind.u64.wrap (x119001_85 - x120001_85)), .int .u64 (IntKind.u64.wrap (x119002_85 - x120002_85))] (0, 0) _ rfl (by (with_reducible repeat (first | refine bN_ _ ?_ | refine bd_ ?_ | refine ba_ _ ?_)); refine blk_put (cs := #[.bool x119000_85, .int .u64 (IntKind.u64.wrap (x119001_85 - x120001_85)), .int .u64 0]) ?_ 2 _ rfl; (with_reducible repeat (first | refine bN_ _ ?_ | refine bd_ ?_ | refine ba_ _ ?_)); refine blk_put (cs := #[.bool x119000_85, .int .u64 0, .int .u64 0]) ?_ 1 _ rfl; (with_reducible repeat (first | refine bN_ _ ?_ | refine bd_ ?_ | refine ba_ _ ?_)); refine blk_put (cs := #[.bool false, .int .u64 0, .int .u64 0]) ?_ 0 _ rfl; (with_reducible repeat (first | refine bN_ _ ?_ | refine bd_ ?_ | refine ba_ _ ?_)); exact BK112.out) Try.underlying33 rfl (by kernel_rfl)) rfl ?_
                  exact ⟨by first | rfl | (simp [errW_none, errW_some] <;> rfl) | (simp [*, errW_none, errW_some] <;> rfl), by repeat (first | (with_reducible first | exact HB.out | apply below_alloc | apply pw_below_drewN | apply below_drew1 | refine below_set ?_ GE110.out | refine below_set ?_ GE111.out | refine below_set ?_ GE112.out | refine below_set ?_ GE118.out | refine below_set ?_ GE119.out | refine below_set ?_ GE121.out) | exact HB.out)⟩

end Go.Proofs.Yteldfljjeofiaaa.PFnExactSubWide
