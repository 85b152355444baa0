/- Contracts of Go functions, each with the Lean function that says what it computes: begun by the print, turned by this session. No condition beyond what each theorem states. -/
import Derived.Test.YteldfljjeofiaaaPFnExactCompareFracx0
import Derived.Test.YteldfljjeofiaaaPFnExactCompareFracx1
namespace Go.Proofs.Yteldfljjeofiaaa.PFnExactCompareFrac
open Go.RowKit Go.Proofs.YteldfljjeofiaaaW.PrintWords Go.Proofs.YteldfljjeofiaaaW.PrintLast Go.Proofs.YteldfljjeofiaaaW.PrintMore
attribute [local go_sem] max2_int min2_int max_two min_two max_three min_three max_four min_four   -- for this text's walks alone
set_option linter.unusedVariables false
set_option linter.unusedSimpArgs false

/-! ### spec_l5Cross: function 94 -/
def spec_l5Cross.j0 : Nat → Bool → Bool → Int → Int → Int → Bool → Int → Int → Int → Option (Bool × Int × Int × Bool × Int × Int × Bool)
  | 0, _, _, _, _, _, _, _, _, _ => none
  | k + 1, x18, x119000, x119001, x119002, x119003, x120000, x120001, x120002, x120003 => if x18 = true then (some (false, 0, 0, false, 0, 0, false)) else ((spec_ScaleWide.f x119000 x119001 x119002 x120003).bind fun bt124 => ((spec_ScaleWide.f x120000 x120001 x120002 x119003).bind fun bt129 => (if bt124.2.2.2 = true then (some (bt124.1, bt124.2.1, bt124.2.2.1, bt129.1, bt129.2.1, bt129.2.2.1, bt129.2.2.2)) else (some (bt124.1, bt124.2.1, bt124.2.2.1, bt129.1, bt129.2.1, bt129.2.2.1, false)))))
def spec_l5Cross.f (k : Nat) (a0_0 : Bool) (a0_1 : Int) (a0_2 : Int) (a0_3 : Int) (a1_0 : Bool) (a1_1 : Int) (a1_2 : Int) (a1_3 : Int) : Option (Bool × Int × Int × Bool × Int × Int × Bool) := (spec_FracOk.f a0_0 a0_1 a0_2 a0_3).bind fun t122 => (if t122 = true then ((spec_FracOk.f a1_0 a1_1 a1_2 a1_3).bind fun t123 => (spec_l5Cross.j0 k (!t123) a0_0 a0_1 a0_2 a0_3 a1_0 a1_1 a1_2 a1_3)) else (spec_l5Cross.j0 k true a0_0 a0_1 a0_2 a0_3 a1_0 a1_1 a1_2 a1_3))
theorem spec_l5Cross.mono_l : ∀ k, (∀ y0 y1 y2 y3 y4 y5 y6 y7 y8, LeO (spec_l5Cross.j0 k y0 y1 y2 y3 y4 y5 y6 y7 y8) (spec_l5Cross.j0 (k + 1) y0 y1 y2 y3 y4 y5 y6 y7 y8))
  | 0 => fun _ _ _ _ _ _ _ _ _ r h => by simp [spec_l5Cross.j0] at h
  | k + 1 => by
    have ih0 := spec_l5Cross.mono_l k
    · intro y0 y1 y2 y3 y4 y5 y6 y7 y8
      unfold spec_l5Cross.j0
      repeat' first
      | (with_reducible exact ih0 _ _ _ _ _ _ _ _ _)
      | (with_reducible exact LeO.refl _)
      | (with_reducible exact LeO.none _)
      | (with_reducible refine LeO.ite ?_ ?_)
      | (with_reducible refine LeO.bind ?_ (fun _ => ?_))
      | exact ih0 _ _ _ _ _ _ _ _ _
      | exact LeO.none _
      | refine LeO.ite ?_ ?_
      | refine LeO.bind ?_ (fun _ => ?_)
theorem spec_l5Cross.mono : ∀ a0 a1 a2 a3 a4 a5 a6 a7 k, LeO (spec_l5Cross.f k a0 a1 a2 a3 a4 a5 a6 a7) (spec_l5Cross.f (k + 1) a0 a1 a2 a3 a4 a5 a6 a7) := by
  intro a0 a1 a2 a3 a4 a5 a6 a7 k
  have ih0 := spec_l5Cross.mono_l k
  unfold spec_l5Cross.f
  repeat' first
      | (with_reducible exact ih0 _ _ _ _ _ _ _ _ _)
      | (with_reducible exact LeO.refl _)
      | (with_reducible exact LeO.none _)
      | (with_reducible refine LeO.ite ?_ ?_)
      | (with_reducible refine LeO.bind ?_ (fun _ => ?_))
      | exact ih0 _ _ _ _ _ _ _ _ _
      | exact LeO.none _
      | refine LeO.ite ?_ ?_
      | refine LeO.bind ?_ (fun _ => ?_)
def spec_l5Cross.T5 : Bool × List (List Nat × List Nat) := (true, [([], []), ([], []), ([], []), ([2], [2]), ([3], [3]), ([3, 4], [3, 4]), ([0, 3, 0], [0]), ([1, 6, 0, 1, 6], [1]), ([5, 7, 0, 1, 2, 3, 4, 5, 6, 7], [5])])
def spec_l5Cross.B5 : List Nat := [0, 0, 0, 4, 12, 28, 13, 79, 255]
theorem spec_l5Cross.tab5 : rtab .any (opsOf Try.f94 5) = spec_l5Cross.T5 := by kernel_rfl
theorem spec_l5Cross.bits5 : waitsOk spec_l5Cross.T5.2 spec_l5Cross.B5 = true := by kernel_rfl
set_option maxHeartbeats 8000000 in
set_option maxRecDepth 100000 in
theorem spec_l5Cross.calls (k : Nat) (a0_0 : Bool) (a0_1 : Int) (a0_2 : Int) (a0_3 : Int) (a1_0 : Bool) (a1_1 : Int) (a1_2 : Int) (a1_3 : Int) (r1 : Bool) (r2 : Int) (r3 : Int) (r4 : Bool) (r5 : Int) (r6 : Int) (r7 : Bool) (w : World) (h : spec_l5Cross.f k a0_0 a0_1 a0_2 a0_3 a1_0 a1_1 a1_2 a1_3 = some (r1, r2, r3, r4, r5, r6, r7)) :
    Calls Try.prog 94 #[.agg #[.bool a0_0, .int .u64 a0_1, .int .u64 a0_2, .int .i64 a0_3], .agg #[.bool a1_0, .int .u64 a1_1, .int .u64 a1_2, .int .i64 a1_3]] w fun e w' => e = .returned (.tuple #[.agg #[.bool r1, .int .u64 r2, .int .u64 r3], .agg #[.bool r4, .int .u64 r5, .int .u64 r6], .bool r7]) ∧ Below w.heap.size w w' := by
  have hu70 := Try.underlying70
  have hu33 := Try.underlying33
  have HB := Aside0.mk (Below.refl w.heap.size w)
  have H : ((spec_FracOk.f a0_0 a0_1 a0_2 a0_3).bind fun t122 => (if t122 = true then ((spec_FracOk.f a1_0 a1_1 a1_2 a1_3).bind fun t123 => (spec_l5Cross.j0 k (!t123) a0_0 a0_1 a0_2 a0_3 a1_0 a1_1 a1_2 a1_3)) else (spec_l5Cross.j0 k true a0_0 a0_1 a0_2 a0_3 a1_0 a1_1 a1_2 a1_3))) = some (r1, r2, r3, r4, r5, r6, r7) := h
  clear h
  have HC3 := Aside0.mk H
  clear H
  go_enter Try.func94, Try.ntmps94
  go_upto_region 1 with (first | ((with_reducible refine gate_dst (N := 2) rfl ?_); refine box_event ?hg (N := 2) ?hd (cs := #[.bool a0_0, .int .u64 a0_1, .int .u64 a0_2, .int .i64 a0_3]) (t := 70) ?hr ?_; (case hd => rfl); (case hg => rfl); (case hr => first | (go_simp; done) | (go_simp; rfl)); intro gb118 hg w4 hbox hb; have n0_ := Aside0.mk (below_step bel_ hb); have n1_ := Aside0.mk (hbox); have n2_ := Aside0.mk ((by rw [hg]; exact (below_size bel_) : w.heap.size ≤ gb118)); have n3_ := Aside0.mk ((by rw [hg]; exact (below_size bel_) : w.heap.size ≤ gb118)); clear HB; have HB := n0_; have BK118 := n1_; have GW118 := n2_; have GE118 := n3_; clear n0_ n1_ n2_ n3_; clear hb hbox hg) | ((with_reducible refine gate_dst (N := 3) rfl ?_); refine box_event ?hg (N := 3) ?hd (cs := #[.bool a1_0, .int .u64 a1_1, .int .u64 a1_2, .int .i64 a1_3]) (t := 70) ?hr ?_; (case hd => rfl); (case hg => rfl); (case hr => first | (go_simp; done) | (go_simp; rfl)); intro gb119 hg w5 hbox hb; have n0_ := bb_ (g := gb118) (o := .cells #[.bool a0_0, .int .u64 a0_1, .int .u64 a0_2, .int .i64 a0_3] 70 (0, 0)) hb; have n1_ := Aside0.mk (below_step bel_ hb); have n2_ := Aside0.mk (hbox); have n3_ := Aside0.mk ((by rw [hg]; exact (below_size bel_) : w.heap.size ≤ gb119)); have n4_ := Aside0.mk ((by rw [hg]; exact (below_size bel_) : w.heap.size ≤ gb119)); have n5_ := nlt_ (g := gb118) (o := .cells #[.bool a0_0, .int .u64 a0_1, .int .u64 a0_2, .int .i64 a0_3] 70 (0, 0)) hg; have n6_ := ngt_ (g := gb118) (o := .cells #[.bool a0_0, .int .u64 a0_1, .int .u64 a0_2, .int .i64 a0_3] 70 (0, 0)) hg; clear BK118; clear HB; have BK118 := n0_; have HB := n1_; have BK119 := n2_; have GW119 := n3_; have GE119 := n4_; have NB118_119 := n5_; have NB119_118 := n6_; clear n0_ n1_ n2_ n3_ n4_ n5_ n6_; clear hb hbox hg) | ((with_reducible refine gate_dst (N := 4) rfl ?_); refine box_event ?hg (N := 4) ?hd (cs := #[.bool false, .int .u64 0, .int .u64 0]) (t := 33) ?hr ?_; (case hd => rfl); (case hg => rfl); (case hr => first | (go_simp; done) | (go_simp; rfl)); intro gb120 hg w6 hbox hb; have n0_ := bb_ (g := gb118) (o := .cells #[.bool a0_0, .int .u64 a0_1, .int .u64 a0_2, .int .i64 a0_3] 70 (0, 0)) hb; have n1_ := bb_ (g := gb119) (o := .cells #[.bool a1_0, .int .u64 a1_1, .int .u64 a1_2, .int .i64 a1_3] 70 (0, 0)) hb; have n2_ := Aside0.mk (below_step bel_ hb); have n3_ := Aside0.mk (hbox); have n4_ := Aside0.mk ((by rw [hg]; exact (below_size bel_) : w.heap.size ≤ gb120)); have n5_ := Aside0.mk ((by rw [hg]; exact (below_size bel_) : w.heap.size ≤ gb120)); have n6_ := nlt_ (g := gb118) (o := .cells #[.bool a0_0, .int .u64 a0_1, .int .u64 a0_2, .int .i64 a0_3] 70 (0, 0)) hg; have n7_ := ngt_ (g := gb118) (o := .cells #[.bool a0_0, .int .u64 a0_1, .int .u64 a0_2, .int .i64 a0_3] 70 (0, 0)) hg; have n8_ := nlt_ (g := gb119) (o := .cells #[.bool a1_0, .int .u64 a1_1, .int .u64 a1_2, .int .i64 a1_3] 70 (0, 0)) hg; have n9_ := ngt_ (g := gb119) (o := .cells #[.bool a1_0, .int .u64 a1_1, .int .u64 a1_2, .int .i64 a1_3] 70 (0, 0)) hg; clear BK118; clear BK119; clear HB; have BK118 := n0_; have BK119 := n1_; have HB := n2_; have BK120 := n3_; have GW120 := n4_; have GE120 := n5_; have NB118_120 := n6_; have NB120_118 := n7_; have NB119_120 := n8_; have NB120_119 := n9_; clear n0_ n1_ n2_ n3_ n4_ n5_ n6_ n7_ n8_ n9_; clear hb hbox hg) | ((with_reducible refine gate_dst (N := 5) rfl ?_); refine box_event ?hg (N := 5) ?hd (cs := #[.bool false, .int .u64 0, .int .u64 0]) (t := 33) ?hr ?_; (case hd => rfl); (case hg => rfl); (case hr => first | (go_simp; done) | (go_simp; rfl)); intro gb121 hg w7 hbox hb; have n0_ := bb_ (g := gb118) (o := .cells #[.bool a0_0, .int .u64 a0_1, .int .u64 a0_2, .int .i64 a0_3] 70 (0, 0)) hb; have n1_ := bb_ (g := gb119) (o := .cells #[.bool a1_0, .int .u64 a1_1, .int .u64 a1_2, .int .i64 a1_3] 70 (0, 0)) hb; have n2_ := bb_ (g := gb120) (o := .cells #[.bool false, .int .u64 0, .int .u64 0] 33 (0, 0)) hb; have n3_ := Aside0.mk (below_step bel_ hb); have n4_ := Aside0.mk (hbox); have n5_ := Aside0.mk ((by rw [hg]; exact (below_size bel_) : w.heap.size ≤ gb121)); have n6_ := Aside0.mk ((by rw [hg]; exact (below_size bel_) : w.heap.size ≤ gb121)); have n7_ := nlt_ (g := gb118) (o := .cells #[.bool a0_0, .int .u64 a0_1, .int .u64 a0_2, .int .i64 a0_3] 70 (0, 0)) hg; have n8_ := ngt_ (g := gb118) (o := .cells #[.bool a0_0, .int .u64 a0_1, .int .u64 a0_2, .int .i64 a0_3] 70 (0, 0)) hg; have n9_ := nlt_ (g := gb119) (o := .cells #[.bool a1_0, .int .u64 a1_1, .int .u64 a1_2, .int .i64 a1_3] 70 (0, 0)) hg; have n10_ := ngt_ (g := gb119) (o := .cells #[.bool a1_0, .int .u64 a1_1, .int .u64 a1_2, .int .i64 a1_3] 70 (0, 0)) hg; have n11_ := nlt_ (g := gb120) (o := .cells #[.bool false, .int .u64 0, .int .u64 0] 33 (0, 0)) hg; have n12_ := ngt_ (g := gb120) (o := .cells #[.bool false, .int .u64 0, .int .u64 0] 33 (0, 0)) hg; clear BK118; clear BK119; clear BK120; clear HB; have BK118 := n0_; have BK119 := n1_; have BK120 := n2_; have HB := n3_; have BK121 := n4_; have GW121 := n5_; have GE121 := n6_; have NB118_121 := n7_; have NB121_118 := n8_; have NB119_121 := n9_; have NB121_119 := n10_; have NB120_121 := n11_; have NB121_120 := n12_; clear n0_ n1_ n2_ n3_ n4_ n5_ n6_ n7_ n8_ n9_ n10_ n11_ n12_; clear hb hbox hg))
  (try simp only [Act.put, la_, lb_, lc_])
  go_cut [18] (fun v18 wc => ∃ (kq : Nat) (x18_2 : Bool), v18 = .bool x18_2 ∧ Aside0 (spec_l5Cross.j0 kq x18_2 a0_0 a0_1 a0_2 a0_3 a1_0 a1_1 a1_2 a1_3 = some (r1, r2, r3, r4, r5, r6, r7)) ∧ Aside0 (kq ≤ k) ∧ Aside0 (wc.heap[gb118]? = some (.cells #[.bool a0_0, .int .u64 a0_1, .int .u64 a0_2, .int .i64 a0_3] 70 (0, 0))) ∧ Aside0 (wc.heap[gb119]? = some (.cells #[.bool a1_0, .int .u64 a1_1, .int .u64 a1_2, .int .i64 a1_3] 70 (0, 0))) ∧ Aside0 (wc.heap[gb120]? = some (.cells #[.bool false, .int .u64 0, .int .u64 0] 33 (0, 0))) ∧ Aside0 (wc.heap[gb121]? = some (.cells #[.bool false, .int .u64 0, .int .u64 0] 33 (0, 0))) ∧ Aside0 (Below w.heap.size w wc))
  case first =>
    have H := HC3.out
    clear HC3
    replace H := Option.bind_eq_some_iff.mp H
    obtain ⟨t122, A80, H⟩ := H
    replace H : (if t122 = true then ((spec_FracOk.f a1_0 a1_1 a1_2 a1_3).bind fun t123 => (spec_l5Cross.j0 k (!t123) a0_0 a0_1 a0_2 a0_3 a1_0 a1_1 a1_2 a1_3)) else (spec_l5Cross.j0 k true a0_0 a0_1 a0_2 a0_3 a1_0 a1_1 a1_2 a1_3)) = some (r1, r2, r3, r4, r5, r6, r7) := H
    have A8 := Aside0.mk A80
    clear A80
    by_cases c9 : t122 = true
    · subst c9
      have H1 : ((spec_FracOk.f a1_0 a1_1 a1_2 a1_3).bind fun t123 => (spec_l5Cross.j0 k (!t123) a0_0 a0_1 a0_2 a0_3 a1_0 a1_1 a1_2 a1_3)) = some (r1, r2, r3, r4, r5, r6, r7) := by rw [if_pos rfl] at H; exact H
      clear H
      have H := H1
      clear H1
      replace H := Option.bind_eq_some_iff.mp H
      obtain ⟨t123, A100, H⟩ := H
      replace H : (spec_l5Cross.j0 k (!t123) a0_0 a0_1 a0_2 a0_3 a1_0 a1_1 a1_2 a1_3) = some (r1, r2, r3, r4, r5, r6, r7) := H
      have A10 := Aside0.mk A100
      clear A100
      have H' := Aside0.mk H
      clear H
      have hnb11 := NB118_119.out
      have hnc11 := NB119_118.out
      have hnb12 := NB118_120.out
      have hnc12 := NB120_118.out
      have hnb13 := NB118_121.out
      have hnc13 := NB121_118.out
      have hcz14_0 : w7.cell? ⟨gb118, 0, none⟩ = some (.bool a0_0) := bc_
      have hcz14_1 : w7.cell? ⟨gb118, 1, none⟩ = some (.int .u64 a0_1) := bc_
      have hcz14_2 : w7.cell? ⟨gb118, 2, none⟩ = some (.int .u64 a0_2) := bc_
      have hcz14_3 : w7.cell? ⟨gb118, 3, none⟩ = some (.int .i64 a0_3) := bc_
      have hfz14_0 := blk_frozen BK118.out 0
      have hfz14_1 := blk_frozen BK118.out 1
      have hfz14_2 := blk_frozen BK118.out 2
      have hfz14_3 := blk_frozen BK118.out 3
      go_wp2_with (first | ((with_reducible refine gate_callee (f := 106) rfl ?_); refine goesL_ (some 12) rfl rfl Try.func106 (by kernel_rfl) rfl #[.agg #[.bool a0_0, .int .u64 a0_1, .int .u64 a0_2, .int .i64 a0_3]] rfl mp_ ?_; (with_reducible refine (spec_FracOk.calls a0_0 a0_1 a0_2 a0_3 true _ A8.out).mono ?_); rintro e w15 ⟨rfl, hb⟩; refine ⟨_, rfl, ?_⟩; have n0_ := bb_ (g := gb118) (o := .cells #[.bool a0_0, .int .u64 a0_1, .int .u64 a0_2, .int .i64 a0_3] 70 (0, 0)) hb; have n1_ := bb_ (g := gb119) (o := .cells #[.bool a1_0, .int .u64 a1_1, .int .u64 a1_2, .int .i64 a1_3] 70 (0, 0)) hb; have n2_ := bb_ (g := gb120) (o := .cells #[.bool false, .int .u64 0, .int .u64 0] 33 (0, 0)) hb; have n3_ := bb_ (g := gb121) (o := .cells #[.bool false, .int .u64 0, .int .u64 0] 33 (0, 0)) hb; have n4_ := Aside0.mk (below_step bel_ hb); clear BK118; clear BK119; clear BK120; clear BK121; clear HB; have BK118 := n0_; have BK119 := n1_; have BK120 := n2_; have BK121 := n3_; have HB := n4_; clear n0_ n1_ n2_ n3_ n4_; (try clear hb); (try clear hb2); (try clear hk); (try clear hi); have hnb16 := NB119_120.out; have hnc16 := NB120_119.out; have hnb17 := NB119_121.out; have hnc17 := NB121_119.out; have hcz18_0 : w15.cell? ⟨gb119, 0, none⟩ = some (.bool a1_0) := bc_; have hcz18_1 : w15.cell? ⟨gb119, 1, none⟩ = some (.int .u64 a1_1) := bc_; have hcz18_2 : w15.cell? ⟨gb119, 2, none⟩ = some (.int .u64 a1_2) := bc_; have hcz18_3 : w15.cell? ⟨gb119, 3, none⟩ = some (.int .i64 a1_3) := bc_; have hfz18_0 := blk_frozen BK119.out 0; have hfz18_1 := blk_frozen BK119.out 1; have hfz18_2 := blk_frozen BK119.out 2; have hfz18_3 := blk_frozen BK119.out 3) | (go_at_call 106; (with_reducible refine (spec_FracOk.calls a1_0 a1_1 a1_2 a1_3 t123 _ A10.out).mono ?_); rintro e w19 ⟨rfl, hb⟩; have n0_ := bb_ (g := gb118) (o := .cells #[.bool a0_0, .int .u64 a0_1, .int .u64 a0_2, .int .i64 a0_3] 70 (0, 0)) hb; have n1_ := bb_ (g := gb119) (o := .cells #[.bool a1_0, .int .u64 a1_1, .int .u64 a1_2, .int .i64 a1_3] 70 (0, 0)) hb; have n2_ := bb_ (g := gb120) (o := .cells #[.bool false, .int .u64 0, .int .u64 0] 33 (0, 0)) hb; have n3_ := bb_ (g := gb121) (o := .cells #[.bool false, .int .u64 0, .int .u64 0] 33 (0, 0)) hb; have n4_ := Aside0.mk (below_step bel_ hb); clear BK118; clear BK119; clear BK120; clear BK121; clear HB; have BK118 := n0_; have BK119 := n1_; have BK120 := n2_; have BK121 := n3_; have HB := n4_; clear n0_ n1_ n2_ n3_ n4_; (try clear hb); (try clear hb2); (try clear hk); (try clear hi)))
      go_meet
      case rel => exact ⟨_, (!t123), (by first | rfl | (simp; done) | (simp [*]; done)), H', ⟨by first | omega | exact Nat.le_refl _⟩, ⟨by (with_reducible repeat (first | refine bN_ _ ?_ | refine bd_ ?_ | refine ba_ _ ?_)); exact BK118.out⟩, ⟨by (with_reducible repeat (first | refine bN_ _ ?_ | refine bd_ ?_ | refine ba_ _ ?_)); exact BK119.out⟩, ⟨by (with_reducible repeat (first | refine bN_ _ ?_ | refine bd_ ?_ | refine ba_ _ ?_)); exact BK120.out⟩, ⟨by (with_reducible repeat (first | refine bN_ _ ?_ | refine bd_ ?_ | refine ba_ _ ?_)); exact BK121.out⟩, ⟨by repeat (first | (with_reducible first | exact HB.out | apply below_alloc | apply pw_below_drewN | apply below_drew1 | refine below_set ?_ GE118.out | refine below_set ?_ GE119.out | refine below_set ?_ GE120.out | refine below_set ?_ GE121.out) | exact HB.out)⟩⟩
    · replace c9 := Bool.eq_false_iff.mpr c9
      subst c9
      have H1 : (spec_l5Cross.j0 k true a0_0 a0_1 a0_2 a0_3 a1_0 a1_1 a1_2 a1_3) = some (r1, r2, r3, r4, r5, r6, r7) := by rw [if_neg (show ¬ (false = true) by decide)] at H; exact H
      clear H
      have H := H1
      clear H1
      have H' := Aside0.mk H
      clear H
      have hnb20 := NB118_119.out
      have hnc20 := NB119_118.out
      have hnb21 := NB118_120.out
      have hnc21 := NB120_118.out
      have hnb22 := NB118_121.out
      have hnc22 := NB121_118.out
      have hcz23_0 : w7.cell? ⟨gb118, 0, none⟩ = some (.bool a0_0) := bc_
      have hcz23_1 : w7.cell? ⟨gb118, 1, none⟩ = some (.int .u64 a0_1) := bc_
      have hcz23_2 : w7.cell? ⟨gb118, 2, none⟩ = some (.int .u64 a0_2) := bc_
      have hcz23_3 : w7.cell? ⟨gb118, 3, none⟩ = some (.int .i64 a0_3) := bc_
      have hfz23_0 := blk_frozen BK118.out 0
      have hfz23_1 := blk_frozen BK118.out 1
      have hfz23_2 := blk_frozen BK118.out 2
      have hfz23_3 := blk_frozen BK118.out 3
      go_wp2_with (first | ((with_reducible refine gate_callee (f := 106) rfl ?_); refine goesL_ (some 12) rfl rfl Try.func106 (by kernel_rfl) rfl #[.agg #[.bool a0_0, .int .u64 a0_1, .int .u64 a0_2, .int .i64 a0_3]] rfl mp_ ?_; (with_reducible refine (spec_FracOk.calls a0_0 a0_1 a0_2 a0_3 false _ A8.out).mono ?_); rintro e w24 ⟨rfl, hb⟩; refine ⟨_, rfl, ?_⟩; have n0_ := bb_ (g := gb118) (o := .cells #[.bool a0_0, .int .u64 a0_1, .int .u64 a0_2, .int .i64 a0_3] 70 (0, 0)) hb; have n1_ := bb_ (g := gb119) (o := .cells #[.bool a1_0, .int .u64 a1_1, .int .u64 a1_2, .int .i64 a1_3] 70 (0, 0)) hb; have n2_ := bb_ (g := gb120) (o := .cells #[.bool false, .int .u64 0, .int .u64 0] 33 (0, 0)) hb; have n3_ := bb_ (g := gb121) (o := .cells #[.bool false, .int .u64 0, .int .u64 0] 33 (0, 0)) hb; have n4_ := Aside0.mk (below_step bel_ hb); clear BK118; clear BK119; clear BK120; clear BK121; clear HB; have BK118 := n0_; have BK119 := n1_; have BK120 := n2_; have BK121 := n3_; have HB := n4_; clear n0_ n1_ n2_ n3_ n4_; (try clear hb); (try clear hb2); (try clear hk); (try clear hi)))
      go_meet
      case rel => exact ⟨_, (true), (by first | rfl | (simp; done) | (simp [*]; done)), H', ⟨by first | omega | exact Nat.le_refl _⟩, ⟨by (with_reducible repeat (first | refine bN_ _ ?_ | refine bd_ ?_ | refine ba_ _ ?_)); exact BK118.out⟩, ⟨by (with_reducible repeat (first | refine bN_ _ ?_ | refine bd_ ?_ | refine ba_ _ ?_)); exact BK119.out⟩, ⟨by (with_reducible repeat (first | refine bN_ _ ?_ | refine bd_ ?_ | refine ba_ _ ?_)); exact BK120.out⟩, ⟨by (with_reducible repeat (first | refine bN_ _ ?_ | refine bd_ ?_ | refine ba_ _ ?_)); exact BK121.out⟩, ⟨by repeat (first | (with_reducible first | exact HB.out | apply below_alloc | apply pw_below_drewN | apply below_drew1 | refine below_set ?_ GE118.out | refine below_set ?_ GE119.out | refine below_set ?_ GE120.out | refine below_set ?_ GE121.out) | exact HB.out)⟩⟩
  case rest =>
    clear HC3
    try clear c1
    try clear c2
    try clear p2
    try clear c9
    try clear c10
    try clear c11
    try clear c12
    try clear c13
    try clear c16
    try clear c17
    try clear c20
    try clear c21
    try clear c22
    try clear hcz14_0
    try clear hcz14_1
    try clear hcz14_2
    try clear hcz14_3
    try clear hcz18_0
    try clear hcz18_1
    try clear hcz18_2
    try clear hcz18_3
    try clear hcz23_0
    try clear hcz23_1
    try clear hcz23_2
    try clear hcz23_3
    try clear hfz14_0
    try clear hfz14_1
    try clear hfz14_2
    try clear hfz14_3
    try clear hfz18_0
    try clear hfz18_1
    try clear hfz18_2
    try clear hfz18_3
    try clear hfz23_0
    try clear hfz23_1
    try clear hfz23_2
    try clear hfz23_3
    obtain ⟨kq, x18_2, rfl, HA, HJ2, BK118, BK119, BK120, BK121, HB⟩ := hcut
    cases kq with
    | zero => exact absurd HA.out (by simp [spec_l5Cross.j0])
    | succ kj2 =>
      have H := HA.out
      clear HA
      simp only [spec_l5Cross.j0] at H
      by_cases c25 : x18_2 = true
      · subst c25
        have H1 : (some (false, 0, 0, false, 0, 0, false)) = some (r1, r2, r3, r4, r5, r6, r7) := by rw [if_pos rfl] at H; exact H
        clear H
        have H := H1
        clear H1
        simp only [Option.some.injEq, Prod.mk.injEq] at H
        obtain ⟨rfl, rfl, rfl, rfl, rfl, rfl, rfl⟩ := H
        have hnb26 := NB120_118.out
        have hnc26 := NB118_120.out
        have hnb27 := NB120_119.out
        have hnc27 := NB119_120.out
        have hnb28 := NB120_121.out
        have hnc28 := NB121_120.out
        have hcz29_0 : wc.cell? ⟨gb120, 0, none⟩ = some (.bool false) := bc_
        have hcz29_1 : wc.cell? ⟨gb120, 1, none⟩ = some (.int .u64 0) := bc_
        have hcz29_2 : wc.cell? ⟨gb120, 2, none⟩ = some (.int .u64 0) := bc_
        have hfz29_0 := blk_frozen BK120.out 0
        have hfz29_1 := blk_frozen BK120.out 1
        have hfz29_2 := blk_frozen BK120.out 2
        have hnb30 := NB121_118.out
        have hnc30 := NB118_121.out
        have hnb31 := NB121_119.out
        have hnc31 := NB119_121.out
        have hcz32_0 : wc.cell? ⟨gb121, 0, none⟩ = some (.bool false) := bc_
        have hcz32_1 : wc.cell? ⟨gb121, 1, none⟩ = some (.int .u64 0) := bc_
        have hcz32_2 : wc.cell? ⟨gb121, 2, none⟩ = some (.int .u64 0) := bc_
        have hfz32_0 := blk_frozen BK121.out 0
        have hfz32_1 := blk_frozen BK121.out 1
        have hfz32_2 := blk_frozen BK121.out 2
        go_wp2
        refine bodyPost_ret (results_list (rs := [.cell 4 33, .cell 5 33, .tmp 6]) rfl (by simp) (.cell gb120 33 #[.bool false, .int .u64 0, .int .u64 0] (0, 0) _ rfl (by (with_reducible repeat (first | refine bN_ _ ?_ | refine bd_ ?_ | refine ba_ _ ?_)); refine blk_far ?_ NB120_121.out _; (with_reducible repeat (first | refine bN_ _ ?_ | refine bd_ ?_ | refine ba_ _ ?_)); refine blk_far ?_ NB120_121.out _; (with_reducible repeat (first | refine bN_ _ ?_ | refine bd_ ?_ | refine ba_ _ ?_)); refine blk_far ?_ NB120_121.out _; (with_reducible repeat (first | refine bN_ _ ?_ | refine bd_ ?_ | refine ba_ _ ?_)); refine blk_put (cs := #[.bool false, .int .u64 0, .int .u64 0]) ?_ 2 _ rfl; (with_reducible repeat (first | refine bN_ _ ?_ | refine bd_ ?_ | refine ba_ _ ?_)); refine blk_put (cs := #[.bool false, .int .u64 0, .int .u64 0]) ?_ 1 _ rfl; (with_reducible repeat (first | refine bN_ _ ?_ | refine bd_ ?_ | refine ba_ _ ?_)); refine blk_put (cs := #[.bool false, .int .u64 0, .int .u64 0]) ?_ 0 _ rfl; (with_reducible repeat (first | refine bN_ _ ?_ | refine bd_ ?_ | refine ba_ _ ?_)); exact BK120.out) Try.underlying33 rfl (by kernel_rfl) (.cell gb121 33 #[.bool false, .int .u64 0, .int .u64 0] (0, 0) _ rfl (by (with_reducible repeat (first | refine bN_ _ ?_ | refine bd_ ?_ | refine ba_ _ ?_)); refine blk_put (cs := #[.bool false, .int .u64 0, .int .u64 0]) ?_ 2 _ rfl; (with_reducible repeat (first | refine bN_ _ ?_ | refine bd_ ?_ | refine ba_ _ ?_)); refine blk_put (cs := #[.bool false, .int .u64 0, .int .u64 0]) ?_ 1 _ rfl; (with_reducible repeat (first | refine bN_ _ ?_ | refine bd_ ?_ | refine ba_ _ ?_)); refine blk_put (cs := #[.bool false, .int .u64 0, .int .u64 0]) ?_ 0 _ rfl; (with_reducible repeat (first | refine bN_ _ ?_ | refine bd_ ?_ | refine ba_ _ ?_)); refine blk_far ?_ NB121_120.out _; (with_reducible repeat (first | refine bN_ _ ?_ | refine bd_ ?_ | refine ba_ _ ?_)); refine blk_far ?_ NB121_120.out _; (with_reducible repeat (first | refine bN_ _ ?_ | refine bd_ ?_ | refine ba_ _ ?_)); refine blk_far ?_ NB121_120.out _; (with_reducible repeat (first | refine bN_ _ ?_ | refine bd_ ?_ | refine ba_ _ ?_)); exact BK121.out) Try.underlying33 rfl (by kernel_rfl) (.tmp .nil)))) rfl ?_
        exact ⟨by first | rfl | (simp [errW_none, errW_some] <;> rfl) | (simp [*, errW_none, errW_some] <;> rfl), by repeat (first | (with_reducible first | exact HB.out | apply below_alloc | apply pw_below_drewN | apply below_drew1 | refine below_set ?_ GE118.out | refine below_set ?_ GE119.out | refine below_set ?_ GE120.out | refine below_set ?_ GE121.out) | exact HB.out)⟩
      · replace c25 := Bool.eq_false_iff.mpr c25
        subst c25
        have H1 : ((spec_ScaleWide.f a0_0 a0_1 a0_2 a1_3).bind fun bt124 => ((spec_ScaleWide.f a1_0 a1_1 a1_2 a0_3).bind fun bt129 => (if bt124.2.2.2 = true then (some (bt124.1, bt124.2.1, bt124.2.2.1, bt129.1, bt129.2.1, bt129.2.2.1, bt129.2.2.2)) else (some (bt124.1, bt124.2.1, bt124.2.2.1, bt129.1, bt129.2.1, bt129.2.2.1, false))))) = some (r1, r2, r3, r4, r5, r6, r7) := by rw [if_neg (show ¬ (false = true) by decide)] at H; exact H
        clear H
        have H := H1
        clear H1
        replace H := Option.bind_eq_some_iff.mp H
        obtain ⟨⟨t124, t125, t126, t127⟩, A330, H⟩ := H
        replace H : ((spec_ScaleWide.f a1_0 a1_1 a1_2 a0_3).bind fun bt129 => (if t127 = true then (some (t124, t125, t126, bt129.1, bt129.2.1, bt129.2.2.1, bt129.2.2.2)) else (some (t124, t125, t126, bt129.1, bt129.2.1, bt129.2.2.1, false)))) = some (r1, r2, r3, r4, r5, r6, r7) := H
        have A33 := Aside0.mk A330
        clear A330
        replace H := Option.bind_eq_some_iff.mp H
        obtain ⟨⟨t129, t130, t131, t132⟩, A340, H⟩ := H
        replace H : (if t127 = true then (some (t124, t125, t126, t129, t130, t131, t132)) else (some (t124, t125, t126, t129, t130, t131, false))) = some (r1, r2, r3, r4, r5, r6, r7) := H
        have A34 := Aside0.mk A340
        clear A340
        by_cases c35 : t127 = true
        · subst c35
          have H1 : (some (t124, t125, t126, t129, t130, t131, t132)) = some (r1, r2, r3, r4, r5, r6, r7) := by rw [if_pos rfl] at H; exact H
          clear H
          have H := H1
          clear H1
          simp only [Option.some.injEq, Prod.mk.injEq] at H
          obtain ⟨rfl, rfl, rfl, rfl, rfl, rfl, rfl⟩ := H
          have hnb36 := NB118_119.out
          have hnc36 := NB119_118.out
          have hnb37 := NB118_120.out
          have hnc37 := NB120_118.out
          have hnb38 := NB118_121.out
          have hnc38 := NB121_118.out
          have hcz39_0 : wc.cell? ⟨gb118, 0, none⟩ = some (.bool a0_0) := bc_
          have hcz39_1 : wc.cell? ⟨gb118, 1, none⟩ = some (.int .u64 a0_1) := bc_
          have hcz39_2 : wc.cell? ⟨gb118, 2, none⟩ = some (.int .u64 a0_2) := bc_
          have hcz39_3 : wc.cell? ⟨gb118, 3, none⟩ = some (.int .i64 a0_3) := bc_
          have hfz39_0 := blk_frozen BK118.out 0
          have hfz39_1 := blk_frozen BK118.out 1
          have hfz39_2 := blk_frozen BK118.out 2
          have hfz39_3 := blk_frozen BK118.out 3
          have hnb40 := NB119_120.out
          have hnc40 := NB120_119.out
          have hnb41 := NB119_121.out
          have hnc41 := NB121_119.out
          have hcz42_0 : wc.cell? ⟨gb119, 0, none⟩ = some (.bool a1_0) := bc_
          have hcz42_1 : wc.cell? ⟨gb119, 1, none⟩ = some (.int .u64 a1_1) := bc_
          have hcz42_2 : wc.cell? ⟨gb119, 2, none⟩ = some (.int .u64 a1_2) := bc_
          have hcz42_3 : wc.cell? ⟨gb119, 3, none⟩ = some (.int .i64 a1_3) := bc_
          have hfz42_0 := blk_frozen BK119.out 0
          have hfz42_1 := blk_frozen BK119.out 1
          have hfz42_2 := blk_frozen BK119.out 2
          have hfz42_3 := blk_frozen BK119.out 3
          try go_wp2_with (first | ((with_reducible refine gate_callee (f := 19) rfl ?_); refine goesL_ (some 26) rfl rfl Try.func19 (by kernel_rfl) rfl #[.agg #[.bool a0_0, .int .u64 a0_1, .int .u64 a0_2], .int .i64 a1_3] rfl mp_ ?_; (with_reducible refine (spec_ScaleWide.calls a0_0 a0_1 a0_2 a1_3 t124 t125 t126 true _ A33.out).mono ?_); rintro e w43 ⟨rfl, hb⟩; refine ⟨_, rfl, ?_⟩; have n0_ := bb_ (g := gb118) (o := .cells #[.bool a0_0, .int .u64 a0_1, .int .u64 a0_2, .int .i64 a0_3] 70 (0, 0)) hb; have n1_ := bb_ (g := gb119) (o := .cells #[.bool a1_0, .int .u64 a1_1, .int .u64 a1_2, .int .i64 a1_3] 70 (0, 0)) hb; have n2_ := bb_ (g := gb120) (o := .cells #[.bool false, .int .u64 0, .int .u64 0] 33 (0, 0)) hb; have n3_ := bb_ (g := gb121) (o := .cells #[.bool false, .int .u64 0, .int .u64 0] 33 (0, 0)) hb; have n4_ := Aside0.mk (below_step bel_ hb); clear BK118; clear BK119; clear BK120; clear BK121; clear HB; have BK118 := n0_; have BK119 := n1_; have BK120 := n2_; have BK121 := n3_; have HB := n4_; clear n0_ n1_ n2_ n3_ n4_; (try clear hb); (try clear hb2); (try clear hk); (try clear hi)) | ((with_reducible refine gate_dst (N := 7) rfl ?_); refine box_event ?hg (N := 7) ?hd (cs := #[.bool false, .int .u64 0, .int .u64 0]) (t := 33) ?hr ?_; (case hd => rfl); (case hg => rfl); (case hr => first | (go_simp; done) | (go_simp; rfl)); intro gb128 hg w44 hbox hb; have n0_ := bb_ (g := gb118) (o := .cells #[.bool a0_0, .int .u64 a0_1, .int .u64 a0_2, .int .i64 a0_3] 70 (0, 0)) hb; have n1_ := bb_ (g := gb119) (o := .cells #[.bool a1_0, .int .u64 a1_1, .int .u64 a1_2, .int .i64 a1_3] 70 (0, 0)) hb; have n2_ := bb_ (g := gb120) (o := .cells #[.bool false, .int .u64 0, .int .u64 0] 33 (0, 0)) hb; have n3_ := bb_ (g := gb121) (o := .cells #[.bool false, .int .u64 0, .int .u64 0] 33 (0, 0)) hb; have n4_ := Aside0.mk (below_step bel_ hb); have n5_ := Aside0.mk (hbox); have n6_ := Aside0.mk ((by rw [hg]; exact (below_size bel_) : w.heap.size ≤ gb128)); have n7_ := Aside0.mk ((by rw [hg]; exact (below_size bel_) : w.heap.size ≤ gb128)); have n8_ := nlt_ (g := gb118) (o := .cells #[.bool a0_0, .int .u64 a0_1, .int .u64 a0_2, .int .i64 a0_3] 70 (0, 0)) hg; have n9_ := ngt_ (g := gb118) (o := .cells #[.bool a0_0, .int .u64 a0_1, .int .u64 a0_2, .int .i64 a0_3] 70 (0, 0)) hg; have n10_ := nlt_ (g := gb119) (o := .cells #[.bool a1_0, .int .u64 a1_1, .int .u64 a1_2, .int .i64 a1_3] 70 (0, 0)) hg; have n11_ := ngt_ (g := gb119) (o := .cells #[.bool a1_0, .int .u64 a1_1, .int .u64 a1_2, .int .i64 a1_3] 70 (0, 0)) hg; have n12_ := nlt_ (g := gb120) (o := .cells #[.bool false, .int .u64 0, .int .u64 0] 33 (0, 0)) hg; have n13_ := ngt_ (g := gb120) (o := .cells #[.bool false, .int .u64 0, .int .u64 0] 33 (0, 0)) hg; have n14_ := nlt_ (g := gb121) (o := .cells #[.bool false, .int .u64 0, .int .u64 0] 33 (0, 0)) hg; have n15_ := ngt_ (g := gb121) (o := .cells #[.bool false, .int .u64 0, .int .u64 0] 33 (0, 0)) hg; clear BK118; clear BK119; clear BK120; clear BK121; clear HB; have BK118 := n0_; have BK119 := n1_; have BK120 := n2_; have BK121 := n3_; have HB := n4_; have BK128 := n5_; have GW128 := n6_; have GE128 := n7_; have NB118_128 := n8_; have NB128_118 := n9_; have NB119_128 := n10_; have NB128_119 := n11_; have NB120_128 := n12_; have NB128_120 := n13_; have NB121_128 := n14_; have NB128_121 := n15_; clear n0_ n1_ n2_ n3_ n4_ n5_ n6_ n7_ n8_ n9_ n10_ n11_ n12_ n13_ n14_ n15_; clear hb hbox hg; have hnb45 := NB128_118.out; have hnc45 := NB118_128.out; have hnb46 := NB128_119.out; have hnc46 := NB119_128.out; have hnb47 := NB128_120.out; have hnc47 := NB120_128.out; have hnb48 := NB128_121.out; have hnc48 := NB121_128.out; have hcz49_0 : w44.cell? ⟨gb128, 0, none⟩ = some (.bool false) := bc_; have hcz49_1 : w44.cell? ⟨gb128, 1, none⟩ = some (.int .u64 0) := bc_; have hcz49_2 : w44.cell? ⟨gb128, 2, none⟩ = some (.int .u64 0) := bc_; have hfz49_0 := blk_frozen BK128.out 0; have hfz49_1 := blk_frozen BK128.out 1; have hfz49_2 := blk_frozen BK128.out 2; have hcz50_0 : w44.cell? ⟨gb119, 0, none⟩ = some (.bool a1_0) := bc_; have hcz50_1 : w44.cell? ⟨gb119, 1, none⟩ = some (.int .u64 a1_1) := bc_; have hcz50_2 : w44.cell? ⟨gb119, 2, none⟩ = some (.int .u64 a1_2) := bc_; have hcz50_3 : w44.cell? ⟨gb119, 3, none⟩ = some (.int .i64 a1_3) := bc_; have hfz50_0 := blk_frozen BK119.out 0; have hfz50_1 := blk_frozen BK119.out 1; have hfz50_2 := blk_frozen BK119.out 2; have hfz50_3 := blk_frozen BK119.out 3; have hcz51_0 : w44.cell? ⟨gb118, 0, none⟩ = some (.bool a0_0) := bc_; have hcz51_1 : w44.cell? ⟨gb118, 1, none⟩ = some (.int .u64 a0_1) := bc_; have hcz51_2 : w44.cell? ⟨gb118, 2, none⟩ = some (.int .u64 a0_2) := bc_; have hcz51_3 : w44.cell? ⟨gb118, 3, none⟩ = some (.int .i64 a0_3) := bc_; have hfz51_0 := blk_frozen BK118.out 0; have hfz51_1 := blk_frozen BK118.out 1; have hfz51_2 := blk_frozen BK118.out 2; have hfz51_3 := blk_frozen BK118.out 3) | ((with_reducible refine gate_callee (f := 19) rfl ?_); refine goesL_ (some 34) rfl rfl Try.func19 (by kernel_rfl) rfl #[.agg #[.bool a1_0, .int .u64 a1_1, .int .u64 a1_2], .int .i64 a0_3] rfl mp_ ?_; (with_reducible refine (spec_ScaleWide.calls a1_0 a1_1 a1_2 a0_3 t129 t130 t131 t132 _ A34.out).mono ?_); rintro e w52 ⟨rfl, hb⟩; refine ⟨_, rfl, ?_⟩; have n0_ := Aside0.mk (blk_below (g := gb118) (o := .cells #[.bool a0_0, .int .u64 a0_1, .int .u64 a0_2, .int .i64 a0_3] 70 (0, 0)) (by (with_reducible repeat (first | refine bN_ _ ?_ | refine bd_ ?_ | refine ba_ _ ?_)); refine blk_far ?_ NB118_128.out _; (with_reducible repeat (first | refine bN_ _ ?_ | refine bd_ ?_ | refine ba_ _ ?_)); refine blk_far ?_ NB118_128.out _; (with_reducible repeat (first | refine bN_ _ ?_ | refine bd_ ?_ | refine ba_ _ ?_)); refine blk_far ?_ NB118_128.out _; (with_reducible repeat (first | refine bN_ _ ?_ | refine bd_ ?_ | refine ba_ _ ?_)); exact BK118.out) hb); have n1_ := Aside0.mk (blk_below (g := gb119) (o := .cells #[.bool a1_0, .int .u64 a1_1, .int .u64 a1_2, .int .i64 a1_3] 70 (0, 0)) (by (with_reducible repeat (first | refine bN_ _ ?_ | refine bd_ ?_ | refine ba_ _ ?_)); refine blk_far ?_ NB119_128.out _; (with_reducible repeat (first | refine bN_ _ ?_ | refine bd_ ?_ | refine ba_ _ ?_)); refine blk_far ?_ NB119_128.out _; (with_reducible repeat (first | refine bN_ _ ?_ | refine bd_ ?_ | refine ba_ _ ?_)); refine blk_far ?_ NB119_128.out _; (with_reducible repeat (first | refine bN_ _ ?_ | refine bd_ ?_ | refine ba_ _ ?_)); exact BK119.out) hb); have n2_ := Aside0.mk (blk_below (g := gb120) (o := .cells #[.bool false, .int .u64 0, .int .u64 0] 33 (0, 0)) (by (with_reducible repeat (first | refine bN_ _ ?_ | refine bd_ ?_ | refine ba_ _ ?_)); refine blk_far ?_ NB120_128.out _; (with_reducible repeat (first | refine bN_ _ ?_ | refine bd_ ?_ | refine ba_ _ ?_)); refine blk_far ?_ NB120_128.out _; (with_reducible repeat (first | refine bN_ _ ?_ | refine bd_ ?_ | refine ba_ _ ?_)); refine blk_far ?_ NB120_128.out _; (with_reducible repeat (first | refine bN_ _ ?_ | refine bd_ ?_ | refine ba_ _ ?_)); exact BK120.out) hb); have n3_ := Aside0.mk (blk_below (g := gb121) (o := .cells #[.bool false, .int .u64 0, .int .u64 0] 33 (0, 0)) (by (with_reducible repeat (first | refine bN_ _ ?_ | refine bd_ ?_ | refine ba_ _ ?_)); refine blk_far ?_ NB121_128.out _; (with_reducible repeat (first | refine bN_ _ ?_ | refine bd_ ?_ | refine ba_ _ ?_)); refine blk_far ?_ NB121_128.out _; (with_reducible repeat (first | refine bN_ _ ?_ | refine bd_ ?_ | refine ba_ _ ?_)); refine blk_far ?_ NB121_128.out _; (with_reducible repeat (first | refine bN_ _ ?_ | refine bd_ ?_ | refine ba_ _ ?_)); exact BK121.out) hb); have n4_ := Aside0.mk (blk_below (g := gb128) (o := .cells #[.bool t124, .int .u64 t125, .int .u64 t126] 33 (0, 0)) (by (with_reducible repeat (first | refine bN_ _ ?_ | refine bd_ ?_ | refine ba_ _ ?_)); refine blk_put (cs := #[.bool t124, .int .u64 t125, .int .u64 0]) ?_ 2 _ rfl; (with_reducible repeat (first | refine bN_ _ ?_ | refine bd_ ?_ | refine ba_ _ ?_)); refine blk_put (cs := #[.bool t124, .int .u64 0, .int .u64 0]) ?_ 1 _ rfl; (with_reducible repeat (first | refine bN_ _ ?_ | refine bd_ ?_ | refine ba_ _ ?_)); refine blk_put (cs := #[.bool false, .int .u64 0, .int .u64 0]) ?_ 0 _ rfl; (with_reducible repeat (first | refine bN_ _ ?_ | refine bd_ ?_ | refine ba_ _ ?_)); exact BK128.out) hb); have n5_ := Aside0.mk (below_step bel_ hb); clear BK118; clear BK119; clear BK120; clear BK121; clear BK128; clear HB; have BK118 := n0_; have BK119 := n1_; have BK120 := n2_; have BK121 := n3_; have BK128 := n4_; have HB := n5_; clear n0_ n1_ n2_ n3_ n4_ n5_; (try clear hb); (try clear hb2); (try clear hk); (try clear hi)) | ((with_reducible refine gate_dst (N := 9) rfl ?_); refine box_event ?hg (N := 9) ?hd (cs := #[.bool false, .int .u64 0, .int .u64 0]) (t := 33) ?hr ?_; (case hd => rfl); (case hg => rfl); (case hr => first | (go_simp; done) | (go_simp; rfl)); intro gb133 hg w53 hbox hb; have n0_ := bb_ (g := gb118) (o := .cells #[.bool a0_0, .int .u64 a0_1, .int .u64 a0_2, .int .i64 a0_3] 70 (0, 0)) hb; have n1_ := bb_ (g := gb119) (o := .cells #[.bool a1_0, .int .u64 a1_1, .int .u64 a1_2, .int .i64 a1_3] 70 (0, 0)) hb; have n2_ := bb_ (g := gb120) (o := .cells #[.bool false, .int .u64 0, .int .u64 0] 33 (0, 0)) hb; have n3_ := bb_ (g := gb121) (o := .cells #[.bool false, .int .u64 0, .int .u64 0] 33 (0, 0)) hb; have n4_ := bb_ (g := gb128) (o := .cells #[.bool t124, .int .u64 t125, .int .u64 t126] 33 (0, 0)) hb; have n5_ := Aside0.mk (below_step bel_ hb); have n6_ := Aside0.mk (hbox); have n7_ := Aside0.mk ((by rw [hg]; exact (below_size bel_) : w.heap.size ≤ gb133)); have n8_ := Aside0.mk ((by rw [hg]; exact (below_size bel_) : w.heap.size ≤ gb133)); have n9_ := nlt_ (g := gb118) (o := .cells #[.bool a0_0, .int .u64 a0_1, .int .u64 a0_2, .int .i64 a0_3] 70 (0, 0)) hg; have n10_ := ngt_ (g := gb118) (o := .cells #[.bool a0_0, .int .u64 a0_1, .int .u64 a0_2, .int .i64 a0_3] 70 (0, 0)) hg; have n11_ := nlt_ (g := gb119) (o := .cells #[.bool a1_0, .int .u64 a1_1, .int .u64 a1_2, .int .i64 a1_3] 70 (0, 0)) hg; have n12_ := ngt_ (g := gb119) (o := .cells #[.bool a1_0, .int .u64 a1_1, .int .u64 a1_2, .int .i64 a1_3] 70 (0, 0)) hg; have n13_ := nlt_ (g := gb120) (o := .cells #[.bool false, .int .u64 0, .int .u64 0] 33 (0, 0)) hg; have n14_ := ngt_ (g := gb120) (o := .cells #[.bool false, .int .u64 0, .int .u64 0] 33 (0, 0)) hg; have n15_ := nlt_ (g := gb121) (o := .cells #[.bool false, .int .u64 0, .int .u64 0] 33 (0, 0)) hg; have n16_ := ngt_ (g := gb121) (o := .cells #[.bool false, .int .u64 0, .int .u64 0] 33 (0, 0)) hg; have n17_ := nlt_ (g := gb128) (o := .cells #[.bool t124, .int .u64 t125, .int .u64 t126] 33 (0, 0)) hg; have n18_ := ngt_ (g := gb128) (o := .cells #[.bool t124, .int .u64 t125, .int .u64 t126] 33 (0, 0)) hg; clear BK118; clear BK119; clear BK120; clear BK121; clear BK128; clear HB; have BK118 := n0_; have BK119 := n1_; have BK120 := n2_; have BK121 := n3_; have BK128 := n4_; have HB := n5_; have BK133 := n6_; have GW133 := n7_; have GE133 := n8_; have NB118_133 := n9_; have NB133_118 := n10_; have NB119_133 := n11_; have NB133_119 := n12_; have NB120_133 := n13_; have NB133_120 := n14_; have NB121_133 := n15_; have NB133_121 := n16_; have NB128_133 := n17_; have NB133_128 := n18_; clear n0_ n1_ n2_ n3_ n4_ n5_ n6_ n7_ n8_ n9_ n10_ n11_ n12_ n13_ n14_ n15_ n16_ n17_ n18_; clear hb hbox hg; have hnb54 := NB133_118.out; have hnc54 := NB118_133.out; have hnb55 := NB133_119.out; have hnc55 := NB119_133.out; have hnb56 := NB133_120.out; have hnc56 := NB120_133.out; have hnb57 := NB133_121.out; have hnc57 := NB121_133.out; have hnb58 := NB133_128.out; have hnc58 := NB128_133.out; have hcz59_0 : w53.cell? ⟨gb133, 0, none⟩ = some (.bool false) := bc_; have hcz59_1 : w53.cell? ⟨gb133, 1, none⟩ = some (.int .u64 0) := bc_; have hcz59_2 : w53.cell? ⟨gb133, 2, none⟩ = some (.int .u64 0) := bc_; have hfz59_0 := blk_frozen BK133.out 0; have hfz59_1 := blk_frozen BK133.out 1; have hfz59_2 := blk_frozen BK133.out 2))
          have n0_ : Aside0 ((((w53.setCell ⟨gb133, 0, none⟩ (.bool t129)).setCell ⟨gb133, 1, none⟩ (.int .u64 t130)).setCell ⟨gb133, 2, none⟩ (.int .u64 t131)).heap[gb118]? = some (.cells #[.bool a0_0, .int .u64 a0_1, .int .u64 a0_2, .int .i64 a0_3] 70 (0, 0))) := ⟨by (with_reducible repeat (first | refine bN_ _ ?_ | refine bd_ ?_ | refine ba_ _ ?_)); refine blk_far ?_ NB118_133.out _; (with_reducible repeat (first | refine bN_ _ ?_ | refine bd_ ?_ | refine ba_ _ ?_)); refine blk_far ?_ NB118_133.out _; (with_reducible repeat (first | refine bN_ _ ?_ | refine bd_ ?_ | refine ba_ _ ?_)); refine blk_far ?_ NB118_133.out _; (with_reducible repeat (first | refine bN_ _ ?_ | refine bd_ ?_ | refine ba_ _ ?_)); exact BK118.out⟩
          have n1_ : Aside0 ((((w53.setCell ⟨gb133, 0, none⟩ (.bool t129)).setCell ⟨gb133, 1, none⟩ (.int .u64 t130)).setCell ⟨gb133, 2, none⟩ (.int .u64 t131)).heap[gb119]? = some (.cells #[.bool a1_0, .int .u64 a1_1, .int .u64 a1_2, .int .i64 a1_3] 70 (0, 0))) := ⟨by (with_reducible repeat (first | refine bN_ _ ?_ | refine bd_ ?_ | refine ba_ _ ?_)); refine blk_far ?_ NB119_133.out _; (with_reducible repeat (first | refine bN_ _ ?_ | refine bd_ ?_ | refine ba_ _ ?_)); refine blk_far ?_ NB119_133.out _; (with_reducible repeat (first | refine bN_ _ ?_ | refine bd_ ?_ | refine ba_ _ ?_)); refine blk_far ?_ NB119_133.out _; (with_reducible repeat (first | refine bN_ _ ?_ | refine bd_ ?_ | refine ba_ _ ?_)); exact BK119.out⟩
          have n2_ : Aside0 ((((w53.setCell ⟨gb133, 0, none⟩ (.bool t129)).setCell ⟨gb133, 1, none⟩ (.int .u64 t130)).setCell ⟨gb133, 2, none⟩ (.int .u64 t131)).heap[gb120]? = some (.cells #[.bool false, .int .u64 0, .int .u64 0] 33 (0, 0))) := ⟨by (with_reducible repeat (first | refine bN_ _ ?_ | refine bd_ ?_ | refine ba_ _ ?_)); refine blk_far ?_ NB120_133.out _; (with_reducible repeat (first | refine bN_ _ ?_ | refine bd_ ?_ | refine ba_ _ ?_)); refine blk_far ?_ NB120_133.out _; (with_reducible repeat (first | refine bN_ _ ?_ | refine bd_ ?_ | refine ba_ _ ?_)); refine blk_far ?_ NB120_133.out _; (with_reducible repeat (first | refine bN_ _ ?_ | refine bd_ ?_ | refine ba_ _ ?_)); exact BK120.out⟩
          have n3_ : Aside0 ((((w53.setCell ⟨gb133, 0, none⟩ (.bool t129)).setCell ⟨gb133, 1, none⟩ (.int .u64 t130)).setCell ⟨gb133, 2, none⟩ (.int .u64 t131)).heap[gb121]? = some (.cells #[.bool false, .int .u64 0, .int .u64 0] 33 (0, 0))) := ⟨by (with_reducible repeat (first | refine bN_ _ ?_ | refine bd_ ?_ | refine ba_ _ ?_)); refine blk_far ?_ NB121_133.out _; (with_reducible repeat (first | refine bN_ _ ?_ | refine bd_ ?_ | refine ba_ _ ?_)); refine blk_far ?_ NB121_133.out _; (with_reducible repeat (first | refine bN_ _ ?_ | refine bd_ ?_ | refine ba_ _ ?_)); refine blk_far ?_ NB121_133.out _; (with_reducible repeat (first | refine bN_ _ ?_ | refine bd_ ?_ | refine ba_ _ ?_)); exact BK121.out⟩
          have n4_ : Aside0 ((((w53.setCell ⟨gb133, 0, none⟩ (.bool t129)).setCell ⟨gb133, 1, none⟩ (.int .u64 t130)).setCell ⟨gb133, 2, none⟩ (.int .u64 t131)).heap[gb128]? = some (.cells #[.bool t124, .int .u64 t125, .int .u64 t126] 33 (0, 0))) := ⟨by (with_reducible repeat (first | refine bN_ _ ?_ | refine bd_ ?_ | refine ba_ _ ?_)); refine blk_far ?_ NB128_133.out _; (with_reducible repeat (first | refine bN_ _ ?_ | refine bd_ ?_ | refine ba_ _ ?_)); refine blk_far ?_ NB128_133.out _; (with_reducible repeat (first | refine bN_ _ ?_ | refine bd_ ?_ | refine ba_ _ ?_)); refine blk_far ?_ NB128_133.out _; (with_reducible repeat (first | refine bN_ _ ?_ | refine bd_ ?_ | refine ba_ _ ?_)); exact BK128.out⟩
          have n5_ : Aside0 ((((w53.setCell ⟨gb133, 0, none⟩ (.bool t129)).setCell ⟨gb133, 1, none⟩ (.int .u64 t130)).setCell ⟨gb133, 2, none⟩ (.int .u64 t131)).heap[gb133]? = some (.cells #[.bool t129, .int .u64 t130, .int .u64 t131] 33 (0, 0))) := ⟨by (with_reducible repeat (first | refine bN_ _ ?_ | refine bd_ ?_ | refine ba_ _ ?_)); refine blk_put (cs := #[.bool t129, .int .u64 t130, .int .u64 0]) ?_ 2 _ rfl; (with_reducible repeat (first | refine bN_ _ ?_ | refine bd_ ?_ | refine ba_ _ ?_)); refine blk_put (cs := #[.bool t129, .int .u64 0, .int .u64 0]) ?_ 1 _ rfl; (with_reducible repeat (first | refine bN_ _ ?_ | refine bd_ ?_ | refine ba_ _ ?_)); refine blk_put (cs := #[.bool false, .int .u64 0, .int .u64 0]) ?_ 0 _ rfl; (with_reducible repeat (first | refine bN_ _ ?_ | refine bd_ ?_ | refine ba_ _ ?_)); exact BK133.out⟩
          have n6_ : Aside0 (Below w.heap.size w (((w53.setCell ⟨gb133, 0, none⟩ (.bool t129)).setCell ⟨gb133, 1, none⟩ (.int .u64 t130)).setCell ⟨gb133, 2, none⟩ (.int .u64 t131))) := ⟨by repeat (first | (with_reducible first | exact HB.out | apply below_alloc | apply pw_below_drewN | apply below_drew1 | refine below_set ?_ GE118.out | refine below_set ?_ GE119.out | refine below_set ?_ GE120.out | refine below_set ?_ GE121.out | refine below_set ?_ GE128.out | refine below_set ?_ GE133.out) | exact HB.out)⟩
          (try clear BK118)
          (try clear BK119)
          (try clear BK120)
          (try clear BK121)
          (try clear BK128)
          (try clear BK133)
          (try clear HB)
          generalize (((w53.setCell ⟨gb133, 0, none⟩ (.bool t129)).setCell ⟨gb133, 1, none⟩ (.int .u64 t130)).setCell ⟨gb133, 2, none⟩ (.int .u64 t131)) = w60 at n0_ n1_ n2_ n3_ n4_ n5_ n6_ ⊢
          have BK118 := n0_
          have BK119 := n1_
          have BK120 := n2_
          have BK121 := n3_
          have BK128 := n4_
          have BK133 := n5_
          have HB := n6_
          clear n0_ n1_ n2_ n3_ n4_ n5_ n6_
          have n0_ := Aside0.mk (blk_drew BK118.out)
          have n1_ := Aside0.mk (blk_drew BK119.out)
          have n2_ := Aside0.mk (blk_drew BK120.out)
          have n3_ := Aside0.mk (blk_drew BK121.out)
          have n4_ := Aside0.mk (blk_drew BK128.out)
          have n5_ := Aside0.mk (blk_drew BK133.out)
          have n6_ := Aside0.mk (below_drew1 HB.out)
          clear BK118
          clear BK119
          clear BK120
          clear BK121
          clear BK128
          clear BK133
          clear HB
          have BK118 := n0_
          have BK119 := n1_
          have BK120 := n2_
          have BK121 := n3_
          have BK128 := n4_
          have BK133 := n5_
          have HB := n6_
          clear n0_ n1_ n2_ n3_ n4_ n5_ n6_
          refine start_ (n := 9) (S := fun w' => w'.cell? ⟨gb128, 0, none⟩ = some (.bool t124) ∧ w'.cell? ⟨gb128, 1, none⟩ = some (.int .u64 t125) ∧ w'.cell? ⟨gb128, 2, none⟩ = some (.int .u64 t126) ∧ w'.cell? ⟨gb133, 0, none⟩ = some (.bool t129) ∧ w'.cell? ⟨gb133, 1, none⟩ = some (.int .u64 t130) ∧ w'.cell? ⟨gb133, 2, none⟩ = some (.int .u64 t131)) (ds := []) #[false, false, false, false, false, false, false, false, false] (by kernel_rfl) rfl rfl ⟨bc_, bc_, bc_, bc_, bc_, bc_⟩ (fun hHeld => ?_); refine with_tabW spec_l5Cross.tab5 spec_l5Cross.bits5 (fun HT_ HW_ => ?_)
          generalize w60.drew = w61 at BK118 BK119 BK120 BK121 BK128 BK133 HB hHeld ⊢
          refine pure_ (i := 2) (N := some 39) (v := ?_) (a' := ?_) #[false, false, true, false, false, false, false, false, false] rfl rfl (any_of HT_.out (by kernel_rfl)) (fun _ _ _ h => h) (Or.inl ⟨by rfl, ?_⟩) ?_ ?_
          rotate_left
          · intro w'
            go_simp
            with_reducible rfl
          rotate_left
          · simp only [Act.put, la_, lb_, lc_, i64_w, i32_w]
            rfl
          refine pure_ (i := 3) (N := some 40) (v := ?_) (a' := ?_) #[false, false, true, true, false, false, false, false, false] rfl rfl (any_of HT_.out (by kernel_rfl)) (fun _ _ _ h => h) (Or.inl ⟨by rfl, ?_⟩) ?_ ?_
          rotate_left
          · intro w'
            go_simp
            with_reducible rfl
          rotate_left
          · simp only [Act.put, la_, lb_, lc_, i64_w, i32_w]
            rfl
          refine pure_ (i := 4) (N := some 41) (v := ?_) (a' := ?_) #[false, false, true, true, true, false, false, false, false] rfl rfl (any_of HT_.out (by kernel_rfl)) (fun _ _ _ h => h) (Or.inl ⟨by rfl, ?_⟩) ?_ ?_
          rotate_left
          · intro w'
            go_simp
            with_reducible rfl
          rotate_left
          · simp only [Act.put, la_, lb_, lc_, i64_w, i32_w]
            rfl
          refine pure_ (i := 5) (N := some 42) (v := ?_) (a' := ?_) #[false, false, true, true, true, true, false, false, false] rfl rfl (any_of HT_.out (by kernel_rfl)) (fun _ _ _ h => h) (Or.inl ⟨by rfl, ?_⟩) ?_ ?_
          rotate_left
          · intro w'
            go_simp
            with_reducible rfl
          rotate_left
          · simp only [Act.put, la_, lb_, lc_, i64_w, i32_w]
            rfl
          refine take_ (i := 0) (N := some 37) (v := ?_) (a' := ?_) #[true, false, true, true, true, true, false, false, false] rfl rfl (take_ofW HT_.out HW_.out (by kernel_rfl)) (fun _ _ _ h => h) (Or.inl ⟨by rfl, ?_⟩) hHeld ?_ ?_
          rotate_left
          · rintro w' ⟨s0, s1, s2, s3, s4, s5⟩
            go_simp
            with_reducible rfl
          rotate_left
          · simp only [Act.put, la_, lb_, lc_, i64_w, i32_w]
            rfl
          refine take_ (i := 1) (N := some 38) (v := ?_) (a' := ?_) #[true, true, true, true, true, true, false, false, false] rfl rfl (take_ofW HT_.out HW_.out (by kernel_rfl)) (fun _ _ _ h => h) (Or.inl ⟨by rfl, ?_⟩) hHeld ?_ ?_
          rotate_left
          · rintro w' ⟨s0, s1, s2, s3, s4, s5⟩
            go_simp
            with_reducible rfl
          rotate_left
          · simp only [Act.put, la_, lb_, lc_, i64_w, i32_w]
            rfl
          refine one_ (i := 6) (N := none) #[true, true, true, true, true, true, true, false, false] rfl rfl (one_of HT_.out (by kernel_rfl)) (by decide) (fun K hK => ?_)
          have hs62 : w61.cell? ⟨gb120, 0, none⟩ = some (.bool false) := (blk_cell BK120.out 0).trans rfl
          have hfs62 := blk_frozen BK120.out 0
          have hns62_0 := NB118_120.out
          have hns62_1 := NB119_120.out
          have hns62_3 := NB121_120.out
          have hns62_4 := NB128_120.out
          have hns62_5 := NB133_120.out
          have hms62_0 := NB120_118.out
          have hms62_1 := NB120_119.out
          have hms62_3 := NB120_121.out
          have hms62_4 := NB120_128.out
          have hms62_5 := NB120_133.out
          have hs63 : w61.cell? ⟨gb120, 1, none⟩ = some (.int .u64 0) := (blk_cell BK120.out 1).trans rfl
          have hfs63 := blk_frozen BK120.out 1
          have hns63_0 := NB118_120.out
          have hns63_1 := NB119_120.out
          have hns63_3 := NB121_120.out
          have hns63_4 := NB128_120.out
          have hns63_5 := NB133_120.out
          have hms63_0 := NB120_118.out
          have hms63_1 := NB120_119.out
          have hms63_3 := NB120_121.out
          have hms63_4 := NB120_128.out
          have hms63_5 := NB120_133.out
          have hs64 : w61.cell? ⟨gb120, 2, none⟩ = some (.int .u64 0) := (blk_cell BK120.out 2).trans rfl
          have hfs64 := blk_frozen BK120.out 2
          have hns64_0 := NB118_120.out
          have hns64_1 := NB119_120.out
          have hns64_3 := NB121_120.out
          have hns64_4 := NB128_120.out
          have hns64_5 := NB133_120.out
          have hms64_0 := NB120_118.out
          have hms64_1 := NB120_119.out
          have hms64_3 := NB120_121.out
          have hms64_4 := NB120_128.out
          have hms64_5 := NB120_133.out
          refine skip_ (w1 := ?_) (by rfl) rfl ?_ ?_
          rotate_left
          · go_simp
            rfl
          refine hK.out _ _ ⟨((cell_far (p := ⟨gb120, _, none⟩) NB128_120.out _).trans (((cell_far (p := ⟨gb120, _, none⟩) NB128_120.out _).trans (((cell_far (p := ⟨gb120, _, none⟩) NB128_120.out _).trans (hHeld.1)))))), ((cell_far (p := ⟨gb120, _, none⟩) NB128_120.out _).trans (((cell_far (p := ⟨gb120, _, none⟩) NB128_120.out _).trans (((cell_far (p := ⟨gb120, _, none⟩) NB128_120.out _).trans (hHeld.2.1)))))), ((cell_far (p := ⟨gb120, _, none⟩) NB128_120.out _).trans (((cell_far (p := ⟨gb120, _, none⟩) NB128_120.out _).trans (((cell_far (p := ⟨gb120, _, none⟩) NB128_120.out _).trans (hHeld.2.2.1)))))), ((cell_far (p := ⟨gb120, _, none⟩) NB133_120.out _).trans (((cell_far (p := ⟨gb120, _, none⟩) NB133_120.out _).trans (((cell_far (p := ⟨gb120, _, none⟩) NB133_120.out _).trans (hHeld.2.2.2.1)))))), ((cell_far (p := ⟨gb120, _, none⟩) NB133_120.out _).trans (((cell_far (p := ⟨gb120, _, none⟩) NB133_120.out _).trans (((cell_far (p := ⟨gb120, _, none⟩) NB133_120.out _).trans (hHeld.2.2.2.2.1)))))), ((cell_far (p := ⟨gb120, _, none⟩) NB133_120.out _).trans (((cell_far (p := ⟨gb120, _, none⟩) NB133_120.out _).trans (((cell_far (p := ⟨gb120, _, none⟩) NB133_120.out _).trans (hHeld.2.2.2.2.2))))))⟩ (fun hHeld => ?_)
          clear hK K
          refine one_ (i := 7) (N := none) #[true, true, true, true, true, true, true, true, false] rfl rfl (one_of HT_.out (by kernel_rfl)) (by decide) (fun K hK => ?_)
          have hs65 : w61.cell? ⟨gb121, 0, none⟩ = some (.bool false) := (blk_cell BK121.out 0).trans rfl
          have hfs65 := blk_frozen BK121.out 0
          have hns65_0 := NB118_121.out
          have hns65_1 := NB119_121.out
          have hns65_2 := NB120_121.out
          have hns65_4 := NB128_121.out
          have hns65_5 := NB133_121.out
          have hms65_0 := NB121_118.out
          have hms65_1 := NB121_119.out
          have hms65_2 := NB121_120.out
          have hms65_4 := NB121_128.out
          have hms65_5 := NB121_133.out
          have hs66 : w61.cell? ⟨gb121, 1, none⟩ = some (.int .u64 0) := (blk_cell BK121.out 1).trans rfl
          have hfs66 := blk_frozen BK121.out 1
          have hns66_0 := NB118_121.out
          have hns66_1 := NB119_121.out
          have hns66_2 := NB120_121.out
          have hns66_4 := NB128_121.out
          have hns66_5 := NB133_121.out
          have hms66_0 := NB121_118.out
          have hms66_1 := NB121_119.out
          have hms66_2 := NB121_120.out
          have hms66_4 := NB121_128.out
          have hms66_5 := NB121_133.out
          have hs67 : w61.cell? ⟨gb121, 2, none⟩ = some (.int .u64 0) := (blk_cell BK121.out 2).trans rfl
          have hfs67 := blk_frozen BK121.out 2
          have hns67_0 := NB118_121.out
          have hns67_1 := NB119_121.out
          have hns67_2 := NB120_121.out
          have hns67_4 := NB128_121.out
          have hns67_5 := NB133_121.out
          have hms67_0 := NB121_118.out
          have hms67_1 := NB121_119.out
          have hms67_2 := NB121_120.out
          have hms67_4 := NB121_128.out
          have hms67_5 := NB121_133.out
          refine skip_ (w1 := ?_) (by rfl) rfl ?_ ?_
          rotate_left
          · go_simp
            rfl
          refine hK.out _ _ ⟨((cell_far (p := ⟨gb121, _, none⟩) NB128_121.out _).trans (((cell_far (p := ⟨gb121, _, none⟩) NB128_121.out _).trans (((cell_far (p := ⟨gb121, _, none⟩) NB128_121.out _).trans (hHeld.1)))))), ((cell_far (p := ⟨gb121, _, none⟩) NB128_121.out _).trans (((cell_far (p := ⟨gb121, _, none⟩) NB128_121.out _).trans (((cell_far (p := ⟨gb121, _, none⟩) NB128_121.out _).trans (hHeld.2.1)))))), ((cell_far (p := ⟨gb121, _, none⟩) NB128_121.out _).trans (((cell_far (p := ⟨gb121, _, none⟩) NB128_121.out _).trans (((cell_far (p := ⟨gb121, _, none⟩) NB128_121.out _).trans (hHeld.2.2.1)))))), ((cell_far (p := ⟨gb121, _, none⟩) NB133_121.out _).trans (((cell_far (p := ⟨gb121, _, none⟩) NB133_121.out _).trans (((cell_far (p := ⟨gb121, _, none⟩) NB133_121.out _).trans (hHeld.2.2.2.1)))))), ((cell_far (p := ⟨gb121, _, none⟩) NB133_121.out _).trans (((cell_far (p := ⟨gb121, _, none⟩) NB133_121.out _).trans (((cell_far (p := ⟨gb121, _, none⟩) NB133_121.out _).trans (hHeld.2.2.2.2.1)))))), ((cell_far (p := ⟨gb121, _, none⟩) NB133_121.out _).trans (((cell_far (p := ⟨gb121, _, none⟩) NB133_121.out _).trans (((cell_far (p := ⟨gb121, _, none⟩) NB133_121.out _).trans (hHeld.2.2.2.2.2))))))⟩ (fun hHeld => ?_)
          clear hK K
          refine pure_ (i := 8) (N := some 6) (v := ?_) (a' := ?_) #[true, true, true, true, true, true, true, true, true] rfl rfl (any_of HT_.out (by kernel_rfl)) (fun _ _ _ h => h) (Or.inl ⟨by rfl, ?_⟩) ?_ ?_
          rotate_left
          · intro w'
            go_simp
            with_reducible rfl
          rotate_left
          · simp only [Act.put, la_, lb_, lc_, i64_w, i32_w]
            rfl
          refine done_ (done_of HT_.out (by kernel_rfl)) ?_
          try go_wp2
          refine bodyPost_ret (results_list (rs := [.cell 4 33, .cell 5 33, .tmp 6]) rfl (by simp) (.cell gb120 33 #[.bool t124, .int .u64 t125, .int .u64 t126] (0, 0) _ rfl (by (with_reducible repeat (first | refine bN_ _ ?_ | refine bd_ ?_ | refine ba_ _ ?_)); refine blk_far ?_ NB120_121.out _; (with_reducible repeat (first | refine bN_ _ ?_ | refine bd_ ?_ | refine ba_ _ ?_)); refine blk_far ?_ NB120_121.out _; (with_reducible repeat (first | refine bN_ _ ?_ | refine bd_ ?_ | refine ba_ _ ?_)); refine blk_far ?_ NB120_121.out _; (with_reducible repeat (first | refine bN_ _ ?_ | refine bd_ ?_ | refine ba_ _ ?_)); refine blk_put (cs := #[.bool t124, .int .u64 t125, .int .u64 0]) ?_ 2 _ rfl; (with_reducible repeat (first | refine bN_ _ ?_ | refine bd_ ?_ | refine ba_ _ ?_)); refine blk_put (cs := #[.bool t124, .int .u64 0, .int .u64 0]) ?_ 1 _ rfl; (with_reducible repeat (first | refine bN_ _ ?_ | refine bd_ ?_ | refine ba_ _ ?_)); refine blk_put (cs := #[.bool false, .int .u64 0, .int .u64 0]) ?_ 0 _ rfl; (with_reducible repeat (first | refine bN_ _ ?_ | refine bd_ ?_ | refine ba_ _ ?_)); exact BK120.out) Try.underlying33 rfl (by kernel_rfl) (.cell gb121 33 #[.bool t129, .int .u64 t130, .int .u64 t131] (0, 0) _ rfl (by (with_reducible repeat (first | refine bN_ _ ?_ | refine bd_ ?_ | refine ba_ _ ?_)); refine blk_put (cs := #[.bool t129, .int .u64 t130, .int .u64 0]) ?_ 2 _ rfl; (with_reducible repeat (first | refine bN_ _ ?_ | refine bd_ ?_ | refine ba_ _ ?_)); refine blk_put (cs := #[.bool t129, .int .u64 0, .int .u64 0]) ?_ 1 _ rfl; (with_reducible repeat (first | refine bN_ _ ?_ | refine bd_ ?_ | refine ba_ _ ?_)); refine blk_put (cs := #[.bool false, .int .u64 0, .int .u64 0]) ?_ 0 _ rfl; (with_reducible repeat (first | refine bN_ _ ?_ | refine bd_ ?_ | refine ba_ _ ?_)); refine blk_far ?_ NB121_120.out _; (with_reducible repeat (first | refine bN_ _ ?_ | refine bd_ ?_ | refine ba_ _ ?_)); refine blk_far ?_ NB121_120.out _; (with_reducible repeat (first | refine bN_ _ ?_ | refine bd_ ?_ | refine ba_ _ ?_)); refine blk_far ?_ NB121_120.out _; (with_reducible repeat (first | refine bN_ _ ?_ | refine bd_ ?_ | refine ba_ _ ?_)); exact BK121.out) Try.underlying33 rfl (by kernel_rfl) (.tmp .nil)))) rfl ?_
          exact ⟨by first | rfl | (simp [errW_none, errW_some] <;> rfl) | (simp [*, errW_none, errW_some] <;> rfl), by repeat (first | (with_reducible first | exact HB.out | apply below_alloc | apply pw_below_drewN | apply below_drew1 | refine below_set ?_ GE118.out | refine below_set ?_ GE119.out | refine below_set ?_ GE120.out | refine below_set ?_ GE121.out | refine below_set ?_ GE128.out | refine below_set ?_ GE133.out) | exact HB.out)⟩
        · replace c35 := Bool.eq_false_iff.mpr c35
          subst c35
          have H1 : (some (t124, t125, t126, t129, t130, t131, false)) = some (r1, r2, r3, r4, r5, r6, r7) := by rw [if_neg (show ¬ (false = true) by decide)] at H; exact H
          clear H
          have H := H1
          clear H1
          simp only [Option.some.injEq, Prod.mk.injEq] at H
          obtain ⟨rfl, rfl, rfl, rfl, rfl, rfl, rfl⟩ := H
          have hnb68 := NB118_119.out
          have hnc68 := NB119_118.out
          have hnb69 := NB118_120.out
          have hnc69 := NB120_118.out
          have hnb70 := NB118_121.out
          have hnc70 := NB121_118.out
          have hcz71_0 : wc.cell? ⟨gb118, 0, none⟩ = some (.bool a0_0) := bc_
          have hcz71_1 : wc.cell? ⟨gb118, 1, none⟩ = some (.int .u64 a0_1) := bc_
          have hcz71_2 : wc.cell? ⟨gb118, 2, none⟩ = some (.int .u64 a0_2) := bc_
          have hcz71_3 : wc.cell? ⟨gb118, 3, none⟩ = some (.int .i64 a0_3) := bc_
          have hfz71_0 := blk_frozen BK118.out 0
          have hfz71_1 := blk_frozen BK118.out 1
          have hfz71_2 := blk_frozen BK118.out 2
          have hfz71_3 := blk_frozen BK118.out 3
          have hnb72 := NB119_120.out
          have hnc72 := NB120_119.out
          have hnb73 := NB119_121.out
          have hnc73 := NB121_119.out
          have hcz74_0 : wc.cell? ⟨gb119, 0, none⟩ = some (.bool a1_0) := bc_
          have hcz74_1 : wc.cell? ⟨gb119, 1, none⟩ = some (.int .u64 a1_1) := bc_
          have hcz74_2 : wc.cell? ⟨gb119, 2, none⟩ = some (.int .u64 a1_2) := bc_
          have hcz74_3 : wc.cell? ⟨gb119, 3, none⟩ = some (.int .i64 a1_3) := bc_
          have hfz74_0 := blk_frozen BK119.out 0
          have hfz74_1 := blk_frozen BK119.out 1
          have hfz74_2 := blk_frozen BK119.out 2
          have hfz74_3 := blk_frozen BK119.out 3
          try go_wp2_with (first | ((with_reducible refine gate_callee (f := 19) rfl ?_); refine goesL_ (some 26) rfl rfl Try.func19 (by kernel_rfl) rfl #[.agg #[.bool a0_0, .int .u64 a0_1, .int .u64 a0_2], .int .i64 a1_3] rfl mp_ ?_; (with_reducible refine (spec_ScaleWide.calls a0_0 a0_1 a0_2 a1_3 t124 t125 t126 false _ A33.out).mono ?_); rintro e w75 ⟨rfl, hb⟩; refine ⟨_, rfl, ?_⟩; have n0_ := bb_ (g := gb118) (o := .cells #[.bool a0_0, .int .u64 a0_1, .int .u64 a0_2, .int .i64 a0_3] 70 (0, 0)) hb; have n1_ := bb_ (g := gb119) (o := .cells #[.bool a1_0, .int .u64 a1_1, .int .u64 a1_2, .int .i64 a1_3] 70 (0, 0)) hb; have n2_ := bb_ (g := gb120) (o := .cells #[.bool false, .int .u64 0, .int .u64 0] 33 (0, 0)) hb; have n3_ := bb_ (g := gb121) (o := .cells #[.bool false, .int .u64 0, .int .u64 0] 33 (0, 0)) hb; have n4_ := Aside0.mk (below_step bel_ hb); clear BK118; clear BK119; clear BK120; clear BK121; clear HB; have BK118 := n0_; have BK119 := n1_; have BK120 := n2_; have BK121 := n3_; have HB := n4_; clear n0_ n1_ n2_ n3_ n4_; (try clear hb); (try clear hb2); (try clear hk); (try clear hi)) | ((with_reducible refine gate_dst (N := 7) rfl ?_); refine box_event ?hg (N := 7) ?hd (cs := #[.bool false, .int .u64 0, .int .u64 0]) (t := 33) ?hr ?_; (case hd => rfl); (case hg => rfl); (case hr => first | (go_simp; done) | (go_simp; rfl)); intro gb128 hg w76 hbox hb; have n0_ := bb_ (g := gb118) (o := .cells #[.bool a0_0, .int .u64 a0_1, .int .u64 a0_2, .int .i64 a0_3] 70 (0, 0)) hb; have n1_ := bb_ (g := gb119) (o := .cells #[.bool a1_0, .int .u64 a1_1, .int .u64 a1_2, .int .i64 a1_3] 70 (0, 0)) hb; have n2_ := bb_ (g := gb120) (o := .cells #[.bool false, .int .u64 0, .int .u64 0] 33 (0, 0)) hb; have n3_ := bb_ (g := gb121) (o := .cells #[.bool false, .int .u64 0, .int .u64 0] 33 (0, 0)) hb; have n4_ := Aside0.mk (below_step bel_ hb); have n5_ := Aside0.mk (hbox); have n6_ := Aside0.mk ((by rw [hg]; exact (below_size bel_) : w.heap.size ≤ gb128)); have n7_ := Aside0.mk ((by rw [hg]; exact (below_size bel_) : w.heap.size ≤ gb128)); have n8_ := nlt_ (g := gb118) (o := .cells #[.bool a0_0, .int .u64 a0_1, .int .u64 a0_2, .int .i64 a0_3] 70 (0, 0)) hg; have n9_ := ngt_ (g := gb118) (o := .cells #[.bool a0_0, .int .u64 a0_1, .int .u64 a0_2, .int .i64 a0_3] 70 (0, 0)) hg; have n10_ := nlt_ (g := gb119) (o := .cells #[.bool a1_0, .int .u64 a1_1, .int .u64 a1_2, .int .i64 a1_3] 70 (0, 0)) hg; have n11_ := ngt_ (g := gb119) (o := .cells #[.bool a1_0, .int .u64 a1_1, .int .u64 a1_2, .int .i64 a1_3] 70 (0, 0)) hg; have n12_ := nlt_ (g := gb120) (o := .cells #[.bool false, .int .u64 0, .int .u64 0] 33 (0, 0)) hg; have n13_ := ngt_ (g := gb120) (o := .cells #[.bool false, .int .u64 0, .int .u64 0] 33 (0, 0)) hg; have n14_ := nlt_ (g := gb121) (o := .cells #[.bool false, .int .u64 0, .int .u64 0] 33 (0, 0)) hg; have n15_ := ngt_ (g := gb121) (o := .cells #[.bool false, .int .u64 0, .int .u64 0] 33 (0, 0)) hg; clear BK118; clear BK119; clear BK120; clear BK121; clear HB; have BK118 := n0_; have BK119 := n1_; have BK120 := n2_; have BK121 := n3_; have HB := n4_; have BK128 := n5_; have GW128 := n6_; have GE128 := n7_; have NB118_128 := n8_; have NB128_118 := n9_; have NB119_128 := n10_; have NB128_119 := n11_; have NB120_128 := n12_; have NB128_120 := n13_; have NB121_128 := n14_; have NB128_121 := n15_; clear n0_ n1_ n2_ n3_ n4_ n5_ n6_ n7_ n8_ n9_ n10_ n11_ n12_ n13_ n14_ n15_; clear hb hbox hg; have hnb77 := NB128_118.out; have hnc77 := NB118_128.out; have hnb78 := NB128_119.out; have hnc78 := NB119_128.out; have hnb79 := NB128_120.out; have hnc79 := NB120_128.out; have hnb80 := NB128_121.out; have hnc80 := NB121_128.out; have hcz81_0 : w76.cell? ⟨gb128, 0, none⟩ = some (.bool false) := bc_; have hcz81_1 : w76.cell? ⟨gb128, 1, none⟩ = some (.int .u64 0) := bc_; have hcz81_2 : w76.cell? ⟨gb128, 2, none⟩ = some (.int .u64 0) := bc_; have hfz81_0 := blk_frozen BK128.out 0; have hfz81_1 := blk_frozen BK128.out 1; have hfz81_2 := blk_frozen BK128.out 2; have hcz82_0 : w76.cell? ⟨gb119, 0, none⟩ = some (.bool a1_0) := bc_; have hcz82_1 : w76.cell? ⟨gb119, 1, none⟩ = some (.int .u64 a1_1) := bc_; have hcz82_2 : w76.cell? ⟨gb119, 2, none⟩ = some (.int .u64 a1_2) := bc_; have hcz82_3 : w76.cell? ⟨gb119, 3, none⟩ = some (.int .i64 a1_3) := bc_; have hfz82_0 := blk_frozen BK119.out 0; have hfz82_1 := blk_frozen BK119.out 1; have hfz82_2 := blk_frozen BK119.out 2; have hfz82_3 := blk_frozen BK119.out 3; have hcz83_0 : w76.cell? ⟨gb118, 0, none⟩ = some (.bool a0_0) := bc_; have hcz83_1 : w76.cell? ⟨gb118, 1, none⟩ = some (.int .u64 a0_1) := bc_; have hcz83_2 : w76.cell? ⟨gb118, 2, none⟩ = some (.int .u64 a0_2) := bc_; have hcz83_3 : w76.cell? ⟨gb118, 3, none⟩ = some (.int .i64 a0_3) := bc_; have hfz83_0 := blk_frozen BK118.out 0; have hfz83_1 := blk_frozen BK118.out 1; have hfz83_2 := blk_frozen BK118.out 2; have hfz83_3 := blk_frozen BK118.out 3) | ((with_reducible refine gate_callee (f := 19) rfl ?_); refine goesL_ (some 34) rfl rfl Try.func19 (by kernel_rfl) rfl #[.agg #[.bool a1_0, .int .u64 a1_1, .int .u64 a1_2], .int .i64 a0_3] rfl mp_ ?_; (with_reducible refine (spec_ScaleWide.calls a1_0 a1_1 a1_2 a0_3 t129 t130 t131 t132 _ A34.out).mono ?_); rintro e w84 ⟨rfl, hb⟩; refine ⟨_, rfl, ?_⟩; have n0_ := Aside0.mk (blk_below (g := gb118) (o := .cells #[.bool a0_0, .int .u64 a0_1, .int .u64 a0_2, .int .i64 a0_3] 70 (0, 0)) (by (with_reducible repeat (first | refine bN_ _ ?_ | refine bd_ ?_ | refine ba_ _ ?_)); refine blk_far ?_ NB118_128.out _; (with_reducible repeat (first | refine bN_ _ ?_ | refine bd_ ?_ | refine ba_ _ ?_)); refine blk_far ?_ NB118_128.out _; (with_reducible repeat (first | refine bN_ _ ?_ | refine bd_ ?_ | refine ba_ _ ?_)); refine blk_far ?_ NB118_128.out _; (with_reducible repeat (first | refine bN_ _ ?_ | refine bd_ ?_ | refine ba_ _ ?_)); exact BK118.out) hb); have n1_ := Aside0.mk (blk_below (g := gb119) (o := .cells #[.bool a1_0, .int .u64 a1_1, .int .u64 a1_2, .int .i64 a1_3] 70 (0, 0)) (by (with_reducible repeat (first | refine bN_ _ ?_ | refine bd_ ?_ | refine ba_ _ ?_)); refine blk_far ?_ NB119_128.out _; (with_reducible repeat (first | refine bN_ _ ?_ | refine bd_ ?_ | refine ba_ _ ?_)); refine blk_far ?_ NB119_128.out _; (with_reducible repeat (first | refine bN_ _ ?_ | refine bd_ ?_ | refine ba_ _ ?_)); refine blk_far ?_ NB119_128.out _; (with_reducible repeat (first | refine bN_ _ ?_ | refine bd_ ?_ | refine ba_ _ ?_)); exact BK119.out) hb); have n2_ := Aside0.mk (blk_below (g := gb120) (o := .cells #[.bool false, .int .u64 0, .int .u64 0] 33 (0, 0)) (by (with_reducible repeat (first | refine bN_ _ ?_ | refine bd_ ?_ | refine ba_ _ ?_)); refine blk_far ?_ NB120_128.out _; (with_reducible repeat (first | refine bN_ _ ?_ | refine bd_ ?_ | refine ba_ _ ?_)); refine blk_far ?_ NB120_128.out _; (with_reducible repeat (first | refine bN_ _ ?_ | refine bd_ ?_ | refine ba_ _ ?_)); refine blk_far ?_ NB120_128.out _; (with_reducible repeat (first | refine bN_ _ ?_ | refine bd_ ?_ | refine ba_ _ ?_)); exact BK120.out) hb); have n3_ := Aside0.mk (blk_below (g := gb121) (o := .cells #[.bool false, .int .u64 0, .int .u64 0] 33 (0, 0)) (by (with_reducible repeat (first | refine bN_ _ ?_ | refine bd_ ?_ | refine ba_ _ ?_)); refine blk_far ?_ NB121_128.out _; (with_reducible repeat (first | refine bN_ _ ?_ | refine bd_ ?_ | refine ba_ _ ?_)); refine blk_far ?_ NB121_128.out _; (with_reducible repeat (first | refine bN_ _ ?_ | refine bd_ ?_ | refine ba_ _ ?_)); refine blk_far ?_ NB121_128.out _; (with_reducible repeat (first | refine bN_ _ ?_ | refine bd_ ?_ | refine ba_ _ ?_)); exact BK121.out) hb); have n4_ := Aside0.mk (blk_below (g := gb128) (o := .cells #[.bool t124, .int .u64 t125, .int .u64 t126] 33 (0, 0)) (by (with_reducible repeat (first | refine bN_ _ ?_ | refine bd_ ?_ | refine ba_ _ ?_)); refine blk_put (cs := #[.bool t124, .int .u64 t125, .int .u64 0]) ?_ 2 _ rfl; (with_reducible repeat (first | refine bN_ _ ?_ | refine bd_ ?_ | refine ba_ _ ?_)); refine blk_put (cs := #[.bool t124, .int .u64 0, .int .u64 0]) ?_ 1 _ rfl; (with_reducible repeat (first | refine bN_ _ ?_ | refine bd_ ?_ | refine ba_ _ ?_)); refine blk_put (cs := #[.bool false, .int .u64 0, .int .u64 0]) ?_ 0 _ rfl; (with_reducible repeat (first | refine bN_ _ ?_ | refine bd_ ?_ | refine ba_ _ ?_)); exact BK128.out) hb); have n5_ := Aside0.mk (below_step bel_ hb); clear BK118; clear BK119; clear BK120; clear BK121; clear BK128; clear HB; have BK118 := n0_; have BK119 := n1_; have BK120 := n2_; have BK121 := n3_; have BK128 := n4_; have HB := n5_; clear n0_ n1_ n2_ n3_ n4_ n5_; (try clear hb); (try clear hb2); (try clear hk); (try clear hi)) | ((with_reducible refine gate_dst (N := 9) rfl ?_); refine box_event ?hg (N := 9) ?hd (cs := #[.bool false, .int .u64 0, .int .u64 0]) (t := 33) ?hr ?_; (case hd => rfl); (case hg => rfl); (case hr => first | (go_simp; done) | (go_simp; rfl)); intro gb133 hg w85 hbox hb; have n0_ := bb_ (g := gb118) (o := .cells #[.bool a0_0, .int .u64 a0_1, .int .u64 a0_2, .int .i64 a0_3] 70 (0, 0)) hb; have n1_ := bb_ (g := gb119) (o := .cells #[.bool a1_0, .int .u64 a1_1, .int .u64 a1_2, .int .i64 a1_3] 70 (0, 0)) hb; have n2_ := bb_ (g := gb120) (o := .cells #[.bool false, .int .u64 0, .int .u64 0] 33 (0, 0)) hb; have n3_ := bb_ (g := gb121) (o := .cells #[.bool false, .int .u64 0, .int .u64 0] 33 (0, 0)) hb; have n4_ := bb_ (g := gb128) (o := .cells #[.bool t124, .int .u64 t125, .int .u64 t126] 33 (0, 0)) hb; have n5_ := Aside0.mk (below_step bel_ hb); have n6_ := Aside0.mk (hbox); have n7_ := Aside0.mk ((by rw [hg]; exact (below_size bel_) : w.heap.size ≤ gb133)); have n8_ := Aside0.mk ((by rw [hg]; exact (below_size bel_) : w.heap.size ≤ gb133)); have n9_ := nlt_ (g := gb118) (o := .cells #[.bool a0_0, .int .u64 a0_1, .int .u64 a0_2, .int .i64 a0_3] 70 (0, 0)) hg; have n10_ := ngt_ (g := gb118) (o := .cells #[.bool a0_0, .int .u64 a0_1, .int .u64 a0_2, .int .i64 a0_3] 70 (0, 0)) hg; have n11_ := nlt_ (g := gb119) (o := .cells #[.bool a1_0, .int .u64 a1_1, .int .u64 a1_2, .int .i64 a1_3] 70 (0, 0)) hg; have n12_ := ngt_ (g := gb119) (o := .cells #[.bool a1_0, .int .u64 a1_1, .int .u64 a1_2, .int .i64 a1_3] 70 (0, 0)) hg; have n13_ := nlt_ (g := gb120) (o := .cells #[.bool false, .int .u64 0, .int .u64 0] 33 (0, 0)) hg; have n14_ := ngt_ (g := gb120) (o := .cells #[.bool false, .int .u64 0, .int .u64 0] 33 (0, 0)) hg; have n15_ := nlt_ (g := gb121) (o := .cells #[.bool false, .int .u64 0, .int .u64 0] 33 (0, 0)) hg; have n16_ := ngt_ (g := gb121) (o := .cells #[.bool false, .int .u64 0, .int .u64 0] 33 (0, 0)) hg; have n17_ := nlt_ (g := gb128) (o := .cells #[.bool t124, .int .u64 t125, .int .u64 t126] 33 (0, 0)) hg; have n18_ := ngt_ (g := gb128) (o := .cells #[.bool t124, .int .u64 t125, .int .u64 t126] 33 (0, 0)) hg; clear BK118; clear BK119; clear BK120; clear BK121; clear BK128; clear HB; have BK118 := n0_; have BK119 := n1_; have BK120 := n2_; have BK121 := n3_; have BK128 := n4_; have HB := n5_; have BK133 := n6_; have GW133 := n7_; have GE133 := n8_; have NB118_133 := n9_; have NB133_118 := n10_; have NB119_133 := n11_; have NB133_119 := n12_; have NB120_133 := n13_; have NB133_120 := n14_; have NB121_133 := n15_; have NB133_121 := n16_; have NB128_133 := n17_; have NB133_128 := n18_; clear n0_ n1_ n2_ n3_ n4_ n5_ n6_ n7_ n8_ n9_ n10_ n11_ n12_ n13_ n14_ n15_ n16_ n17_ n18_; clear hb hbox hg; have hnb86 := NB133_118.out; have hnc86 := NB118_133.out; have hnb87 := NB133_119.out; have hnc87 := NB119_133.out; have hnb88 := NB133_120.out; have hnc88 := NB120_133.out; have hnb89 := NB133_121.out; have hnc89 := NB121_133.out; have hnb90 := NB133_128.out; have hnc90 := NB128_133.out; have hcz91_0 : w85.cell? ⟨gb133, 0, none⟩ = some (.bool false) := bc_; have hcz91_1 : w85.cell? ⟨gb133, 1, none⟩ = some (.int .u64 0) := bc_; have hcz91_2 : w85.cell? ⟨gb133, 2, none⟩ = some (.int .u64 0) := bc_; have hfz91_0 := blk_frozen BK133.out 0; have hfz91_1 := blk_frozen BK133.out 1; have hfz91_2 := blk_frozen BK133.out 2))
          have n0_ : Aside0 ((((w85.setCell ⟨gb133, 0, none⟩ (.bool t129)).setCell ⟨gb133, 1, none⟩ (.int .u64 t130)).setCell ⟨gb133, 2, none⟩ (.int .u64 t131)).heap[gb118]? = some (.cells #[.bool a0_0, .int .u64 a0_1, .int .u64 a0_2, .int .i64 a0_3] 70 (0, 0))) := ⟨by (with_reducible repeat (first | refine bN_ _ ?_ | refine bd_ ?_ | refine ba_ _ ?_)); refine blk_far ?_ NB118_133.out _; (with_reducible repeat (first | refine bN_ _ ?_ | refine bd_ ?_ | refine ba_ _ ?_)); refine blk_far ?_ NB118_133.out _; (with_reducible repeat (first | refine bN_ _ ?_ | refine bd_ ?_ | refine ba_ _ ?_)); refine blk_far ?_ NB118_133.out _; (with_reducible repeat (first | refine bN_ _ ?_ | refine bd_ ?_ | refine ba_ _ ?_)); exact BK118.out⟩
          have n1_ : Aside0 ((((w85.setCell ⟨gb133, 0, none⟩ (.bool t129)).setCell ⟨gb133, 1, none⟩ (.int .u64 t130)).setCell ⟨gb133, 2, none⟩ (.int .u64 t131)).heap[gb119]? = some (.cells #[.bool a1_0, .int .u64 a1_1, .int .u64 a1_2, .int .i64 a1_3] 70 (0, 0))) := ⟨by (with_reducible repeat (first | refine bN_ _ ?_ | refine bd_ ?_ | refine ba_ _ ?_)); refine blk_far ?_ NB119_133.out _; (with_reducible repeat (first | refine bN_ _ ?_ | refine bd_ ?_ | refine ba_ _ ?_)); refine blk_far ?_ NB119_133.out _; (with_reducible repeat (first | refine bN_ _ ?_ | refine bd_ ?_ | refine ba_ _ ?_)); refine blk_far ?_ NB119_133.out _; (with_reducible repeat (first | refine bN_ _ ?_ | refine bd_ ?_ | refine ba_ _ ?_)); exact BK119.out⟩
          have n2_ : Aside0 ((((w85.setCell ⟨gb133, 0, none⟩ (.bool t129)).setCell ⟨gb133, 1, none⟩ (.int .u64 t130)).setCell ⟨gb133, 2, none⟩ (.int .u64 t131)).heap[gb120]? = some (.cells #[.bool false, .int .u64 0, .int .u64 0] 33 (0, 0))) := ⟨by (with_reducible repeat (first | refine bN_ _ ?_ | refine bd_ ?_ | refine ba_ _ ?_)); refine blk_far ?_ NB120_133.out _; (with_reducible repeat (first | refine bN_ _ ?_ | refine bd_ ?_ | refine ba_ _ ?_)); refine blk_far ?_ NB120_133.out _; (with_reducible repeat (first | refine bN_ _ ?_ | refine bd_ ?_ | refine ba_ _ ?_)); refine blk_far ?_ NB120_133.out _; (with_reducible repeat (first | refine bN_ _ ?_ | refine bd_ ?_ | refine ba_ _ ?_)); exact BK120.out⟩
          have n3_ : Aside0 ((((w85.setCell ⟨gb133, 0, none⟩ (.bool t129)).setCell ⟨gb133, 1, none⟩ (.int .u64 t130)).setCell ⟨gb133, 2, none⟩ (.int .u64 t131)).heap[gb121]? = some (.cells #[.bool false, .int .u64 0, .int .u64 0] 33 (0, 0))) := ⟨by (with_reducible repeat (first | refine bN_ _ ?_ | refine bd_ ?_ | refine ba_ _ ?_)); refine blk_far ?_ NB121_133.out _; (with_reducible repeat (first | refine bN_ _ ?_ | refine bd_ ?_ | refine ba_ _ ?_)); refine blk_far ?_ NB121_133.out _; (with_reducible repeat (first | refine bN_ _ ?_ | refine bd_ ?_ | refine ba_ _ ?_)); refine blk_far ?_ NB121_133.out _; (with_reducible repeat (first | refine bN_ _ ?_ | refine bd_ ?_ | refine ba_ _ ?_)); exact BK121.out⟩
          have n4_ : Aside0 ((((w85.setCell ⟨gb133, 0, none⟩ (.bool t129)).setCell ⟨gb133, 1, none⟩ (.int .u64 t130)).setCell ⟨gb133, 2, none⟩ (.int .u64 t131)).heap[gb128]? = some (.cells #[.bool t124, .int .u64 t125, .int .u64 t126] 33 (0, 0))) := ⟨by (with_reducible repeat (first | refine bN_ _ ?_ | refine bd_ ?_ | refine ba_ _ ?_)); refine blk_far ?_ NB128_133.out _; (with_reducible repeat (first | refine bN_ _ ?_ | refine bd_ ?_ | refine ba_ _ ?_)); refine blk_far ?_ NB128_133.out _; (with_reducible repeat (first | refine bN_ _ ?_ | refine bd_ ?_ | refine ba_ _ ?_)); refine blk_far ?_ NB128_133.out _; (with_reducible repeat (first | refine bN_ _ ?_ | refine bd_ ?_ | refine ba_ _ ?_)); exact BK128.out⟩
          have n5_ : Aside0 ((((w85.setCell ⟨gb133, 0, none⟩ (.bool t129)).setCell ⟨gb133, 1, none⟩ (.int .u64 t130)).setCell ⟨gb133, 2, none⟩ (.int .u64 t131)).heap[gb133]? = some (.cells #[.bool t129, .int .u64 t130, .int .u64 t131] 33 (0, 0))) := ⟨by (with_reducible repeat (first | refine bN_ _ ?_ | refine bd_ ?_ | refine ba_ _ ?_)); refine blk_put (cs := #[.bool t129, .int .u64 t130, .int .u64 0]) ?_ 2 _ rfl; (with_reducible repeat (first | refine bN_ _ ?_ | refine bd_ ?_ | refine ba_ _ ?_)); refine blk_put (cs := #[.bool t129, .int .u64 0, .int .u64 0]) ?_ 1 _ rfl; (with_reducible repeat (first | refine bN_ _ ?_ | refine bd_ ?_ | refine ba_ _ ?_)); refine blk_put (cs := #[.bool false, .int .u64 0, .int .u64 0]) ?_ 0 _ rfl; (with_reducible repeat (first | refine bN_ _ ?_ | refine bd_ ?_ | refine ba_ _ ?_)); exact BK133.out⟩
          have n6_ : Aside0 (Below w.heap.size w (((w85.setCell ⟨gb133, 0, none⟩ (.bool t129)).setCell ⟨gb133, 1, none⟩ (.int .u64 t130)).setCell ⟨gb133, 2, none⟩ (.int .u64 t131))) := ⟨by repeat (first | (with_reducible first | exact HB.out | apply below_alloc | apply pw_below_drewN | apply below_drew1 | refine below_set ?_ GE118.out | refine below_set ?_ GE119.out | refine below_set ?_ GE120.out | refine below_set ?_ GE121.out | refine below_set ?_ GE128.out | refine below_set ?_ GE133.out) | exact HB.out)⟩
          (try clear BK118)
          (try clear BK119)
          (try clear BK120)
          (try clear BK121)
          (try clear BK128)
          (try clear BK133)
          (try clear HB)
          generalize (((w85.setCell ⟨gb133, 0, none⟩ (.bool t129)).setCell ⟨gb133, 1, none⟩ (.int .u64 t130)).setCell ⟨gb133, 2, none⟩ (.int .u64 t131)) = w92 at n0_ n1_ n2_ n3_ n4_ n5_ n6_ ⊢
          have BK118 := n0_
          have BK119 := n1_
          have BK120 := n2_
          have BK121 := n3_
          have BK128 := n4_
          have BK133 := n5_
          have HB := n6_
          clear n0_ n1_ n2_ n3_ n4_ n5_ n6_
          have n0_ := Aside0.mk (blk_drew BK118.out)
          have n1_ := Aside0.mk (blk_drew BK119.out)
          have n2_ := Aside0.mk (blk_drew BK120.out)
          have n3_ := Aside0.mk (blk_drew BK121.out)
          have n4_ := Aside0.mk (blk_drew BK128.out)
          have n5_ := Aside0.mk (blk_drew BK133.out)
          have n6_ := Aside0.mk (below_drew1 HB.out)
          clear BK118
          clear BK119
          clear BK120
          clear BK121
          clear BK128
          clear BK133
          clear HB
          have BK118 := n0_
          have BK119 := n1_
          have BK120 := n2_
          have BK121 := n3_
          have BK128 := n4_
          have BK133 := n5_
          have HB := n6_
          clear n0_ n1_ n2_ n3_ n4_ n5_ n6_
          refine start_ (n := 9) (S := fun w' => w'.cell? ⟨gb128, 0, none⟩ = some (.bool t124) ∧ w'.cell? ⟨gb128, 1, none⟩ = some (.int .u64 t125) ∧ w'.cell? ⟨gb128, 2, none⟩ = some (.int .u64 t126) ∧ w'.cell? ⟨gb133, 0, none⟩ = some (.bool t129) ∧ w'.cell? ⟨gb133, 1, none⟩ = some (.int .u64 t130) ∧ w'.cell? ⟨gb133, 2, none⟩ = some (.int .u64 t131)) (ds := []) #[false, false, false, false, false, false, false, false, false] (by kernel_rfl) rfl rfl ⟨bc_, bc_, bc_, bc_, bc_, bc_⟩ (fun hHeld => ?_); refine with_tabW spec_l5Cross.tab5 spec_l5Cross.bits5 (fun HT_ HW_ => ?_)
          generalize w92.drew = w93 at BK118 BK119 BK120 BK121 BK128 BK133 HB hHeld ⊢
          refine pure_ (i := 2) (N := some 39) (v := ?_) (a' := ?_) #[false, false, true, false, false, false, false, false, false] rfl rfl (any_of HT_.out (by kernel_rfl)) (fun _ _ _ h => h) (Or.inl ⟨by rfl, ?_⟩) ?_ ?_
          rotate_left
          · intro w'
            go_simp
            with_reducible rfl
          rotate_left
          · simp only [Act.put, la_, lb_, lc_, i64_w, i32_w]
            rfl
          refine pure_ (i := 3) (N := some 40) (v := ?_) (a' := ?_) #[false, false, true, true, false, false, false, false, false] rfl rfl (any_of HT_.out (by kernel_rfl)) (fun _ _ _ h => h) (Or.inl ⟨by rfl, ?_⟩) ?_ ?_
          rotate_left
          · intro w'
            go_simp
            with_reducible rfl
          rotate_left
          · simp only [Act.put, la_, lb_, lc_, i64_w, i32_w]
            rfl
          refine pure_ (i := 4) (N := some 41) (v := undef) (a' := ?_) #[false, false, true, true, true, false, false, false, false] rfl rfl (any_of HT_.out (by kernel_rfl)) (fun _ _ _ h => h) (Or.inr ⟨by rfl, rfl⟩) ?_ ?_
          rotate_left
          · simp only [Act.put, la_, lb_, lc_, i64_w, i32_w]
            rfl
          refine pure_ (i := 5) (N := some 42) (v := ?_) (a' := ?_) #[false, false, true, true, true, true, false, false, false] rfl rfl (any_of HT_.out (by kernel_rfl)) (fun _ _ _ h => h) (Or.inl ⟨by rfl, ?_⟩) ?_ ?_
          rotate_left
          · intro w'
            go_simp
            with_reducible rfl
          rotate_left
          · simp only [Act.put, la_, lb_, lc_, i64_w, i32_w]
            rfl
          refine take_ (i := 0) (N := some 37) (v := ?_) (a' := ?_) #[true, false, true, true, true, true, false, false, false] rfl rfl (take_ofW HT_.out HW_.out (by kernel_rfl)) (fun _ _ _ h => h) (Or.inl ⟨by rfl, ?_⟩) hHeld ?_ ?_
          rotate_left
          · rintro w' ⟨s0, s1, s2, s3, s4, s5⟩
            go_simp
            with_reducible rfl
          rotate_left
          · simp only [Act.put, la_, lb_, lc_, i64_w, i32_w]
            rfl
          refine take_ (i := 1) (N := some 38) (v := ?_) (a' := ?_) #[true, true, true, true, true, true, false, false, false] rfl rfl (take_ofW HT_.out HW_.out (by kernel_rfl)) (fun _ _ _ h => h) (Or.inl ⟨by rfl, ?_⟩) hHeld ?_ ?_
          rotate_left
          · rintro w' ⟨s0, s1, s2, s3, s4, s5⟩
            go_simp
            with_reducible rfl
          rotate_left
          · simp only [Act.put, la_, lb_, lc_, i64_w, i32_w]
            rfl
          refine one_ (i := 6) (N := none) #[true, true, true, true, true, true, true, false, false] rfl rfl (one_of HT_.out (by kernel_rfl)) (by decide) (fun K hK => ?_)
          have hs94 : w93.cell? ⟨gb120, 0, none⟩ = some (.bool false) := (blk_cell BK120.out 0).trans rfl
          have hfs94 := blk_frozen BK120.out 0
          have hns94_0 := NB118_120.out
          have hns94_1 := NB119_120.out
          have hns94_3 := NB121_120.out
          have hns94_4 := NB128_120.out
          have hns94_5 := NB133_120.out
          have hms94_0 := NB120_118.out
          have hms94_1 := NB120_119.out
          have hms94_3 := NB120_121.out
          have hms94_4 := NB120_128.out
          have hms94_5 := NB120_133.out
          have hs95 : w93.cell? ⟨gb120, 1, none⟩ = some (.int .u64 0) := (blk_cell BK120.out 1).trans rfl
          have hfs95 := blk_frozen BK120.out 1
          have hns95_0 := NB118_120.out
          have hns95_1 := NB119_120.out
          have hns95_3 := NB121_120.out
          have hns95_4 := NB128_120.out
          have hns95_5 := NB133_120.out
          have hms95_0 := NB120_118.out
          have hms95_1 := NB120_119.out
          have hms95_3 := NB120_121.out
          have hms95_4 := NB120_128.out
          have hms95_5 := NB120_133.out
          have hs96 : w93.cell? ⟨gb120, 2, none⟩ = some (.int .u64 0) := (blk_cell BK120.out 2).trans rfl
          have hfs96 := blk_frozen BK120.out 2
          have hns96_0 := NB118_120.out
          have hns96_1 := NB119_120.out
          have hns96_3 := NB121_120.out
          have hns96_4 := NB128_120.out
          have hns96_5 := NB133_120.out
          have hms96_0 := NB120_118.out
          have hms96_1 := NB120_119.out
          have hms96_3 := NB120_121.out
          have hms96_4 := NB120_128.out
          have hms96_5 := NB120_133.out
          refine skip_ (w1 := ?_) (by rfl) rfl ?_ ?_
          rotate_left
          · go_simp
            rfl
          refine hK.out _ _ ⟨((cell_far (p := ⟨gb120, _, none⟩) NB128_120.out _).trans (((cell_far (p := ⟨gb120, _, none⟩) NB128_120.out _).trans (((cell_far (p := ⟨gb120, _, none⟩) NB128_120.out _).trans (hHeld.1)))))), ((cell_far (p := ⟨gb120, _, none⟩) NB128_120.out _).trans (((cell_far (p := ⟨gb120, _, none⟩) NB128_120.out _).trans (((cell_far (p := ⟨gb120, _, none⟩) NB128_120.out _).trans (hHeld.2.1)))))), ((cell_far (p := ⟨gb120, _, none⟩) NB128_120.out _).trans (((cell_far (p := ⟨gb120, _, none⟩) NB128_120.out _).trans (((cell_far (p := ⟨gb120, _, none⟩) NB128_120.out _).trans (hHeld.2.2.1)))))), ((cell_far (p := ⟨gb120, _, none⟩) NB133_120.out _).trans (((cell_far (p := ⟨gb120, _, none⟩) NB133_120.out _).trans (((cell_far (p := ⟨gb120, _, none⟩) NB133_120.out _).trans (hHeld.2.2.2.1)))))), ((cell_far (p := ⟨gb120, _, none⟩) NB133_120.out _).trans (((cell_far (p := ⟨gb120, _, none⟩) NB133_120.out _).trans (((cell_far (p := ⟨gb120, _, none⟩) NB133_120.out _).trans (hHeld.2.2.2.2.1)))))), ((cell_far (p := ⟨gb120, _, none⟩) NB133_120.out _).trans (((cell_far (p := ⟨gb120, _, none⟩) NB133_120.out _).trans (((cell_far (p := ⟨gb120, _, none⟩) NB133_120.out _).trans (hHeld.2.2.2.2.2))))))⟩ (fun hHeld => ?_)
          clear hK K
          refine one_ (i := 7) (N := none) #[true, true, true, true, true, true, true, true, false] rfl rfl (one_of HT_.out (by kernel_rfl)) (by decide) (fun K hK => ?_)
          have hs97 : w93.cell? ⟨gb121, 0, none⟩ = some (.bool false) := (blk_cell BK121.out 0).trans rfl
          have hfs97 := blk_frozen BK121.out 0
          have hns97_0 := NB118_121.out
          have hns97_1 := NB119_121.out
          have hns97_2 := NB120_121.out
          have hns97_4 := NB128_121.out
          have hns97_5 := NB133_121.out
          have hms97_0 := NB121_118.out
          have hms97_1 := NB121_119.out
          have hms97_2 := NB121_120.out
          have hms97_4 := NB121_128.out
          have hms97_5 := NB121_133.out
          have hs98 : w93.cell? ⟨gb121, 1, none⟩ = some (.int .u64 0) := (blk_cell BK121.out 1).trans rfl
          have hfs98 := blk_frozen BK121.out 1
          have hns98_0 := NB118_121.out
          have hns98_1 := NB119_121.out
          have hns98_2 := NB120_121.out
          have hns98_4 := NB128_121.out
          have hns98_5 := NB133_121.out
          have hms98_0 := NB121_118.out
          have hms98_1 := NB121_119.out
          have hms98_2 := NB121_120.out
          have hms98_4 := NB121_128.out
          have hms98_5 := NB121_133.out
          have hs99 : w93.cell? ⟨gb121, 2, none⟩ = some (.int .u64 0) := (blk_cell BK121.out 2).trans rfl
          have hfs99 := blk_frozen BK121.out 2
          have hns99_0 := NB118_121.out
          have hns99_1 := NB119_121.out
          have hns99_2 := NB120_121.out
          have hns99_4 := NB128_121.out
          have hns99_5 := NB133_121.out
          have hms99_0 := NB121_118.out
          have hms99_1 := NB121_119.out
          have hms99_2 := NB121_120.out
          have hms99_4 := NB121_128.out
          have hms99_5 := NB121_133.out
          refine skip_ (w1 := ?_) (by rfl) rfl ?_ ?_
          rotate_left
          · go_simp
            rfl
          refine hK.out _ _ ⟨((cell_far (p := ⟨gb121, _, none⟩) NB128_121.out _).trans (((cell_far (p := ⟨gb121, _, none⟩) NB128_121.out _).trans (((cell_far (p := ⟨gb121, _, none⟩) NB128_121.out _).trans (hHeld.1)))))), ((cell_far (p := ⟨gb121, _, none⟩) NB128_121.out _).trans (((cell_far (p := ⟨gb121, _, none⟩) NB128_121.out _).trans (((cell_far (p := ⟨gb121, _, none⟩) NB128_121.out _).trans (hHeld.2.1)))))), ((cell_far (p := ⟨gb121, _, none⟩) NB128_121.out _).trans (((cell_far (p := ⟨gb121, _, none⟩) NB128_121.out _).trans (((cell_far (p := ⟨gb121, _, none⟩) NB128_121.out _).trans (hHeld.2.2.1)))))), ((cell_far (p := ⟨gb121, _, none⟩) NB133_121.out _).trans (((cell_far (p := ⟨gb121, _, none⟩) NB133_121.out _).trans (((cell_far (p := ⟨gb121, _, none⟩) NB133_121.out _).trans (hHeld.2.2.2.1)))))), ((cell_far (p := ⟨gb121, _, none⟩) NB133_121.out _).trans (((cell_far (p := ⟨gb121, _, none⟩) NB133_121.out _).trans (((cell_far (p := ⟨gb121, _, none⟩) NB133_121.out _).trans (hHeld.2.2.2.2.1)))))), ((cell_far (p := ⟨gb121, _, none⟩) NB133_121.out _).trans (((cell_far (p := ⟨gb121, _, none⟩) NB133_121.out _).trans (((cell_far (p := ⟨gb121, _, none⟩) NB133_121.out _).trans (hHeld.2.2.2.2.2))))))⟩ (fun hHeld => ?_)
          clear hK K
          refine pure_ (i := 8) (N := some 6) (v := ?_) (a' := ?_) #[true, true, true, true, true, true, true, true, true] rfl rfl (any_of HT_.out (by kernel_rfl)) (fun _ _ _ h => h) (Or.inl ⟨by rfl, ?_⟩) ?_ ?_
          rotate_left
          · intro w'
            go_simp
            with_reducible rfl
          rotate_left
          · simp only [Act.put, la_, lb_, lc_, i64_w, i32_w]
            rfl
          refine done_ (done_of HT_.out (by kernel_rfl)) ?_
          try go_wp2
          refine bodyPost_ret (results_list (rs := [.cell 4 33, .cell 5 33, .tmp 6]) rfl (by simp) (.cell gb120 33 #[.bool t124, .int .u64 t125, .int .u64 t126] (0, 0) _ rfl (by (with_reducible repeat (first | refine bN_ _ ?_ | refine bd_ ?_ | refine ba_ _ ?_)); refine blk_far ?_ NB120_121.out _; (with_reducible repeat (first | refine bN_ _ ?_ | refine bd_ ?_ | refine ba_ _ ?_)); refine blk_far ?_ NB120_121.out _; (with_reducible repeat (first | refine bN_ _ ?_ | refine bd_ ?_ | refine ba_ _ ?_)); refine blk_far ?_ NB120_121.out _; (with_reducible repeat (first | refine bN_ _ ?_ | refine bd_ ?_ | refine ba_ _ ?_)); refine blk_put (cs := #[.bool t124, .int .u64 t125, .int .u64 0]) ?_ 2 _ rfl; (with_reducible repeat (first | refine bN_ _ ?_ | refine bd_ ?_ | refine ba_ _ ?_)); refine blk_put (cs := #[.bool t124, .int .u64 0, .int .u64 0]) ?_ 1 _ rfl; (with_reducible repeat (first | refine bN_ _ ?_ | refine bd_ ?_ | refine ba_ _ ?_)); refine blk_put (cs := #[.bool false, .int .u64 0, .int .u64 0]) ?_ 0 _ rfl; (with_reducible repeat (first | refine bN_ _ ?_ | refine bd_ ?_ | refine ba_ _ ?_)); exact BK120.out) Try.underlying33 rfl (by kernel_rfl) (.cell gb121 33 #[.bool t129, .int .u64 t130, .int .u64 t131] (0, 0) _ rfl (by (with_reducible repeat (first | refine bN_ _ ?_ | refine bd_ ?_ | refine ba_ _ ?_)); refine blk_put (cs := #[.bool t129, .int .u64 t130, .int .u64 0]) ?_ 2 _ rfl; (with_reducible repeat (first | refine bN_ _ ?_ | refine bd_ ?_ | refine ba_ _ ?_)); refine blk_put (cs := #[.bool t129, .int .u64 0, .int .u64 0]) ?_ 1 _ rfl; (with_reducible repeat (first | refine bN_ _ ?_ | refine bd_ ?_ | refine ba_ _ ?_)); refine blk_put (cs := #[.bool false, .int .u64 0, .int .u64 0]) ?_ 0 _ rfl; (with_reducible repeat (first | refine bN_ _ ?_ | refine bd_ ?_ | refine ba_ _ ?_)); refine blk_far ?_ NB121_120.out _; (with_reducible repeat (first | refine bN_ _ ?_ | refine bd_ ?_ | refine ba_ _ ?_)); refine blk_far ?_ NB121_120.out _; (with_reducible repeat (first | refine bN_ _ ?_ | refine bd_ ?_ | refine ba_ _ ?_)); refine blk_far ?_ NB121_120.out _; (with_reducible repeat (first | refine bN_ _ ?_ | refine bd_ ?_ | refine ba_ _ ?_)); exact BK121.out) Try.underlying33 rfl (by kernel_rfl) (.tmp .nil)))) rfl ?_
          exact ⟨by first | rfl | (simp [errW_none, errW_some] <;> rfl) | (simp [*, errW_none, errW_some] <;> rfl), by repeat (first | (with_reducible first | exact HB.out | apply below_alloc | apply pw_below_drewN | apply below_drew1 | refine below_set ?_ GE118.out | refine below_set ?_ GE119.out | refine below_set ?_ GE120.out | refine below_set ?_ GE121.out | refine below_set ?_ GE128.out | refine below_set ?_ GE133.out) | exact HB.out)⟩

end Go.Proofs.Yteldfljjeofiaaa.PFnExactCompareFrac
