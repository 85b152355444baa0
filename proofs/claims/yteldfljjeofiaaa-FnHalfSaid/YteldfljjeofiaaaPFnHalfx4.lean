/- Contracts of Go functions, each with the Lean function that says what it computes: begun by the print, turned by this session. No condition beyond what each theorem states. -/
import Derived.Test.YteldfljjeofiaaaPFnHalfx0
import Derived.Test.YteldfljjeofiaaaPFnHalfx1
import Derived.Test.YteldfljjeofiaaaPFnHalfx2
import Derived.Test.YteldfljjeofiaaaPFnHalfx3
namespace Go.Proofs.Yteldfljjeofiaaa.PFnHalf
open Go.RowKit Go.Proofs.YteldfljjeofiaaaW.PrintWords Go.Proofs.YteldfljjeofiaaaW.PrintLast Go.Proofs.YteldfljjeofiaaaW.PrintMore
attribute [local go_sem] max2_int min2_int max_two min_two max_three min_three max_four min_four   -- for this text's walks alone
set_option linter.unusedVariables false
set_option linter.unusedSimpArgs false

/-! ### spec_NegWide: function 89 -/
def spec_NegWide.f (a0_0 : Bool) (a0_1 : Int) (a0_2 : Int) : Option (Bool × Int × Int) := (spec_WideOk.f a0_0 a0_1 a0_2).bind fun t178 => (if t178 = true then (if a0_1 = 0 then (if a0_2 = 0 then (some (a0_0, a0_1, a0_2)) else (some (!a0_0, a0_1, a0_2))) else (some (!a0_0, a0_1, a0_2))) else (some (a0_0, a0_1, a0_2)))
set_option maxHeartbeats 8000000 in
set_option maxRecDepth 100000 in
theorem spec_NegWide.calls (a0_0 : Bool) (a0_1 : Int) (a0_2 : Int) (r1 : Bool) (r2 : Int) (r3 : Int) (w : World) (h : spec_NegWide.f a0_0 a0_1 a0_2 = some (r1, r2, r3)) :
    Calls Try.prog 89 #[.agg #[.bool a0_0, .int .u64 a0_1, .int .u64 a0_2]] w fun e w' => e = .returned (.agg #[.bool r1, .int .u64 r2, .int .u64 r3]) ∧ Below w.heap.size w w' := by
  have hu33 := Try.underlying33
  have HB := Aside0.mk (Below.refl w.heap.size w)
  have H : ((spec_WideOk.f a0_0 a0_1 a0_2).bind fun t178 => (if t178 = true then (if a0_1 = 0 then (if a0_2 = 0 then (some (a0_0, a0_1, a0_2)) else (some (!a0_0, a0_1, a0_2))) else (some (!a0_0, a0_1, a0_2))) else (some (a0_0, a0_1, a0_2)))) = some (r1, r2, r3) := h
  clear h
  replace H := Option.bind_eq_some_iff.mp H
  obtain ⟨t178, A20, H⟩ := H
  replace H : (if t178 = true then (if a0_1 = 0 then (if a0_2 = 0 then (some (a0_0, a0_1, a0_2)) else (some (!a0_0, a0_1, a0_2))) else (some (!a0_0, a0_1, a0_2))) else (some (a0_0, a0_1, a0_2))) = some (r1, r2, r3) := H
  have A2 := Aside0.mk A20
  clear A20
  by_cases c3 : t178 = true
  · subst c3
    have H1 : (if a0_1 = 0 then (if a0_2 = 0 then (some (a0_0, a0_1, a0_2)) else (some (!a0_0, a0_1, a0_2))) else (some (!a0_0, a0_1, a0_2))) = some (r1, r2, r3) := by rw [if_pos rfl] at H; exact H
    clear H
    have H := H1
    clear H1
    by_cases c4 : a0_1 = 0
    · rw [if_pos c4] at H
      have c4b0 : (a0_1 == 0) = true := beq_iff_eq.mpr c4
      have c4b1 : (a0_1 != 0) = false := bne_eq_false_iff_eq.mpr c4
      clear c4
      by_cases c5 : a0_2 = 0
      · rw [if_pos c5] at H
        have c5b0 : (a0_2 == 0) = true := beq_iff_eq.mpr c5
        have c5b1 : (a0_2 != 0) = false := bne_eq_false_iff_eq.mpr c5
        clear c5
        simp only [Option.some.injEq, Prod.mk.injEq] at H
        obtain ⟨rfl, rfl, rfl⟩ := H
        go_enter Try.func89, Try.ntmps89
        go_wp2_with (first | ((with_reducible refine gate_dst (N := 1) rfl ?_); refine box_event ?hg (N := 1) ?hd (cs := #[.bool a0_0, .int .u64 a0_1, .int .u64 a0_2]) (t := 33) ?hr ?_; (case hd => rfl); (case hg => rfl); (case hr => first | (go_simp; done) | (go_simp; rfl)); intro gb176 hg w6 hbox hb; have n0_ := Aside0.mk (below_step bel_ hb); have n1_ := Aside0.mk (hbox); have n2_ := Aside0.mk ((by rw [hg]; exact (below_size bel_) : w.heap.size ≤ gb176)); have n3_ := Aside0.mk ((by rw [hg]; exact (below_size bel_) : w.heap.size ≤ gb176)); clear HB; have HB := n0_; have BK176 := n1_; have GW176 := n2_; have GE176 := n3_; clear n0_ n1_ n2_ n3_; clear hb hbox hg) | ((with_reducible refine gate_dst (N := 2) rfl ?_); refine box_event ?hg (N := 2) ?hd (cs := #[.bool false, .int .u64 0, .int .u64 0]) (t := 33) ?hr ?_; (case hd => rfl); (case hg => rfl); (case hr => first | (go_simp; done) | (go_simp; rfl)); intro gb177 hg w7 hbox hb; have n0_ := bb_ (g := gb176) (o := .cells #[.bool a0_0, .int .u64 a0_1, .int .u64 a0_2] 33 (0, 0)) hb; have n1_ := Aside0.mk (below_step bel_ hb); have n2_ := Aside0.mk (hbox); have n3_ := Aside0.mk ((by rw [hg]; exact (below_size bel_) : w.heap.size ≤ gb177)); have n4_ := Aside0.mk ((by rw [hg]; exact (below_size bel_) : w.heap.size ≤ gb177)); have n5_ := nlt_ (g := gb176) (o := .cells #[.bool a0_0, .int .u64 a0_1, .int .u64 a0_2] 33 (0, 0)) hg; have n6_ := ngt_ (g := gb176) (o := .cells #[.bool a0_0, .int .u64 a0_1, .int .u64 a0_2] 33 (0, 0)) hg; clear BK176; clear HB; have BK176 := n0_; have HB := n1_; have BK177 := n2_; have GW177 := n3_; have GE177 := n4_; have NB176_177 := n5_; have NB177_176 := n6_; clear n0_ n1_ n2_ n3_ n4_ n5_ n6_; clear hb hbox hg; have hnb8 := NB176_177.out; have hnc8 := NB177_176.out; have hcz9_0 : w7.cell? ⟨gb176, 0, none⟩ = some (.bool a0_0) := bc_; have hcz9_1 : w7.cell? ⟨gb176, 1, none⟩ = some (.int .u64 a0_1) := bc_; have hcz9_2 : w7.cell? ⟨gb176, 2, none⟩ = some (.int .u64 a0_2) := bc_; have hfz9_0 := blk_frozen BK176.out 0; have hfz9_1 := blk_frozen BK176.out 1; have hfz9_2 := blk_frozen BK176.out 2) | ((with_reducible refine gate_callee (f := 41) rfl ?_); refine goesL_ (some 4) rfl rfl Try.func41 (by kernel_rfl) rfl #[.agg #[.bool a0_0, .int .u64 a0_1, .int .u64 a0_2]] rfl mp_ ?_; (with_reducible refine (spec_WideOk.calls a0_0 a0_1 a0_2 true _ A2.out).mono ?_); rintro e w10 ⟨rfl, hb⟩; refine ⟨_, rfl, ?_⟩; have n0_ := bb_ (g := gb176) (o := .cells #[.bool a0_0, .int .u64 a0_1, .int .u64 a0_2] 33 (0, 0)) hb; have n1_ := bb_ (g := gb177) (o := .cells #[.bool false, .int .u64 0, .int .u64 0] 33 (0, 0)) hb; have n2_ := Aside0.mk (below_step bel_ hb); clear BK176; clear BK177; clear HB; have BK176 := n0_; have BK177 := n1_; have HB := n2_; clear n0_ n1_ n2_; (try clear hb); (try clear hb2); (try clear hk); (try clear hi); have hcz11_0 : w10.cell? ⟨gb176, 0, none⟩ = some (.bool a0_0) := bc_; have hcz11_1 : w10.cell? ⟨gb176, 1, none⟩ = some (.int .u64 a0_1) := bc_; have hcz11_2 : w10.cell? ⟨gb176, 2, none⟩ = some (.int .u64 a0_2) := bc_; have hfz11_0 := blk_frozen BK176.out 0; have hfz11_1 := blk_frozen BK176.out 1; have hfz11_2 := blk_frozen BK176.out 2; have hcz12_0 : w10.cell? ⟨gb177, 0, none⟩ = some (.bool false) := bc_; have hcz12_1 : w10.cell? ⟨gb177, 1, none⟩ = some (.int .u64 0) := bc_; have hcz12_2 : w10.cell? ⟨gb177, 2, none⟩ = some (.int .u64 0) := bc_; have hfz12_0 := blk_frozen BK177.out 0; have hfz12_1 := blk_frozen BK177.out 1; have hfz12_2 := blk_frozen BK177.out 2))
        refine bodyPost_ret (results_cell_row rfl _ _ gb177 33 #[.bool a0_0, .int .u64 a0_1, .int .u64 a0_2] (0, 0) _ rfl (by (with_reducible repeat (first | refine bN_ _ ?_ | refine bd_ ?_ | refine ba_ _ ?_)); refine blk_put (cs := #[.bool a0_0, .int .u64 a0_1, .int .u64 0]) ?_ 2 _ rfl; (with_reducible repeat (first | refine bN_ _ ?_ | refine bd_ ?_ | refine ba_ _ ?_)); refine blk_put (cs := #[.bool a0_0, .int .u64 0, .int .u64 0]) ?_ 1 _ rfl; (with_reducible repeat (first | refine bN_ _ ?_ | refine bd_ ?_ | refine ba_ _ ?_)); refine blk_put (cs := #[.bool false, .int .u64 0, .int .u64 0]) ?_ 0 _ rfl; (with_reducible repeat (first | refine bN_ _ ?_ | refine bd_ ?_ | refine ba_ _ ?_)); exact BK177.out) Try.underlying33 rfl (by kernel_rfl)) rfl ?_
        exact ⟨by first | rfl | (simp [errW_none, errW_some] <;> rfl) | (simp [*, errW_none, errW_some] <;> rfl), by repeat (first | (with_reducible first | exact HB.out | apply below_alloc | apply pw_below_drewN | apply below_drew1 | refine below_set ?_ GE176.out | refine below_set ?_ GE177.out) | exact HB.out)⟩
      · rw [if_neg c5] at H
        have c5b0 : (a0_2 == 0) = false := beq_eq_false_iff_ne.mpr c5
        have c5b1 : (a0_2 != 0) = true := bne_iff_ne.mpr c5
        simp only [Option.some.injEq, Prod.mk.injEq] at H
        obtain ⟨rfl, rfl, rfl⟩ := H
        go_enter Try.func89, Try.ntmps89
        go_wp2_with (first | ((with_reducible refine gate_dst (N := 1) rfl ?_); refine box_event ?hg (N := 1) ?hd (cs := #[.bool a0_0, .int .u64 a0_1, .int .u64 a0_2]) (t := 33) ?hr ?_; (case hd => rfl); (case hg => rfl); (case hr => first | (go_simp; done) | (go_simp; rfl)); intro gb176 hg w13 hbox hb; have n0_ := Aside0.mk (below_step bel_ hb); have n1_ := Aside0.mk (hbox); have n2_ := Aside0.mk ((by rw [hg]; exact (below_size bel_) : w.heap.size ≤ gb176)); have n3_ := Aside0.mk ((by rw [hg]; exact (below_size bel_) : w.heap.size ≤ gb176)); clear HB; have HB := n0_; have BK176 := n1_; have GW176 := n2_; have GE176 := n3_; clear n0_ n1_ n2_ n3_; clear hb hbox hg) | ((with_reducible refine gate_dst (N := 2) rfl ?_); refine box_event ?hg (N := 2) ?hd (cs := #[.bool false, .int .u64 0, .int .u64 0]) (t := 33) ?hr ?_; (case hd => rfl); (case hg => rfl); (case hr => first | (go_simp; done) | (go_simp; rfl)); intro gb177 hg w14 hbox hb; have n0_ := bb_ (g := gb176) (o := .cells #[.bool a0_0, .int .u64 a0_1, .int .u64 a0_2] 33 (0, 0)) hb; have n1_ := Aside0.mk (below_step bel_ hb); have n2_ := Aside0.mk (hbox); have n3_ := Aside0.mk ((by rw [hg]; exact (below_size bel_) : w.heap.size ≤ gb177)); have n4_ := Aside0.mk ((by rw [hg]; exact (below_size bel_) : w.heap.size ≤ gb177)); have n5_ := nlt_ (g := gb176) (o := .cells #[.bool a0_0, .int .u64 a0_1, .int .u64 a0_2] 33 (0, 0)) hg; have n6_ := ngt_ (g := gb176) (o := .cells #[.bool a0_0, .int .u64 a0_1, .int .u64 a0_2] 33 (0, 0)) hg; clear BK176; clear HB; have BK176 := n0_; have HB := n1_; have BK177 := n2_; have GW177 := n3_; have GE177 := n4_; have NB176_177 := n5_; have NB177_176 := n6_; clear n0_ n1_ n2_ n3_ n4_ n5_ n6_; clear hb hbox hg; have hnb15 := NB176_177.out; have hnc15 := NB177_176.out; have hcz16_0 : w14.cell? ⟨gb176, 0, none⟩ = some (.bool a0_0) := bc_; have hcz16_1 : w14.cell? ⟨gb176, 1, none⟩ = some (.int .u64 a0_1) := bc_; have hcz16_2 : w14.cell? ⟨gb176, 2, none⟩ = some (.int .u64 a0_2) := bc_; have hfz16_0 := blk_frozen BK176.out 0; have hfz16_1 := blk_frozen BK176.out 1; have hfz16_2 := blk_frozen BK176.out 2) | ((with_reducible refine gate_callee (f := 41) rfl ?_); refine goesL_ (some 4) rfl rfl Try.func41 (by kernel_rfl) rfl #[.agg #[.bool a0_0, .int .u64 a0_1, .int .u64 a0_2]] rfl mp_ ?_; (with_reducible refine (spec_WideOk.calls a0_0 a0_1 a0_2 true _ A2.out).mono ?_); rintro e w17 ⟨rfl, hb⟩; refine ⟨_, rfl, ?_⟩; have n0_ := bb_ (g := gb176) (o := .cells #[.bool a0_0, .int .u64 a0_1, .int .u64 a0_2] 33 (0, 0)) hb; have n1_ := bb_ (g := gb177) (o := .cells #[.bool false, .int .u64 0, .int .u64 0] 33 (0, 0)) hb; have n2_ := Aside0.mk (below_step bel_ hb); clear BK176; clear BK177; clear HB; have BK176 := n0_; have BK177 := n1_; have HB := n2_; clear n0_ n1_ n2_; (try clear hb); (try clear hb2); (try clear hk); (try clear hi); have hcz18_0 : w17.cell? ⟨gb176, 0, none⟩ = some (.bool a0_0) := bc_; have hcz18_1 : w17.cell? ⟨gb176, 1, none⟩ = some (.int .u64 a0_1) := bc_; have hcz18_2 : w17.cell? ⟨gb176, 2, none⟩ = some (.int .u64 a0_2) := bc_; have hfz18_0 := blk_frozen BK176.out 0; have hfz18_1 := blk_frozen BK176.out 1; have hfz18_2 := blk_frozen BK176.out 2; have hcz19_0 : w17.cell? ⟨gb177, 0, none⟩ = some (.bool false) := bc_; have hcz19_1 : w17.cell? ⟨gb177, 1, none⟩ = some (.int .u64 0) := bc_; have hcz19_2 : w17.cell? ⟨gb177, 2, none⟩ = some (.int .u64 0) := bc_; have hfz19_0 := blk_frozen BK177.out 0; have hfz19_1 := blk_frozen BK177.out 1; have hfz19_2 := blk_frozen BK177.out 2))
        refine bodyPost_ret (results_cell_row rfl _ _ gb177 33 #[.bool (!a0_0), .int .u64 a0_1, .int .u64 a0_2] (0, 0) _ rfl (by (with_reducible repeat (first | refine bN_ _ ?_ | refine bd_ ?_ | refine ba_ _ ?_)); refine blk_put (cs := #[.bool (!a0_0), .int .u64 a0_1, .int .u64 0]) ?_ 2 _ rfl; (with_reducible repeat (first | refine bN_ _ ?_ | refine bd_ ?_ | refine ba_ _ ?_)); refine blk_put (cs := #[.bool (!a0_0), .int .u64 0, .int .u64 0]) ?_ 1 _ rfl; (with_reducible repeat (first | refine bN_ _ ?_ | refine bd_ ?_ | refine ba_ _ ?_)); refine blk_put (cs := #[.bool false, .int .u64 0, .int .u64 0]) ?_ 0 _ rfl; (with_reducible repeat (first | refine bN_ _ ?_ | refine bd_ ?_ | refine ba_ _ ?_)); refine blk_far ?_ NB177_176.out _; (with_reducible repeat (first | refine bN_ _ ?_ | refine bd_ ?_ | refine ba_ _ ?_)); exact BK177.out) Try.underlying33 rfl (by kernel_rfl)) rfl ?_
        exact ⟨by first | rfl | (simp [errW_none, errW_some] <;> rfl) | (simp [*, errW_none, errW_some] <;> rfl), by repeat (first | (with_reducible first | exact HB.out | apply below_alloc | apply pw_below_drewN | apply below_drew1 | refine below_set ?_ GE176.out | refine below_set ?_ GE177.out) | exact HB.out)⟩
    · rw [if_neg c4] at H
      have c4b0 : (a0_1 == 0) = false := beq_eq_false_iff_ne.mpr c4
      have c4b1 : (a0_1 != 0) = true := bne_iff_ne.mpr c4
      simp only [Option.some.injEq, Prod.mk.injEq] at H
      obtain ⟨rfl, rfl, rfl⟩ := H
      go_enter Try.func89, Try.ntmps89
      go_wp2_with (first | ((with_reducible refine gate_dst (N := 1) rfl ?_); refine box_event ?hg (N := 1) ?hd (cs := #[.bool a0_0, .int .u64 a0_1, .int .u64 a0_2]) (t := 33) ?hr ?_; (case hd => rfl); (case hg => rfl); (case hr => first | (go_simp; done) | (go_simp; rfl)); intro gb176 hg w20 hbox hb; have n0_ := Aside0.mk (below_step bel_ hb); have n1_ := Aside0.mk (hbox); have n2_ := Aside0.mk ((by rw [hg]; exact (below_size bel_) : w.heap.size ≤ gb176)); have n3_ := Aside0.mk ((by rw [hg]; exact (below_size bel_) : w.heap.size ≤ gb176)); clear HB; have HB := n0_; have BK176 := n1_; have GW176 := n2_; have GE176 := n3_; clear n0_ n1_ n2_ n3_; clear hb hbox hg) | ((with_reducible refine gate_dst (N := 2) rfl ?_); refine box_event ?hg (N := 2) ?hd (cs := #[.bool false, .int .u64 0, .int .u64 0]) (t := 33) ?hr ?_; (case hd => rfl); (case hg => rfl); (case hr => first | (go_simp; done) | (go_simp; rfl)); intro gb177 hg w21 hbox hb; have n0_ := bb_ (g := gb176) (o := .cells #[.bool a0_0, .int .u64 a0_1, .int .u64 a0_2] 33 (0, 0)) hb; have n1_ := Aside0.mk (below_step bel_ hb); have n2_ := Aside0.mk (hbox); have n3_ := Aside0.mk ((by rw [hg]; exact (below_size bel_) : w.heap.size ≤ gb177)); have n4_ := Aside0.mk ((by rw [hg]; exact (below_size bel_) : w.heap.size ≤ gb177)); have n5_ := nlt_ (g := gb176) (o := .cells #[.bool a0_0, .int .u64 a0_1, .int .u64 a0_2] 33 (0, 0)) hg; have n6_ := ngt_ (g := gb176) (o := .cells #[.bool a0_0, .int .u64 a0_1, .int .u64 a0_2] 33 (0, 0)) hg; clear BK176; clear HB; have BK176 := n0_; have HB := n1_; have BK177 := n2_; have GW177 := n3_; have GE177 := n4_; have NB176_177 := n5_; have NB177_176 := n6_; clear n0_ n1_ n2_ n3_ n4_ n5_ n6_; clear hb hbox hg; have hnb22 := NB176_177.out; have hnc22 := NB177_176.out; have hcz23_0 : w21.cell? ⟨gb176, 0, none⟩ = some (.bool a0_0) := bc_; have hcz23_1 : w21.cell? ⟨gb176, 1, none⟩ = some (.int .u64 a0_1) := bc_; have hcz23_2 : w21.cell? ⟨gb176, 2, none⟩ = some (.int .u64 a0_2) := bc_; have hfz23_0 := blk_frozen BK176.out 0; have hfz23_1 := blk_frozen BK176.out 1; have hfz23_2 := blk_frozen BK176.out 2) | ((with_reducible refine gate_callee (f := 41) rfl ?_); refine goesL_ (some 4) rfl rfl Try.func41 (by kernel_rfl) rfl #[.agg #[.bool a0_0, .int .u64 a0_1, .int .u64 a0_2]] rfl mp_ ?_; (with_reducible refine (spec_WideOk.calls a0_0 a0_1 a0_2 true _ A2.out).mono ?_); rintro e w24 ⟨rfl, hb⟩; refine ⟨_, rfl, ?_⟩; have n0_ := bb_ (g := gb176) (o := .cells #[.bool a0_0, .int .u64 a0_1, .int .u64 a0_2] 33 (0, 0)) hb; have n1_ := bb_ (g := gb177) (o := .cells #[.bool false, .int .u64 0, .int .u64 0] 33 (0, 0)) hb; have n2_ := Aside0.mk (below_step bel_ hb); clear BK176; clear BK177; clear HB; have BK176 := n0_; have BK177 := n1_; have HB := n2_; clear n0_ n1_ n2_; (try clear hb); (try clear hb2); (try clear hk); (try clear hi); have hcz25_0 : w24.cell? ⟨gb176, 0, none⟩ = some (.bool a0_0) := bc_; have hcz25_1 : w24.cell? ⟨gb176, 1, none⟩ = some (.int .u64 a0_1) := bc_; have hcz25_2 : w24.cell? ⟨gb176, 2, none⟩ = some (.int .u64 a0_2) := bc_; have hfz25_0 := blk_frozen BK176.out 0; have hfz25_1 := blk_frozen BK176.out 1; have hfz25_2 := blk_frozen BK176.out 2; have hcz26_0 : w24.cell? ⟨gb177, 0, none⟩ = some (.bool false) := bc_; have hcz26_1 : w24.cell? ⟨gb177, 1, none⟩ = some (.int .u64 0) := bc_; have hcz26_2 : w24.cell? ⟨gb177, 2, none⟩ = some (.int .u64 0) := bc_; have hfz26_0 := blk_frozen BK177.out 0; have hfz26_1 := blk_frozen BK177.out 1; have hfz26_2 := blk_frozen BK177.out 2))
      refine bodyPost_ret (results_cell_row rfl _ _ gb177 33 #[.bool (!a0_0), .int .u64 a0_1, .int .u64 a0_2] (0, 0) _ rfl (by (with_reducible repeat (first | refine bN_ _ ?_ | refine bd_ ?_ | refine ba_ _ ?_)); refine blk_put (cs := #[.bool (!a0_0), .int .u64 a0_1, .int .u64 0]) ?_ 2 _ rfl; (with_reducible repeat (first | refine bN_ _ ?_ | refine bd_ ?_ | refine ba_ _ ?_)); refine blk_put (cs := #[.bool (!a0_0), .int .u64 0, .int .u64 0]) ?_ 1 _ rfl; (with_reducible repeat (first | refine bN_ _ ?_ | refine bd_ ?_ | refine ba_ _ ?_)); refine blk_put (cs := #[.bool false, .int .u64 0, .int .u64 0]) ?_ 0 _ rfl; (with_reducible repeat (first | refine bN_ _ ?_ | refine bd_ ?_ | refine ba_ _ ?_)); refine blk_far ?_ NB177_176.out _; (with_reducible repeat (first | refine bN_ _ ?_ | refine bd_ ?_ | refine ba_ _ ?_)); exact BK177.out) Try.underlying33 rfl (by kernel_rfl)) rfl ?_
      exact ⟨by first | rfl | (simp [errW_none, errW_some] <;> rfl) | (simp [*, errW_none, errW_some] <;> rfl), by repeat (first | (with_reducible first | exact HB.out | apply below_alloc | apply pw_below_drewN | apply below_drew1 | refine below_set ?_ GE176.out | refine below_set ?_ GE177.out) | exact HB.out)⟩
  · replace c3 := Bool.eq_false_iff.mpr c3
    subst c3
    have H1 : (some (a0_0, a0_1, a0_2)) = some (r1, r2, r3) := by rw [if_neg (show ¬ (false = true) by decide)] at H; exact H
    clear H
    have H := H1
    clear H1
    simp only [Option.some.injEq, Prod.mk.injEq] at H
    obtain ⟨rfl, rfl, rfl⟩ := H
    go_enter Try.func89, Try.ntmps89
    go_wp2_with (first | ((with_reducible refine gate_dst (N := 1) rfl ?_); refine box_event ?hg (N := 1) ?hd (cs := #[.bool a0_0, .int .u64 a0_1, .int .u64 a0_2]) (t := 33) ?hr ?_; (case hd => rfl); (case hg => rfl); (case hr => first | (go_simp; done) | (go_simp; rfl)); intro gb176 hg w27 hbox hb; have n0_ := Aside0.mk (below_step bel_ hb); have n1_ := Aside0.mk (hbox); have n2_ := Aside0.mk ((by rw [hg]; exact (below_size bel_) : w.heap.size ≤ gb176)); have n3_ := Aside0.mk ((by rw [hg]; exact (below_size bel_) : w.heap.size ≤ gb176)); clear HB; have HB := n0_; have BK176 := n1_; have GW176 := n2_; have GE176 := n3_; clear n0_ n1_ n2_ n3_; clear hb hbox hg) | ((with_reducible refine gate_dst (N := 2) rfl ?_); refine box_event ?hg (N := 2) ?hd (cs := #[.bool false, .int .u64 0, .int .u64 0]) (t := 33) ?hr ?_; (case hd => rfl); (case hg => rfl); (case hr => first | (go_simp; done) | (go_simp; rfl)); intro gb177 hg w28 hbox hb; have n0_ := bb_ (g := gb176) (o := .cells #[.bool a0_0, .int .u64 a0_1, .int .u64 a0_2] 33 (0, 0)) hb; have n1_ := Aside0.mk (below_step bel_ hb); have n2_ := Aside0.mk (hbox); have n3_ := Aside0.mk ((by rw [hg]; exact (below_size bel_) : w.heap.size ≤ gb177)); have n4_ := Aside0.mk ((by rw [hg]; exact (below_size bel_) : w.heap.size ≤ gb177)); have n5_ := nlt_ (g := gb176) (o := .cells #[.bool a0_0, .int .u64 a0_1, .int .u64 a0_2] 33 (0, 0)) hg; have n6_ := ngt_ (g := gb176) (o := .cells #[.bool a0_0, .int .u64 a0_1, .int .u64 a0_2] 33 (0, 0)) hg; clear BK176; clear HB; have BK176 := n0_; have HB := n1_; have BK177 := n2_; have GW177 := n3_; have GE177 := n4_; have NB176_177 := n5_; have NB177_176 := n6_; clear n0_ n1_ n2_ n3_ n4_ n5_ n6_; clear hb hbox hg; have hnb29 := NB176_177.out; have hnc29 := NB177_176.out; have hcz30_0 : w28.cell? ⟨gb176, 0, none⟩ = some (.bool a0_0) := bc_; have hcz30_1 : w28.cell? ⟨gb176, 1, none⟩ = some (.int .u64 a0_1) := bc_; have hcz30_2 : w28.cell? ⟨gb176, 2, none⟩ = some (.int .u64 a0_2) := bc_; have hfz30_0 := blk_frozen BK176.out 0; have hfz30_1 := blk_frozen BK176.out 1; have hfz30_2 := blk_frozen BK176.out 2) | ((with_reducible refine gate_callee (f := 41) rfl ?_); refine goesL_ (some 4) rfl rfl Try.func41 (by kernel_rfl) rfl #[.agg #[.bool a0_0, .int .u64 a0_1, .int .u64 a0_2]] rfl mp_ ?_; (with_reducible refine (spec_WideOk.calls a0_0 a0_1 a0_2 false _ A2.out).mono ?_); rintro e w31 ⟨rfl, hb⟩; refine ⟨_, rfl, ?_⟩; have n0_ := bb_ (g := gb176) (o := .cells #[.bool a0_0, .int .u64 a0_1, .int .u64 a0_2] 33 (0, 0)) hb; have n1_ := bb_ (g := gb177) (o := .cells #[.bool false, .int .u64 0, .int .u64 0] 33 (0, 0)) hb; have n2_ := Aside0.mk (below_step bel_ hb); clear BK176; clear BK177; clear HB; have BK176 := n0_; have BK177 := n1_; have HB := n2_; clear n0_ n1_ n2_; (try clear hb); (try clear hb2); (try clear hk); (try clear hi); have hcz32_0 : w31.cell? ⟨gb176, 0, none⟩ = some (.bool a0_0) := bc_; have hcz32_1 : w31.cell? ⟨gb176, 1, none⟩ = some (.int .u64 a0_1) := bc_; have hcz32_2 : w31.cell? ⟨gb176, 2, none⟩ = some (.int .u64 a0_2) := bc_; have hfz32_0 := blk_frozen BK176.out 0; have hfz32_1 := blk_frozen BK176.out 1; have hfz32_2 := blk_frozen BK176.out 2; have hcz33_0 : w31.cell? ⟨gb177, 0, none⟩ = some (.bool false) := bc_; have hcz33_1 : w31.cell? ⟨gb177, 1, none⟩ = some (.int .u64 0) := bc_; have hcz33_2 : w31.cell? ⟨gb177, 2, none⟩ = some (.int .u64 0) := bc_; have hfz33_0 := blk_frozen BK177.out 0; have hfz33_1 := blk_frozen BK177.out 1; have hfz33_2 := blk_frozen BK177.out 2))
    refine bodyPost_ret (results_cell_row rfl _ _ gb177 33 #[.bool a0_0, .int .u64 a0_1, .int .u64 a0_2] (0, 0) _ rfl (by (with_reducible repeat (first | refine bN_ _ ?_ | refine bd_ ?_ | refine ba_ _ ?_)); refine blk_put (cs := #[.bool a0_0, .int .u64 a0_1, .int .u64 0]) ?_ 2 _ rfl; (with_reducible repeat (first | refine bN_ _ ?_ | refine bd_ ?_ | refine ba_ _ ?_)); refine blk_put (cs := #[.bool a0_0, .int .u64 0, .int .u64 0]) ?_ 1 _ rfl; (with_reducible repeat (first | refine bN_ _ ?_ | refine bd_ ?_ | refine ba_ _ ?_)); refine blk_put (cs := #[.bool false, .int .u64 0, .int .u64 0]) ?_ 0 _ rfl; (with_reducible repeat (first | refine bN_ _ ?_ | refine bd_ ?_ | refine ba_ _ ?_)); exact BK177.out) Try.underlying33 rfl (by kernel_rfl)) rfl ?_
    exact ⟨by first | rfl | (simp [errW_none, errW_some] <;> rfl) | (simp [*, errW_none, errW_some] <;> rfl), by repeat (first | (with_reducible first | exact HB.out | apply below_alloc | apply pw_below_drewN | apply below_drew1 | refine below_set ?_ GE176.out | refine below_set ?_ GE177.out) | exact HB.out)⟩

/-! ### spec_SubWide: function 45 -/
def spec_SubWide.f (k : Nat) (a0_0 : Bool) (a0_1 : Int) (a0_2 : Int) (a1_0 : Bool) (a1_1 : Int) (a1_2 : Int) : Option (Bool × Int × Int × Bool) := (spec_NegWide.f a1_0 a1_1 a1_2).bind fun bt182 => ((spec_AddWide.f k a0_0 a0_1 a0_2 bt182.1 bt182.2.1 bt182.2.2).bind fun bt185 => (some (bt185.1, bt185.2.1, bt185.2.2.1, bt185.2.2.2)))
theorem spec_SubWide.mono : ∀ a0 a1 a2 a3 a4 a5 k, LeO (spec_SubWide.f k a0 a1 a2 a3 a4 a5) (spec_SubWide.f (k + 1) a0 a1 a2 a3 a4 a5) := by
  intro a0 a1 a2 a3 a4 a5 k
  unfold spec_SubWide.f
  repeat' first
      | (with_reducible exact spec_AddWide.mono _ _ _ _ _ _ _)
      | (with_reducible exact LeO.refl _)
      | (with_reducible exact LeO.none _)
      | (with_reducible refine LeO.ite ?_ ?_)
      | (with_reducible refine LeO.bind ?_ (fun _ => ?_))
      | exact spec_AddWide.mono _ _ _ _ _ _ _
      | exact LeO.none _
      | refine LeO.ite ?_ ?_
      | refine LeO.bind ?_ (fun _ => ?_)
def spec_SubWide.T1 : Bool × List (List Nat × List Nat) := (true, [([], []), ([], []), ([1], [1]), ([0, 2, 2], [0, 2]), ([3], [3]), ([3], [3]), ([4, 3, 0, 1, 2, 3, 4, 5], [4]), ([5, 6, 0, 1, 2, 3, 4, 5, 6], [5])])
def spec_SubWide.B1 : List Nat := [0, 0, 2, 7, 15, 15, 63, 127]
theorem spec_SubWide.tab1 : rtab .any (opsOf Try.f45 1) = spec_SubWide.T1 := by kernel_rfl
theorem spec_SubWide.bits1 : waitsOk spec_SubWide.T1.2 spec_SubWide.B1 = true := by kernel_rfl
set_option maxHeartbeats 8000000 in
set_option maxRecDepth 100000 in
theorem spec_SubWide.calls (k : Nat) (a0_0 : Bool) (a0_1 : Int) (a0_2 : Int) (a1_0 : Bool) (a1_1 : Int) (a1_2 : Int) (r1 : Bool) (r2 : Int) (r3 : Int) (r4 : Bool) (w : World) (h : spec_SubWide.f k a0_0 a0_1 a0_2 a1_0 a1_1 a1_2 = some (r1, r2, r3, r4)) :
    Calls Try.prog 45 #[.agg #[.bool a0_0, .int .u64 a0_1, .int .u64 a0_2], .agg #[.bool a1_0, .int .u64 a1_1, .int .u64 a1_2]] w fun e w' => e = .returned (.tuple #[.agg #[.bool r1, .int .u64 r2, .int .u64 r3], .bool r4]) ∧ Below w.heap.size w w' := by
  have hu33 := Try.underlying33
  have HB := Aside0.mk (Below.refl w.heap.size w)
  have H : ((spec_NegWide.f a1_0 a1_1 a1_2).bind fun bt182 => ((spec_AddWide.f k a0_0 a0_1 a0_2 bt182.1 bt182.2.1 bt182.2.2).bind fun bt185 => (some (bt185.1, bt185.2.1, bt185.2.2.1, bt185.2.2.2)))) = some (r1, r2, r3, r4) := h
  clear h
  replace H := Option.bind_eq_some_iff.mp H
  obtain ⟨⟨t182, t183, t184⟩, A30, H⟩ := H
  replace H : ((spec_AddWide.f k a0_0 a0_1 a0_2 t182 t183 t184).bind fun bt185 => (some (bt185.1, bt185.2.1, bt185.2.2.1, bt185.2.2.2))) = some (r1, r2, r3, r4) := H
  have A3 := Aside0.mk A30
  clear A30
  replace H := Option.bind_eq_some_iff.mp H
  obtain ⟨⟨t185, t186, t187, t188⟩, A40, H⟩ := H
  replace H : (some (t185, t186, t187, t188)) = some (r1, r2, r3, r4) := H
  have A4 := Aside0.mk A40
  clear A40
  simp only [Option.some.injEq, Prod.mk.injEq] at H
  obtain ⟨rfl, rfl, rfl, rfl⟩ := H
  go_enter Try.func45, Try.ntmps45
  try go_wp2_with (first | ((with_reducible refine gate_dst (N := 2) rfl ?_); refine box_event ?hg (N := 2) ?hd (cs := #[.bool a0_0, .int .u64 a0_1, .int .u64 a0_2]) (t := 33) ?hr ?_; (case hd => rfl); (case hg => rfl); (case hr => first | (go_simp; done) | (go_simp; rfl)); intro gb179 hg w5 hbox hb; have n0_ := Aside0.mk (below_step bel_ hb); have n1_ := Aside0.mk (hbox); have n2_ := Aside0.mk ((by rw [hg]; exact (below_size bel_) : w.heap.size ≤ gb179)); have n3_ := Aside0.mk ((by rw [hg]; exact (below_size bel_) : w.heap.size ≤ gb179)); clear HB; have HB := n0_; have BK179 := n1_; have GW179 := n2_; have GE179 := n3_; clear n0_ n1_ n2_ n3_; clear hb hbox hg) | ((with_reducible refine gate_dst (N := 3) rfl ?_); refine box_event ?hg (N := 3) ?hd (cs := #[.bool a1_0, .int .u64 a1_1, .int .u64 a1_2]) (t := 33) ?hr ?_; (case hd => rfl); (case hg => rfl); (case hr => first | (go_simp; done) | (go_simp; rfl)); intro gb180 hg w6 hbox hb; have n0_ := bb_ (g := gb179) (o := .cells #[.bool a0_0, .int .u64 a0_1, .int .u64 a0_2] 33 (0, 0)) hb; have n1_ := Aside0.mk (below_step bel_ hb); have n2_ := Aside0.mk (hbox); have n3_ := Aside0.mk ((by rw [hg]; exact (below_size bel_) : w.heap.size ≤ gb180)); have n4_ := Aside0.mk ((by rw [hg]; exact (below_size bel_) : w.heap.size ≤ gb180)); have n5_ := nlt_ (g := gb179) (o := .cells #[.bool a0_0, .int .u64 a0_1, .int .u64 a0_2] 33 (0, 0)) hg; have n6_ := ngt_ (g := gb179) (o := .cells #[.bool a0_0, .int .u64 a0_1, .int .u64 a0_2] 33 (0, 0)) hg; clear BK179; clear HB; have BK179 := n0_; have HB := n1_; have BK180 := n2_; have GW180 := n3_; have GE180 := n4_; have NB179_180 := n5_; have NB180_179 := n6_; clear n0_ n1_ n2_ n3_ n4_ n5_ n6_; clear hb hbox hg) | ((with_reducible refine gate_dst (N := 4) rfl ?_); refine box_event ?hg (N := 4) ?hd (cs := #[.bool false, .int .u64 0, .int .u64 0]) (t := 33) ?hr ?_; (case hd => rfl); (case hg => rfl); (case hr => first | (go_simp; done) | (go_simp; rfl)); intro gb181 hg w7 hbox hb; have n0_ := bb_ (g := gb179) (o := .cells #[.bool a0_0, .int .u64 a0_1, .int .u64 a0_2] 33 (0, 0)) hb; have n1_ := bb_ (g := gb180) (o := .cells #[.bool a1_0, .int .u64 a1_1, .int .u64 a1_2] 33 (0, 0)) hb; have n2_ := Aside0.mk (below_step bel_ hb); have n3_ := Aside0.mk (hbox); have n4_ := Aside0.mk ((by rw [hg]; exact (below_size bel_) : w.heap.size ≤ gb181)); have n5_ := Aside0.mk ((by rw [hg]; exact (below_size bel_) : w.heap.size ≤ gb181)); have n6_ := nlt_ (g := gb179) (o := .cells #[.bool a0_0, .int .u64 a0_1, .int .u64 a0_2] 33 (0, 0)) hg; have n7_ := ngt_ (g := gb179) (o := .cells #[.bool a0_0, .int .u64 a0_1, .int .u64 a0_2] 33 (0, 0)) hg; have n8_ := nlt_ (g := gb180) (o := .cells #[.bool a1_0, .int .u64 a1_1, .int .u64 a1_2] 33 (0, 0)) hg; have n9_ := ngt_ (g := gb180) (o := .cells #[.bool a1_0, .int .u64 a1_1, .int .u64 a1_2] 33 (0, 0)) hg; clear BK179; clear BK180; clear HB; have BK179 := n0_; have BK180 := n1_; have HB := n2_; have BK181 := n3_; have GW181 := n4_; have GE181 := n5_; have NB179_181 := n6_; have NB181_179 := n7_; have NB180_181 := n8_; have NB181_180 := n9_; clear n0_ n1_ n2_ n3_ n4_ n5_ n6_ n7_ n8_ n9_; clear hb hbox hg))
  have n0_ := Aside0.mk (blk_drew BK179.out)
  have n1_ := Aside0.mk (blk_drew BK180.out)
  have n2_ := Aside0.mk (blk_drew BK181.out)
  have n3_ := Aside0.mk (below_drew1 HB.out)
  clear BK179
  clear BK180
  clear BK181
  clear HB
  have BK179 := n0_
  have BK180 := n1_
  have BK181 := n2_
  have HB := n3_
  clear n0_ n1_ n2_ n3_
  refine start_ (n := 8) (S := fun w' => w'.cell? ⟨gb179, 0, none⟩ = some (.bool a0_0) ∧ w'.cell? ⟨gb179, 1, none⟩ = some (.int .u64 a0_1) ∧ w'.cell? ⟨gb179, 2, none⟩ = some (.int .u64 a0_2) ∧ w'.cell? ⟨gb180, 0, none⟩ = some (.bool a1_0) ∧ w'.cell? ⟨gb180, 1, none⟩ = some (.int .u64 a1_1) ∧ w'.cell? ⟨gb180, 2, none⟩ = some (.int .u64 a1_2)) (ds := []) #[false, false, false, false, false, false, false, false] (by kernel_rfl) rfl rfl ⟨bc_, bc_, bc_, bc_, bc_, bc_⟩ (fun hHeld => ?_); refine with_tabW spec_SubWide.tab1 spec_SubWide.bits1 (fun HT_ HW_ => ?_)
  generalize w7.drew = w8 at BK179 BK180 BK181 HB hHeld ⊢
  refine take_ (i := 0) (N := some 6) (v := ?_) (a' := ?_) #[true, false, false, false, false, false, false, false] rfl rfl (take_ofW HT_.out HW_.out (by kernel_rfl)) (fun _ _ _ h => h) (Or.inl ⟨by rfl, ?_⟩) hHeld ?_ ?_
  rotate_left
  · rintro w' ⟨s0, s1, s2, s3, s4, s5⟩
    go_simp
    with_reducible rfl
  rotate_left
  · simp only [Act.put, la_, lb_, lc_, i64_w, i32_w]
    rfl
  refine take_ (i := 1) (N := some 7) (v := ?_) (a' := ?_) #[true, true, false, false, false, false, false, false] rfl rfl (take_ofW HT_.out HW_.out (by kernel_rfl)) (fun _ _ _ h => h) (Or.inl ⟨by rfl, ?_⟩) hHeld ?_ ?_
  rotate_left
  · rintro w' ⟨s0, s1, s2, s3, s4, s5⟩
    go_simp
    with_reducible rfl
  rotate_left
  · simp only [Act.put, la_, lb_, lc_, i64_w, i32_w]
    rfl
  refine one_ (i := 2) (N := some 8) #[true, true, true, false, false, false, false, false] rfl rfl (one_of HT_.out (by kernel_rfl)) (by decide) (fun K hK => ?_)
  refine goes_ Try.func89 (by kernel_rfl) rfl #[.agg #[.bool a1_0, .int .u64 a1_1, .int .u64 a1_2]] (by rfl) rfl rfl mp_ ?_
  with_reducible refine (spec_NegWide.calls a1_0 a1_1 a1_2 t182 t183 t184 _ A3.out).mono ?_
  rintro e w9 ⟨rfl, hb⟩
  refine ⟨_, rfl, ?_⟩
  have n0_ := bb_ (g := gb179) (o := .cells #[.bool a0_0, .int .u64 a0_1, .int .u64 a0_2] 33 (0, 0)) hb
  have n1_ := bb_ (g := gb180) (o := .cells #[.bool a1_0, .int .u64 a1_1, .int .u64 a1_2] 33 (0, 0)) hb
  have n2_ := bb_ (g := gb181) (o := .cells #[.bool false, .int .u64 0, .int .u64 0] 33 (0, 0)) hb
  have n3_ := Aside0.mk (below_step bel_ hb)
  clear BK179
  clear BK180
  clear BK181
  clear HB
  have BK179 := n0_
  have BK180 := n1_
  have BK181 := n2_
  have HB := n3_
  clear n0_ n1_ n2_ n3_
  (try clear hb)
  (try clear hb2)
  (try clear hk)
  (try clear hi)
  refine hK.out _ _ ⟨bc_, bc_, bc_, bc_, bc_, bc_⟩ (fun hHeld => ?_)
  clear hK K
  refine norm_ (a' := ?_) ?_ ?_
  rotate_left
  · show Act.put _ (some 8) _ = _
    simp only [Act.put, la_, lb_, lc_, i64_w, i32_w]
    rfl
  refine one_ (i := 3) (N := some 9) #[true, true, true, true, false, false, false, false] rfl rfl (one_of HT_.out (by kernel_rfl)) (by decide) (fun K hK => ?_)
  refine goes_ Try.func47 (by kernel_rfl) rfl #[.agg #[.bool a0_0, .int .u64 a0_1, .int .u64 a0_2], .agg #[.bool t182, .int .u64 t183, .int .u64 t184]] (by rfl) rfl rfl mp_ ?_
  with_reducible refine (spec_AddWide.calls k a0_0 a0_1 a0_2 t182 t183 t184 t185 t186 t187 t188 _ A4.out).mono ?_
  rintro e w10 ⟨rfl, hb⟩
  refine ⟨_, rfl, ?_⟩
  have n0_ := bb_ (g := gb179) (o := .cells #[.bool a0_0, .int .u64 a0_1, .int .u64 a0_2] 33 (0, 0)) hb
  have n1_ := bb_ (g := gb180) (o := .cells #[.bool a1_0, .int .u64 a1_1, .int .u64 a1_2] 33 (0, 0)) hb
  have n2_ := bb_ (g := gb181) (o := .cells #[.bool false, .int .u64 0, .int .u64 0] 33 (0, 0)) hb
  have n3_ := Aside0.mk (below_step bel_ hb)
  clear BK179
  clear BK180
  clear BK181
  clear HB
  have BK179 := n0_
  have BK180 := n1_
  have BK181 := n2_
  have HB := n3_
  clear n0_ n1_ n2_ n3_
  (try clear hb)
  (try clear hb2)
  (try clear hk)
  (try clear hi)
  refine hK.out _ _ ⟨bc_, bc_, bc_, bc_, bc_, bc_⟩ (fun hHeld => ?_)
  clear hK K
  refine norm_ (a' := ?_) ?_ ?_
  rotate_left
  · show Act.put _ (some 9) _ = _
    simp only [Act.put, la_, lb_, lc_, i64_w, i32_w]
    rfl
  refine pure_ (i := 4) (N := some 10) (v := ?_) (a' := ?_) #[true, true, true, true, true, false, false, false] rfl rfl (any_of HT_.out (by kernel_rfl)) (fun _ _ _ h => h) (Or.inl ⟨by rfl, ?_⟩) ?_ ?_
  rotate_left
  · intro w'
    go_simp
    with_reducible rfl
  rotate_left
  · simp only [Act.put, la_, lb_, lc_, i64_w, i32_w]
    rfl
  refine pure_ (i := 5) (N := some 11) (v := ?_) (a' := ?_) #[true, true, true, true, true, true, false, false] rfl rfl (any_of HT_.out (by kernel_rfl)) (fun _ _ _ h => h) (Or.inl ⟨by rfl, ?_⟩) ?_ ?_
  rotate_left
  · intro w'
    go_simp
    with_reducible rfl
  rotate_left
  · simp only [Act.put, la_, lb_, lc_, i64_w, i32_w]
    rfl
  refine one_ (i := 6) (N := none) #[true, true, true, true, true, true, true, false] rfl rfl (one_of HT_.out (by kernel_rfl)) (by decide) (fun K hK => ?_)
  have hs11 : w10.cell? ⟨gb181, 0, none⟩ = some (.bool false) := (blk_cell BK181.out 0).trans rfl
  have hfs11 := blk_frozen BK181.out 0
  have hns11_0 := NB179_181.out
  have hns11_1 := NB180_181.out
  have hms11_0 := NB181_179.out
  have hms11_1 := NB181_180.out
  have hs12 : w10.cell? ⟨gb181, 1, none⟩ = some (.int .u64 0) := (blk_cell BK181.out 1).trans rfl
  have hfs12 := blk_frozen BK181.out 1
  have hns12_0 := NB179_181.out
  have hns12_1 := NB180_181.out
  have hms12_0 := NB181_179.out
  have hms12_1 := NB181_180.out
  have hs13 : w10.cell? ⟨gb181, 2, none⟩ = some (.int .u64 0) := (blk_cell BK181.out 2).trans rfl
  have hfs13 := blk_frozen BK181.out 2
  have hns13_0 := NB179_181.out
  have hns13_1 := NB180_181.out
  have hms13_0 := NB181_179.out
  have hms13_1 := NB181_180.out
  refine skip_ (w1 := ?_) (by rfl) rfl ?_ ?_
  rotate_left
  · go_simp
    rfl
  refine hK.out _ _ ⟨((cell_far (p := ⟨gb181, _, none⟩) NB179_181.out _).trans (((cell_far (p := ⟨gb181, _, none⟩) NB179_181.out _).trans (((cell_far (p := ⟨gb181, _, none⟩) NB179_181.out _).trans (hHeld.1)))))), ((cell_far (p := ⟨gb181, _, none⟩) NB179_181.out _).trans (((cell_far (p := ⟨gb181, _, none⟩) NB179_181.out _).trans (((cell_far (p := ⟨gb181, _, none⟩) NB179_181.out _).trans (hHeld.2.1)))))), ((cell_far (p := ⟨gb181, _, none⟩) NB179_181.out _).trans (((cell_far (p := ⟨gb181, _, none⟩) NB179_181.out _).trans (((cell_far (p := ⟨gb181, _, none⟩) NB179_181.out _).trans (hHeld.2.2.1)))))), ((cell_far (p := ⟨gb181, _, none⟩) NB180_181.out _).trans (((cell_far (p := ⟨gb181, _, none⟩) NB180_181.out _).trans (((cell_far (p := ⟨gb181, _, none⟩) NB180_181.out _).trans (hHeld.2.2.2.1)))))), ((cell_far (p := ⟨gb181, _, none⟩) NB180_181.out _).trans (((cell_far (p := ⟨gb181, _, none⟩) NB180_181.out _).trans (((cell_far (p := ⟨gb181, _, none⟩) NB180_181.out _).trans (hHeld.2.2.2.2.1)))))), ((cell_far (p := ⟨gb181, _, none⟩) NB180_181.out _).trans (((cell_far (p := ⟨gb181, _, none⟩) NB180_181.out _).trans (((cell_far (p := ⟨gb181, _, none⟩) NB180_181.out _).trans (hHeld.2.2.2.2.2))))))⟩ (fun hHeld => ?_)
  clear hK K
  refine pure_ (i := 7) (N := some 5) (v := ?_) (a' := ?_) #[true, true, true, true, true, true, true, true] rfl rfl (any_of HT_.out (by kernel_rfl)) (fun _ _ _ h => h) (Or.inl ⟨by rfl, ?_⟩) ?_ ?_
  rotate_left
  · intro w'
    go_simp
    with_reducible rfl
  rotate_left
  · simp only [Act.put, la_, lb_, lc_, i64_w, i32_w]
    rfl
  refine done_ (done_of HT_.out (by kernel_rfl)) ?_
  try go_wp2
  refine bodyPost_ret (results_ct rfl _ _ gb181 33 #[.bool t185, .int .u64 t186, .int .u64 t187] (0, 0) _ rfl (by (with_reducible repeat (first | refine bN_ _ ?_ | refine bd_ ?_ | refine ba_ _ ?_)); refine blk_put (cs := #[.bool t185, .int .u64 t186, .int .u64 0]) ?_ 2 _ rfl; (with_reducible repeat (first | refine bN_ _ ?_ | refine bd_ ?_ | refine ba_ _ ?_)); refine blk_put (cs := #[.bool t185, .int .u64 0, .int .u64 0]) ?_ 1 _ rfl; (with_reducible repeat (first | refine bN_ _ ?_ | refine bd_ ?_ | refine ba_ _ ?_)); refine blk_put (cs := #[.bool false, .int .u64 0, .int .u64 0]) ?_ 0 _ rfl; (with_reducible repeat (first | refine bN_ _ ?_ | refine bd_ ?_ | refine ba_ _ ?_)); exact BK181.out) Try.underlying33 rfl (by kernel_rfl)) rfl ?_
  exact ⟨by first | rfl | (simp [errW_none, errW_some] <;> rfl) | (simp [*, errW_none, errW_some] <;> rfl), by repeat (first | (with_reducible first | exact HB.out | apply below_alloc | apply pw_below_drewN | apply below_drew1 | refine below_set ?_ GE179.out | refine below_set ?_ GE180.out | refine below_set ?_ GE181.out) | exact HB.out)⟩

/-! ### spec_l3Abs: function 64 -/
def spec_l3Abs.f (a0 : Int) : Option (Int) := if a0 < 0 then (some (IntKind.u64.wrap ((IntKind.u64.wrap (wrap64 (-(wrap64 (a0 + 1))))) + 1))) else (some (IntKind.u64.wrap (a0)))
set_option maxHeartbeats 8000000 in
set_option maxRecDepth 100000 in
theorem spec_l3Abs.calls (a0 : Int) (r : Int) (w : World) (h : spec_l3Abs.f a0 = some r) :
    Calls Try.prog 64 #[.int .i64 a0] w fun e w' => e = .returned (.int .u64 r) ∧ Drawn0 w w' := by
  have H : (if a0 < 0 then (some (IntKind.u64.wrap ((IntKind.u64.wrap (wrap64 (-(wrap64 (a0 + 1))))) + 1))) else (some (IntKind.u64.wrap (a0)))) = some r := h
  clear h
  by_cases c2 : a0 < 0
  · rw [if_pos c2] at H
    have c2b0 : decide (a0 < 0) = true := decide_eq_true c2
    clear c2
    obtain rfl := Option.some.inj H
    go_enter Try.func64, Try.ntmps64
    go_wp2
    go_ret
    exact ⟨by first | rfl | (simp; done) | (simp [*]; done), by repeat (first | exact Drawn0.refl _ | apply Drawn0.step)⟩
  · rw [if_neg c2] at H
    have c2b0 : decide (a0 < 0) = false := decide_eq_false c2
    clear c2
    obtain rfl := Option.some.inj H
    go_enter Try.func64, Try.ntmps64
    go_wp2
    go_ret
    exact ⟨by first | rfl | (simp; done) | (simp [*]; done), by repeat (first | exact Drawn0.refl _ | apply Drawn0.step)⟩

/-! ### spec_WideOf: function 46 -/
def spec_WideOf.f (a0 : Int) : Option (Bool × Int × Int) := (spec_l3Abs.f a0).bind fun t190 => (some (decide (a0 < 0), 0, t190))
set_option maxHeartbeats 8000000 in
set_option maxRecDepth 100000 in
theorem spec_WideOf.calls (a0 : Int) (r1 : Bool) (r2 : Int) (r3 : Int) (w : World) (h : spec_WideOf.f a0 = some (r1, r2, r3)) :
    Calls Try.prog 46 #[.int .i64 a0] w fun e w' => e = .returned (.agg #[.bool r1, .int .u64 r2, .int .u64 r3]) ∧ Below w.heap.size w w' := by
  have hu33 := Try.underlying33
  have HB := Aside0.mk (Below.refl w.heap.size w)
  have H : ((spec_l3Abs.f a0).bind fun t190 => (some (decide (a0 < 0), 0, t190))) = some (r1, r2, r3) := h
  clear h
  replace H := Option.bind_eq_some_iff.mp H
  obtain ⟨t190, A20, H⟩ := H
  replace H : (some (decide (a0 < 0), 0, t190)) = some (r1, r2, r3) := H
  have A2 := Aside0.mk A20
  clear A20
  simp only [Option.some.injEq, Prod.mk.injEq] at H
  obtain ⟨rfl, rfl, rfl⟩ := H
  go_enter Try.func46, Try.ntmps46
  go_wp2_with (first | ((with_reducible refine gate_dst (N := 2) rfl ?_); refine box_event ?hg (N := 2) ?hd (cs := #[.bool false, .int .u64 0, .int .u64 0]) (t := 33) ?hr ?_; (case hd => rfl); (case hg => rfl); (case hr => first | (go_simp; done) | (go_simp; rfl)); intro gb189 hg w3 hbox hb; have n0_ := Aside0.mk (below_step bel_ hb); have n1_ := Aside0.mk (hbox); have n2_ := Aside0.mk ((by rw [hg]; exact (below_size bel_) : w.heap.size ≤ gb189)); have n3_ := Aside0.mk ((by rw [hg]; exact (below_size bel_) : w.heap.size ≤ gb189)); clear HB; have HB := n0_; have BK189 := n1_; have GW189 := n2_; have GE189 := n3_; clear n0_ n1_ n2_ n3_; clear hb hbox hg) | ((with_reducible refine gate_callee (f := 64) rfl ?_); refine goesL_ (some 6) rfl rfl Try.func64 (by kernel_rfl) rfl #[.int .i64 a0] rfl mp_ ?_; (with_reducible refine (spec_l3Abs.calls a0 t190 _ A2.out).mono ?_); rintro e w' ⟨rfl, ⟨nd, rfl⟩⟩; refine ⟨_, rfl, ?_⟩; (try (rw [drewN_self w3]; generalize hq_ : World.drewN w3 _ = w3; have n0_ : Aside0 (w3.heap[gb189]? = some (.cells #[.bool false, .int .u64 0, .int .u64 0] 33 (0, 0))) := ⟨by rw [← hq_]; exact (by (with_reducible repeat (first | refine bN_ _ ?_ | refine bd_ ?_ | refine ba_ _ ?_)); exact BK189.out)⟩; have n1_ : Aside0 (Below w.heap.size w w3) := ⟨by rw [← hq_]; exact bel_⟩; clear BK189 HB hq_; have BK189 := n0_; have HB := n1_; clear n0_ n1_)); have hcz4_0 : w3.cell? ⟨gb189, 0, none⟩ = some (.bool false) := bc_; have hcz4_1 : w3.cell? ⟨gb189, 1, none⟩ = some (.int .u64 0) := bc_; have hcz4_2 : w3.cell? ⟨gb189, 2, none⟩ = some (.int .u64 0) := bc_; have hfz4_0 := blk_frozen BK189.out 0; have hfz4_1 := blk_frozen BK189.out 1; have hfz4_2 := blk_frozen BK189.out 2))
  refine bodyPost_ret (results_cell_row rfl _ _ gb189 33 #[.bool (decide (a0 < 0)), .int .u64 0, .int .u64 t190] (0, 0) _ rfl (by (with_reducible repeat (first | refine bN_ _ ?_ | refine bd_ ?_ | refine ba_ _ ?_)); refine blk_put (cs := #[.bool (decide (a0 < 0)), .int .u64 0, .int .u64 0]) ?_ 2 _ rfl; (with_reducible repeat (first | refine bN_ _ ?_ | refine bd_ ?_ | refine ba_ _ ?_)); refine blk_put (cs := #[.bool (decide (a0 < 0)), .int .u64 0, .int .u64 0]) ?_ 1 _ rfl; (with_reducible repeat (first | refine bN_ _ ?_ | refine bd_ ?_ | refine ba_ _ ?_)); refine blk_put (cs := #[.bool false, .int .u64 0, .int .u64 0]) ?_ 0 _ rfl; (with_reducible repeat (first | refine bN_ _ ?_ | refine bd_ ?_ | refine ba_ _ ?_)); exact BK189.out) Try.underlying33 rfl (by kernel_rfl)) rfl ?_
  exact ⟨by first | rfl | (simp [errW_none, errW_some] <;> rfl) | (simp [*, errW_none, errW_some] <;> rfl), by repeat (first | (with_reducible first | exact HB.out | apply below_alloc | apply pw_below_drewN | apply below_drew1 | refine below_set ?_ GE189.out) | exact HB.out)⟩

/-! ### laws_FnHalf: function 9 -/
mutual
def laws_FnHalf.j0 : Nat → Int → Int → Int → Bool → Option (Bool)
  | 0, _, _, _, _ => none
  | k + 1, x3, x4, x5, x37 => if x37 = true then (some false) else (if x4 < x3 then (laws_FnHalf.j1 k x5 x4 x3) else (laws_FnHalf.j1 k x5 x3 x4))
def laws_FnHalf.j1 : Nat → Int → Int → Int → Option (Bool)
  | 0, _, _, _ => none
  | k + 1, x5, x6, x7 => (spec_WideOf.f x5).bind fun bt197 => ((spec_WideOf.f x6).bind fun bt200 => ((spec_SubWide.f k bt197.1 bt197.2.1 bt197.2.2 bt200.1 bt200.2.1 bt200.2.2).bind fun bt203 => ((spec_WideOf.f x7).bind fun bt208 => ((spec_WideOf.f x5).bind fun bt211 => ((spec_SubWide.f k bt208.1 bt208.2.1 bt208.2.2 bt211.1 bt211.2.1 bt211.2.2).bind fun bt214 => ((spec_SubWide.f k bt214.1 bt214.2.1 bt214.2.2.1 bt203.1 bt203.2.1 bt203.2.2.1).bind fun bt219 => ((spec_IntOf.f k bt219.1 bt219.2.1 bt219.2.2.1).bind fun bt224 => (if x5 ≥ x6 then (if x5 ≤ x7 then (if bt203.2.2.2 = true then (if bt214.2.2.2 = true then (if bt219.2.2.2 = true then (if bt224.2 = true then (if bt224.1 = 0 then (some true) else (some (bt224.1 == 1))) else (some false)) else (some false)) else (some false)) else (some false)) else (some false)) else (some false)))))))))
end
def laws_FnHalf.f (k : Nat) (l0 : List Int) : Option (Bool) := (laws_big.f l0).bind fun t191 => (if t191 = true then (some true) else ((spec_DrawHalfSum.f k l0).bind fun bt192 => ((impl_HalfSum.f bt192.1 bt192.2).bind fun t194 => ((impl_HalfSum.f bt192.2 bt192.1).bind fun t195 => (if t194 = t195 then ((spec_HalfSum.f bt192.1 bt192.2).bind fun t196 => (laws_FnHalf.j0 k bt192.1 bt192.2 t194 (t194 != t196))) else (laws_FnHalf.j0 k bt192.1 bt192.2 t194 true))))))
theorem laws_FnHalf.mono_l : ∀ k, (∀ y0 y1 y2 y3, LeO (laws_FnHalf.j0 k y0 y1 y2 y3) (laws_FnHalf.j0 (k + 1) y0 y1 y2 y3)) ∧ (∀ y0 y1 y2, LeO (laws_FnHalf.j1 k y0 y1 y2) (laws_FnHalf.j1 (k + 1) y0 y1 y2))
  | 0 => ⟨fun _ _ _ _ r h => by simp [laws_FnHalf.j0] at h, fun _ _ _ r h => by simp [laws_FnHalf.j1] at h⟩
  | k + 1 => by
    obtain ⟨ih0, ih1⟩ := laws_FnHalf.mono_l k
    refine ⟨?_, ?_⟩
    · intro y0 y1 y2 y3
      unfold laws_FnHalf.j0
      repeat' first
      | (with_reducible exact ih0 _ _ _ _)
      | (with_reducible exact ih1 _ _ _)
      | (with_reducible exact spec_DrawHalfSum.mono _ _)
      | (with_reducible exact spec_IntOf.mono _ _ _ _)
      | (with_reducible exact spec_SubWide.mono _ _ _ _ _ _ _)
      | (with_reducible exact LeO.refl _)
      | (with_reducible exact LeO.none _)
      | (with_reducible refine LeO.ite ?_ ?_)
      | (with_reducible refine LeO.bind ?_ (fun _ => ?_))
      | exact ih0 _ _ _ _
      | exact ih1 _ _ _
      | exact spec_DrawHalfSum.mono _ _
      | exact spec_IntOf.mono _ _ _ _
      | exact spec_SubWide.mono _ _ _ _ _ _ _
      | exact LeO.none _
      | refine LeO.ite ?_ ?_
      | refine LeO.bind ?_ (fun _ => ?_)
    · intro y0 y1 y2
      unfold laws_FnHalf.j1
      repeat' first
      | (with_reducible exact ih0 _ _ _ _)
      | (with_reducible exact ih1 _ _ _)
      | (with_reducible exact spec_DrawHalfSum.mono _ _)
      | (with_reducible exact spec_IntOf.mono _ _ _ _)
      | (with_reducible exact spec_SubWide.mono _ _ _ _ _ _ _)
      | (with_reducible exact LeO.refl _)
      | (with_reducible exact LeO.none _)
      | (with_reducible refine LeO.ite ?_ ?_)
      | (with_reducible refine LeO.bind ?_ (fun _ => ?_))
      | exact ih0 _ _ _ _
      | exact ih1 _ _ _
      | exact spec_DrawHalfSum.mono _ _
      | exact spec_IntOf.mono _ _ _ _
      | exact spec_SubWide.mono _ _ _ _ _ _ _
      | exact LeO.none _
      | refine LeO.ite ?_ ?_
      | refine LeO.bind ?_ (fun _ => ?_)
theorem laws_FnHalf.mono : ∀ a0 k, LeO (laws_FnHalf.f k a0) (laws_FnHalf.f (k + 1) a0) := by
  intro a0 k
  obtain ⟨ih0, ih1⟩ := laws_FnHalf.mono_l k
  unfold laws_FnHalf.f
  repeat' first
      | (with_reducible exact ih0 _ _ _ _)
      | (with_reducible exact ih1 _ _ _)
      | (with_reducible exact spec_DrawHalfSum.mono _ _)
      | (with_reducible exact spec_IntOf.mono _ _ _ _)
      | (with_reducible exact spec_SubWide.mono _ _ _ _ _ _ _)
      | (with_reducible exact LeO.refl _)
      | (with_reducible exact LeO.none _)
      | (with_reducible refine LeO.ite ?_ ?_)
      | (with_reducible refine LeO.bind ?_ (fun _ => ?_))
      | exact ih0 _ _ _ _
      | exact ih1 _ _ _
      | exact spec_DrawHalfSum.mono _ _
      | exact spec_IntOf.mono _ _ _ _
      | exact spec_SubWide.mono _ _ _ _ _ _ _
      | exact LeO.none _
      | refine LeO.ite ?_ ?_
      | refine LeO.bind ?_ (fun _ => ?_)
set_option maxHeartbeats 8000000 in
set_option maxRecDepth 100000 in
theorem laws_FnHalf.calls (k : Nat) (A0 : Option Addr) (c0 : Nat) (l0 : List Int) (r : Bool) (w : World) (hr0 : Kd.C (Kd.int .u8) w A0 l0.length l0) (hc0 : l0.length ≤ c0) (h : laws_FnHalf.f k l0 = some r) (hrt : Aside0 (r = true)) :
    Calls Try.prog 9 #[.slice A0 l0.length c0] w fun e w' => e = .returned (.bool r) ∧ Below w.heap.size w w' := by
  have hu33 := Try.underlying33
  have HR0 := Aside0.mk hr0
  have HC0 := Aside0.mk hc0
  clear hr0 hc0
  have HB := Aside0.mk (Below.refl w.heap.size w)
  have H : ((laws_big.f l0).bind fun t191 => (if t191 = true then (some true) else ((spec_DrawHalfSum.f k l0).bind fun bt192 => ((impl_HalfSum.f bt192.1 bt192.2).bind fun t194 => ((impl_HalfSum.f bt192.2 bt192.1).bind fun t195 => (if t194 = t195 then ((spec_HalfSum.f bt192.1 bt192.2).bind fun t196 => (laws_FnHalf.j0 k bt192.1 bt192.2 t194 (t194 != t196))) else (laws_FnHalf.j0 k bt192.1 bt192.2 t194 true))))))) = some r := h
  clear h
  replace H := Option.bind_eq_some_iff.mp H
  obtain ⟨t191, A20, H⟩ := H
  replace H : (if t191 = true then (some true) else ((spec_DrawHalfSum.f k l0).bind fun bt192 => ((impl_HalfSum.f bt192.1 bt192.2).bind fun t194 => ((impl_HalfSum.f bt192.2 bt192.1).bind fun t195 => (if t194 = t195 then ((spec_HalfSum.f bt192.1 bt192.2).bind fun t196 => (laws_FnHalf.j0 k bt192.1 bt192.2 t194 (t194 != t196))) else (laws_FnHalf.j0 k bt192.1 bt192.2 t194 true)))))) = some r := H
  have A2 := Aside0.mk A20
  clear A20
  by_cases c3 : t191 = true
  · subst c3
    have H1 : (some true) = some r := by rw [if_pos rfl] at H; exact H
    clear H
    have H := H1
    clear H1
    obtain rfl := Option.some.inj H
    go_enter Try.func9, Try.ntmps9
    go_wp2_with (first | ((with_reducible refine gate_callee (f := 35) rfl ?_); refine goesL_ (some 17) rfl rfl Try.func35 (by kernel_rfl) rfl #[.slice A0 l0.length c0] rfl mp_ ?_; (with_reducible refine (laws_big.calls _ _ l0 true _ ?side1 ?side2 A2.out).mono ?_); (case side1 => repeat (first | exact HR0.out | (with_reducible refine Kd.C_alloc ?_ _) | (with_reducible refine Kd.C_drewN ?_ _) | (with_reducible refine Kd.C_drew ?_))); (case side2 => exact HC0.out); rintro e w' ⟨rfl, ⟨nd, rfl⟩⟩; refine ⟨_, rfl, ?_⟩))
    go_ret
    exact ⟨by first | rfl | (simp [errW_none, errW_some] <;> rfl) | (simp [*, errW_none, errW_some] <;> rfl), by repeat (first | (with_reducible first | exact HB.out | apply below_alloc | apply pw_below_drewN | apply below_drew1) | exact HB.out)⟩
  · replace c3 := Bool.eq_false_iff.mpr c3
    subst c3
    have H1 : ((spec_DrawHalfSum.f k l0).bind fun bt192 => ((impl_HalfSum.f bt192.1 bt192.2).bind fun t194 => ((impl_HalfSum.f bt192.2 bt192.1).bind fun t195 => (if t194 = t195 then ((spec_HalfSum.f bt192.1 bt192.2).bind fun t196 => (laws_FnHalf.j0 k bt192.1 bt192.2 t194 (t194 != t196))) else (laws_FnHalf.j0 k bt192.1 bt192.2 t194 true))))) = some r := by rw [if_neg (show ¬ (false = true) by decide)] at H; exact H
    clear H
    have H := H1
    clear H1
    replace H := Option.bind_eq_some_iff.mp H
    obtain ⟨⟨t192, t193⟩, A40, H⟩ := H
    replace H : ((impl_HalfSum.f t192 t193).bind fun t194 => ((impl_HalfSum.f t193 t192).bind fun t195 => (if t194 = t195 then ((spec_HalfSum.f t192 t193).bind fun t196 => (laws_FnHalf.j0 k t192 t193 t194 (t194 != t196))) else (laws_FnHalf.j0 k t192 t193 t194 true)))) = some r := H
    have A4 := Aside0.mk A40
    clear A40
    replace H := Option.bind_eq_some_iff.mp H
    obtain ⟨t194, A50, H⟩ := H
    replace H : ((impl_HalfSum.f t193 t192).bind fun t195 => (if t194 = t195 then ((spec_HalfSum.f t192 t193).bind fun t196 => (laws_FnHalf.j0 k t192 t193 t194 (t194 != t196))) else (laws_FnHalf.j0 k t192 t193 t194 true))) = some r := H
    have A5 := Aside0.mk A50
    clear A50
    have HC6 := Aside0.mk H
    clear H
    go_enter Try.func9, Try.ntmps9
    go_upto_region 5 with (first | ((with_reducible refine gate_callee (f := 35) rfl ?_); refine goesL_ (some 17) rfl rfl Try.func35 (by kernel_rfl) rfl #[.slice A0 l0.length c0] rfl mp_ ?_; (with_reducible refine (laws_big.calls _ _ l0 false _ ?side1 ?side2 A2.out).mono ?_); (case side1 => repeat (first | exact HR0.out | (with_reducible refine Kd.C_alloc ?_ _) | (with_reducible refine Kd.C_drewN ?_ _) | (with_reducible refine Kd.C_drew ?_))); (case side2 => exact HC0.out); rintro e w' ⟨rfl, ⟨nd, rfl⟩⟩; refine ⟨_, rfl, ?_⟩) | ((with_reducible refine gate_callee (f := 42) rfl ?_); refine goesL_ (some 20) rfl rfl Try.func42 (by kernel_rfl) rfl #[.slice A0 l0.length c0] rfl mp_ ?_; (with_reducible refine (spec_DrawHalfSum.calls k _ _ l0 t192 t193 _ ?side1 ?side2 A4.out).mono ?_); (case side1 => repeat (first | exact HR0.out | (with_reducible refine Kd.C_alloc ?_ _) | (with_reducible refine Kd.C_drewN ?_ _) | (with_reducible refine Kd.C_drew ?_))); (case side2 => exact HC0.out); rintro e w7 ⟨rfl, hb⟩; refine ⟨_, rfl, ?_⟩; have n0_ := Aside0.mk (below_step bel_ hb); clear HB; have HB := n0_; clear n0_; (try clear hb); (try clear hb2); (try clear hk); (try clear hi)) | ((with_reducible refine gate_callee (f := 43) rfl ?_); refine goesL_ (some 25) rfl rfl Try.func43 (by kernel_rfl) rfl #[.int .i64 t192, .int .i64 t193] rfl mp_ ?_; (with_reducible refine (impl_HalfSum.calls t192 t193 t194 _ A5.out).mono ?_); rintro e w' ⟨rfl, ⟨nd, rfl⟩⟩; refine ⟨_, rfl, ?_⟩))
    (try simp only [Act.put, la_, lb_, lc_])
    go_cut [37] (fun v37 wc => ∃ (kq : Nat) (x37_5 : Bool), v37 = .bool x37_5 ∧ Aside0 (laws_FnHalf.j0 kq t192 t193 t194 x37_5 = some r) ∧ Aside0 (kq ≤ k) ∧ Aside0 (Below w.heap.size w wc))
    case first =>
      have H := HC6.out
      clear HC6
      replace H := Option.bind_eq_some_iff.mp H
      obtain ⟨t195, A80, H⟩ := H
      replace H : (if t194 = t195 then ((spec_HalfSum.f t192 t193).bind fun t196 => (laws_FnHalf.j0 k t192 t193 t194 (t194 != t196))) else (laws_FnHalf.j0 k t192 t193 t194 true)) = some r := H
      have A8 := Aside0.mk A80
      clear A80
      by_cases c9 : t194 = t195
      · rw [if_pos c9] at H
        have c9b0 : (t194 == t195) = true := beq_iff_eq.mpr c9
        have c9b1 : (t194 != t195) = false := bne_eq_false_iff_eq.mpr c9
        clear c9
        (first | rw [c9b0] | (simp only [i64_w, i32_w]; rw [c9b0]) | skip)
        replace H := Option.bind_eq_some_iff.mp H
        obtain ⟨t196, A100, H⟩ := H
        replace H : (laws_FnHalf.j0 k t192 t193 t194 (t194 != t196)) = some r := H
        have A10 := Aside0.mk A100
        clear A100
        have H' := Aside0.mk H
        clear H
        go_wp2_with (first | ((with_reducible refine gate_callee (f := 43) rfl ?_); refine goesL_ (some 29) rfl rfl Try.func43 (by kernel_rfl) rfl #[.int .i64 t193, .int .i64 t192] rfl mp_ ?_; (with_reducible refine (impl_HalfSum.calls t193 t192 t195 _ A8.out).mono ?_); rintro e w' ⟨rfl, ⟨nd, rfl⟩⟩; refine ⟨_, rfl, ?_⟩) | (go_at_call 44; (with_reducible refine (spec_HalfSum.calls t192 t193 t196 _ A10.out).mono ?_); rintro e w' ⟨rfl, ⟨nd, rfl⟩⟩))
        go_meet
        case rel => exact ⟨_, ((t194 != t196)), (by first | rfl | (simp; done) | (simp [*]; done)), H', ⟨by first | omega | exact Nat.le_refl _⟩, ⟨by repeat (first | (with_reducible first | exact HB.out | apply below_alloc | apply pw_below_drewN | apply below_drew1) | exact HB.out)⟩⟩
      · rw [if_neg c9] at H
        have c9b0 : (t194 == t195) = false := beq_eq_false_iff_ne.mpr c9
        have c9b1 : (t194 != t195) = true := bne_iff_ne.mpr c9
        (first | rw [c9b0] | (simp only [i64_w, i32_w]; rw [c9b0]) | skip)
        have H' := Aside0.mk H
        clear H
        go_wp2_with (first | ((with_reducible refine gate_callee (f := 43) rfl ?_); refine goesL_ (some 29) rfl rfl Try.func43 (by kernel_rfl) rfl #[.int .i64 t193, .int .i64 t192] rfl mp_ ?_; (with_reducible refine (impl_HalfSum.calls t193 t192 t195 _ A8.out).mono ?_); rintro e w' ⟨rfl, ⟨nd, rfl⟩⟩; refine ⟨_, rfl, ?_⟩))
        go_meet
        case rel => exact ⟨_, (true), (by first | rfl | (simp; done) | (simp [*]; done)), H', ⟨by first | omega | exact Nat.le_refl _⟩, ⟨by repeat (first | (with_reducible first | exact HB.out | apply below_alloc | apply pw_below_drewN | apply below_drew1) | exact HB.out)⟩⟩
    case rest =>
      clear HC6
      try clear p2
      try clear c3
      try clear c4
      try clear c9
      try clear c9b0
      try clear c9b1
      obtain ⟨kq, x37_5, rfl, HA, HJ5, HB⟩ := hcut
      cases kq with
      | zero => exact absurd HA.out (by simp [laws_FnHalf.j0])
      | succ kj5 =>
        have H := HA.out
        clear HA
        simp only [laws_FnHalf.j0] at H
        by_cases c11 : x37_5 = true
        · subst c11
          have H1 : (some false) = some r := by rw [if_pos rfl] at H; exact H
          clear H
          have H := H1
          clear H1
          exact absurd ((Option.some.inj H).trans hrt.out) (by decide)
        · replace c11 := Bool.eq_false_iff.mpr c11
          subst c11
          have H1 : (if t193 < t192 then (laws_FnHalf.j1 kj5 t194 t193 t192) else (laws_FnHalf.j1 kj5 t194 t192 t193)) = some r := by rw [if_neg (show ¬ (false = true) by decide)] at H; exact H
          clear H
          have H := H1
          clear H1
          have HC12 := Aside0.mk H
          clear H
          go_upto_if 42 with (fail)
          go_cut [6, 7] (fun v6 v7 wc => ∃ (kq : Nat) (x6_11 : Int) (x7_11 : Int), v6 = .int .i64 x6_11 ∧ v7 = .int .i64 x7_11 ∧ Aside0 (laws_FnHalf.j1 kq t194 x6_11 x7_11 = some r) ∧ Aside0 (kq ≤ kj5) ∧ Aside0 (Below w.heap.size w wc))
          case first =>
            have H := HC12.out
            clear HC12
            by_cases c13 : t193 < t192
            · rw [if_pos c13] at H
              have c13b0 : decide (t193 < t192) = true := decide_eq_true c13
              clear c13
              (first | rw [c13b0] | (simp only [i64_w, i32_w]; rw [c13b0]) | skip)
              have H' := Aside0.mk H
              clear H
              go_wp2
              go_meet
              case rel => exact ⟨_, (t193), (t192), (by first | rfl | (simp; done) | (simp [*]; done)), (by first | rfl | (simp; done) | (simp [*]; done)), H', ⟨by have := HJ5.out; first | omega | exact Nat.le_refl _⟩, ⟨by repeat (first | (with_reducible first | exact HB.out | apply below_alloc | apply pw_below_drewN | apply below_drew1) | exact HB.out)⟩⟩
            · rw [if_neg c13] at H
              have c13b0 : decide (t193 < t192) = false := decide_eq_false c13
              clear c13
              (first | rw [c13b0] | (simp only [i64_w, i32_w]; rw [c13b0]) | skip)
              have H' := Aside0.mk H
              clear H
              go_wp2
              go_meet
              case rel => exact ⟨_, (t192), (t193), (by first | rfl | (simp; done) | (simp [*]; done)), (by first | rfl | (simp; done) | (simp [*]; done)), H', ⟨by have := HJ5.out; first | omega | exact Nat.le_refl _⟩, ⟨by repeat (first | (with_reducible first | exact HB.out | apply below_alloc | apply pw_below_drewN | apply below_drew1) | exact HB.out)⟩⟩
          case rest =>
            clear HC12
            try clear c1
            try clear p2
            try clear c3
            try clear c4
            try clear c9
            try clear c9b0
            try clear c9b1
            try clear c11
            try clear c13
            try clear c13b0
            try clear p2
            obtain ⟨kq, x6_11, x7_11, rfl, rfl, HA, HJ11, HB⟩ := hcut
            cases kq with
            | zero => exact absurd HA.out (by simp [laws_FnHalf.j1])
            | succ kj11 =>
              have H := HA.out
              clear HA
              simp only [laws_FnHalf.j1] at H
              replace H := Option.bind_eq_some_iff.mp H
              obtain ⟨⟨t197, t198, t199⟩, A140, H⟩ := H
              replace H : ((spec_WideOf.f x6_11).bind fun bt200 => ((spec_SubWide.f kj11 t197 t198 t199 bt200.1 bt200.2.1 bt200.2.2).bind fun bt203 => ((spec_WideOf.f x7_11).bind fun bt208 => ((spec_WideOf.f t194).bind fun bt211 => ((spec_SubWide.f kj11 bt208.1 bt208.2.1 bt208.2.2 bt211.1 bt211.2.1 bt211.2.2).bind fun bt214 => ((spec_SubWide.f kj11 bt214.1 bt214.2.1 bt214.2.2.1 bt203.1 bt203.2.1 bt203.2.2.1).bind fun bt219 => ((spec_IntOf.f kj11 bt219.1 bt219.2.1 bt219.2.2.1).bind fun bt224 => (if t194 ≥ x6_11 then (if t194 ≤ x7_11 then (if bt203.2.2.2 = true then (if bt214.2.2.2 = true then (if bt219.2.2.2 = true then (if bt224.2 = true then (if bt224.1 = 0 then (some true) else (some (bt224.1 == 1))) else (some false)) else (some false)) else (some false)) else (some false)) else (some false)) else (some false))))))))) = some r := H
              have A14 := Aside0.mk A140
              clear A140
              replace H := Option.bind_eq_some_iff.mp H
              obtain ⟨⟨t200, t201, t202⟩, A150, H⟩ := H
              replace H : ((spec_SubWide.f kj11 t197 t198 t199 t200 t201 t202).bind fun bt203 => ((spec_WideOf.f x7_11).bind fun bt208 => ((spec_WideOf.f t194).bind fun bt211 => ((spec_SubWide.f kj11 bt208.1 bt208.2.1 bt208.2.2 bt211.1 bt211.2.1 bt211.2.2).bind fun bt214 => ((spec_SubWide.f kj11 bt214.1 bt214.2.1 bt214.2.2.1 bt203.1 bt203.2.1 bt203.2.2.1).bind fun bt219 => ((spec_IntOf.f kj11 bt219.1 bt219.2.1 bt219.2.2.1).bind fun bt224 => (if t194 ≥ x6_11 then (if t194 ≤ x7_11 then (if bt203.2.2.2 = true then (if bt214.2.2.2 = true then (if bt219.2.2.2 = true then (if bt224.2 = true then (if bt224.1 = 0 then (some true) else (some (bt224.1 == 1))) else (some false)) else (some false)) else (some false)) else (some false)) else (some false)) else (some false)))))))) = some r := H
              have A15 := Aside0.mk A150
              clear A150
              replace H := Option.bind_eq_some_iff.mp H
              obtain ⟨⟨t203, t204, t205, t206⟩, A160, H⟩ := H
              replace H : ((spec_WideOf.f x7_11).bind fun bt208 => ((spec_WideOf.f t194).bind fun bt211 => ((spec_SubWide.f kj11 bt208.1 bt208.2.1 bt208.2.2 bt211.1 bt211.2.1 bt211.2.2).bind fun bt214 => ((spec_SubWide.f kj11 bt214.1 bt214.2.1 bt214.2.2.1 t203 t204 t205).bind fun bt219 => ((spec_IntOf.f kj11 bt219.1 bt219.2.1 bt219.2.2.1).bind fun bt224 => (if t194 ≥ x6_11 then (if t194 ≤ x7_11 then (if t206 = true then (if bt214.2.2.2 = true then (if bt219.2.2.2 = true then (if bt224.2 = true then (if bt224.1 = 0 then (some true) else (some (bt224.1 == 1))) else (some false)) else (some false)) else (some false)) else (some false)) else (some false)) else (some false))))))) = some r := H
              have A16 := Aside0.mk A160
              clear A160
              replace H := Option.bind_eq_some_iff.mp H
              obtain ⟨⟨t208, t209, t210⟩, A170, H⟩ := H
              replace H : ((spec_WideOf.f t194).bind fun bt211 => ((spec_SubWide.f kj11 t208 t209 t210 bt211.1 bt211.2.1 bt211.2.2).bind fun bt214 => ((spec_SubWide.f kj11 bt214.1 bt214.2.1 bt214.2.2.1 t203 t204 t205).bind fun bt219 => ((spec_IntOf.f kj11 bt219.1 bt219.2.1 bt219.2.2.1).bind fun bt224 => (if t194 ≥ x6_11 then (if t194 ≤ x7_11 then (if t206 = true then (if bt214.2.2.2 = true then (if bt219.2.2.2 = true then (if bt224.2 = true then (if bt224.1 = 0 then (some true) else (some (bt224.1 == 1))) else (some false)) else (some false)) else (some false)) else (some false)) else (some false)) else (some false)))))) = some r := H
              have A17 := Aside0.mk A170
              clear A170
              replace H := Option.bind_eq_some_iff.mp H
              obtain ⟨⟨t211, t212, t213⟩, A180, H⟩ := H
              replace H : ((spec_SubWide.f kj11 t208 t209 t210 t211 t212 t213).bind fun bt214 => ((spec_SubWide.f kj11 bt214.1 bt214.2.1 bt214.2.2.1 t203 t204 t205).bind fun bt219 => ((spec_IntOf.f kj11 bt219.1 bt219.2.1 bt219.2.2.1).bind fun bt224 => (if t194 ≥ x6_11 then (if t194 ≤ x7_11 then (if t206 = true then (if bt214.2.2.2 = true then (if bt219.2.2.2 = true then (if bt224.2 = true then (if bt224.1 = 0 then (some true) else (some (bt224.1 == 1))) else (some false)) else (some false)) else (some false)) else (some false)) else (some false)) else (some false))))) = some r := H
              have A18 := Aside0.mk A180
              clear A180
              replace H := Option.bind_eq_some_iff.mp H
              obtain ⟨⟨t214, t215, t216, t217⟩, A190, H⟩ := H
              replace H : ((spec_SubWide.f kj11 t214 t215 t216 t203 t204 t205).bind fun bt219 => ((spec_IntOf.f kj11 bt219.1 bt219.2.1 bt219.2.2.1).bind fun bt224 => (if t194 ≥ x6_11 then (if t194 ≤ x7_11 then (if t206 = true then (if t217 = true then (if bt219.2.2.2 = true then (if bt224.2 = true then (if bt224.1 = 0 then (some true) else (some (bt224.1 == 1))) else (some false)) else (some false)) else (some false)) else (some false)) else (some false)) else (some false)))) = some r := H
              have A19 := Aside0.mk A190
              clear A190
              replace H := Option.bind_eq_some_iff.mp H
              obtain ⟨⟨t219, t220, t221, t222⟩, A200, H⟩ := H
              replace H : ((spec_IntOf.f kj11 t219 t220 t221).bind fun bt224 => (if t194 ≥ x6_11 then (if t194 ≤ x7_11 then (if t206 = true then (if t217 = true then (if t222 = true then (if bt224.2 = true then (if bt224.1 = 0 then (some true) else (some (bt224.1 == 1))) else (some false)) else (some false)) else (some false)) else (some false)) else (some false)) else (some false))) = some r := H
              have A20 := Aside0.mk A200
              clear A200
              replace H := Option.bind_eq_some_iff.mp H
              obtain ⟨⟨t224, t225⟩, A210, H⟩ := H
              replace H : (if t194 ≥ x6_11 then (if t194 ≤ x7_11 then (if t206 = true then (if t217 = true then (if t222 = true then (if t225 = true then (if t224 = 0 then (some true) else (some (t224 == 1))) else (some false)) else (some false)) else (some false)) else (some false)) else (some false)) else (some false)) = some r := H
              have A21 := Aside0.mk A210
              clear A210
              by_cases c22 : t194 ≥ x6_11
              · rw [if_pos c22] at H
                have c22b0 : decide (x6_11 ≤ t194) = true := decide_eq_true c22
                clear c22
                by_cases c23 : t194 ≤ x7_11
                · rw [if_pos c23] at H
                  have c23b0 : decide (t194 ≤ x7_11) = true := decide_eq_true c23
                  clear c23
                  by_cases c24 : t206 = true
                  · subst c24
                    have H1 : (if t217 = true then (if t222 = true then (if t225 = true then (if t224 = 0 then (some true) else (some (t224 == 1))) else (some false)) else (some false)) else (some false)) = some r := by rw [if_pos rfl] at H; exact H
                    clear H
                    have H := H1
                    clear H1
                    by_cases c25 : t217 = true
                    · subst c25
                      have H1 : (if t222 = true then (if t225 = true then (if t224 = 0 then (some true) else (some (t224 == 1))) else (some false)) else (some false)) = some r := by rw [if_pos rfl] at H; exact H
                      clear H
                      have H := H1
                      clear H1
                      by_cases c26 : t222 = true
                      · subst c26
                        have H1 : (if t225 = true then (if t224 = 0 then (some true) else (some (t224 == 1))) else (some false)) = some r := by rw [if_pos rfl] at H; exact H
                        clear H
                        have H := H1
                        clear H1
                        by_cases c27 : t225 = true
                        · subst c27
                          have H1 : (if t224 = 0 then (some true) else (some (t224 == 1))) = some r := by rw [if_pos rfl] at H; exact H
                          clear H
                          have H := H1
                          clear H1
                          by_cases c28 : t224 = 0
                          · rw [if_pos c28] at H
                            have c28b0 : (t224 == 0) = true := beq_iff_eq.mpr c28
                            have c28b1 : (t224 != 0) = false := bne_eq_false_iff_eq.mpr c28
                            clear c28
                            obtain rfl := Option.some.inj H
                            go_wp2_with (first | ((with_reducible refine gate_callee (f := 46) rfl ?_); refine goesL_ (some 47) rfl rfl Try.func46 (by kernel_rfl) rfl #[.int .i64 t194] rfl mp_ ?_; (with_reducible refine (spec_WideOf.calls t194 t197 t198 t199 _ A14.out).mono ?_); rintro e w29 ⟨rfl, hb⟩; refine ⟨_, rfl, ?_⟩; have n0_ := Aside0.mk (below_step bel_ hb); clear HB; have HB := n0_; clear n0_; (try clear hb); (try clear hb2); (try clear hk); (try clear hi)) | ((with_reducible refine gate_callee (f := 46) rfl ?_); refine goesL_ (some 49) rfl rfl Try.func46 (by kernel_rfl) rfl #[.int .i64 x6_11] rfl mp_ ?_; (with_reducible refine (spec_WideOf.calls x6_11 t200 t201 t202 _ A15.out).mono ?_); rintro e w30 ⟨rfl, hb⟩; refine ⟨_, rfl, ?_⟩; have n0_ := Aside0.mk (below_step bel_ hb); clear HB; have HB := n0_; clear n0_; (try clear hb); (try clear hb2); (try clear hk); (try clear hi)) | ((with_reducible refine gate_callee (f := 45) rfl ?_); refine goesL_ (some 50) rfl rfl Try.func45 (by kernel_rfl) rfl #[.agg #[.bool t197, .int .u64 t198, .int .u64 t199], .agg #[.bool t200, .int .u64 t201, .int .u64 t202]] rfl mp_ ?_; (with_reducible refine (spec_SubWide.calls kj11 t197 t198 t199 t200 t201 t202 t203 t204 t205 true _ A16.out).mono ?_); rintro e w31 ⟨rfl, hb⟩; refine ⟨_, rfl, ?_⟩; have n0_ := Aside0.mk (below_step bel_ hb); clear HB; have HB := n0_; clear n0_; (try clear hb); (try clear hb2); (try clear hk); (try clear hi)) | ((with_reducible refine gate_dst (N := 8) rfl ?_); refine box_event ?hg (N := 8) ?hd (cs := #[.bool false, .int .u64 0, .int .u64 0]) (t := 33) ?hr ?_; (case hd => rfl); (case hg => rfl); (case hr => first | (go_simp; done) | (go_simp; rfl)); intro gb207 hg w32 hbox hb; have n0_ := Aside0.mk (below_step bel_ hb); have n1_ := Aside0.mk (hbox); have n2_ := Aside0.mk ((by rw [hg]; exact (below_size bel_) : w.heap.size ≤ gb207)); have n3_ := Aside0.mk ((by rw [hg]; exact (below_size bel_) : w.heap.size ≤ gb207)); clear HB; have HB := n0_; have BK207 := n1_; have GW207 := n2_; have GE207 := n3_; clear n0_ n1_ n2_ n3_; clear hb hbox hg; have hcz33_0 : w32.cell? ⟨gb207, 0, none⟩ = some (.bool false) := bc_; have hcz33_1 : w32.cell? ⟨gb207, 1, none⟩ = some (.int .u64 0) := bc_; have hcz33_2 : w32.cell? ⟨gb207, 2, none⟩ = some (.int .u64 0) := bc_; have hfz33_0 := blk_frozen BK207.out 0; have hfz33_1 := blk_frozen BK207.out 1; have hfz33_2 := blk_frozen BK207.out 2) | ((with_reducible refine gate_callee (f := 46) rfl ?_); refine goesL_ (some 55) rfl rfl Try.func46 (by kernel_rfl) rfl #[.int .i64 x7_11] rfl mp_ ?_; (with_reducible refine (spec_WideOf.calls x7_11 t208 t209 t210 _ A17.out).mono ?_); rintro e w34 ⟨rfl, hb⟩; refine ⟨_, rfl, ?_⟩; have n0_ := Aside0.mk (blk_below (g := gb207) (o := .cells #[.bool t203, .int .u64 t204, .int .u64 t205] 33 (0, 0)) (by (with_reducible repeat (first | refine bN_ _ ?_ | refine bd_ ?_ | refine ba_ _ ?_)); refine blk_put (cs := #[.bool t203, .int .u64 t204, .int .u64 0]) ?_ 2 _ rfl; (with_reducible repeat (first | refine bN_ _ ?_ | refine bd_ ?_ | refine ba_ _ ?_)); refine blk_put (cs := #[.bool t203, .int .u64 0, .int .u64 0]) ?_ 1 _ rfl; (with_reducible repeat (first | refine bN_ _ ?_ | refine bd_ ?_ | refine ba_ _ ?_)); refine blk_put (cs := #[.bool false, .int .u64 0, .int .u64 0]) ?_ 0 _ rfl; (with_reducible repeat (first | refine bN_ _ ?_ | refine bd_ ?_ | refine ba_ _ ?_)); exact BK207.out) hb); have n1_ := Aside0.mk (below_step bel_ hb); clear BK207; clear HB; have BK207 := n0_; have HB := n1_; clear n0_ n1_; (try clear hb); (try clear hb2); (try clear hk); (try clear hi)) | ((with_reducible refine gate_callee (f := 46) rfl ?_); refine goesL_ (some 57) rfl rfl Try.func46 (by kernel_rfl) rfl #[.int .i64 t194] rfl mp_ ?_; (with_reducible refine (spec_WideOf.calls t194 t211 t212 t213 _ A18.out).mono ?_); rintro e w35 ⟨rfl, hb⟩; refine ⟨_, rfl, ?_⟩; have n0_ := bb_ (g := gb207) (o := .cells #[.bool t203, .int .u64 t204, .int .u64 t205] 33 (0, 0)) hb; have n1_ := Aside0.mk (below_step bel_ hb); clear BK207; clear HB; have BK207 := n0_; have HB := n1_; clear n0_ n1_; (try clear hb); (try clear hb2); (try clear hk); (try clear hi)) | ((with_reducible refine gate_callee (f := 45) rfl ?_); refine goesL_ (some 58) rfl rfl Try.func45 (by kernel_rfl) rfl #[.agg #[.bool t208, .int .u64 t209, .int .u64 t210], .agg #[.bool t211, .int .u64 t212, .int .u64 t213]] rfl mp_ ?_; (with_reducible refine (spec_SubWide.calls kj11 t208 t209 t210 t211 t212 t213 t214 t215 t216 true _ A19.out).mono ?_); rintro e w36 ⟨rfl, hb⟩; refine ⟨_, rfl, ?_⟩; have n0_ := bb_ (g := gb207) (o := .cells #[.bool t203, .int .u64 t204, .int .u64 t205] 33 (0, 0)) hb; have n1_ := Aside0.mk (below_step bel_ hb); clear BK207; clear HB; have BK207 := n0_; have HB := n1_; clear n0_ n1_; (try clear hb); (try clear hb2); (try clear hk); (try clear hi)) | ((with_reducible refine gate_dst (N := 10) rfl ?_); refine box_event ?hg (N := 10) ?hd (cs := #[.bool false, .int .u64 0, .int .u64 0]) (t := 33) ?hr ?_; (case hd => rfl); (case hg => rfl); (case hr => first | (go_simp; done) | (go_simp; rfl)); intro gb218 hg w37 hbox hb; have n0_ := bb_ (g := gb207) (o := .cells #[.bool t203, .int .u64 t204, .int .u64 t205] 33 (0, 0)) hb; have n1_ := Aside0.mk (below_step bel_ hb); have n2_ := Aside0.mk (hbox); have n3_ := Aside0.mk ((by rw [hg]; exact (below_size bel_) : w.heap.size ≤ gb218)); have n4_ := Aside0.mk ((by rw [hg]; exact (below_size bel_) : w.heap.size ≤ gb218)); have n5_ := nlt_ (g := gb207) (o := .cells #[.bool t203, .int .u64 t204, .int .u64 t205] 33 (0, 0)) hg; have n6_ := ngt_ (g := gb207) (o := .cells #[.bool t203, .int .u64 t204, .int .u64 t205] 33 (0, 0)) hg; clear BK207; clear HB; have BK207 := n0_; have HB := n1_; have BK218 := n2_; have GW218 := n3_; have GE218 := n4_; have NB207_218 := n5_; have NB218_207 := n6_; clear n0_ n1_ n2_ n3_ n4_ n5_ n6_; clear hb hbox hg; have hnb38 := NB218_207.out; have hnc38 := NB207_218.out; have hcz39_0 : w37.cell? ⟨gb218, 0, none⟩ = some (.bool false) := bc_; have hcz39_1 : w37.cell? ⟨gb218, 1, none⟩ = some (.int .u64 0) := bc_; have hcz39_2 : w37.cell? ⟨gb218, 2, none⟩ = some (.int .u64 0) := bc_; have hfz39_0 := blk_frozen BK218.out 0; have hfz39_1 := blk_frozen BK218.out 1; have hfz39_2 := blk_frozen BK218.out 2; have hcz40_0 : w37.cell? ⟨gb207, 0, none⟩ = some (.bool t203) := bc_; have hcz40_1 : w37.cell? ⟨gb207, 1, none⟩ = some (.int .u64 t204) := bc_; have hcz40_2 : w37.cell? ⟨gb207, 2, none⟩ = some (.int .u64 t205) := bc_; have hfz40_0 := blk_frozen BK207.out 0; have hfz40_1 := blk_frozen BK207.out 1; have hfz40_2 := blk_frozen BK207.out 2) | ((with_reducible refine gate_callee (f := 45) rfl ?_); refine goesL_ (some 64) rfl rfl Try.func45 (by kernel_rfl) rfl #[.agg #[.bool t214, .int .u64 t215, .int .u64 t216], .agg #[.bool t203, .int .u64 t204, .int .u64 t205]] rfl mp_ ?_; (with_reducible refine (spec_SubWide.calls kj11 t214 t215 t216 t203 t204 t205 t219 t220 t221 true _ A20.out).mono ?_); rintro e w41 ⟨rfl, hb⟩; refine ⟨_, rfl, ?_⟩; have n0_ := Aside0.mk (blk_below (g := gb207) (o := .cells #[.bool t203, .int .u64 t204, .int .u64 t205] 33 (0, 0)) (by (with_reducible repeat (first | refine bN_ _ ?_ | refine bd_ ?_ | refine ba_ _ ?_)); refine blk_far ?_ NB207_218.out _; (with_reducible repeat (first | refine bN_ _ ?_ | refine bd_ ?_ | refine ba_ _ ?_)); refine blk_far ?_ NB207_218.out _; (with_reducible repeat (first | refine bN_ _ ?_ | refine bd_ ?_ | refine ba_ _ ?_)); refine blk_far ?_ NB207_218.out _; (with_reducible repeat (first | refine bN_ _ ?_ | refine bd_ ?_ | refine ba_ _ ?_)); exact BK207.out) hb); have n1_ := Aside0.mk (blk_below (g := gb218) (o := .cells #[.bool t214, .int .u64 t215, .int .u64 t216] 33 (0, 0)) (by (with_reducible repeat (first | refine bN_ _ ?_ | refine bd_ ?_ | refine ba_ _ ?_)); refine blk_put (cs := #[.bool t214, .int .u64 t215, .int .u64 0]) ?_ 2 _ rfl; (with_reducible repeat (first | refine bN_ _ ?_ | refine bd_ ?_ | refine ba_ _ ?_)); refine blk_put (cs := #[.bool t214, .int .u64 0, .int .u64 0]) ?_ 1 _ rfl; (with_reducible repeat (first | refine bN_ _ ?_ | refine bd_ ?_ | refine ba_ _ ?_)); refine blk_put (cs := #[.bool false, .int .u64 0, .int .u64 0]) ?_ 0 _ rfl; (with_reducible repeat (first | refine bN_ _ ?_ | refine bd_ ?_ | refine ba_ _ ?_)); exact BK218.out) hb); have n2_ := Aside0.mk (below_step bel_ hb); clear BK207; clear BK218; clear HB; have BK207 := n0_; have BK218 := n1_; have HB := n2_; clear n0_ n1_ n2_; (try clear hb); (try clear hb2); (try clear hk); (try clear hi)) | ((with_reducible refine gate_dst (N := 12) rfl ?_); refine box_event ?hg (N := 12) ?hd (cs := #[.bool false, .int .u64 0, .int .u64 0]) (t := 33) ?hr ?_; (case hd => rfl); (case hg => rfl); (case hr => first | (go_simp; done) | (go_simp; rfl)); intro gb223 hg w42 hbox hb; have n0_ := bb_ (g := gb207) (o := .cells #[.bool t203, .int .u64 t204, .int .u64 t205] 33 (0, 0)) hb; have n1_ := bb_ (g := gb218) (o := .cells #[.bool t214, .int .u64 t215, .int .u64 t216] 33 (0, 0)) hb; have n2_ := Aside0.mk (below_step bel_ hb); have n3_ := Aside0.mk (hbox); have n4_ := Aside0.mk ((by rw [hg]; exact (below_size bel_) : w.heap.size ≤ gb223)); have n5_ := Aside0.mk ((by rw [hg]; exact (below_size bel_) : w.heap.size ≤ gb223)); have n6_ := nlt_ (g := gb207) (o := .cells #[.bool t203, .int .u64 t204, .int .u64 t205] 33 (0, 0)) hg; have n7_ := ngt_ (g := gb207) (o := .cells #[.bool t203, .int .u64 t204, .int .u64 t205] 33 (0, 0)) hg; have n8_ := nlt_ (g := gb218) (o := .cells #[.bool t214, .int .u64 t215, .int .u64 t216] 33 (0, 0)) hg; have n9_ := ngt_ (g := gb218) (o := .cells #[.bool t214, .int .u64 t215, .int .u64 t216] 33 (0, 0)) hg; clear BK207; clear BK218; clear HB; have BK207 := n0_; have BK218 := n1_; have HB := n2_; have BK223 := n3_; have GW223 := n4_; have GE223 := n5_; have NB207_223 := n6_; have NB223_207 := n7_; have NB218_223 := n8_; have NB223_218 := n9_; clear n0_ n1_ n2_ n3_ n4_ n5_ n6_ n7_ n8_ n9_; clear hb hbox hg; have hnb43 := NB223_207.out; have hnc43 := NB207_223.out; have hnb44 := NB223_218.out; have hnc44 := NB218_223.out; have hcz45_0 : w42.cell? ⟨gb223, 0, none⟩ = some (.bool false) := bc_; have hcz45_1 : w42.cell? ⟨gb223, 1, none⟩ = some (.int .u64 0) := bc_; have hcz45_2 : w42.cell? ⟨gb223, 2, none⟩ = some (.int .u64 0) := bc_; have hfz45_0 := blk_frozen BK223.out 0; have hfz45_1 := blk_frozen BK223.out 1; have hfz45_2 := blk_frozen BK223.out 2) | ((with_reducible refine gate_callee (f := 40) rfl ?_); refine goesL_ (some 69) rfl rfl Try.func40 (by kernel_rfl) rfl #[.agg #[.bool t219, .int .u64 t220, .int .u64 t221]] rfl mp_ ?_; (with_reducible refine (spec_IntOf.calls kj11 t219 t220 t221 t224 true _ A21.out).mono ?_); rintro e w46 ⟨rfl, hb⟩; refine ⟨_, rfl, ?_⟩; have n0_ := Aside0.mk (blk_below (g := gb207) (o := .cells #[.bool t203, .int .u64 t204, .int .u64 t205] 33 (0, 0)) (by (with_reducible repeat (first | refine bN_ _ ?_ | refine bd_ ?_ | refine ba_ _ ?_)); refine blk_far ?_ NB207_223.out _; (with_reducible repeat (first | refine bN_ _ ?_ | refine bd_ ?_ | refine ba_ _ ?_)); refine blk_far ?_ NB207_223.out _; (with_reducible repeat (first | refine bN_ _ ?_ | refine bd_ ?_ | refine ba_ _ ?_)); refine blk_far ?_ NB207_223.out _; (with_reducible repeat (first | refine bN_ _ ?_ | refine bd_ ?_ | refine ba_ _ ?_)); exact BK207.out) hb); have n1_ := Aside0.mk (blk_below (g := gb218) (o := .cells #[.bool t214, .int .u64 t215, .int .u64 t216] 33 (0, 0)) (by (with_reducible repeat (first | refine bN_ _ ?_ | refine bd_ ?_ | refine ba_ _ ?_)); refine blk_far ?_ NB218_223.out _; (with_reducible repeat (first | refine bN_ _ ?_ | refine bd_ ?_ | refine ba_ _ ?_)); refine blk_far ?_ NB218_223.out _; (with_reducible repeat (first | refine bN_ _ ?_ | refine bd_ ?_ | refine ba_ _ ?_)); refine blk_far ?_ NB218_223.out _; (with_reducible repeat (first | refine bN_ _ ?_ | refine bd_ ?_ | refine ba_ _ ?_)); exact BK218.out) hb); have n2_ := Aside0.mk (blk_below (g := gb223) (o := .cells #[.bool t219, .int .u64 t220, .int .u64 t221] 33 (0, 0)) (by (with_reducible repeat (first | refine bN_ _ ?_ | refine bd_ ?_ | refine ba_ _ ?_)); refine blk_put (cs := #[.bool t219, .int .u64 t220, .int .u64 0]) ?_ 2 _ rfl; (with_reducible repeat (first | refine bN_ _ ?_ | refine bd_ ?_ | refine ba_ _ ?_)); refine blk_put (cs := #[.bool t219, .int .u64 0, .int .u64 0]) ?_ 1 _ rfl; (with_reducible repeat (first | refine bN_ _ ?_ | refine bd_ ?_ | refine ba_ _ ?_)); refine blk_put (cs := #[.bool false, .int .u64 0, .int .u64 0]) ?_ 0 _ rfl; (with_reducible repeat (first | refine bN_ _ ?_ | refine bd_ ?_ | refine ba_ _ ?_)); exact BK223.out) hb); have n3_ := Aside0.mk (below_step bel_ hb); clear BK207; clear BK218; clear BK223; clear HB; have BK207 := n0_; have BK218 := n1_; have BK223 := n2_; have HB := n3_; clear n0_ n1_ n2_ n3_; (try clear hb); (try clear hb2); (try clear hk); (try clear hi)))
                            go_ret
                            exact ⟨by first | rfl | (simp [errW_none, errW_some] <;> rfl) | (simp [*, errW_none, errW_some] <;> rfl), by repeat (first | (with_reducible first | exact HB.out | apply below_alloc | apply pw_below_drewN | apply below_drew1 | refine below_set ?_ GE207.out | refine below_set ?_ GE218.out | refine below_set ?_ GE223.out) | exact HB.out)⟩
                          · rw [if_neg c28] at H
                            have c28b0 : (t224 == 0) = false := beq_eq_false_iff_ne.mpr c28
                            have c28b1 : (t224 != 0) = true := bne_iff_ne.mpr c28
                            obtain rfl := Option.some.inj H
                            go_wp2_with (first | ((with_reducible refine gate_callee (f := 46) rfl ?_); refine goesL_ (some 47) rfl rfl Try.func46 (by kernel_rfl) rfl #[.int .i64 t194] rfl mp_ ?_; (with_reducible refine (spec_WideOf.calls t194 t197 t198 t199 _ A14.out).mono ?_); rintro e w47 ⟨rfl, hb⟩; refine ⟨_, rfl, ?_⟩; have n0_ := Aside0.mk (below_step bel_ hb); clear HB; have HB := n0_; clear n0_; (try clear hb); (try clear hb2); (try clear hk); (try clear hi)) | ((with_reducible refine gate_callee (f := 46) rfl ?_); refine goesL_ (some 49) rfl rfl Try.func46 (by kernel_rfl) rfl #[.int .i64 x6_11] rfl mp_ ?_; (with_reducible refine (spec_WideOf.calls x6_11 t200 t201 t202 _ A15.out).mono ?_); rintro e w48 ⟨rfl, hb⟩; refine ⟨_, rfl, ?_⟩; have n0_ := Aside0.mk (below_step bel_ hb); clear HB; have HB := n0_; clear n0_; (try clear hb); (try clear hb2); (try clear hk); (try clear hi)) | ((with_reducible refine gate_callee (f := 45) rfl ?_); refine goesL_ (some 50) rfl rfl Try.func45 (by kernel_rfl) rfl #[.agg #[.bool t197, .int .u64 t198, .int .u64 t199], .agg #[.bool t200, .int .u64 t201, .int .u64 t202]] rfl mp_ ?_; (with_reducible refine (spec_SubWide.calls kj11 t197 t198 t199 t200 t201 t202 t203 t204 t205 true _ A16.out).mono ?_); rintro e w49 ⟨rfl, hb⟩; refine ⟨_, rfl, ?_⟩; have n0_ := Aside0.mk (below_step bel_ hb); clear HB; have HB := n0_; clear n0_; (try clear hb); (try clear hb2); (try clear hk); (try clear hi)) | ((with_reducible refine gate_dst (N := 8) rfl ?_); refine box_event ?hg (N := 8) ?hd (cs := #[.bool false, .int .u64 0, .int .u64 0]) (t := 33) ?hr ?_; (case hd => rfl); (case hg => rfl); (case hr => first | (go_simp; done) | (go_simp; rfl)); intro gb207 hg w50 hbox hb; have n0_ := Aside0.mk (below_step bel_ hb); have n1_ := Aside0.mk (hbox); have n2_ := Aside0.mk ((by rw [hg]; exact (below_size bel_) : w.heap.size ≤ gb207)); have n3_ := Aside0.mk ((by rw [hg]; exact (below_size bel_) : w.heap.size ≤ gb207)); clear HB; have HB := n0_; have BK207 := n1_; have GW207 := n2_; have GE207 := n3_; clear n0_ n1_ n2_ n3_; clear hb hbox hg; have hcz51_0 : w50.cell? ⟨gb207, 0, none⟩ = some (.bool false) := bc_; have hcz51_1 : w50.cell? ⟨gb207, 1, none⟩ = some (.int .u64 0) := bc_; have hcz51_2 : w50.cell? ⟨gb207, 2, none⟩ = some (.int .u64 0) := bc_; have hfz51_0 := blk_frozen BK207.out 0; have hfz51_1 := blk_frozen BK207.out 1; have hfz51_2 := blk_frozen BK207.out 2) | ((with_reducible refine gate_callee (f := 46) rfl ?_); refine goesL_ (some 55) rfl rfl Try.func46 (by kernel_rfl) rfl #[.int .i64 x7_11] rfl mp_ ?_; (with_reducible refine (spec_WideOf.calls x7_11 t208 t209 t210 _ A17.out).mono ?_); rintro e w52 ⟨rfl, hb⟩; refine ⟨_, rfl, ?_⟩; have n0_ := Aside0.mk (blk_below (g := gb207) (o := .cells #[.bool t203, .int .u64 t204, .int .u64 t205] 33 (0, 0)) (by (with_reducible repeat (first | refine bN_ _ ?_ | refine bd_ ?_ | refine ba_ _ ?_)); refine blk_put (cs := #[.bool t203, .int .u64 t204, .int .u64 0]) ?_ 2 _ rfl; (with_reducible repeat (first | refine bN_ _ ?_ | refine bd_ ?_ | refine ba_ _ ?_)); refine blk_put (cs := #[.bool t203, .int .u64 0, .int .u64 0]) ?_ 1 _ rfl; (with_reducible repeat (first | refine bN_ _ ?_ | refine bd_ ?_ | refine ba_ _ ?_)); refine blk_put (cs := #[.bool false, .int .u64 0, .int .u64 0]) ?_ 0 _ rfl; (with_reducible repeat (first | refine bN_ _ ?_ | refine bd_ ?_ | refine ba_ _ ?_)); exact BK207.out) hb); have n1_ := Aside0.mk (below_step bel_ hb); clear BK207; clear HB; have BK207 := n0_; have HB := n1_; clear n0_ n1_; (try clear hb); (try clear hb2); (try clear hk); (try clear hi)) | ((with_reducible refine gate_callee (f := 46) rfl ?_); refine goesL_ (some 57) rfl rfl Try.func46 (by kernel_rfl) rfl #[.int .i64 t194] rfl mp_ ?_; (with_reducible refine (spec_WideOf.calls t194 t211 t212 t213 _ A18.out).mono ?_); rintro e w53 ⟨rfl, hb⟩; refine ⟨_, rfl, ?_⟩; have n0_ := bb_ (g := gb207) (o := .cells #[.bool t203, .int .u64 t204, .int .u64 t205] 33 (0, 0)) hb; have n1_ := Aside0.mk (below_step bel_ hb); clear BK207; clear HB; have BK207 := n0_; have HB := n1_; clear n0_ n1_; (try clear hb); (try clear hb2); (try clear hk); (try clear hi)) | ((with_reducible refine gate_callee (f := 45) rfl ?_); refine goesL_ (some 58) rfl rfl Try.func45 (by kernel_rfl) rfl #[.agg #[.bool t208, .int .u64 t209, .int .u64 t210], .agg #[.bool t211, .int .u64 t212, .int .u64 t213]] rfl mp_ ?_; (with_reducible refine (spec_SubWide.calls kj11 t208 t209 t210 t211 t212 t213 t214 t215 t216 true _ A19.out).mono ?_); rintro e w54 ⟨rfl, hb⟩; refine ⟨_, rfl, ?_⟩; have n0_ := bb_ (g := gb207) (o := .cells #[.bool t203, .int .u64 t204, .int .u64 t205] 33 (0, 0)) hb; have n1_ := Aside0.mk (below_step bel_ hb); clear BK207; clear HB; have BK207 := n0_; have HB := n1_; clear n0_ n1_; (try clear hb); (try clear hb2); (try clear hk); (try clear hi)) | ((with_reducible refine gate_dst (N := 10) rfl ?_); refine box_event ?hg (N := 10) ?hd (cs := #[.bool false, .int .u64 0, .int .u64 0]) (t := 33) ?hr ?_; (case hd => rfl); (case hg => rfl); (case hr => first | (go_simp; done) | (go_simp; rfl)); intro gb218 hg w55 hbox hb; have n0_ := bb_ (g := gb207) (o := .cells #[.bool t203, .int .u64 t204, .int .u64 t205] 33 (0, 0)) hb; have n1_ := Aside0.mk (below_step bel_ hb); have n2_ := Aside0.mk (hbox); have n3_ := Aside0.mk ((by rw [hg]; exact (below_size bel_) : w.heap.size ≤ gb218)); have n4_ := Aside0.mk ((by rw [hg]; exact (below_size bel_) : w.heap.size ≤ gb218)); have n5_ := nlt_ (g := gb207) (o := .cells #[.bool t203, .int .u64 t204, .int .u64 t205] 33 (0, 0)) hg; have n6_ := ngt_ (g := gb207) (o := .cells #[.bool t203, .int .u64 t204, .int .u64 t205] 33 (0, 0)) hg; clear BK207; clear HB; have BK207 := n0_; have HB := n1_; have BK218 := n2_; have GW218 := n3_; have GE218 := n4_; have NB207_218 := n5_; have NB218_207 := n6_; clear n0_ n1_ n2_ n3_ n4_ n5_ n6_; clear hb hbox hg; have hnb56 := NB218_207.out; have hnc56 := NB207_218.out; have hcz57_0 : w55.cell? ⟨gb218, 0, none⟩ = some (.bool false) := bc_; have hcz57_1 : w55.cell? ⟨gb218, 1, none⟩ = some (.int .u64 0) := bc_; have hcz57_2 : w55.cell? ⟨gb218, 2, none⟩ = some (.int .u64 0) := bc_; have hfz57_0 := blk_frozen BK218.out 0; have hfz57_1 := blk_frozen BK218.out 1; have hfz57_2 := blk_frozen BK218.out 2; have hcz58_0 : w55.cell? ⟨gb207, 0, none⟩ = some (.bool t203) := bc_; have hcz58_1 : w55.cell? ⟨gb207, 1, none⟩ = some (.int .u64 t204) := bc_; have hcz58_2 : w55.cell? ⟨gb207, 2, none⟩ = some (.int .u64 t205) := bc_; have hfz58_0 := blk_frozen BK207.out 0; have hfz58_1 := blk_frozen BK207.out 1; have hfz58_2 := blk_frozen BK207.out 2) | ((with_reducible refine gate_callee (f := 45) rfl ?_); refine goesL_ (some 64) rfl rfl Try.func45 (by kernel_rfl) rfl #[.agg #[.bool t214, .int .u64 t215, .int .u64 t216], .agg #[.bool t203, .int .u64 t204, .int .u64 t205]] rfl mp_ ?_; (with_reducible refine (spec_SubWide.calls kj11 t214 t215 t216 t203 t204 t205 t219 t220 t221 true _ A20.out).mono ?_); rintro e w59 ⟨rfl, hb⟩; refine ⟨_, rfl, ?_⟩; have n0_ := Aside0.mk (blk_below (g := gb207) (o := .cells #[.bool t203, .int .u64 t204, .int .u64 t205] 33 (0, 0)) (by (with_reducible repeat (first | refine bN_ _ ?_ | refine bd_ ?_ | refine ba_ _ ?_)); refine blk_far ?_ NB207_218.out _; (with_reducible repeat (first | refine bN_ _ ?_ | refine bd_ ?_ | refine ba_ _ ?_)); refine blk_far ?_ NB207_218.out _; (with_reducible repeat (first | refine bN_ _ ?_ | refine bd_ ?_ | refine ba_ _ ?_)); refine blk_far ?_ NB207_218.out _; (with_reducible repeat (first | refine bN_ _ ?_ | refine bd_ ?_ | refine ba_ _ ?_)); exact BK207.out) hb); have n1_ := Aside0.mk (blk_below (g := gb218) (o := .cells #[.bool t214, .int .u64 t215, .int .u64 t216] 33 (0, 0)) (by (with_reducible repeat (first | refine bN_ _ ?_ | refine bd_ ?_ | refine ba_ _ ?_)); refine blk_put (cs := #[.bool t214, .int .u64 t215, .int .u64 0]) ?_ 2 _ rfl; (with_reducible repeat (first | refine bN_ _ ?_ | refine bd_ ?_ | refine ba_ _ ?_)); refine blk_put (cs := #[.bool t214, .int .u64 0, .int .u64 0]) ?_ 1 _ rfl; (with_reducible repeat (first | refine bN_ _ ?_ | refine bd_ ?_ | refine ba_ _ ?_)); refine blk_put (cs := #[.bool false, .int .u64 0, .int .u64 0]) ?_ 0 _ rfl; (with_reducible repeat (first | refine bN_ _ ?_ | refine bd_ ?_ | refine ba_ _ ?_)); exact BK218.out) hb); have n2_ := Aside0.mk (below_step bel_ hb); clear BK207; clear BK218; clear HB; have BK207 := n0_; have BK218 := n1_; have HB := n2_; clear n0_ n1_ n2_; (try clear hb); (try clear hb2); (try clear hk); (try clear hi)) | ((with_reducible refine gate_dst (N := 12) rfl ?_); refine box_event ?hg (N := 12) ?hd (cs := #[.bool false, .int .u64 0, .int .u64 0]) (t := 33) ?hr ?_; (case hd => rfl); (case hg => rfl); (case hr => first | (go_simp; done) | (go_simp; rfl)); intro gb223 hg w60 hbox hb; have n0_ := bb_ (g := gb207) (o := .cells #[.bool t203, .int .u64 t204, .int .u64 t205] 33 (0, 0)) hb; have n1_ := bb_ (g := gb218) (o := .cells #[.bool t214, .int .u64 t215, .int .u64 t216] 33 (0, 0)) hb; have n2_ := Aside0.mk (below_step bel_ hb); have n3_ := Aside0.mk (hbox); have n4_ := Aside0.mk ((by rw [hg]; exact (below_size bel_) : w.heap.size ≤ gb223)); have n5_ := Aside0.mk ((by rw [hg]; exact (below_size bel_) : w.heap.size ≤ gb223)); have n6_ := nlt_ (g := gb207) (o := .cells #[.bool t203, .int .u64 t204, .int .u64 t205] 33 (0, 0)) hg; have n7_ := ngt_ (g := gb207) (o := .cells #[.bool t203, .int .u64 t204, .int .u64 t205] 33 (0, 0)) hg; have n8_ := nlt_ (g := gb218) (o := .cells #[.bool t214, .int .u64 t215, .int .u64 t216] 33 (0, 0)) hg; have n9_ := ngt_ (g := gb218) (o := .cells #[.bool t214, .int .u64 t215, .int .u64 t216] 33 (0, 0)) hg; clear BK207; clear BK218; clear HB; have BK207 := n0_; have BK218 := n1_; have HB := n2_; have BK223 := n3_; have GW223 := n4_; have GE223 := n5_; have NB207_223 := n6_; have NB223_207 := n7_; have NB218_223 := n8_; have NB223_218 := n9_; clear n0_ n1_ n2_ n3_ n4_ n5_ n6_ n7_ n8_ n9_; clear hb hbox hg; have hnb61 := NB223_207.out; have hnc61 := NB207_223.out; have hnb62 := NB223_218.out; have hnc62 := NB218_223.out; have hcz63_0 : w60.cell? ⟨gb223, 0, none⟩ = some (.bool false) := bc_; have hcz63_1 : w60.cell? ⟨gb223, 1, none⟩ = some (.int .u64 0) := bc_; have hcz63_2 : w60.cell? ⟨gb223, 2, none⟩ = some (.int .u64 0) := bc_; have hfz63_0 := blk_frozen BK223.out 0; have hfz63_1 := blk_frozen BK223.out 1; have hfz63_2 := blk_frozen BK223.out 2) | ((with_reducible refine gate_callee (f := 40) rfl ?_); refine goesL_ (some 69) rfl rfl Try.func40 (by kernel_rfl) rfl #[.agg #[.bool t219, .int .u64 t220, .int .u64 t221]] rfl mp_ ?_; (with_reducible refine (spec_IntOf.calls kj11 t219 t220 t221 t224 true _ A21.out).mono ?_); rintro e w64 ⟨rfl, hb⟩; refine ⟨_, rfl, ?_⟩; have n0_ := Aside0.mk (blk_below (g := gb207) (o := .cells #[.bool t203, .int .u64 t204, .int .u64 t205] 33 (0, 0)) (by (with_reducible repeat (first | refine bN_ _ ?_ | refine bd_ ?_ | refine ba_ _ ?_)); refine blk_far ?_ NB207_223.out _; (with_reducible repeat (first | refine bN_ _ ?_ | refine bd_ ?_ | refine ba_ _ ?_)); refine blk_far ?_ NB207_223.out _; (with_reducible repeat (first | refine bN_ _ ?_ | refine bd_ ?_ | refine ba_ _ ?_)); refine blk_far ?_ NB207_223.out _; (with_reducible repeat (first | refine bN_ _ ?_ | refine bd_ ?_ | refine ba_ _ ?_)); exact BK207.out) hb); have n1_ := Aside0.mk (blk_below (g := gb218) (o := .cells #[.bool t214, .int .u64 t215, .int .u64 t216] 33 (0, 0)) (by (with_reducible repeat (first | refine bN_ _ ?_ | refine bd_ ?_ | refine ba_ _ ?_)); refine blk_far ?_ NB218_223.out _; (with_reducible repeat (first | refine bN_ _ ?_ | refine bd_ ?_ | refine ba_ _ ?_)); refine blk_far ?_ NB218_223.out _; (with_reducible repeat (first | refine bN_ _ ?_ | refine bd_ ?_ | refine ba_ _ ?_)); refine blk_far ?_ NB218_223.out _; (with_reducible repeat (first | refine bN_ _ ?_ | refine bd_ ?_ | refine ba_ _ ?_)); exact BK218.out) hb); have n2_ := Aside0.mk (blk_below (g := gb223) (o := .cells #[.bool t219, .int .u64 t220, .int .u64 t221] 33 (0, 0)) (by (with_reducible repeat (first | refine bN_ _ ?_ | refine bd_ ?_ | refine ba_ _ ?_)); refine blk_put (cs := #[.bool t219, .int .u64 t220, .int .u64 0]) ?_ 2 _ rfl; (with_reducible repeat (first | refine bN_ _ ?_ | refine bd_ ?_ | refine ba_ _ ?_)); refine blk_put (cs := #[.bool t219, .int .u64 0, .int .u64 0]) ?_ 1 _ rfl; (with_reducible repeat (first | refine bN_ _ ?_ | refine bd_ ?_ | refine ba_ _ ?_)); refine blk_put (cs := #[.bool false, .int .u64 0, .int .u64 0]) ?_ 0 _ rfl; (with_reducible repeat (first | refine bN_ _ ?_ | refine bd_ ?_ | refine ba_ _ ?_)); exact BK223.out) hb); have n3_ := Aside0.mk (below_step bel_ hb); clear BK207; clear BK218; clear BK223; clear HB; have BK207 := n0_; have BK218 := n1_; have BK223 := n2_; have HB := n3_; clear n0_ n1_ n2_ n3_; (try clear hb); (try clear hb2); (try clear hk); (try clear hi)))
                            go_ret
                            exact ⟨by first | rfl | (simp [errW_none, errW_some] <;> rfl) | (simp [*, errW_none, errW_some] <;> rfl), by repeat (first | (with_reducible first | exact HB.out | apply below_alloc | apply pw_below_drewN | apply below_drew1 | refine below_set ?_ GE207.out | refine below_set ?_ GE218.out | refine below_set ?_ GE223.out) | exact HB.out)⟩
                        · replace c27 := Bool.eq_false_iff.mpr c27
                          subst c27
                          have H1 : (some false) = some r := by rw [if_neg (show ¬ (false = true) by decide)] at H; exact H
                          clear H
                          have H := H1
                          clear H1
                          exact absurd ((Option.some.inj H).trans hrt.out) (by decide)
                      · replace c26 := Bool.eq_false_iff.mpr c26
                        subst c26
                        have H1 : (some false) = some r := by rw [if_neg (show ¬ (false = true) by decide)] at H; exact H
                        clear H
                        have H := H1
                        clear H1
                        exact absurd ((Option.some.inj H).trans hrt.out) (by decide)
                    · replace c25 := Bool.eq_false_iff.mpr c25
                      subst c25
                      have H1 : (some false) = some r := by rw [if_neg (show ¬ (false = true) by decide)] at H; exact H
                      clear H
                      have H := H1
                      clear H1
                      exact absurd ((Option.some.inj H).trans hrt.out) (by decide)
                  · replace c24 := Bool.eq_false_iff.mpr c24
                    subst c24
                    have H1 : (some false) = some r := by rw [if_neg (show ¬ (false = true) by decide)] at H; exact H
                    clear H
                    have H := H1
                    clear H1
                    exact absurd ((Option.some.inj H).trans hrt.out) (by decide)
                · rw [if_neg c23] at H
                  have c23b0 : decide (t194 ≤ x7_11) = false := decide_eq_false c23
                  clear c23
                  exact absurd ((Option.some.inj H).trans hrt.out) (by decide)
              · rw [if_neg c22] at H
                have c22b0 : decide (x6_11 ≤ t194) = false := decide_eq_false c22
                clear c22
                exact absurd ((Option.some.inj H).trans hrt.out) (by decide)

/-- THE ONE PURE STATEMENT of laws_FnHalf: yours. -/
def laws_FnHalf.Pure : Prop := ∀ (l0 : List Int), l0.length ≤ maxLen → l0.length * 1 ≤ 140737488351232 → (∀ x ∈ l0, (Lit.int .u8 x).wf = true) → ∃ k, laws_FnHalf.f k l0 = some true
theorem laws_FnHalf.walk (P : laws_FnHalf.Pure) (a0 : Option Addr) (len0 cap0 : Nat) (z0 : List Int) (w : World) (w0 : (a0 = none ∧ len0 = 0 ∧ cap0 = 0 ∧ z0 = []) ∨ ∃ x, a0 = some x ∧ len0 ≤ cap0 ∧ cap0 ≤ maxLen ∧ z0.length = cap0 ∧ (∀ i, i < z0.length → w.cell? (x.add i) = some (.int .u8 (z0.getD i 0))) ∧ ∀ n ∈ z0, (Lit.int .u8 n).wf = true) (y0 : len0 * 1 ≤ 140737488351232) :
    Calls Try.prog 9 #[.slice a0 len0 cap0] w fun e w' => e = .returned (.bool true) ∧ Below w.heap.size w w' := by
  obtain ⟨l0, rfl, hr0, hm0, hw0, hc0⟩ := ReadsInt.ofRowC w0
  obtain ⟨k, h⟩ := P l0 hm0 y0 hw0
  refine (laws_FnHalf.calls k _ _ l0 true w (Kd.C_of_reads (d := (0 : Int)) (h1 := fun _ => rfl) hr0) hc0 h ⟨rfl⟩).mono ?_
  rintro e w' ⟨rfl, hd⟩
  exact ⟨rfl, hd⟩

end Go.Proofs.Yteldfljjeofiaaa.PFnHalf
