/- Contracts of Go functions, each with the Lean function that says what it computes: begun by the print, turned by this session. No condition beyond what each theorem states. -/
import Derived.Test.YteldfljjeofiaaaPFnWideIntx0
namespace Go.Proofs.Yteldfljjeofiaaa.PFnWideInt
open Go.RowKit Go.Proofs.YteldfljjeofiaaaW.PrintWords Go.Proofs.YteldfljjeofiaaaW.PrintLast Go.Proofs.YteldfljjeofiaaaW.PrintMore
attribute [local go_sem] max2_int min2_int max_two min_two max_three min_three max_four min_four   -- for this text's walks alone
set_option linter.unusedVariables false
set_option linter.unusedSimpArgs false

/-! ### spec_IntOf: function 40 -/
def spec_IntOf.j0 : Nat → Bool → Bool → Int → Int → Option (Int × Bool)
  | 0, _, _, _, _ => none
  | k + 1, x4, x229000, x229001, x229002 => if x4 = true then (some (0, false)) else (if x229000 = true then (some (wrap64 ((wrap64 (-(wrap64 (IntKind.u64.wrap (x229002 - 1))))) - 1), true)) else (some (wrap64 (x229002), true)))
def spec_IntOf.f (k : Nat) (a0_0 : Bool) (a0_1 : Int) (a0_2 : Int) : Option (Int × Bool) := if a0_1 > 0 then (spec_IntOf.j0 k true a0_0 a0_1 a0_2) else (if a0_2 > 9223372036854775808 then (spec_IntOf.j0 k true a0_0 a0_1 a0_2) else (if a0_2 = 9223372036854775808 then (if a0_0 = true then (spec_IntOf.j0 k (a0_2 == 0) a0_0 a0_1 a0_2) else (spec_IntOf.j0 k true a0_0 a0_1 a0_2)) else (if a0_0 = true then (spec_IntOf.j0 k (a0_2 == 0) a0_0 a0_1 a0_2) else (spec_IntOf.j0 k false a0_0 a0_1 a0_2))))
theorem spec_IntOf.mono_l : ∀ k, (∀ y0 y1 y2 y3, LeO (spec_IntOf.j0 k y0 y1 y2 y3) (spec_IntOf.j0 (k + 1) y0 y1 y2 y3))
  | 0 => fun _ _ _ _ r h => by simp [spec_IntOf.j0] at h
  | k + 1 => by
    have ih0 := spec_IntOf.mono_l k
    · intro y0 y1 y2 y3
      unfold spec_IntOf.j0
      repeat' first
      | (with_reducible exact ih0 _ _ _ _)
      | (with_reducible exact LeO.refl _)
      | (with_reducible exact LeO.none _)
      | (with_reducible refine LeO.ite ?_ ?_)
      | (with_reducible refine LeO.bind ?_ (fun _ => ?_))
      | exact ih0 _ _ _ _
      | exact LeO.none _
      | refine LeO.ite ?_ ?_
      | refine LeO.bind ?_ (fun _ => ?_)
theorem spec_IntOf.mono : ∀ a0 a1 a2 k, LeO (spec_IntOf.f k a0 a1 a2) (spec_IntOf.f (k + 1) a0 a1 a2) := by
  intro a0 a1 a2 k
  have ih0 := spec_IntOf.mono_l k
  unfold spec_IntOf.f
  repeat' first
      | (with_reducible exact ih0 _ _ _ _)
      | (with_reducible exact LeO.refl _)
      | (with_reducible exact LeO.none _)
      | (with_reducible refine LeO.ite ?_ ?_)
      | (with_reducible refine LeO.bind ?_ (fun _ => ?_))
      | exact ih0 _ _ _ _
      | exact LeO.none _
      | refine LeO.ite ?_ ?_
      | refine LeO.bind ?_ (fun _ => ?_)
set_option maxHeartbeats 8000000 in
set_option maxRecDepth 100000 in
theorem spec_IntOf.calls (k : Nat) (a0_0 : Bool) (a0_1 : Int) (a0_2 : Int) (r1 : Int) (r2 : Bool) (w : World) (h : spec_IntOf.f k a0_0 a0_1 a0_2 = some (r1, r2)) :
    Calls Try.prog 40 #[.agg #[.bool a0_0, .int .u64 a0_1, .int .u64 a0_2]] w fun e w' => e = .returned (.tuple #[.int .i64 r1, .bool r2]) ∧ Below w.heap.size w w' := by
  have hu33 := Try.underlying33
  have HB := Aside0.mk (Below.refl w.heap.size w)
  have H : (if a0_1 > 0 then (spec_IntOf.j0 k true a0_0 a0_1 a0_2) else (if a0_2 > 9223372036854775808 then (spec_IntOf.j0 k true a0_0 a0_1 a0_2) else (if a0_2 = 9223372036854775808 then (if a0_0 = true then (spec_IntOf.j0 k (a0_2 == 0) a0_0 a0_1 a0_2) else (spec_IntOf.j0 k true a0_0 a0_1 a0_2)) else (if a0_0 = true then (spec_IntOf.j0 k (a0_2 == 0) a0_0 a0_1 a0_2) else (spec_IntOf.j0 k false a0_0 a0_1 a0_2))))) = some (r1, r2) := h
  clear h
  have HC2 := Aside0.mk H
  clear H
  go_enter Try.func40, Try.ntmps40
  go_upto_region 1 with (first | ((with_reducible refine gate_dst (N := 1) rfl ?_); refine box_event ?hg (N := 1) ?hd (cs := #[.bool a0_0, .int .u64 a0_1, .int .u64 a0_2]) (t := 33) ?hr ?_; (case hd => rfl); (case hg => rfl); (case hr => first | (go_simp; done) | (go_simp; rfl)); intro gb228 hg w3 hbox hb; have n0_ := Aside0.mk (below_step bel_ hb); have n1_ := Aside0.mk (hbox); have n2_ := Aside0.mk ((by rw [hg]; exact (below_size bel_) : w.heap.size ≤ gb228)); have n3_ := Aside0.mk ((by rw [hg]; exact (below_size bel_) : w.heap.size ≤ gb228)); clear HB; have HB := n0_; have BK228 := n1_; have GW228 := n2_; have GE228 := n3_; clear n0_ n1_ n2_ n3_; clear hb hbox hg))
  (try simp only [Act.put, la_, lb_, lc_])
  go_cut [4] (fun v4 wc => ∃ (kq : Nat) (x4_1 : Bool), v4 = .bool x4_1 ∧ Aside0 (spec_IntOf.j0 kq x4_1 a0_0 a0_1 a0_2 = some (r1, r2)) ∧ Aside0 (kq ≤ k) ∧ Aside0 (wc.heap[gb228]? = some (.cells #[.bool a0_0, .int .u64 a0_1, .int .u64 a0_2] 33 (0, 0))) ∧ Aside0 (Below w.heap.size w wc))
  case first =>
    have H := HC2.out
    clear HC2
    by_cases c4 : a0_1 > 0
    · rw [if_pos c4] at H
      have c4b0 : decide (0 < a0_1) = true := decide_eq_true c4
      clear c4
      (first | rw [c4b0] | (simp only [i64_w, i32_w]; rw [c4b0]) | skip)
      have H' := Aside0.mk H
      clear H
      have hcz5_0 : w3.cell? ⟨gb228, 0, none⟩ = some (.bool a0_0) := bc_
      have hcz5_1 : w3.cell? ⟨gb228, 1, none⟩ = some (.int .u64 a0_1) := bc_
      have hcz5_2 : w3.cell? ⟨gb228, 2, none⟩ = some (.int .u64 a0_2) := bc_
      have hfz5_0 := blk_frozen BK228.out 0
      have hfz5_1 := blk_frozen BK228.out 1
      have hfz5_2 := blk_frozen BK228.out 2
      go_wp2
      go_meet
      case rel => exact ⟨_, (true), (by first | rfl | (simp; done) | (simp [*]; done)), H', ⟨by first | omega | exact Nat.le_refl _⟩, ⟨by (with_reducible repeat (first | refine bN_ _ ?_ | refine bd_ ?_ | refine ba_ _ ?_)); exact BK228.out⟩, ⟨by repeat (first | (with_reducible first | exact HB.out | apply below_alloc | apply pw_below_drewN | apply below_drew1 | refine below_set ?_ GE228.out) | exact HB.out)⟩⟩
    · rw [if_neg c4] at H
      have c4b0 : decide (0 < a0_1) = false := decide_eq_false c4
      clear c4
      (first | rw [c4b0] | (simp only [i64_w, i32_w]; rw [c4b0]) | skip)
      by_cases c6 : a0_2 > 9223372036854775808
      · rw [if_pos c6] at H
        have c6b0 : decide (9223372036854775808 < a0_2) = true := decide_eq_true c6
        clear c6
        have H' := Aside0.mk H
        clear H
        have hcz7_0 : w3.cell? ⟨gb228, 0, none⟩ = some (.bool a0_0) := bc_
        have hcz7_1 : w3.cell? ⟨gb228, 1, none⟩ = some (.int .u64 a0_1) := bc_
        have hcz7_2 : w3.cell? ⟨gb228, 2, none⟩ = some (.int .u64 a0_2) := bc_
        have hfz7_0 := blk_frozen BK228.out 0
        have hfz7_1 := blk_frozen BK228.out 1
        have hfz7_2 := blk_frozen BK228.out 2
        go_wp2
        go_meet
        case rel => exact ⟨_, (true), (by first | rfl | (simp; done) | (simp [*]; done)), H', ⟨by first | omega | exact Nat.le_refl _⟩, ⟨by (with_reducible repeat (first | refine bN_ _ ?_ | refine bd_ ?_ | refine ba_ _ ?_)); exact BK228.out⟩, ⟨by repeat (first | (with_reducible first | exact HB.out | apply below_alloc | apply pw_below_drewN | apply below_drew1 | refine below_set ?_ GE228.out) | exact HB.out)⟩⟩
      · rw [if_neg c6] at H
        have c6b0 : decide (9223372036854775808 < a0_2) = false := decide_eq_false c6
        clear c6
        by_cases c8 : a0_2 = 9223372036854775808
        · rw [if_pos c8] at H
          have c8b0 : (a0_2 == 9223372036854775808) = true := beq_iff_eq.mpr c8
          have c8b1 : (a0_2 != 9223372036854775808) = false := bne_eq_false_iff_eq.mpr c8
          clear c8
          by_cases c9 : a0_0 = true
          · subst c9
            have H1 : (spec_IntOf.j0 k (a0_2 == 0) true a0_1 a0_2) = some (r1, r2) := by rw [if_pos rfl] at H; exact H
            clear H
            have H := H1
            clear H1
            have H' := Aside0.mk H
            clear H
            have hcz10_0 : w3.cell? ⟨gb228, 0, none⟩ = some (.bool true) := bc_
            have hcz10_1 : w3.cell? ⟨gb228, 1, none⟩ = some (.int .u64 a0_1) := bc_
            have hcz10_2 : w3.cell? ⟨gb228, 2, none⟩ = some (.int .u64 a0_2) := bc_
            have hfz10_0 := blk_frozen BK228.out 0
            have hfz10_1 := blk_frozen BK228.out 1
            have hfz10_2 := blk_frozen BK228.out 2
            go_wp2
            go_meet
            case rel => exact ⟨_, ((a0_2 == 0)), (by first | rfl | (simp; done) | (simp [*]; done)), H', ⟨by first | omega | exact Nat.le_refl _⟩, ⟨by (with_reducible repeat (first | refine bN_ _ ?_ | refine bd_ ?_ | refine ba_ _ ?_)); exact BK228.out⟩, ⟨by repeat (first | (with_reducible first | exact HB.out | apply below_alloc | apply pw_below_drewN | apply below_drew1 | refine below_set ?_ GE228.out) | exact HB.out)⟩⟩
          · replace c9 := Bool.eq_false_iff.mpr c9
            subst c9
            have H1 : (spec_IntOf.j0 k true false a0_1 a0_2) = some (r1, r2) := by rw [if_neg (show ¬ (false = true) by decide)] at H; exact H
            clear H
            have H := H1
            clear H1
            have H' := Aside0.mk H
            clear H
            have hcz11_0 : w3.cell? ⟨gb228, 0, none⟩ = some (.bool false) := bc_
            have hcz11_1 : w3.cell? ⟨gb228, 1, none⟩ = some (.int .u64 a0_1) := bc_
            have hcz11_2 : w3.cell? ⟨gb228, 2, none⟩ = some (.int .u64 a0_2) := bc_
            have hfz11_0 := blk_frozen BK228.out 0
            have hfz11_1 := blk_frozen BK228.out 1
            have hfz11_2 := blk_frozen BK228.out 2
            go_wp2
            go_meet
            case rel => exact ⟨_, (true), (by first | rfl | (simp; done) | (simp [*]; done)), H', ⟨by first | omega | exact Nat.le_refl _⟩, ⟨by (with_reducible repeat (first | refine bN_ _ ?_ | refine bd_ ?_ | refine ba_ _ ?_)); exact BK228.out⟩, ⟨by repeat (first | (with_reducible first | exact HB.out | apply below_alloc | apply pw_below_drewN | apply below_drew1 | refine below_set ?_ GE228.out) | exact HB.out)⟩⟩
        · rw [if_neg c8] at H
          have c8b0 : (a0_2 == 9223372036854775808) = false := beq_eq_false_iff_ne.mpr c8
          have c8b1 : (a0_2 != 9223372036854775808) = true := bne_iff_ne.mpr c8
          by_cases c12 : a0_0 = true
          · subst c12
            have H1 : (spec_IntOf.j0 k (a0_2 == 0) true a0_1 a0_2) = some (r1, r2) := by rw [if_pos rfl] at H; exact H
            clear H
            have H := H1
            clear H1
            have H' := Aside0.mk H
            clear H
            have hcz13_0 : w3.cell? ⟨gb228, 0, none⟩ = some (.bool true) := bc_
            have hcz13_1 : w3.cell? ⟨gb228, 1, none⟩ = some (.int .u64 a0_1) := bc_
            have hcz13_2 : w3.cell? ⟨gb228, 2, none⟩ = some (.int .u64 a0_2) := bc_
            have hfz13_0 := blk_frozen BK228.out 0
            have hfz13_1 := blk_frozen BK228.out 1
            have hfz13_2 := blk_frozen BK228.out 2
            go_wp2
            go_meet
            case rel => exact ⟨_, ((a0_2 == 0)), (by first | rfl | (simp; done) | (simp [*]; done)), H', ⟨by first | omega | exact Nat.le_refl _⟩, ⟨by (with_reducible repeat (first | refine bN_ _ ?_ | refine bd_ ?_ | refine ba_ _ ?_)); exact BK228.out⟩, ⟨by repeat (first | (with_reducible first | exact HB.out | apply below_alloc | apply pw_below_drewN | apply below_drew1 | refine below_set ?_ GE228.out) | exact HB.out)⟩⟩
          · replace c12 := Bool.eq_false_iff.mpr c12
            subst c12
            have H1 : (spec_IntOf.j0 k false false a0_1 a0_2) = some (r1, r2) := by rw [if_neg (show ¬ (false = true) by decide)] at H; exact H
            clear H
            have H := H1
            clear H1
            have H' := Aside0.mk H
            clear H
            have hcz14_0 : w3.cell? ⟨gb228, 0, none⟩ = some (.bool false) := bc_
            have hcz14_1 : w3.cell? ⟨gb228, 1, none⟩ = some (.int .u64 a0_1) := bc_
            have hcz14_2 : w3.cell? ⟨gb228, 2, none⟩ = some (.int .u64 a0_2) := bc_
            have hfz14_0 := blk_frozen BK228.out 0
            have hfz14_1 := blk_frozen BK228.out 1
            have hfz14_2 := blk_frozen BK228.out 2
            go_wp2
            go_meet
            case rel => exact ⟨_, (false), (by first | rfl | (simp; done) | (simp [*]; done)), H', ⟨by first | omega | exact Nat.le_refl _⟩, ⟨by (with_reducible repeat (first | refine bN_ _ ?_ | refine bd_ ?_ | refine ba_ _ ?_)); exact BK228.out⟩, ⟨by repeat (first | (with_reducible first | exact HB.out | apply below_alloc | apply pw_below_drewN | apply below_drew1 | refine below_set ?_ GE228.out) | exact HB.out)⟩⟩
  case rest =>
    clear HC2
    try clear c1
    try clear p2
    try clear c4
    try clear c4b0
    try clear c6
    try clear c6b0
    try clear c8
    try clear c8b0
    try clear c8b1
    try clear c9
    try clear c12
    try clear hcz10_0
    try clear hcz10_1
    try clear hcz10_2
    try clear hcz11_0
    try clear hcz11_1
    try clear hcz11_2
    try clear hcz13_0
    try clear hcz13_1
    try clear hcz13_2
    try clear hcz14_0
    try clear hcz14_1
    try clear hcz14_2
    try clear hcz5_0
    try clear hcz5_1
    try clear hcz5_2
    try clear hcz7_0
    try clear hcz7_1
    try clear hcz7_2
    try clear hfz10_0
    try clear hfz10_1
    try clear hfz10_2
    try clear hfz11_0
    try clear hfz11_1
    try clear hfz11_2
    try clear hfz13_0
    try clear hfz13_1
    try clear hfz13_2
    try clear hfz14_0
    try clear hfz14_1
    try clear hfz14_2
    try clear hfz5_0
    try clear hfz5_1
    try clear hfz5_2
    try clear hfz7_0
    try clear hfz7_1
    try clear hfz7_2
    obtain ⟨kq, x4_1, rfl, HA, HJ1, BK228, HB⟩ := hcut
    cases kq with
    | zero => exact absurd HA.out (by simp [spec_IntOf.j0])
    | succ kj1 =>
      have H := HA.out
      clear HA
      simp only [spec_IntOf.j0] at H
      by_cases c15 : x4_1 = true
      · subst c15
        have H1 : (some (0, false)) = some (r1, r2) := by rw [if_pos rfl] at H; exact H
        clear H
        have H := H1
        clear H1
        simp only [Option.some.injEq, Prod.mk.injEq] at H
        obtain ⟨rfl, rfl⟩ := H
        go_wp2
        go_ret2
        exact ⟨by first | rfl | (simp [errW_none, errW_some] <;> rfl) | (simp [*, errW_none, errW_some] <;> rfl), by repeat (first | (with_reducible first | exact HB.out | apply below_alloc | apply pw_below_drewN | apply below_drew1 | refine below_set ?_ GE228.out) | exact HB.out)⟩
      · replace c15 := Bool.eq_false_iff.mpr c15
        subst c15
        have H1 : (if a0_0 = true then (some (wrap64 ((wrap64 (-(wrap64 (IntKind.u64.wrap (a0_2 - 1))))) - 1), true)) else (some (wrap64 (a0_2), true))) = some (r1, r2) := by rw [if_neg (show ¬ (false = true) by decide)] at H; exact H
        clear H
        have H := H1
        clear H1
        by_cases c16 : a0_0 = true
        · subst c16
          have H1 : (some (wrap64 ((wrap64 (-(wrap64 (IntKind.u64.wrap (a0_2 - 1))))) - 1), true)) = some (r1, r2) := by rw [if_pos rfl] at H; exact H
          clear H
          have H := H1
          clear H1
          simp only [Option.some.injEq, Prod.mk.injEq] at H
          obtain ⟨rfl, rfl⟩ := H
          have hcz17_0 : wc.cell? ⟨gb228, 0, none⟩ = some (.bool true) := bc_
          have hcz17_1 : wc.cell? ⟨gb228, 1, none⟩ = some (.int .u64 a0_1) := bc_
          have hcz17_2 : wc.cell? ⟨gb228, 2, none⟩ = some (.int .u64 a0_2) := bc_
          have hfz17_0 := blk_frozen BK228.out 0
          have hfz17_1 := blk_frozen BK228.out 1
          have hfz17_2 := blk_frozen BK228.out 2
          go_wp2
          go_ret2
          exact ⟨by first | rfl | (simp [errW_none, errW_some] <;> rfl) | (simp [*, errW_none, errW_some] <;> rfl), by repeat (first | (with_reducible first | exact HB.out | apply below_alloc | apply pw_below_drewN | apply below_drew1 | refine below_set ?_ GE228.out) | exact HB.out)⟩
        · replace c16 := Bool.eq_false_iff.mpr c16
          subst c16
          have H1 : (some (wrap64 (a0_2), true)) = some (r1, r2) := by rw [if_neg (show ¬ (false = true) by decide)] at H; exact H
          clear H
          have H := H1
          clear H1
          simp only [Option.some.injEq, Prod.mk.injEq] at H
          obtain ⟨rfl, rfl⟩ := H
          have hcz18_0 : wc.cell? ⟨gb228, 0, none⟩ = some (.bool false) := bc_
          have hcz18_1 : wc.cell? ⟨gb228, 1, none⟩ = some (.int .u64 a0_1) := bc_
          have hcz18_2 : wc.cell? ⟨gb228, 2, none⟩ = some (.int .u64 a0_2) := bc_
          have hfz18_0 := blk_frozen BK228.out 0
          have hfz18_1 := blk_frozen BK228.out 1
          have hfz18_2 := blk_frozen BK228.out 2
          go_wp2
          go_ret2
          exact ⟨by first | rfl | (simp [errW_none, errW_some] <;> rfl) | (simp [*, errW_none, errW_some] <;> rfl), by repeat (first | (with_reducible first | exact HB.out | apply below_alloc | apply pw_below_drewN | apply below_drew1 | refine below_set ?_ GE228.out) | exact HB.out)⟩

/-! ### spec_WideOk: function 41 -/
def spec_WideOk.f (a0_0 : Bool) (a0_1 : Int) (a0_2 : Int) : Option (Bool) := if a0_1 < 9223372036854775808 then (if a0_0 = true then (if a0_1 > 0 then (some true) else (some (decide (a0_2 > 0)))) else (some true)) else (some false)
set_option maxHeartbeats 8000000 in
set_option maxRecDepth 100000 in
theorem spec_WideOk.calls (a0_0 : Bool) (a0_1 : Int) (a0_2 : Int) (r : Bool) (w : World) (h : spec_WideOk.f a0_0 a0_1 a0_2 = some r) :
    Calls Try.prog 41 #[.agg #[.bool a0_0, .int .u64 a0_1, .int .u64 a0_2]] w fun e w' => e = .returned (.bool r) ∧ Below w.heap.size w w' := by
  have hu33 := Try.underlying33
  have HB := Aside0.mk (Below.refl w.heap.size w)
  have H : (if a0_1 < 9223372036854775808 then (if a0_0 = true then (if a0_1 > 0 then (some true) else (some (decide (a0_2 > 0)))) else (some true)) else (some false)) = some r := h
  clear h
  by_cases c2 : a0_1 < 9223372036854775808
  · rw [if_pos c2] at H
    have c2b0 : decide (a0_1 < 9223372036854775808) = true := decide_eq_true c2
    clear c2
    by_cases c3 : a0_0 = true
    · subst c3
      have H1 : (if a0_1 > 0 then (some true) else (some (decide (a0_2 > 0)))) = some r := by rw [if_pos rfl] at H; exact H
      clear H
      have H := H1
      clear H1
      by_cases c4 : a0_1 > 0
      · rw [if_pos c4] at H
        have c4b0 : decide (0 < a0_1) = true := decide_eq_true c4
        clear c4
        obtain rfl := Option.some.inj H
        go_enter Try.func41, Try.ntmps41
        go_wp2_with (first | ((with_reducible refine gate_dst (N := 1) rfl ?_); refine box_event ?hg (N := 1) ?hd (cs := #[.bool true, .int .u64 a0_1, .int .u64 a0_2]) (t := 33) ?hr ?_; (case hd => rfl); (case hg => rfl); (case hr => first | (go_simp; done) | (go_simp; rfl)); intro gb229 hg w5 hbox hb; have n0_ := Aside0.mk (below_step bel_ hb); have n1_ := Aside0.mk (hbox); have n2_ := Aside0.mk ((by rw [hg]; exact (below_size bel_) : w.heap.size ≤ gb229)); have n3_ := Aside0.mk ((by rw [hg]; exact (below_size bel_) : w.heap.size ≤ gb229)); clear HB; have HB := n0_; have BK229 := n1_; have GW229 := n2_; have GE229 := n3_; clear n0_ n1_ n2_ n3_; clear hb hbox hg; have hcz6_0 : w5.cell? ⟨gb229, 0, none⟩ = some (.bool true) := bc_; have hcz6_1 : w5.cell? ⟨gb229, 1, none⟩ = some (.int .u64 a0_1) := bc_; have hcz6_2 : w5.cell? ⟨gb229, 2, none⟩ = some (.int .u64 a0_2) := bc_; have hfz6_0 := blk_frozen BK229.out 0; have hfz6_1 := blk_frozen BK229.out 1; have hfz6_2 := blk_frozen BK229.out 2))
        go_ret
        exact ⟨by first | rfl | (simp [errW_none, errW_some] <;> rfl) | (simp [*, errW_none, errW_some] <;> rfl), by repeat (first | (with_reducible first | exact HB.out | apply below_alloc | apply pw_below_drewN | apply below_drew1 | refine below_set ?_ GE229.out) | exact HB.out)⟩
      · rw [if_neg c4] at H
        have c4b0 : decide (0 < a0_1) = false := decide_eq_false c4
        clear c4
        obtain rfl := Option.some.inj H
        go_enter Try.func41, Try.ntmps41
        go_wp2_with (first | ((with_reducible refine gate_dst (N := 1) rfl ?_); refine box_event ?hg (N := 1) ?hd (cs := #[.bool true, .int .u64 a0_1, .int .u64 a0_2]) (t := 33) ?hr ?_; (case hd => rfl); (case hg => rfl); (case hr => first | (go_simp; done) | (go_simp; rfl)); intro gb229 hg w7 hbox hb; have n0_ := Aside0.mk (below_step bel_ hb); have n1_ := Aside0.mk (hbox); have n2_ := Aside0.mk ((by rw [hg]; exact (below_size bel_) : w.heap.size ≤ gb229)); have n3_ := Aside0.mk ((by rw [hg]; exact (below_size bel_) : w.heap.size ≤ gb229)); clear HB; have HB := n0_; have BK229 := n1_; have GW229 := n2_; have GE229 := n3_; clear n0_ n1_ n2_ n3_; clear hb hbox hg; have hcz8_0 : w7.cell? ⟨gb229, 0, none⟩ = some (.bool true) := bc_; have hcz8_1 : w7.cell? ⟨gb229, 1, none⟩ = some (.int .u64 a0_1) := bc_; have hcz8_2 : w7.cell? ⟨gb229, 2, none⟩ = some (.int .u64 a0_2) := bc_; have hfz8_0 := blk_frozen BK229.out 0; have hfz8_1 := blk_frozen BK229.out 1; have hfz8_2 := blk_frozen BK229.out 2))
        go_ret
        exact ⟨by first | rfl | (simp [errW_none, errW_some] <;> rfl) | (simp [*, errW_none, errW_some] <;> rfl), by repeat (first | (with_reducible first | exact HB.out | apply below_alloc | apply pw_below_drewN | apply below_drew1 | refine below_set ?_ GE229.out) | exact HB.out)⟩
    · replace c3 := Bool.eq_false_iff.mpr c3
      subst c3
      have H1 : (some true) = some r := by rw [if_neg (show ¬ (false = true) by decide)] at H; exact H
      clear H
      have H := H1
      clear H1
      obtain rfl := Option.some.inj H
      go_enter Try.func41, Try.ntmps41
      go_wp2_with (first | ((with_reducible refine gate_dst (N := 1) rfl ?_); refine box_event ?hg (N := 1) ?hd (cs := #[.bool false, .int .u64 a0_1, .int .u64 a0_2]) (t := 33) ?hr ?_; (case hd => rfl); (case hg => rfl); (case hr => first | (go_simp; done) | (go_simp; rfl)); intro gb229 hg w9 hbox hb; have n0_ := Aside0.mk (below_step bel_ hb); have n1_ := Aside0.mk (hbox); have n2_ := Aside0.mk ((by rw [hg]; exact (below_size bel_) : w.heap.size ≤ gb229)); have n3_ := Aside0.mk ((by rw [hg]; exact (below_size bel_) : w.heap.size ≤ gb229)); clear HB; have HB := n0_; have BK229 := n1_; have GW229 := n2_; have GE229 := n3_; clear n0_ n1_ n2_ n3_; clear hb hbox hg; have hcz10_0 : w9.cell? ⟨gb229, 0, none⟩ = some (.bool false) := bc_; have hcz10_1 : w9.cell? ⟨gb229, 1, none⟩ = some (.int .u64 a0_1) := bc_; have hcz10_2 : w9.cell? ⟨gb229, 2, none⟩ = some (.int .u64 a0_2) := bc_; have hfz10_0 := blk_frozen BK229.out 0; have hfz10_1 := blk_frozen BK229.out 1; have hfz10_2 := blk_frozen BK229.out 2))
      go_ret
      exact ⟨by first | rfl | (simp [errW_none, errW_some] <;> rfl) | (simp [*, errW_none, errW_some] <;> rfl), by repeat (first | (with_reducible first | exact HB.out | apply below_alloc | apply pw_below_drewN | apply below_drew1 | refine below_set ?_ GE229.out) | exact HB.out)⟩
  · rw [if_neg c2] at H
    have c2b0 : decide (a0_1 < 9223372036854775808) = false := decide_eq_false c2
    clear c2
    obtain rfl := Option.some.inj H
    go_enter Try.func41, Try.ntmps41
    go_wp2_with (first | ((with_reducible refine gate_dst (N := 1) rfl ?_); refine box_event ?hg (N := 1) ?hd (cs := #[.bool a0_0, .int .u64 a0_1, .int .u64 a0_2]) (t := 33) ?hr ?_; (case hd => rfl); (case hg => rfl); (case hr => first | (go_simp; done) | (go_simp; rfl)); intro gb229 hg w11 hbox hb; have n0_ := Aside0.mk (below_step bel_ hb); have n1_ := Aside0.mk (hbox); have n2_ := Aside0.mk ((by rw [hg]; exact (below_size bel_) : w.heap.size ≤ gb229)); have n3_ := Aside0.mk ((by rw [hg]; exact (below_size bel_) : w.heap.size ≤ gb229)); clear HB; have HB := n0_; have BK229 := n1_; have GW229 := n2_; have GE229 := n3_; clear n0_ n1_ n2_ n3_; clear hb hbox hg; have hcz12_0 : w11.cell? ⟨gb229, 0, none⟩ = some (.bool a0_0) := bc_; have hcz12_1 : w11.cell? ⟨gb229, 1, none⟩ = some (.int .u64 a0_1) := bc_; have hcz12_2 : w11.cell? ⟨gb229, 2, none⟩ = some (.int .u64 a0_2) := bc_; have hfz12_0 := blk_frozen BK229.out 0; have hfz12_1 := blk_frozen BK229.out 1; have hfz12_2 := blk_frozen BK229.out 2))
    go_ret
    exact ⟨by first | rfl | (simp [errW_none, errW_some] <;> rfl) | (simp [*, errW_none, errW_some] <;> rfl), by repeat (first | (with_reducible first | exact HB.out | apply below_alloc | apply pw_below_drewN | apply below_drew1 | refine below_set ?_ GE229.out) | exact HB.out)⟩

end Go.Proofs.Yteldfljjeofiaaa.PFnWideInt
