/- Contracts of Go functions, each with the Lean function that says what it computes: begun by the print, turned by this session. No condition beyond what each theorem states. -/
import Derived.Test.YtcbiijfiecjcaaaDoorPFnCsvReadx0
import Derived.Test.YtcbiijfiecjcaaaDoorPFnCsvReadx10
namespace Go.Proofs.YtcbiijfiecjcaaaDoor.PFnCsvRead
open Go.RowKit Go.Proofs.YtcbiijfiecjcaaaDoorVFnCsvRead.PrintWords Go.Proofs.YtcbiijfiecjcaaaDoorVFnCsvRead.PrintLast Go.Proofs.YtcbiijfiecjcaaaDoorVFnCsvRead.PrintMore
attribute [local go_sem] max2_int min2_int max_two min_two max_three min_three max_four min_four   -- for this text's walks alone
set_option linter.unusedVariables false
set_option linter.unusedSimpArgs false

/-! ### spec_ReadCsv: function 26 -/
mutual
def spec_ReadCsv.l0 : Nat → ByteArray → List (List ByteArray) → Int → Option ((List (List ByteArray)) × Int × Int × Int)
  | 0, _, _, _ => none
  | k + 1, x0, x4, x5 => if x5 < (x0.size : Int) then (spec_ReadCsv.l1 k x0 x4 x5 (([] : List ByteArray)) false) else (some (x4, 0, 0, 0))
def spec_ReadCsv.l1 : Nat → ByteArray → List (List ByteArray) → Int → List ByteArray → Bool → Option ((List (List ByteArray)) × Int × Int × Int)
  | 0, _, _, _, _, _ => none
  | k + 1, x0, x4, x5, x6, x7 => if x7 = true then (if x4.length < 5864062014805 then (spec_ReadCsv.l0 k x0 (x4 ++ [x6]) x5) else (none)) else ((spec_l7Field.f k x0 x5).bind fun bt328 => (if bt328.2.2 = true then (if x6.length < 8796093022208 then ((some (x6 ++ [bt328.1] : List ByteArray)).bind fun y334 => (if bt328.2.1 ≥ (x0.size : Int) then (spec_ReadCsv.l1 k x0 x4 bt328.2.1 y334 true) else (if 0 ≤ bt328.2.1 then (if bt328.2.1 < (x0.size : Int) then (if (bt x0 bt328.2.1) = 44 then (spec_ReadCsv.l1 k x0 x4 (wrap64 (bt328.2.1 + 1)) y334 x7) else (if (bt x0 bt328.2.1) = 10 then (spec_ReadCsv.l1 k x0 x4 (wrap64 (bt328.2.1 + 1)) y334 true) else (if (bt x0 bt328.2.1) = 13 then (if (wrap64 (bt328.2.1 + 1)) < (x0.size : Int) then (if 0 ≤ (wrap64 (bt328.2.1 + 1)) then (if (bt x0 (wrap64 (bt328.2.1 + 1))) = 10 then (spec_ReadCsv.l1 k x0 x4 (wrap64 (bt328.2.1 + 2)) y334 true) else (some ((([] : List (List ByteArray))), 2, (x4.length : Int), (x6.length : Int)))) else (none)) else (some ((([] : List (List ByteArray))), 2, (x4.length : Int), (x6.length : Int)))) else (some ((([] : List (List ByteArray))), 2, (x4.length : Int), (x6.length : Int)))))) else (none)) else (none)))) else (none)) else (some ((([] : List (List ByteArray))), 2, (x4.length : Int), (x6.length : Int)))))
end
def spec_ReadCsv.f (k : Nat) (a0 : ByteArray) : Option ((List (List ByteArray)) × Int × Int × Int) := (some (([] : List (List ByteArray)) : List (List ByteArray))).bind fun y318 => (if (a0.size : Int) > 4000 then (some (y318, 1, 0, 0)) else (spec_ReadCsv.l0 k a0 y318 0))
theorem spec_ReadCsv.mono_l : ∀ k, (∀ y0 y1 y2, LeO (spec_ReadCsv.l0 k y0 y1 y2) (spec_ReadCsv.l0 (k + 1) y0 y1 y2)) ∧ (∀ y0 y1 y2 y3 y4, LeO (spec_ReadCsv.l1 k y0 y1 y2 y3 y4) (spec_ReadCsv.l1 (k + 1) y0 y1 y2 y3 y4))
  | 0 => ⟨fun _ _ _ r h => by simp [spec_ReadCsv.l0] at h, fun _ _ _ _ _ r h => by simp [spec_ReadCsv.l1] at h⟩
  | k + 1 => by
    obtain ⟨ih0, ih1⟩ := spec_ReadCsv.mono_l k
    refine ⟨?_, ?_⟩
    · intro y0 y1 y2
      unfold spec_ReadCsv.l0
      repeat' first
      | (with_reducible exact ih0 _ _ _)
      | (with_reducible exact ih1 _ _ _ _ _)
      | (with_reducible exact spec_l7Field.mono _ _ _)
      | (with_reducible exact LeO.refl _)
      | (with_reducible exact LeO.none _)
      | (with_reducible refine LeO.ite ?_ ?_)
      | (with_reducible refine LeO.bind ?_ (fun _ => ?_))
      | exact ih0 _ _ _
      | exact ih1 _ _ _ _ _
      | exact spec_l7Field.mono _ _ _
      | exact LeO.none _
      | refine LeO.ite ?_ ?_
      | refine LeO.bind ?_ (fun _ => ?_)
    · intro y0 y1 y2 y3 y4
      unfold spec_ReadCsv.l1
      repeat' first
      | (with_reducible exact ih0 _ _ _)
      | (with_reducible exact ih1 _ _ _ _ _)
      | (with_reducible exact spec_l7Field.mono _ _ _)
      | (with_reducible exact LeO.refl _)
      | (with_reducible exact LeO.none _)
      | (with_reducible refine LeO.ite ?_ ?_)
      | (with_reducible refine LeO.bind ?_ (fun _ => ?_))
      | exact ih0 _ _ _
      | exact ih1 _ _ _ _ _
      | exact spec_l7Field.mono _ _ _
      | exact LeO.none _
      | refine LeO.ite ?_ ?_
      | refine LeO.bind ?_ (fun _ => ?_)
theorem spec_ReadCsv.mono : ∀ a0 k, LeO (spec_ReadCsv.f k a0) (spec_ReadCsv.f (k + 1) a0) := by
  intro a0 k
  obtain ⟨ih0, ih1⟩ := spec_ReadCsv.mono_l k
  unfold spec_ReadCsv.f
  repeat' first
      | (with_reducible exact ih0 _ _ _)
      | (with_reducible exact ih1 _ _ _ _ _)
      | (with_reducible exact spec_l7Field.mono _ _ _)
      | (with_reducible exact LeO.refl _)
      | (with_reducible exact LeO.none _)
      | (with_reducible refine LeO.ite ?_ ?_)
      | (with_reducible refine LeO.bind ?_ (fun _ => ?_))
      | exact ih0 _ _ _
      | exact ih1 _ _ _ _ _
      | exact spec_l7Field.mono _ _ _
      | exact LeO.none _
      | refine LeO.ite ?_ ?_
      | refine LeO.bind ?_ (fun _ => ?_)
set_option maxHeartbeats 8000000 in
set_option maxRecDepth 100000 in
theorem spec_ReadCsv.calls (k : Nat) (a0 : ByteArray) (r1 : List (List ByteArray)) (r2 : Int) (r3 : Int) (r4 : Int) (w : World) (h : spec_ReadCsv.f k a0 = some (r1, r2, r3, r4)) :
    Calls Tryd.prog 26 #[.string a0] w fun e w' => ∃ v0_ : Value, e = .returned (.tuple #[v0_, .agg #[.int .i64 r2, .int .i64 r3, .int .i64 r4]]) ∧ Kd.S (Kd.slice 9 Kd.string) 52 w' w.heap.size (fun _ => True) v0_ r1 ∧ Below w.heap.size w w' := by
  have hu43 := Tryd.underlying43
  have HB := Aside0.mk (Below.refl w.heap.size w)
  have H : ((some (([] : List (List ByteArray)) : List (List ByteArray))).bind fun y318 => (if (a0.size : Int) > 4000 then (some (y318, 1, 0, 0)) else (spec_ReadCsv.l0 k a0 y318 0))) = some (r1, r2, r3, r4) := h
  clear h
  obtain ⟨y318, hy318⟩ : ∃ y_ : List (List ByteArray), y_ = (([] : List (List ByteArray))) := ⟨_, rfl⟩
  replace H : (if (a0.size : Int) > 4000 then (some (y318, 1, 0, 0)) else (spec_ReadCsv.l0 k a0 y318 0)) = some (r1, r2, r3, r4) := by first | (rw [hy318]; with_reducible exact H) | (have H2_ := (Option.bind_some _ _).symm.trans H; rw [hy318]; with_reducible exact H2_) | (have H2_ := (Option.bind_some _ _).symm.trans H; with_reducible exact H2_) | with_reducible exact H | (rw [hy318]; exact H) | exact H
  have Ny318 := Aside0.mk hy318
  clear hy318
  by_cases c2 : (a0.size : Int) > 4000
  · rw [if_pos c2] at H
    have c2b0 : decide (4000 < (a0.size : Int)) = true := decide_eq_true c2
    have c2b1 : decide (4000 < a0.size) = true := decide_eq_true (by omega)
    clear c2
    simp only [Option.some.injEq, Prod.mk.injEq] at H
    obtain ⟨rfl, rfl, rfl, rfl⟩ := H
    go_enter Tryd.func26, Tryd.ntmps26
    go_wp2_with (first | ((with_reducible refine gate_dst (N := 3) rfl ?_); (try (refine gate_guard (by rfl) ?_; dsimp only)); refine box_event ?hg (N := 3) ?hd (cs := #[.int .i64 0, .int .i64 0, .int .i64 0]) (t := 43) ?hr ?_; (case hd => rfl); (case hg => rfl); (case hr => first | (go_simp; done) | (go_simp; rfl)); intro gb317 hg w3 hbox hb; have n0_ := Aside0.mk (below_step bel_ hb); have n1_ := Aside0.mk (hbox); have n2_ := bs_ (w := w) hg; have n3_ := bs_ (w := w) hg; clear HB; have HB := n0_; have BK317 := n1_; have GW317 := n2_; have GE317 := n3_; clear n0_ n1_ n2_ n3_; clear hb hbox hg) | ((with_reducible refine gate_dst (N := 12) rfl ?_); (try (refine gate_guard (by rfl) ?_; dsimp only)); refine Kd.S_lit (Kd.slice 9 Kd.string) _ 52 ?hg (N := 12) ?hd (xs := ([] : List (List ByteArray))) (inner := []) (ok := fun _ => True) (okp := fun _ => True) ?hr ?hp (fun _ hk => hk) trivial (Below.refl _ _) (Nat.le_refl _) (by simp) ?_; (case hd => rfl); (case hg => rfl); (case hr => first | (go_simp; done) | (go_simp; rfl)); (case hp => exact (Reps.none _ _)); intro v319 w4 ho5 hb hg_ hnew_; clear hg_ hnew_; (first | rw [← Ny318.out] at ho5 | (simp only [Int.reduceToNat] at ho5; rw [← Ny318.out] at ho5)); have n0_ := Aside0.mk (Kd.S_lower ho5 (below_size bel_)); have n1_ := bb_ (g := gb317) hb; have n2_ := Aside0.mk (below_step bel_ hb); clear BK317; clear HB; have HO320 := n0_; have BK317 := n1_; have HB := n2_; clear n0_ n1_ n2_; clear hb ho5; obtain ⟨hcz6_0, hcz6_1, hcz6_2, hfz6_0, hfz6_1, hfz6_2⟩ := cf3_ (w := w4) BK317.out))
    refine bodyPost_ret (results_tc rfl _ _ gb317 43 #[.int .i64 1, .int .i64 0, .int .i64 0] (0, 0) _ rfl (pu_ #[.int .i64 1, .int .i64 0, .int .i64 0] 2 (h := (pu_ #[.int .i64 1, .int .i64 0, .int .i64 0] 1 (h := (pu_ #[.int .i64 0, .int .i64 0, .int .i64 0] 0 (h := bk_)))))) Tryd.underlying43 rfl (by kernel_rfl)) rfl ?_
    exact ⟨_, by first | rfl | (simp [errW_none, errW_some] <;> rfl) | (simp [*, errW_none, errW_some] <;> rfl), by (with_reducible repeat (first | apply Kd.S_alloc | apply Kd.S_drewN | apply Kd.S_drew)); exact Kd.S_mono (Kd.S_far (p := ⟨gb317, 2, none⟩) (Kd.S_far (p := ⟨gb317, 1, none⟩) (Kd.S_far (p := ⟨gb317, 0, none⟩) (Kd.S_types HO320.out BK317.out (by decide)) (fun _ hk => hk.2) (.int .i64 1)) (fun _ hk => hk.2) (.int .i64 0)) (fun _ hk => hk.2) (.int .i64 0)) (fun _ hk => trivial), bel_⟩
  · rw [if_neg c2] at H
    have c2b0 : decide (4000 < (a0.size : Int)) = false := decide_eq_false c2
    have c2b1 : decide (4000 < a0.size) = false := decide_eq_false (by omega)
    clear c2
    have H' := Aside0.mk H
    clear H
    go_enter Tryd.func26, Tryd.ntmps26
    go_wp2_with (first | ((with_reducible refine gate_dst (N := 3) rfl ?_); (try (refine gate_guard (by rfl) ?_; dsimp only)); refine box_event ?hg (N := 3) ?hd (cs := #[.int .i64 0, .int .i64 0, .int .i64 0]) (t := 43) ?hr ?_; (case hd => rfl); (case hg => rfl); (case hr => first | (go_simp; done) | (go_simp; rfl)); intro gb317 hg w7 hbox hb; have n0_ := Aside0.mk (below_step bel_ hb); have n1_ := Aside0.mk (hbox); have n2_ := bs_ (w := w) hg; have n3_ := bs_ (w := w) hg; clear HB; have HB := n0_; have BK317 := n1_; have GW317 := n2_; have GE317 := n3_; clear n0_ n1_ n2_ n3_; clear hb hbox hg) | ((with_reducible refine gate_dst (N := 12) rfl ?_); (try (refine gate_guard (by rfl) ?_; dsimp only)); refine Kd.S_lit (Kd.slice 9 Kd.string) _ 52 ?hg (N := 12) ?hd (xs := ([] : List (List ByteArray))) (inner := []) (ok := fun _ => True) (okp := fun _ => True) ?hr ?hp (fun _ hk => hk) trivial (Below.refl _ _) (Nat.le_refl _) (by simp) ?_; (case hd => rfl); (case hg => rfl); (case hr => first | (go_simp; done) | (go_simp; rfl)); (case hp => exact (Reps.none _ _)); intro v319 w8 ho9 hb hg_ hnew_; clear hg_ hnew_; (first | rw [← Ny318.out] at ho9 | (simp only [Int.reduceToNat] at ho9; rw [← Ny318.out] at ho9)); have n0_ := Aside0.mk (Kd.S_lower ho9 (below_size bel_)); have n1_ := bb_ (g := gb317) hb; have n2_ := Aside0.mk (below_step bel_ hb); clear BK317; clear HB; have HO320 := n0_; have BK317 := n1_; have HB := n2_; clear n0_ n1_ n2_; clear hb ho9))
    go_loopg [4, 5] k (fun kq v4 v5 w' => ∃ (x4_1 : List (List ByteArray)) (x5_1 : Int) (x318000_1 : Int) (x318001_1 : Int) (x318002_1 : Int), v5 = .int .i64 x5_1 ∧ Aside0 (spec_ReadCsv.l0 kq a0 x4_1 x5_1 = some (r1, r2, r3, r4)) ∧ Aside0 (kq ≤ k) ∧ Aside0 (Kd.S (Kd.slice 9 Kd.string) 52 w' w.heap.size (fun _ => True) v4 x4_1) ∧ Aside0 (w'.heap[gb317]? = some (.cells #[.int .i64 x318000_1, .int .i64 x318001_1, .int .i64 x318002_1] 43 (0, 0))) ∧ Aside0 (Below w.heap.size w w'))
    case atStart => exact ⟨(y318), (0), (0), (0), (0), (by first | rfl | (simp; done) | (simp [*]; done)), H', ⟨Nat.le_refl _⟩, ⟨by (with_reducible repeat (first | apply Kd.S_alloc | apply Kd.S_drewN | apply Kd.S_drew)); exact HO320.out⟩, ⟨by (with_reducible repeat (first | refine bN_ _ ?_ | refine bd_ ?_ | refine ba_ _ ?_)); exact BK317.out⟩, ⟨bel_⟩⟩
    case round =>
      clear H'
      try clear c2
      try clear c2b0
      try clear c2b1
      try clear p2
      try clear hcz6_0
      try clear hcz6_1
      try clear hcz6_2
      try clear hfz6_0
      try clear hfz6_1
      try clear hfz6_2
      try clear BK317
      obtain ⟨x4_1, x5_1, x318000_1, x318001_1, x318002_1, rfl, HA, HK1, HO_4, BK317, HB⟩ := hrel
      cases gk with
      | zero => exact absurd HA.out (by simp [spec_ReadCsv.l0])
      | succ k1 =>
        have H := HA.out
        clear HA
        simp only [spec_ReadCsv.l0] at H
        by_cases c10 : x5_1 < (a0.size : Int)
        · rw [if_pos c10] at H
          have c10b0 : decide (x5_1 < (a0.size : Int)) = true := decide_eq_true c10
          clear c10
          obtain ⟨y321, hy321⟩ : ∃ y_ : List ByteArray, y_ = (([] : List ByteArray)) := ⟨_, rfl⟩
          replace H : (spec_ReadCsv.l1 k1 a0 x4_1 x5_1 y321 false) = some (r1, r2, r3, r4) := by first | (rw [hy321]; with_reducible exact H) | (have H2_ := (Option.bind_some _ _).symm.trans H; rw [hy321]; with_reducible exact H2_) | (have H2_ := (Option.bind_some _ _).symm.trans H; with_reducible exact H2_) | with_reducible exact H | (rw [hy321]; exact H) | exact H
          have Ny321 := Aside0.mk hy321
          clear hy321
          have H' := Aside0.mk H
          clear H
          go_wp2_with (first | ((with_reducible refine gate_dst (N := 22) rfl ?_); (try (refine gate_guard (by rfl) ?_; dsimp only)); refine Kd.R_lit Kd.string _ 9 ?hg (N := 22) ?hd (xs := ([] : List ByteArray)) (inner := []) (ok := fun _ => True) (okp := fun _ => True) ?hr ?hp (fun _ hk => hk) trivial (Below.refl _ _) (Nat.le_refl _) (by simp) ?_; (case hd => rfl); (case hg => rfl); (case hr => first | (go_simp; done) | (go_simp; rfl)); (case hp => exact (Reps.none _ _)); intro v322 w11 ho12 hb hg_ hnew_; clear hg_ hnew_; (first | rw [← Ny321.out] at ho12 | (simp only [Int.reduceToNat] at ho12; rw [← Ny321.out] at ho12)); have n0_ := Aside0.mk (Kd.S_elder' (by (with_reducible repeat (first | apply Kd.S_alloc | apply Kd.S_drewN | apply Kd.S_drew)); exact HO_4.out) (Kd.R_base ho12) hb); have n1_ := Aside0.mk (Kd.R_lower ho12 (below_size bel_)); have n2_ := bb_ (g := gb317) hb; have n3_ := Aside0.mk (below_step bel_ hb); clear HO_4; clear BK317; clear HB; have HO_4 := n0_; have HO323 := n1_; have BK317 := n2_; have HB := n3_; clear n0_ n1_ n2_ n3_; clear hb ho12))
          go_loopg [5, 6, 7] k1 (fun kq v5 v6 v7 w' => ∃ (x5_2 : Int) (x6_2 : List ByteArray) (x7_2 : Bool) (x318000_2 : Int) (x318001_2 : Int) (x318002_2 : Int), v5 = .int .i64 x5_2 ∧ v7 = .bool x7_2 ∧ Aside0 (spec_ReadCsv.l1 kq a0 x4_1 x5_2 x6_2 x7_2 = some (r1, r2, r3, r4)) ∧ Aside0 (kq ≤ k1) ∧ Aside0 (Kd.S (Kd.slice 9 Kd.string) 52 w' w.heap.size (fun k_ => some k_ ≠ (v6 : Value).ownBlock) u4 x4_1) ∧ Aside0 (Kd.R Kd.string 9 w' w.heap.size (fun _ => True) v6 x6_2) ∧ Aside0 (w'.heap[gb317]? = some (.cells #[.int .i64 x318000_2, .int .i64 x318001_2, .int .i64 x318002_2] 43 (0, 0))) ∧ Aside0 (Below w.heap.size w w'))
          case atStart => exact ⟨(x5_1), (y321), (false), (x318000_1), (x318001_1), (x318002_1), (by first | rfl | (simp; done) | (simp [*]; done)), (by first | rfl | (simp; done) | (simp [*]; done)), H', ⟨Nat.le_refl _⟩, ⟨by (with_reducible repeat (first | apply Kd.S_alloc | apply Kd.S_drewN | apply Kd.S_drew)); exact Kd.S_mono HO_4.out (fun _ hk => hk.2)⟩, ⟨by (with_reducible repeat (first | apply Kd.R_alloc | apply Kd.R_drewN | apply Kd.R_drew)); exact HO323.out⟩, ⟨by (with_reducible repeat (first | refine bN_ _ ?_ | refine bd_ ?_ | refine ba_ _ ?_)); exact BK317.out⟩, ⟨bel_⟩⟩
          case round =>
            clear H'
            try clear c1
            try clear c2
            try clear c2b0
            try clear c2b1
            try clear p2
            try clear c10
            try clear c10b0
            try clear hcz6_0
            try clear hcz6_1
            try clear hcz6_2
            try clear hfz6_0
            try clear hfz6_1
            try clear hfz6_2
            try clear p2
            try clear BK317
            obtain ⟨x5_2, x6_2, x7_2, x318000_2, x318001_2, x318002_2, rfl, rfl, HA, HK2, HO_4, HO_6, BK317, HB⟩ := hrel
            cases gk with
            | zero => exact absurd HA.out (by simp [spec_ReadCsv.l1])
            | succ k2 =>
              have H := HA.out
              clear HA
              simp only [spec_ReadCsv.l1] at H
              by_cases c13 : x7_2 = true
              · subst c13
                have H1 : (if x4_1.length < 5864062014805 then (spec_ReadCsv.l0 k2 a0 (x4_1 ++ [x6_2]) x5_2) else (none)) = some (r1, r2, r3, r4) := by rw [if_pos rfl] at H; exact H
                clear H
                have H := H1
                clear H1
                by_cases c14 : x4_1.length < 5864062014805
                · rw [if_pos c14] at H
                  have LMc14 := Aside0.mk c14
                  clear c14
                  obtain ⟨y324, hy324⟩ : ∃ y_ : List (List ByteArray), y_ = (x4_1 ++ [x6_2]) := ⟨_, rfl⟩
                  replace H : (spec_ReadCsv.l0 k2 a0 y324 x5_2) = some (r1, r2, r3, r4) := by first | (rw [hy324]; with_reducible exact H) | (have H2_ := (Option.bind_some _ _).symm.trans H; rw [hy324]; with_reducible exact H2_) | (have H2_ := (Option.bind_some _ _).symm.trans H; with_reducible exact H2_) | with_reducible exact H | (rw [hy324]; exact H) | exact H
                  have Ny324 := Aside0.mk hy324
                  clear hy324
                  have H' := Aside0.mk H
                  clear H
                  obtain ⟨Ao16, co16, eo16⟩ := Kd.R_slice HO_6.out
                  subst eo16
                  go_wp2_with (first | ((with_reducible refine gate_builtin (b := .append) (xs := #[.tmp 88, .tmp 90]) rfl ?_); (try (refine gate_guard (by rfl) ?_; dsimp only)); at_builtin; refine Kd.S_append (Kd.slice 9 Kd.string) (w0 := w) w.heap.size rfl (.tmp 88) (.tmp 90) 33 52 (.slice none 0 0) 24 rfl Tryd.underlying33 info52 rfl (by decide) (by omega) u4 x4_1 x6_2 [.slice Ao16 x6_2.length co16] (fun _ => True) (fun k_ => some k_ = (.slice Ao16 x6_2.length co16 : Value).ownBlock) rfl rfl ?aP (fun k_ hk_ => ((Kd.R_mono (ok' := fun k_ => ((fun _ => True)) k_ ∧ some k_ ≠ (u4 : Value).ownBlock) (Kd.R_apart' (HO_6.out) (Kd.S_typed HO_4.out) (by decide)) (fun k_ hk => ⟨trivial, hk.2⟩))).1 k_ hk_.symm) ?aF ?aO ?aB ?aS ?aL ?_; (case aP => exact Kd.M_row (Kd.R_mono (Kd.R_tight rfl (Kd.R_mono (ok' := fun k_ => ((fun _ => True)) k_ ∧ some k_ ≠ (u4 : Value).ownBlock) (Kd.R_apart' (HO_6.out) (Kd.S_typed HO_4.out) (by decide)) (fun k_ hk => ⟨trivial, hk.2⟩))) (fun _ h_ => h_))); (case aB => exact bel_); (case aF => exact (fun _ _ => trivial)); (case aO => exact (by (with_reducible repeat (first | apply Kd.S_alloc | apply Kd.S_drewN | apply Kd.S_drew)); exact Kd.S_mono HO_4.out (fun k_ hk => ⟨trivial, fun e_ => hk e_⟩))); (case aS => exact (below_size bel_)); (case aL => have := LMc14.out; omega); intro v325 w15 ho hb hg hat; rw [← Ny324.out] at ho; have n0_ := Aside0.mk (blk_grown (g := gb317) (o := .cells #[.int .i64 x318000_2, .int .i64 x318001_2, .int .i64 x318002_2] 43 (0, 0)) bk_ hg (Kd.S_ne HO_4.out BK317.out (by decide))); have n1_ := Aside0.mk (hb); have n2_ := Aside0.mk (ho); clear BK317; clear HB; clear HO_4; clear HO_6; have BK317 := n0_; have HB := n1_; have HO326 := n2_; clear n0_ n1_ n2_; clear ho hb hg hat))
                  go_roundg k2
                  case measure => have := HK1.out; have := HK2.out; omega
                  case rel => exact ⟨(y324), (x5_2), (x318000_2), (x318001_2), (x318002_2), (by first | rfl | (simp; done) | (simp [*]; done)), H', ⟨by have := HK1.out; have := HK2.out; omega⟩, ⟨by (with_reducible repeat (first | apply Kd.S_alloc | apply Kd.S_drewN | apply Kd.S_drew)); exact HO326.out⟩, ⟨by (with_reducible repeat (first | refine bN_ _ ?_ | refine bd_ ?_ | refine ba_ _ ?_)); exact BK317.out⟩, ⟨bel_⟩⟩
                · rw [if_neg c14] at H
                  exact absurd H (by simp)
              · replace c13 := Bool.eq_false_iff.mpr c13
                subst c13
                have H1 : ((spec_l7Field.f k2 a0 x5_2).bind fun bt328 => (if bt328.2.2 = true then (if x6_2.length < 8796093022208 then ((some (x6_2 ++ [bt328.1] : List ByteArray)).bind fun y334 => (if bt328.2.1 ≥ (a0.size : Int) then (spec_ReadCsv.l1 k2 a0 x4_1 bt328.2.1 y334 true) else (if 0 ≤ bt328.2.1 then (if bt328.2.1 < (a0.size : Int) then (if (bt a0 bt328.2.1) = 44 then (spec_ReadCsv.l1 k2 a0 x4_1 (wrap64 (bt328.2.1 + 1)) y334 false) else (if (bt a0 bt328.2.1) = 10 then (spec_ReadCsv.l1 k2 a0 x4_1 (wrap64 (bt328.2.1 + 1)) y334 true) else (if (bt a0 bt328.2.1) = 13 then (if (wrap64 (bt328.2.1 + 1)) < (a0.size : Int) then (if 0 ≤ (wrap64 (bt328.2.1 + 1)) then (if (bt a0 (wrap64 (bt328.2.1 + 1))) = 10 then (spec_ReadCsv.l1 k2 a0 x4_1 (wrap64 (bt328.2.1 + 2)) y334 true) else (some ((([] : List (List ByteArray))), 2, (x4_1.length : Int), (x6_2.length : Int)))) else (none)) else (some ((([] : List (List ByteArray))), 2, (x4_1.length : Int), (x6_2.length : Int)))) else (some ((([] : List (List ByteArray))), 2, (x4_1.length : Int), (x6_2.length : Int)))))) else (none)) else (none)))) else (none)) else (some ((([] : List (List ByteArray))), 2, (x4_1.length : Int), (x6_2.length : Int))))) = some (r1, r2, r3, r4) := by rw [if_neg (show ¬ (false = true) by decide)] at H; exact H
                clear H
                have H := H1
                clear H1
                replace H := Option.bind_eq_some_iff.mp H
                obtain ⟨⟨t328, t329, t330⟩, A170, H⟩ := H
                replace H : (if t330 = true then (if x6_2.length < 8796093022208 then ((some (x6_2 ++ [t328] : List ByteArray)).bind fun y334 => (if t329 ≥ (a0.size : Int) then (spec_ReadCsv.l1 k2 a0 x4_1 t329 y334 true) else (if 0 ≤ t329 then (if t329 < (a0.size : Int) then (if (bt a0 t329) = 44 then (spec_ReadCsv.l1 k2 a0 x4_1 (wrap64 (t329 + 1)) y334 false) else (if (bt a0 t329) = 10 then (spec_ReadCsv.l1 k2 a0 x4_1 (wrap64 (t329 + 1)) y334 true) else (if (bt a0 t329) = 13 then (if (wrap64 (t329 + 1)) < (a0.size : Int) then (if 0 ≤ (wrap64 (t329 + 1)) then (if (bt a0 (wrap64 (t329 + 1))) = 10 then (spec_ReadCsv.l1 k2 a0 x4_1 (wrap64 (t329 + 2)) y334 true) else (some ((([] : List (List ByteArray))), 2, (x4_1.length : Int), (x6_2.length : Int)))) else (none)) else (some ((([] : List (List ByteArray))), 2, (x4_1.length : Int), (x6_2.length : Int)))) else (some ((([] : List (List ByteArray))), 2, (x4_1.length : Int), (x6_2.length : Int)))))) else (none)) else (none)))) else (none)) else (some ((([] : List (List ByteArray))), 2, (x4_1.length : Int), (x6_2.length : Int)))) = some (r1, r2, r3, r4) := H
                have A17 := Aside0.mk A170
                clear A170
                by_cases c18 : t330 = true
                · subst c18
                  have H1 : (if x6_2.length < 8796093022208 then ((some (x6_2 ++ [t328] : List ByteArray)).bind fun y334 => (if t329 ≥ (a0.size : Int) then (spec_ReadCsv.l1 k2 a0 x4_1 t329 y334 true) else (if 0 ≤ t329 then (if t329 < (a0.size : Int) then (if (bt a0 t329) = 44 then (spec_ReadCsv.l1 k2 a0 x4_1 (wrap64 (t329 + 1)) y334 false) else (if (bt a0 t329) = 10 then (spec_ReadCsv.l1 k2 a0 x4_1 (wrap64 (t329 + 1)) y334 true) else (if (bt a0 t329) = 13 then (if (wrap64 (t329 + 1)) < (a0.size : Int) then (if 0 ≤ (wrap64 (t329 + 1)) then (if (bt a0 (wrap64 (t329 + 1))) = 10 then (spec_ReadCsv.l1 k2 a0 x4_1 (wrap64 (t329 + 2)) y334 true) else (some ((([] : List (List ByteArray))), 2, (x4_1.length : Int), (x6_2.length : Int)))) else (none)) else (some ((([] : List (List ByteArray))), 2, (x4_1.length : Int), (x6_2.length : Int)))) else (some ((([] : List (List ByteArray))), 2, (x4_1.length : Int), (x6_2.length : Int)))))) else (none)) else (none)))) else (none)) = some (r1, r2, r3, r4) := by rw [if_pos rfl] at H; exact H
                  clear H
                  have H := H1
                  clear H1
                  by_cases c19 : x6_2.length < 8796093022208
                  · rw [if_pos c19] at H
                    have LMc19 := Aside0.mk c19
                    clear c19
                    obtain ⟨y334, hy334⟩ : ∃ y_ : List ByteArray, y_ = (x6_2 ++ [t328]) := ⟨_, rfl⟩
                    replace H : (if t329 ≥ (a0.size : Int) then (spec_ReadCsv.l1 k2 a0 x4_1 t329 y334 true) else (if 0 ≤ t329 then (if t329 < (a0.size : Int) then (if (bt a0 t329) = 44 then (spec_ReadCsv.l1 k2 a0 x4_1 (wrap64 (t329 + 1)) y334 false) else (if (bt a0 t329) = 10 then (spec_ReadCsv.l1 k2 a0 x4_1 (wrap64 (t329 + 1)) y334 true) else (if (bt a0 t329) = 13 then (if (wrap64 (t329 + 1)) < (a0.size : Int) then (if 0 ≤ (wrap64 (t329 + 1)) then (if (bt a0 (wrap64 (t329 + 1))) = 10 then (spec_ReadCsv.l1 k2 a0 x4_1 (wrap64 (t329 + 2)) y334 true) else (some ((([] : List (List ByteArray))), 2, (x4_1.length : Int), (x6_2.length : Int)))) else (none)) else (some ((([] : List (List ByteArray))), 2, (x4_1.length : Int), (x6_2.length : Int)))) else (some ((([] : List (List ByteArray))), 2, (x4_1.length : Int), (x6_2.length : Int)))))) else (none)) else (none))) = some (r1, r2, r3, r4) := by first | (rw [hy334]; with_reducible exact H) | (have H2_ := (Option.bind_some _ _).symm.trans H; rw [hy334]; with_reducible exact H2_) | (have H2_ := (Option.bind_some _ _).symm.trans H; with_reducible exact H2_) | with_reducible exact H | (rw [hy334]; exact H) | exact H
                    have Ny334 := Aside0.mk hy334
                    clear hy334
                    by_cases c20 : t329 ≥ (a0.size : Int)
                    · rw [if_pos c20] at H
                      have c20b0 : decide ((a0.size : Int) ≤ t329) = true := decide_eq_true c20
                      clear c20
                      have H' := Aside0.mk H
                      clear H
                      obtain ⟨Ao21, co21, eo21⟩ := Kd.S_slice HO_4.out
                      subst eo21
                      obtain ⟨Ao22, co22, eo22⟩ := Kd.R_slice HO_6.out
                      subst eo22
                      go_wp2_with (first | ((with_reducible refine gate_dst (N := 8) rfl ?_); (try (refine gate_guard (by rfl) ?_; dsimp only)); refine box_event ?hg (N := 8) ?hd (cs := #[.int .i64 0, .int .i64 0, .int .i64 0]) (t := 43) ?hr ?_; (case hd => rfl); (case hg => rfl); (case hr => first | (go_simp; done) | (go_simp; rfl)); intro gb327 hg w23 hbox hb; have n0_ := Aside0.mk (Kd.S_below (by (with_reducible repeat (first | apply Kd.S_alloc | apply Kd.S_drewN | apply Kd.S_drew)); exact HO_4.out) hb); have n1_ := Aside0.mk (Kd.R_below (by (with_reducible repeat (first | apply Kd.R_alloc | apply Kd.R_drewN | apply Kd.R_drew)); exact HO_6.out) hb); have n2_ := bb_ (g := gb317) hb; have n3_ := Aside0.mk (below_step bel_ hb); have n4_ := Aside0.mk (hbox); have n5_ := bs_ (w := w) hg; have n6_ := bs_ (w := w) hg; have n7_ := nlt_ (g := gb317) hg; have n8_ := ngt_ (g := gb317) hg; clear HO_4; clear HO_6; clear BK317; clear HB; have HO_4 := n0_; have HO_6 := n1_; have BK317 := n2_; have HB := n3_; have BK327 := n4_; have GW327 := n5_; have GE327 := n6_; have NB317_327 := n7_; have NB327_317 := n8_; clear n0_ n1_ n2_ n3_ n4_ n5_ n6_ n7_ n8_; clear hb hbox hg; have hnb24 := NB327_317.out; have hnc24 := NB317_327.out; obtain ⟨hcz25_0, hcz25_1, hcz25_2, hfz25_0, hfz25_1, hfz25_2⟩ := cf3_ (w := w23) BK327.out) | ((with_reducible refine gate_callee (f := 54) rfl ?_); refine goesL_ (some 33) rfl rfl Tryd.func54 (by kernel_rfl) rfl #[.string a0, .int .i64 x5_2] rfl mp_ ?_; (with_reducible refine (spec_l7Field.calls k2 a0 x5_2 t328 t329 true _ A17.out).mono ?_); rintro e w26 ⟨rfl, hb⟩; refine ⟨_, rfl, ?_⟩; have n0_ := Aside0.mk (Kd.S_below (by (with_reducible repeat (first | apply Kd.S_alloc | apply Kd.S_drewN | apply Kd.S_drew)); exact (Kd.S_mono (Kd.S_far (p := ⟨gb327, 2, none⟩) (Kd.S_far (p := ⟨gb327, 1, none⟩) (Kd.S_far (p := ⟨gb327, 0, none⟩) (Kd.S_types HO_4.out BK327.out (by decide)) (fun _ hk => hk.2) (.int .i64 2)) (fun _ hk => hk.2) (.int .i64 (x4_1.length : Int))) (fun _ hk => hk.2) (.int .i64 (x6_2.length : Int))) (fun _ h_ => h_.1))) hb); have n1_ := Aside0.mk (Kd.R_below (by (with_reducible repeat (first | apply Kd.R_alloc | apply Kd.R_drewN | apply Kd.R_drew)); exact (Kd.R_mono (Kd.R_far (p := ⟨gb327, 2, none⟩) (Kd.R_far (p := ⟨gb327, 1, none⟩) (Kd.R_far (p := ⟨gb327, 0, none⟩) (Kd.R_types HO_6.out BK327.out (by decide)) (fun _ hk => hk.2) (.int .i64 2)) (fun _ hk => hk.2) (.int .i64 (x4_1.length : Int))) (fun _ hk => hk.2) (.int .i64 (x6_2.length : Int))) (fun _ h_ => h_.1))) hb); have n2_ := Aside0.mk (blk_below (g := gb317) (o := .cells #[.int .i64 x318000_2, .int .i64 x318001_2, .int .i64 x318002_2] 43 (0, 0)) bk_ hb); have n3_ := Aside0.mk (blk_below (g := gb327) (o := .cells #[.int .i64 2, .int .i64 (x4_1.length : Int), .int .i64 (x6_2.length : Int)] 43 (0, 0)) (pu_ #[.int .i64 2, .int .i64 (x4_1.length : Int), .int .i64 0] 2 (h := (pu_ #[.int .i64 2, .int .i64 0, .int .i64 0] 1 (h := (pu_ #[.int .i64 0, .int .i64 0, .int .i64 0] 0 (h := bk_)))))) hb); have n4_ := Aside0.mk (below_step bel_ hb); clear HO_4; clear HO_6; clear BK317; clear BK327; clear HB; have HO_4 := n0_; have HO_6 := n1_; have BK317 := n2_; have BK327 := n3_; have HB := n4_; clear n0_ n1_ n2_ n3_ n4_; (try clear hb); (try clear hb2); (try clear hk); (try clear hi)) | ((with_reducible refine gate_builtin (b := .append) (xs := #[.tmp 41, .tmp 43]) rfl ?_); (try (refine gate_guard (by rfl) ?_; dsimp only)); at_builtin; refine Kd.R_append Kd.string (w0 := w) w.heap.size rfl (.tmp 41) (.tmp 43) 52 9 (.string ⟨#[]⟩) 16 rfl Tryd.underlying52 info9 rfl (by decide) (by omega) (.slice Ao22 x6_2.length co22) x6_2 t328 [.string t328] (fun _ => True) (fun _ => False) rfl rfl ?aP (fun _ hk => hk.elim) ?aF ?aO ?aB ?aS ?aL ?_; (case aP => exact rfl); (case aB => exact bel_); (case aF => exact (fun _ _ => trivial)); (case aO => exact (by (with_reducible repeat (first | apply Kd.R_alloc | apply Kd.R_drewN | apply Kd.R_drew)); exact HO_6.out)); (case aS => exact (below_size bel_)); (case aL => have := LMc19.out; omega); intro v335 w27 ho hb hg hat; rw [← Ny334.out] at ho; have n0_ := Aside0.mk (Kd.S_after (ok := (fun _ => True)) (by (with_reducible repeat (first | apply Kd.S_alloc | apply Kd.S_drewN | apply Kd.S_drew)); exact Kd.S_mono HO_4.out (fun _ hk => ⟨trivial, hk⟩)) hg hat); have n1_ := Aside0.mk (blk_grown (g := gb317) (o := .cells #[.int .i64 x318000_2, .int .i64 x318001_2, .int .i64 x318002_2] 43 (0, 0)) bk_ hg (Kd.R_ne HO_6.out BK317.out (by decide))); have n2_ := Aside0.mk (blk_grown (g := gb327) (o := .cells #[.int .i64 2, .int .i64 (x4_1.length : Int), .int .i64 (x6_2.length : Int)] 43 (0, 0)) bk_ hg (Kd.R_ne HO_6.out BK327.out (by decide))); have n3_ := Aside0.mk (hb); have n4_ := Aside0.mk (ho); clear HO_4; clear BK317; clear BK327; clear HB; clear HO_6; have HO_4 := n0_; have BK317 := n1_; have BK327 := n2_; have HB := n3_; have HO336 := n4_; clear n0_ n1_ n2_ n3_ n4_; clear ho hb hg hat))
                      go_roundg k2
                      case measure => have := HK1.out; have := HK2.out; omega
                      case rel => exact ⟨(t329), (y334), (true), (x318000_2), (x318001_2), (x318002_2), (by first | rfl | (simp; done) | (simp [*]; done)), (by first | rfl | (simp; done) | (simp [*]; done)), H', ⟨by have := HK1.out; have := HK2.out; omega⟩, ⟨by (with_reducible repeat (first | apply Kd.S_alloc | apply Kd.S_drewN | apply Kd.S_drew)); exact Kd.S_mono HO_4.out (fun _ hk => hk.2)⟩, ⟨by (with_reducible repeat (first | apply Kd.R_alloc | apply Kd.R_drewN | apply Kd.R_drew)); exact HO336.out⟩, ⟨by (with_reducible repeat (first | refine bN_ _ ?_ | refine bd_ ?_ | refine ba_ _ ?_)); exact BK317.out⟩, ⟨bel_⟩⟩
                    · rw [if_neg c20] at H
                      have c20b0 : decide ((a0.size : Int) ≤ t329) = false := decide_eq_false c20
                      clear c20
                      by_cases c28 : 0 ≤ t329
                      · rw [if_pos c28] at H
                        have c28b0 : decide (0 ≤ t329) = true := decide_eq_true c28
                        clear c28
                        by_cases c29 : t329 < (a0.size : Int)
                        · rw [if_pos c29] at H
                          have c29b0 : decide (t329 < (a0.size : Int)) = true := decide_eq_true c29
                          clear c29
                          by_cases c31 : (bt a0 t329) = 44
                          · rw [if_pos c31] at H
                            have c31b0 : ((bt a0 t329) == 44) = true := beq_iff_eq.mpr c31
                            have c31b1 : ((bt a0 t329) != 44) = false := bne_eq_false_iff_eq.mpr c31
                            clear c31
                            have H' := Aside0.mk H
                            clear H
                            obtain ⟨Ao32, co32, eo32⟩ := Kd.S_slice HO_4.out
                            subst eo32
                            obtain ⟨Ao33, co33, eo33⟩ := Kd.R_slice HO_6.out
                            subst eo33
                            go_wp2_with (first | ((with_reducible refine gate_dst (N := 8) rfl ?_); (try (refine gate_guard (by rfl) ?_; dsimp only)); refine box_event ?hg (N := 8) ?hd (cs := #[.int .i64 0, .int .i64 0, .int .i64 0]) (t := 43) ?hr ?_; (case hd => rfl); (case hg => rfl); (case hr => first | (go_simp; done) | (go_simp; rfl)); intro gb327 hg w34 hbox hb; have n0_ := Aside0.mk (Kd.S_below (by (with_reducible repeat (first | apply Kd.S_alloc | apply Kd.S_drewN | apply Kd.S_drew)); exact HO_4.out) hb); have n1_ := Aside0.mk (Kd.R_below (by (with_reducible repeat (first | apply Kd.R_alloc | apply Kd.R_drewN | apply Kd.R_drew)); exact HO_6.out) hb); have n2_ := bb_ (g := gb317) hb; have n3_ := Aside0.mk (below_step bel_ hb); have n4_ := Aside0.mk (hbox); have n5_ := bs_ (w := w) hg; have n6_ := bs_ (w := w) hg; have n7_ := nlt_ (g := gb317) hg; have n8_ := ngt_ (g := gb317) hg; clear HO_4; clear HO_6; clear BK317; clear HB; have HO_4 := n0_; have HO_6 := n1_; have BK317 := n2_; have HB := n3_; have BK327 := n4_; have GW327 := n5_; have GE327 := n6_; have NB317_327 := n7_; have NB327_317 := n8_; clear n0_ n1_ n2_ n3_ n4_ n5_ n6_ n7_ n8_; clear hb hbox hg; have hnb35 := NB327_317.out; have hnc35 := NB317_327.out; obtain ⟨hcz36_0, hcz36_1, hcz36_2, hfz36_0, hfz36_1, hfz36_2⟩ := cf3_ (w := w34) BK327.out) | ((with_reducible refine gate_callee (f := 54) rfl ?_); refine goesL_ (some 33) rfl rfl Tryd.func54 (by kernel_rfl) rfl #[.string a0, .int .i64 x5_2] rfl mp_ ?_; (with_reducible refine (spec_l7Field.calls k2 a0 x5_2 t328 t329 true _ A17.out).mono ?_); rintro e w37 ⟨rfl, hb⟩; refine ⟨_, rfl, ?_⟩; have n0_ := Aside0.mk (Kd.S_below (by (with_reducible repeat (first | apply Kd.S_alloc | apply Kd.S_drewN | apply Kd.S_drew)); exact (Kd.S_mono (Kd.S_far (p := ⟨gb327, 2, none⟩) (Kd.S_far (p := ⟨gb327, 1, none⟩) (Kd.S_far (p := ⟨gb327, 0, none⟩) (Kd.S_types HO_4.out BK327.out (by decide)) (fun _ hk => hk.2) (.int .i64 2)) (fun _ hk => hk.2) (.int .i64 (x4_1.length : Int))) (fun _ hk => hk.2) (.int .i64 (x6_2.length : Int))) (fun _ h_ => h_.1))) hb); have n1_ := Aside0.mk (Kd.R_below (by (with_reducible repeat (first | apply Kd.R_alloc | apply Kd.R_drewN | apply Kd.R_drew)); exact (Kd.R_mono (Kd.R_far (p := ⟨gb327, 2, none⟩) (Kd.R_far (p := ⟨gb327, 1, none⟩) (Kd.R_far (p := ⟨gb327, 0, none⟩) (Kd.R_types HO_6.out BK327.out (by decide)) (fun _ hk => hk.2) (.int .i64 2)) (fun _ hk => hk.2) (.int .i64 (x4_1.length : Int))) (fun _ hk => hk.2) (.int .i64 (x6_2.length : Int))) (fun _ h_ => h_.1))) hb); have n2_ := Aside0.mk (blk_below (g := gb317) (o := .cells #[.int .i64 x318000_2, .int .i64 x318001_2, .int .i64 x318002_2] 43 (0, 0)) bk_ hb); have n3_ := Aside0.mk (blk_below (g := gb327) (o := .cells #[.int .i64 2, .int .i64 (x4_1.length : Int), .int .i64 (x6_2.length : Int)] 43 (0, 0)) (pu_ #[.int .i64 2, .int .i64 (x4_1.length : Int), .int .i64 0] 2 (h := (pu_ #[.int .i64 2, .int .i64 0, .int .i64 0] 1 (h := (pu_ #[.int .i64 0, .int .i64 0, .int .i64 0] 0 (h := bk_)))))) hb); have n4_ := Aside0.mk (below_step bel_ hb); clear HO_4; clear HO_6; clear BK317; clear BK327; clear HB; have HO_4 := n0_; have HO_6 := n1_; have BK317 := n2_; have BK327 := n3_; have HB := n4_; clear n0_ n1_ n2_ n3_ n4_; (try clear hb); (try clear hb2); (try clear hk); (try clear hi)) | ((with_reducible refine gate_builtin (b := .append) (xs := #[.tmp 41, .tmp 43]) rfl ?_); (try (refine gate_guard (by rfl) ?_; dsimp only)); at_builtin; refine Kd.R_append Kd.string (w0 := w) w.heap.size rfl (.tmp 41) (.tmp 43) 52 9 (.string ⟨#[]⟩) 16 rfl Tryd.underlying52 info9 rfl (by decide) (by omega) (.slice Ao33 x6_2.length co33) x6_2 t328 [.string t328] (fun _ => True) (fun _ => False) rfl rfl ?aP (fun _ hk => hk.elim) ?aF ?aO ?aB ?aS ?aL ?_; (case aP => exact rfl); (case aB => exact bel_); (case aF => exact (fun _ _ => trivial)); (case aO => exact (by (with_reducible repeat (first | apply Kd.R_alloc | apply Kd.R_drewN | apply Kd.R_drew)); exact HO_6.out)); (case aS => exact (below_size bel_)); (case aL => have := LMc19.out; omega); intro v335 w38 ho hb hg hat; rw [← Ny334.out] at ho; have n0_ := Aside0.mk (Kd.S_after (ok := (fun _ => True)) (by (with_reducible repeat (first | apply Kd.S_alloc | apply Kd.S_drewN | apply Kd.S_drew)); exact Kd.S_mono HO_4.out (fun _ hk => ⟨trivial, hk⟩)) hg hat); have n1_ := Aside0.mk (blk_grown (g := gb317) (o := .cells #[.int .i64 x318000_2, .int .i64 x318001_2, .int .i64 x318002_2] 43 (0, 0)) bk_ hg (Kd.R_ne HO_6.out BK317.out (by decide))); have n2_ := Aside0.mk (blk_grown (g := gb327) (o := .cells #[.int .i64 2, .int .i64 (x4_1.length : Int), .int .i64 (x6_2.length : Int)] 43 (0, 0)) bk_ hg (Kd.R_ne HO_6.out BK327.out (by decide))); have n3_ := Aside0.mk (hb); have n4_ := Aside0.mk (ho); clear HO_4; clear BK317; clear BK327; clear HB; clear HO_6; have HO_4 := n0_; have BK317 := n1_; have BK327 := n2_; have HB := n3_; have HO336 := n4_; clear n0_ n1_ n2_ n3_ n4_; clear ho hb hg hat; have p30 : 0 ≤ (t329 : Int) := of_decide_eq_true (by first | (with_reducible assumption) | assumption); have q30 : t329 < (a0.size : Int) := of_decide_eq_true (by first | (with_reducible assumption) | assumption); have hx30 := bt_at a0 t329; replace p30 := eq_true p30; replace q30 := eq_true q30))
                            go_roundg k2
                            case measure => have := HK1.out; have := HK2.out; omega
                            case rel => exact ⟨(wrap64 (t329 + 1)), (y334), (false), (x318000_2), (x318001_2), (x318002_2), (by first | rfl | (simp; done) | (simp [*]; done)), (by first | rfl | (simp; done) | (simp [*]; done)), H', ⟨by have := HK1.out; have := HK2.out; omega⟩, ⟨by (with_reducible repeat (first | apply Kd.S_alloc | apply Kd.S_drewN | apply Kd.S_drew)); exact Kd.S_mono HO_4.out (fun _ hk => hk.2)⟩, ⟨by (with_reducible repeat (first | apply Kd.R_alloc | apply Kd.R_drewN | apply Kd.R_drew)); exact HO336.out⟩, ⟨by (with_reducible repeat (first | refine bN_ _ ?_ | refine bd_ ?_ | refine ba_ _ ?_)); exact BK317.out⟩, ⟨bel_⟩⟩
                          · rw [if_neg c31] at H
                            have c31b0 : ((bt a0 t329) == 44) = false := beq_eq_false_iff_ne.mpr c31
                            have c31b1 : ((bt a0 t329) != 44) = true := bne_iff_ne.mpr c31
                            by_cases c40 : (bt a0 t329) = 10
                            · rw [if_pos c40] at H
                              have c40b0 : ((bt a0 t329) == 10) = true := beq_iff_eq.mpr c40
                              have c40b1 : ((bt a0 t329) != 10) = false := bne_eq_false_iff_eq.mpr c40
                              clear c40
                              have H' := Aside0.mk H
                              clear H
                              obtain ⟨Ao41, co41, eo41⟩ := Kd.S_slice HO_4.out
                              subst eo41
                              obtain ⟨Ao42, co42, eo42⟩ := Kd.R_slice HO_6.out
                              subst eo42
                              go_wp2_with (first | ((with_reducible refine gate_dst (N := 8) rfl ?_); (try (refine gate_guard (by rfl) ?_; dsimp only)); refine box_event ?hg (N := 8) ?hd (cs := #[.int .i64 0, .int .i64 0, .int .i64 0]) (t := 43) ?hr ?_; (case hd => rfl); (case hg => rfl); (case hr => first | (go_simp; done) | (go_simp; rfl)); intro gb327 hg w43 hbox hb; have n0_ := Aside0.mk (Kd.S_below (by (with_reducible repeat (first | apply Kd.S_alloc | apply Kd.S_drewN | apply Kd.S_drew)); exact HO_4.out) hb); have n1_ := Aside0.mk (Kd.R_below (by (with_reducible repeat (first | apply Kd.R_alloc | apply Kd.R_drewN | apply Kd.R_drew)); exact HO_6.out) hb); have n2_ := bb_ (g := gb317) hb; have n3_ := Aside0.mk (below_step bel_ hb); have n4_ := Aside0.mk (hbox); have n5_ := bs_ (w := w) hg; have n6_ := bs_ (w := w) hg; have n7_ := nlt_ (g := gb317) hg; have n8_ := ngt_ (g := gb317) hg; clear HO_4; clear HO_6; clear BK317; clear HB; have HO_4 := n0_; have HO_6 := n1_; have BK317 := n2_; have HB := n3_; have BK327 := n4_; have GW327 := n5_; have GE327 := n6_; have NB317_327 := n7_; have NB327_317 := n8_; clear n0_ n1_ n2_ n3_ n4_ n5_ n6_ n7_ n8_; clear hb hbox hg; have hnb44 := NB327_317.out; have hnc44 := NB317_327.out; obtain ⟨hcz45_0, hcz45_1, hcz45_2, hfz45_0, hfz45_1, hfz45_2⟩ := cf3_ (w := w43) BK327.out) | ((with_reducible refine gate_callee (f := 54) rfl ?_); refine goesL_ (some 33) rfl rfl Tryd.func54 (by kernel_rfl) rfl #[.string a0, .int .i64 x5_2] rfl mp_ ?_; (with_reducible refine (spec_l7Field.calls k2 a0 x5_2 t328 t329 true _ A17.out).mono ?_); rintro e w46 ⟨rfl, hb⟩; refine ⟨_, rfl, ?_⟩; have n0_ := Aside0.mk (Kd.S_below (by (with_reducible repeat (first | apply Kd.S_alloc | apply Kd.S_drewN | apply Kd.S_drew)); exact (Kd.S_mono (Kd.S_far (p := ⟨gb327, 2, none⟩) (Kd.S_far (p := ⟨gb327, 1, none⟩) (Kd.S_far (p := ⟨gb327, 0, none⟩) (Kd.S_types HO_4.out BK327.out (by decide)) (fun _ hk => hk.2) (.int .i64 2)) (fun _ hk => hk.2) (.int .i64 (x4_1.length : Int))) (fun _ hk => hk.2) (.int .i64 (x6_2.length : Int))) (fun _ h_ => h_.1))) hb); have n1_ := Aside0.mk (Kd.R_below (by (with_reducible repeat (first | apply Kd.R_alloc | apply Kd.R_drewN | apply Kd.R_drew)); exact (Kd.R_mono (Kd.R_far (p := ⟨gb327, 2, none⟩) (Kd.R_far (p := ⟨gb327, 1, none⟩) (Kd.R_far (p := ⟨gb327, 0, none⟩) (Kd.R_types HO_6.out BK327.out (by decide)) (fun _ hk => hk.2) (.int .i64 2)) (fun _ hk => hk.2) (.int .i64 (x4_1.length : Int))) (fun _ hk => hk.2) (.int .i64 (x6_2.length : Int))) (fun _ h_ => h_.1))) hb); have n2_ := Aside0.mk (blk_below (g := gb317) (o := .cells #[.int .i64 x318000_2, .int .i64 x318001_2, .int .i64 x318002_2] 43 (0, 0)) bk_ hb); have n3_ := Aside0.mk (blk_below (g := gb327) (o := .cells #[.int .i64 2, .int .i64 (x4_1.length : Int), .int .i64 (x6_2.length : Int)] 43 (0, 0)) (pu_ #[.int .i64 2, .int .i64 (x4_1.length : Int), .int .i64 0] 2 (h := (pu_ #[.int .i64 2, .int .i64 0, .int .i64 0] 1 (h := (pu_ #[.int .i64 0, .int .i64 0, .int .i64 0] 0 (h := bk_)))))) hb); have n4_ := Aside0.mk (below_step bel_ hb); clear HO_4; clear HO_6; clear BK317; clear BK327; clear HB; have HO_4 := n0_; have HO_6 := n1_; have BK317 := n2_; have BK327 := n3_; have HB := n4_; clear n0_ n1_ n2_ n3_ n4_; (try clear hb); (try clear hb2); (try clear hk); (try clear hi)) | ((with_reducible refine gate_builtin (b := .append) (xs := #[.tmp 41, .tmp 43]) rfl ?_); (try (refine gate_guard (by rfl) ?_; dsimp only)); at_builtin; refine Kd.R_append Kd.string (w0 := w) w.heap.size rfl (.tmp 41) (.tmp 43) 52 9 (.string ⟨#[]⟩) 16 rfl Tryd.underlying52 info9 rfl (by decide) (by omega) (.slice Ao42 x6_2.length co42) x6_2 t328 [.string t328] (fun _ => True) (fun _ => False) rfl rfl ?aP (fun _ hk => hk.elim) ?aF ?aO ?aB ?aS ?aL ?_; (case aP => exact rfl); (case aB => exact bel_); (case aF => exact (fun _ _ => trivial)); (case aO => exact (by (with_reducible repeat (first | apply Kd.R_alloc | apply Kd.R_drewN | apply Kd.R_drew)); exact HO_6.out)); (case aS => exact (below_size bel_)); (case aL => have := LMc19.out; omega); intro v335 w47 ho hb hg hat; rw [← Ny334.out] at ho; have n0_ := Aside0.mk (Kd.S_after (ok := (fun _ => True)) (by (with_reducible repeat (first | apply Kd.S_alloc | apply Kd.S_drewN | apply Kd.S_drew)); exact Kd.S_mono HO_4.out (fun _ hk => ⟨trivial, hk⟩)) hg hat); have n1_ := Aside0.mk (blk_grown (g := gb317) (o := .cells #[.int .i64 x318000_2, .int .i64 x318001_2, .int .i64 x318002_2] 43 (0, 0)) bk_ hg (Kd.R_ne HO_6.out BK317.out (by decide))); have n2_ := Aside0.mk (blk_grown (g := gb327) (o := .cells #[.int .i64 2, .int .i64 (x4_1.length : Int), .int .i64 (x6_2.length : Int)] 43 (0, 0)) bk_ hg (Kd.R_ne HO_6.out BK327.out (by decide))); have n3_ := Aside0.mk (hb); have n4_ := Aside0.mk (ho); clear HO_4; clear BK317; clear BK327; clear HB; clear HO_6; have HO_4 := n0_; have BK317 := n1_; have BK327 := n2_; have HB := n3_; have HO336 := n4_; clear n0_ n1_ n2_ n3_ n4_; clear ho hb hg hat; have p30 : 0 ≤ (t329 : Int) := of_decide_eq_true (by first | (with_reducible assumption) | assumption); have q30 : t329 < (a0.size : Int) := of_decide_eq_true (by first | (with_reducible assumption) | assumption); have hx30 := bt_at a0 t329; replace p30 := eq_true p30; replace q30 := eq_true q30; have p39 : 0 ≤ (t329 : Int) := of_decide_eq_true (by first | (with_reducible assumption) | assumption); have q39 : t329 < (a0.size : Int) := of_decide_eq_true (by first | (with_reducible assumption) | assumption); have hx39 := bt_at a0 t329; replace p39 := eq_true p39; replace q39 := eq_true q39))
                              go_roundg k2
                              case measure => have := HK1.out; have := HK2.out; omega
                              case rel => exact ⟨(wrap64 (t329 + 1)), (y334), (true), (x318000_2), (x318001_2), (x318002_2), (by first | rfl | (simp; done) | (simp [*]; done)), (by first | rfl | (simp; done) | (simp [*]; done)), H', ⟨by have := HK1.out; have := HK2.out; omega⟩, ⟨by (with_reducible repeat (first | apply Kd.S_alloc | apply Kd.S_drewN | apply Kd.S_drew)); exact Kd.S_mono HO_4.out (fun _ hk => hk.2)⟩, ⟨by (with_reducible repeat (first | apply Kd.R_alloc | apply Kd.R_drewN | apply Kd.R_drew)); exact HO336.out⟩, ⟨by (with_reducible repeat (first | refine bN_ _ ?_ | refine bd_ ?_ | refine ba_ _ ?_)); exact BK317.out⟩, ⟨bel_⟩⟩
                            · rw [if_neg c40] at H
                              have c40b0 : ((bt a0 t329) == 10) = false := beq_eq_false_iff_ne.mpr c40
                              have c40b1 : ((bt a0 t329) != 10) = true := bne_iff_ne.mpr c40
                              by_cases c49 : (bt a0 t329) = 13
                              · rw [if_pos c49] at H
                                have c49b0 : ((bt a0 t329) == 13) = true := beq_iff_eq.mpr c49
                                have c49b1 : ((bt a0 t329) != 13) = false := bne_eq_false_iff_eq.mpr c49
                                clear c49
                                by_cases c50 : (wrap64 (t329 + 1)) < (a0.size : Int)
                                · rw [if_pos c50] at H
                                  have c50b0 : decide ((wrap64 (t329 + 1)) < (a0.size : Int)) = true := decide_eq_true c50
                                  clear c50
                                  obtain ⟨ji51, hji51⟩ : ∃ j_ : Int, (wrap64 (t329 + 1)) = j_ := ⟨_, rfl⟩
                                  replace H : (if 0 ≤ (ji51) then (if (bt a0 (ji51)) = 10 then (spec_ReadCsv.l1 k2 a0 x4_1 (wrap64 (t329 + 2)) y334 true) else (some ((([] : List (List ByteArray))), 2, (x4_1.length : Int), (x6_2.length : Int)))) else (none)) = some (r1, r2, r3, r4) := by first | (rw [hji51] at H; exact H) | (simp only [hji51] at H ⊢; exact H)
                                  (try rw [hji51] at c50b0)
                                  (try rw [hji51] at A17)
                                  have hji51w : (IntKind.i64.wrap (t329 + 1)) = ji51 := (i64_w _).trans hji51
                                  by_cases c52 : 0 ≤ (ji51)
                                  · rw [if_pos c52] at H
                                    have c52b0 : decide (0 ≤ (ji51)) = true := decide_eq_true c52
                                    clear c52
                                    by_cases c54 : (bt a0 (ji51)) = 10
                                    · rw [if_pos c54] at H
                                      have c54b0 : ((bt a0 (ji51)) == 10) = true := beq_iff_eq.mpr c54
                                      have c54b1 : ((bt a0 (ji51)) != 10) = false := bne_eq_false_iff_eq.mpr c54
                                      clear c54
                                      have H' := Aside0.mk H
                                      clear H
                                      obtain ⟨Ao55, co55, eo55⟩ := Kd.S_slice HO_4.out
                                      subst eo55
                                      obtain ⟨Ao56, co56, eo56⟩ := Kd.R_slice HO_6.out
                                      subst eo56
                                      go_wp2_with (first | ((with_reducible refine gate_dst (N := 8) rfl ?_); (try (refine gate_guard (by rfl) ?_; dsimp only)); refine box_event ?hg (N := 8) ?hd (cs := #[.int .i64 0, .int .i64 0, .int .i64 0]) (t := 43) ?hr ?_; (case hd => rfl); (case hg => rfl); (case hr => first | (go_simp; done) | (go_simp; rfl)); intro gb327 hg w57 hbox hb; have n0_ := Aside0.mk (Kd.S_below (by (with_reducible repeat (first | apply Kd.S_alloc | apply Kd.S_drewN | apply Kd.S_drew)); exact HO_4.out) hb); have n1_ := Aside0.mk (Kd.R_below (by (with_reducible repeat (first | apply Kd.R_alloc | apply Kd.R_drewN | apply Kd.R_drew)); exact HO_6.out) hb); have n2_ := bb_ (g := gb317) hb; have n3_ := Aside0.mk (below_step bel_ hb); have n4_ := Aside0.mk (hbox); have n5_ := bs_ (w := w) hg; have n6_ := bs_ (w := w) hg; have n7_ := nlt_ (g := gb317) hg; have n8_ := ngt_ (g := gb317) hg; clear HO_4; clear HO_6; clear BK317; clear HB; have HO_4 := n0_; have HO_6 := n1_; have BK317 := n2_; have HB := n3_; have BK327 := n4_; have GW327 := n5_; have GE327 := n6_; have NB317_327 := n7_; have NB327_317 := n8_; clear n0_ n1_ n2_ n3_ n4_ n5_ n6_ n7_ n8_; clear hb hbox hg; have hnb58 := NB327_317.out; have hnc58 := NB317_327.out; obtain ⟨hcz59_0, hcz59_1, hcz59_2, hfz59_0, hfz59_1, hfz59_2⟩ := cf3_ (w := w57) BK327.out) | ((with_reducible refine gate_callee (f := 54) rfl ?_); refine goesL_ (some 33) rfl rfl Tryd.func54 (by kernel_rfl) rfl #[.string a0, .int .i64 x5_2] rfl mp_ ?_; (with_reducible refine (spec_l7Field.calls k2 a0 x5_2 t328 t329 true _ A17.out).mono ?_); rintro e w60 ⟨rfl, hb⟩; refine ⟨_, rfl, ?_⟩; have n0_ := Aside0.mk (Kd.S_below (by (with_reducible repeat (first | apply Kd.S_alloc | apply Kd.S_drewN | apply Kd.S_drew)); exact (Kd.S_mono (Kd.S_far (p := ⟨gb327, 2, none⟩) (Kd.S_far (p := ⟨gb327, 1, none⟩) (Kd.S_far (p := ⟨gb327, 0, none⟩) (Kd.S_types HO_4.out BK327.out (by decide)) (fun _ hk => hk.2) (.int .i64 2)) (fun _ hk => hk.2) (.int .i64 (x4_1.length : Int))) (fun _ hk => hk.2) (.int .i64 (x6_2.length : Int))) (fun _ h_ => h_.1))) hb); have n1_ := Aside0.mk (Kd.R_below (by (with_reducible repeat (first | apply Kd.R_alloc | apply Kd.R_drewN | apply Kd.R_drew)); exact (Kd.R_mono (Kd.R_far (p := ⟨gb327, 2, none⟩) (Kd.R_far (p := ⟨gb327, 1, none⟩) (Kd.R_far (p := ⟨gb327, 0, none⟩) (Kd.R_types HO_6.out BK327.out (by decide)) (fun _ hk => hk.2) (.int .i64 2)) (fun _ hk => hk.2) (.int .i64 (x4_1.length : Int))) (fun _ hk => hk.2) (.int .i64 (x6_2.length : Int))) (fun _ h_ => h_.1))) hb); have n2_ := Aside0.mk (blk_below (g := gb317) (o := .cells #[.int .i64 x318000_2, .int .i64 x318001_2, .int .i64 x318002_2] 43 (0, 0)) bk_ hb); have n3_ := Aside0.mk (blk_below (g := gb327) (o := .cells #[.int .i64 2, .int .i64 (x4_1.length : Int), .int .i64 (x6_2.length : Int)] 43 (0, 0)) (pu_ #[.int .i64 2, .int .i64 (x4_1.length : Int), .int .i64 0] 2 (h := (pu_ #[.int .i64 2, .int .i64 0, .int .i64 0] 1 (h := (pu_ #[.int .i64 0, .int .i64 0, .int .i64 0] 0 (h := bk_)))))) hb); have n4_ := Aside0.mk (below_step bel_ hb); clear HO_4; clear HO_6; clear BK317; clear BK327; clear HB; have HO_4 := n0_; have HO_6 := n1_; have BK317 := n2_; have BK327 := n3_; have HB := n4_; clear n0_ n1_ n2_ n3_ n4_; (try clear hb); (try clear hb2); (try clear hk); (try clear hi)) | ((with_reducible refine gate_builtin (b := .append) (xs := #[.tmp 41, .tmp 43]) rfl ?_); (try (refine gate_guard (by rfl) ?_; dsimp only)); at_builtin; refine Kd.R_append Kd.string (w0 := w) w.heap.size rfl (.tmp 41) (.tmp 43) 52 9 (.string ⟨#[]⟩) 16 rfl Tryd.underlying52 info9 rfl (by decide) (by omega) (.slice Ao56 x6_2.length co56) x6_2 t328 [.string t328] (fun _ => True) (fun _ => False) rfl rfl ?aP (fun _ hk => hk.elim) ?aF ?aO ?aB ?aS ?aL ?_; (case aP => exact rfl); (case aB => exact bel_); (case aF => exact (fun _ _ => trivial)); (case aO => exact (by (with_reducible repeat (first | apply Kd.R_alloc | apply Kd.R_drewN | apply Kd.R_drew)); exact HO_6.out)); (case aS => exact (below_size bel_)); (case aL => have := LMc19.out; omega); intro v335 w61 ho hb hg hat; rw [← Ny334.out] at ho; have n0_ := Aside0.mk (Kd.S_after (ok := (fun _ => True)) (by (with_reducible repeat (first | apply Kd.S_alloc | apply Kd.S_drewN | apply Kd.S_drew)); exact Kd.S_mono HO_4.out (fun _ hk => ⟨trivial, hk⟩)) hg hat); have n1_ := Aside0.mk (blk_grown (g := gb317) (o := .cells #[.int .i64 x318000_2, .int .i64 x318001_2, .int .i64 x318002_2] 43 (0, 0)) bk_ hg (Kd.R_ne HO_6.out BK317.out (by decide))); have n2_ := Aside0.mk (blk_grown (g := gb327) (o := .cells #[.int .i64 2, .int .i64 (x4_1.length : Int), .int .i64 (x6_2.length : Int)] 43 (0, 0)) bk_ hg (Kd.R_ne HO_6.out BK327.out (by decide))); have n3_ := Aside0.mk (hb); have n4_ := Aside0.mk (ho); clear HO_4; clear BK317; clear BK327; clear HB; clear HO_6; have HO_4 := n0_; have BK317 := n1_; have BK327 := n2_; have HB := n3_; have HO336 := n4_; clear n0_ n1_ n2_ n3_ n4_; clear ho hb hg hat; have p30 : 0 ≤ (t329 : Int) := of_decide_eq_true (by first | (with_reducible assumption) | assumption); have q30 : t329 < (a0.size : Int) := of_decide_eq_true (by first | (with_reducible assumption) | assumption); have hx30 := bt_at a0 t329; replace p30 := eq_true p30; replace q30 := eq_true q30; have p39 : 0 ≤ (t329 : Int) := of_decide_eq_true (by first | (with_reducible assumption) | assumption); have q39 : t329 < (a0.size : Int) := of_decide_eq_true (by first | (with_reducible assumption) | assumption); have hx39 := bt_at a0 t329; replace p39 := eq_true p39; replace q39 := eq_true q39; have p48 : 0 ≤ (t329 : Int) := of_decide_eq_true (by first | (with_reducible assumption) | assumption); have q48 : t329 < (a0.size : Int) := of_decide_eq_true (by first | (with_reducible assumption) | assumption); have hx48 := bt_at a0 t329; replace p48 := eq_true p48; replace q48 := eq_true q48; have p53 : 0 ≤ ((ji51) : Int) := of_decide_eq_true (by first | (with_reducible assumption) | assumption); have q53 : (ji51) < (a0.size : Int) := of_decide_eq_true (by first | (with_reducible assumption) | assumption); have hx53 := bt_at a0 (ji51); replace p53 := eq_true p53; replace q53 := eq_true q53))
                                      go_roundg k2
                                      case measure => have := HK1.out; have := HK2.out; omega
                                      case rel => exact ⟨(wrap64 (t329 + 2)), (y334), (true), (x318000_2), (x318001_2), (x318002_2), (by first | rfl | (simp; done) | (simp [*]; done)), (by first | rfl | (simp; done) | (simp [*]; done)), H', ⟨by have := HK1.out; have := HK2.out; omega⟩, ⟨by (with_reducible repeat (first | apply Kd.S_alloc | apply Kd.S_drewN | apply Kd.S_drew)); exact Kd.S_mono HO_4.out (fun _ hk => hk.2)⟩, ⟨by (with_reducible repeat (first | apply Kd.R_alloc | apply Kd.R_drewN | apply Kd.R_drew)); exact HO336.out⟩, ⟨by (with_reducible repeat (first | refine bN_ _ ?_ | refine bd_ ?_ | refine ba_ _ ?_)); exact BK317.out⟩, ⟨bel_⟩⟩
                                    · rw [if_neg c54] at H
                                      have c54b0 : ((bt a0 (ji51)) == 10) = false := beq_eq_false_iff_ne.mpr c54
                                      have c54b1 : ((bt a0 (ji51)) != 10) = true := bne_iff_ne.mpr c54
                                      obtain ⟨y337, hy337⟩ : ∃ y_ : List (List ByteArray), y_ = (([] : List (List ByteArray))) := ⟨_, rfl⟩
                                      replace H : (some (y337, 2, (x4_1.length : Int), (x6_2.length : Int))) = some (r1, r2, r3, r4) := by first | (rw [hy337]; with_reducible exact H) | (have H2_ := (Option.bind_some _ _).symm.trans H; rw [hy337]; with_reducible exact H2_) | (have H2_ := (Option.bind_some _ _).symm.trans H; with_reducible exact H2_) | with_reducible exact H | (rw [hy337]; exact H) | exact H
                                      have Ny337 := Aside0.mk hy337
                                      clear hy337
                                      simp only [Option.some.injEq, Prod.mk.injEq] at H
                                      obtain ⟨rfl, rfl, rfl, rfl⟩ := H
                                      obtain ⟨Ao62, co62, eo62⟩ := Kd.S_slice HO_4.out
                                      subst eo62
                                      obtain ⟨Ao63, co63, eo63⟩ := Kd.R_slice HO_6.out
                                      subst eo63
                                      try go_wp2_with (first | ((with_reducible refine gate_dst (N := 8) rfl ?_); (try (refine gate_guard (by rfl) ?_; dsimp only)); refine box_event ?hg (N := 8) ?hd (cs := #[.int .i64 0, .int .i64 0, .int .i64 0]) (t := 43) ?hr ?_; (case hd => rfl); (case hg => rfl); (case hr => first | (go_simp; done) | (go_simp; rfl)); intro gb327 hg w64 hbox hb; have n0_ := Aside0.mk (Kd.S_below (by (with_reducible repeat (first | apply Kd.S_alloc | apply Kd.S_drewN | apply Kd.S_drew)); exact HO_4.out) hb); have n1_ := Aside0.mk (Kd.R_below (by (with_reducible repeat (first | apply Kd.R_alloc | apply Kd.R_drewN | apply Kd.R_drew)); exact HO_6.out) hb); have n2_ := bb_ (g := gb317) hb; have n3_ := Aside0.mk (below_step bel_ hb); have n4_ := Aside0.mk (hbox); have n5_ := bs_ (w := w) hg; have n6_ := bs_ (w := w) hg; have n7_ := nlt_ (g := gb317) hg; have n8_ := ngt_ (g := gb317) hg; clear HO_4; clear HO_6; clear BK317; clear HB; have HO_4 := n0_; have HO_6 := n1_; have BK317 := n2_; have HB := n3_; have BK327 := n4_; have GW327 := n5_; have GE327 := n6_; have NB317_327 := n7_; have NB327_317 := n8_; clear n0_ n1_ n2_ n3_ n4_ n5_ n6_ n7_ n8_; clear hb hbox hg; have hnb65 := NB327_317.out; have hnc65 := NB317_327.out; obtain ⟨hcz66_0, hcz66_1, hcz66_2, hfz66_0, hfz66_1, hfz66_2⟩ := cf3_ (w := w64) BK327.out) | ((with_reducible refine gate_callee (f := 54) rfl ?_); refine goesL_ (some 33) rfl rfl Tryd.func54 (by kernel_rfl) rfl #[.string a0, .int .i64 x5_2] rfl mp_ ?_; (with_reducible refine (spec_l7Field.calls k2 a0 x5_2 t328 t329 true _ A17.out).mono ?_); rintro e w67 ⟨rfl, hb⟩; refine ⟨_, rfl, ?_⟩; have n0_ := Aside0.mk (Kd.S_below (by (with_reducible repeat (first | apply Kd.S_alloc | apply Kd.S_drewN | apply Kd.S_drew)); exact (Kd.S_mono (Kd.S_far (p := ⟨gb327, 2, none⟩) (Kd.S_far (p := ⟨gb327, 1, none⟩) (Kd.S_far (p := ⟨gb327, 0, none⟩) (Kd.S_types HO_4.out BK327.out (by decide)) (fun _ hk => hk.2) (.int .i64 2)) (fun _ hk => hk.2) (.int .i64 (x4_1.length : Int))) (fun _ hk => hk.2) (.int .i64 (x6_2.length : Int))) (fun _ h_ => h_.1))) hb); have n1_ := Aside0.mk (Kd.R_below (by (with_reducible repeat (first | apply Kd.R_alloc | apply Kd.R_drewN | apply Kd.R_drew)); exact (Kd.R_mono (Kd.R_far (p := ⟨gb327, 2, none⟩) (Kd.R_far (p := ⟨gb327, 1, none⟩) (Kd.R_far (p := ⟨gb327, 0, none⟩) (Kd.R_types HO_6.out BK327.out (by decide)) (fun _ hk => hk.2) (.int .i64 2)) (fun _ hk => hk.2) (.int .i64 (x4_1.length : Int))) (fun _ hk => hk.2) (.int .i64 (x6_2.length : Int))) (fun _ h_ => h_.1))) hb); have n2_ := Aside0.mk (blk_below (g := gb317) (o := .cells #[.int .i64 x318000_2, .int .i64 x318001_2, .int .i64 x318002_2] 43 (0, 0)) bk_ hb); have n3_ := Aside0.mk (blk_below (g := gb327) (o := .cells #[.int .i64 2, .int .i64 (x4_1.length : Int), .int .i64 (x6_2.length : Int)] 43 (0, 0)) (pu_ #[.int .i64 2, .int .i64 (x4_1.length : Int), .int .i64 0] 2 (h := (pu_ #[.int .i64 2, .int .i64 0, .int .i64 0] 1 (h := (pu_ #[.int .i64 0, .int .i64 0, .int .i64 0] 0 (h := bk_)))))) hb); have n4_ := Aside0.mk (below_step bel_ hb); clear HO_4; clear HO_6; clear BK317; clear BK327; clear HB; have HO_4 := n0_; have HO_6 := n1_; have BK317 := n2_; have BK327 := n3_; have HB := n4_; clear n0_ n1_ n2_ n3_ n4_; (try clear hb); (try clear hb2); (try clear hk); (try clear hi)) | ((with_reducible refine gate_builtin (b := .append) (xs := #[.tmp 41, .tmp 43]) rfl ?_); (try (refine gate_guard (by rfl) ?_; dsimp only)); at_builtin; refine Kd.R_append Kd.string (w0 := w) w.heap.size rfl (.tmp 41) (.tmp 43) 52 9 (.string ⟨#[]⟩) 16 rfl Tryd.underlying52 info9 rfl (by decide) (by omega) (.slice Ao63 x6_2.length co63) x6_2 t328 [.string t328] (fun _ => True) (fun _ => False) rfl rfl ?aP (fun _ hk => hk.elim) ?aF ?aO ?aB ?aS ?aL ?_; (case aP => exact rfl); (case aB => exact bel_); (case aF => exact (fun _ _ => trivial)); (case aO => exact (by (with_reducible repeat (first | apply Kd.R_alloc | apply Kd.R_drewN | apply Kd.R_drew)); exact HO_6.out)); (case aS => exact (below_size bel_)); (case aL => have := LMc19.out; omega); intro v335 w68 ho hb hg hat; rw [← Ny334.out] at ho; have n0_ := Aside0.mk (Kd.S_after (ok := (fun _ => True)) (by (with_reducible repeat (first | apply Kd.S_alloc | apply Kd.S_drewN | apply Kd.S_drew)); exact Kd.S_mono HO_4.out (fun _ hk => ⟨trivial, hk⟩)) hg hat); have n1_ := Aside0.mk (blk_grown (g := gb317) (o := .cells #[.int .i64 x318000_2, .int .i64 x318001_2, .int .i64 x318002_2] 43 (0, 0)) bk_ hg (Kd.R_ne HO_6.out BK317.out (by decide))); have n2_ := Aside0.mk (blk_grown (g := gb327) (o := .cells #[.int .i64 2, .int .i64 (x4_1.length : Int), .int .i64 (x6_2.length : Int)] 43 (0, 0)) bk_ hg (Kd.R_ne HO_6.out BK327.out (by decide))); have n3_ := Aside0.mk (hb); have n4_ := Aside0.mk (ho); clear HO_4; clear BK317; clear BK327; clear HB; clear HO_6; have HO_4 := n0_; have BK317 := n1_; have BK327 := n2_; have HB := n3_; have HO336 := n4_; clear n0_ n1_ n2_ n3_ n4_; clear ho hb hg hat; have p30 : 0 ≤ (t329 : Int) := of_decide_eq_true (by first | (with_reducible assumption) | assumption); have q30 : t329 < (a0.size : Int) := of_decide_eq_true (by first | (with_reducible assumption) | assumption); have hx30 := bt_at a0 t329; replace p30 := eq_true p30; replace q30 := eq_true q30; have p39 : 0 ≤ (t329 : Int) := of_decide_eq_true (by first | (with_reducible assumption) | assumption); have q39 : t329 < (a0.size : Int) := of_decide_eq_true (by first | (with_reducible assumption) | assumption); have hx39 := bt_at a0 t329; replace p39 := eq_true p39; replace q39 := eq_true q39; have p48 : 0 ≤ (t329 : Int) := of_decide_eq_true (by first | (with_reducible assumption) | assumption); have q48 : t329 < (a0.size : Int) := of_decide_eq_true (by first | (with_reducible assumption) | assumption); have hx48 := bt_at a0 t329; replace p48 := eq_true p48; replace q48 := eq_true q48; have p53 : 0 ≤ ((ji51) : Int) := of_decide_eq_true (by first | (with_reducible assumption) | assumption); have q53 : (ji51) < (a0.size : Int) := of_decide_eq_true (by first | (with_reducible assumption) | assumption); have hx53 := bt_at a0 (ji51); replace p53 := eq_true p53; replace q53 := eq_true q53))
                                      have n0_ := Aside0.mk (Kd.S_drew HO_4.out)
                                      have n1_ := Aside0.mk (Kd.R_drew HO336.out)
                                      have n2_ := Aside0.mk (blk_drew BK317.out)
                                      have n3_ := Aside0.mk (blk_drew BK327.out)
                                      have n4_ := Aside0.mk (below_drew1 HB.out)
                                      clear HO_4
                                      clear HO336
                                      clear BK317
                                      clear BK327
                                      clear HB
                                      have HO_4 := n0_
                                      have HO336 := n1_
                                      have BK317 := n2_
                                      have BK327 := n3_
                                      have HB := n4_
                                      clear n0_ n1_ n2_ n3_ n4_
                                      refine start_ (n := 4) (S := fun w' => w'.cell? ⟨gb327, 0, none⟩ = some (.int .i64 2) ∧ w'.cell? ⟨gb327, 1, none⟩ = some (.int .i64 (x4_1.length : Int)) ∧ w'.cell? ⟨gb327, 2, none⟩ = some (.int .i64 (x6_2.length : Int))) (ds := []) #[false, false, false, false] (by kernel_rfl) rfl rfl ⟨bc_, bc_, bc_⟩ (fun hHeld => ?_)
                                      generalize w68.drew = w69 at HO_4 HO336 BK317 BK327 HB hHeld ⊢
                                      refine take_ (i := 1) (N := some 47) (v := ?_) (a' := ?_) #[false, true, false, false] rfl rfl (by kernel_rfl) (fun _ _ _ h => h) (Or.inl ⟨by rfl, ?_⟩) hHeld ?_ ?_
                                      rotate_left
                                      · rintro w' ⟨s0, s1, s2⟩
                                        go_simp
                                        with_reducible rfl
                                      rotate_left
                                      · simp only [Act.put, la_, lb_, lc_, i64_w, i32_w]
                                        rfl
                                      refine one_ (i := 0) (N := some 46) #[true, true, false, false] rfl rfl (by kernel_rfl) (by decide) (fun K hK => ?_)
                                      refine Kd.S_lit_step (Kd.slice 9 Kd.string) _ 52 ?hg (N := 46) ?hd (xs := ([] : List (List ByteArray))) (inner := []) (ok := fun _ => True) (okp := fun _ => True) ?hr ?hp (fun _ hk => hk) trivial (Below.refl _ _) (Nat.le_refl _) (by simp) ?_; (case hd => rfl); (case hg => rfl); (case hr => first | (go_simp; done) | (go_simp; rfl)); (case hp => exact (Reps.none _ _))
                                      intro v338 w70 ho71 hb hg_ hnew_
                                      clear hg_ hnew_
                                      (first | rw [← Ny337.out] at ho71 | (simp only [Int.reduceToNat] at ho71; rw [← Ny337.out] at ho71))
                                      have n0_ := Aside0.mk (Kd.S_elder' (by (with_reducible repeat (first | apply Kd.S_alloc | apply Kd.S_drewN | apply Kd.S_drew)); exact HO_4.out) (Kd.S_base ho71) hb)
                                      have n1_ := Aside0.mk (Kd.R_below (by (with_reducible repeat (first | apply Kd.R_alloc | apply Kd.R_drewN | apply Kd.R_drew)); exact HO336.out) hb)
                                      have n2_ := Aside0.mk (Kd.S_lower (Kd.S_new' (Kd.S_new' ho71 (Kd.S_lt (by (with_reducible repeat (first | apply Kd.S_alloc | apply Kd.S_drewN | apply Kd.S_drew)); exact HO_4.out))) (Kd.R_lt (by (with_reducible repeat (first | apply Kd.R_alloc | apply Kd.R_drewN | apply Kd.R_drew)); exact HO336.out))) (below_size bel_))
                                      have n3_ := bb_ (g := gb317) hb
                                      have n4_ := bb_ (g := gb327) hb
                                      have n5_ := Aside0.mk (below_step bel_ hb)
                                      clear HO_4
                                      clear HO336
                                      clear BK317
                                      clear BK327
                                      clear HB
                                      have HO_4 := n0_
                                      have HO336 := n1_
                                      have HO339 := n2_
                                      have BK317 := n3_
                                      have BK327 := n4_
                                      have HB := n5_
                                      clear n0_ n1_ n2_ n3_ n4_ n5_
                                      clear hb ho71
                                      refine hK.out _ _ ⟨bc_, bc_, bc_⟩ (fun hHeld => ?_)
                                      clear hK K
                                      refine norm_ (a' := ?_) ?_ ?_
                                      rotate_left
                                      · show Act.put _ (some 46) _ = _
                                        simp only [Act.put, la_, lb_, lc_, i64_w, i32_w]
                                        rfl
                                      refine pure_ (i := 2) (N := some 2) (v := ?_) (a' := ?_) #[true, true, true, false] rfl rfl (by kernel_rfl) (fun _ _ _ h => h) (Or.inl ⟨by rfl, ?_⟩) ?_ ?_
                                      rotate_left
                                      · intro w'
                                        go_simp
                                        with_reducible rfl
                                      rotate_left
                                      · simp only [Act.put, la_, lb_, lc_, i64_w, i32_w]
                                        rfl
                                      refine one_ (i := 3) (N := none) #[true, true, true, true] rfl rfl (by kernel_rfl) (by decide) (fun K hK => ?_)
                                      have hs72 : w70.cell? ⟨gb317, 0, none⟩ = some (.int .i64 x318000_2) := (blk_cell BK317.out 0).trans rfl
                                      have hfs72 := blk_frozen BK317.out 0
                                      have hns72_1 := NB327_317.out
                                      have hms72_1 := NB317_327.out
                                      have hs73 : w70.cell? ⟨gb317, 1, none⟩ = some (.int .i64 x318001_2) := (blk_cell BK317.out 1).trans rfl
                                      have hfs73 := blk_frozen BK317.out 1
                                      have hns73_1 := NB327_317.out
                                      have hms73_1 := NB317_327.out
                                      have hs74 : w70.cell? ⟨gb317, 2, none⟩ = some (.int .i64 x318002_2) := (blk_cell BK317.out 2).trans rfl
                                      have hfs74 := blk_frozen BK317.out 2
                                      have hns74_1 := NB327_317.out
                                      have hms74_1 := NB317_327.out
                                      refine skip_ (w1 := ?_) ?_ ?_ ?_ ?_
                                      rotate_left
                                      · rfl
                                      · rfl
                                      · go_simp
                                        rfl
                                      refine hK.out _ _ ⟨(cfar_ hHeld.1), (cfar_ hHeld.2.1), (cfar_ hHeld.2.2)⟩ (fun hHeld => ?_)
                                      clear hK K
                                      refine done_ (by kernel_rfl) ?_
                                      try go_wp2
                                      refine bodyPost_ret (results_tc rfl _ _ gb317 43 #[.int .i64 2, .int .i64 (x4_1.length : Int), .int .i64 (x6_2.length : Int)] (0, 0) _ rfl (pu_ #[.int .i64 2, .int .i64 (x4_1.length : Int), .int .i64 x318002_2] 2 (h := (pu_ #[.int .i64 2, .int .i64 x318001_2, .int .i64 x318002_2] 1 (h := (pu_ #[.int .i64 x318000_2, .int .i64 x318001_2, .int .i64 x318002_2] 0 (h := bk_)))))) Tryd.underlying43 rfl (by kernel_rfl)) rfl ?_
                                      exact ⟨_, by first | rfl | (simp [errW_none, errW_some] <;> rfl) | (simp only [← hji51]; first | rfl | (simp [errW_none, errW_some] <;> rfl)) | (simp [*, errW_none, errW_some] <;> rfl), by (with_reducible repeat (first | apply Kd.S_alloc | apply Kd.S_drewN | apply Kd.S_drew)); exact Kd.S_mono (Kd.S_far (p := ⟨gb317, 2, none⟩) (Kd.S_far (p := ⟨gb317, 1, none⟩) (Kd.S_far (p := ⟨gb317, 0, none⟩) (Kd.S_types HO339.out BK317.out (by decide)) (fun _ hk => hk.2) (.int .i64 2)) (fun _ hk => hk.2) (.int .i64 (x4_1.length : Int))) (fun _ hk => hk.2) (.int .i64 (x6_2.length : Int))) (fun _ hk => trivial), bel_⟩
                                  · rw [if_neg c52] at H
                                    exact absurd H (by simp)
                                · rw [if_neg c50] at H
                                  have c50b0 : decide ((wrap64 (t329 + 1)) < (a0.size : Int)) = false := decide_eq_false c50
                                  clear c50
                                  obtain ⟨y340, hy340⟩ : ∃ y_ : List (List ByteArray), y_ = (([] : List (List ByteArray))) := ⟨_, rfl⟩
                                  replace H : (some (y340, 2, (x4_1.length : Int), (x6_2.length : Int))) = some (r1, r2, r3, r4) := by first | (rw [hy340]; with_reducible exact H) | (have H2_ := (Option.bind_some _ _).symm.trans H; rw [hy340]; with_reducible exact H2_) | (have H2_ := (Option.bind_some _ _).symm.trans H; with_reducible exact H2_) | with_reducible exact H | (rw [hy340]; exact H) | exact H
                                  have Ny340 := Aside0.mk hy340
                                  clear hy340
                                  simp only [Option.some.injEq, Prod.mk.injEq] at H
                                  obtain ⟨rfl, rfl, rfl, rfl⟩ := H
                                  obtain ⟨Ao75, co75, eo75⟩ := Kd.S_slice HO_4.out
                                  subst eo75
                                  obtain ⟨Ao76, co76, eo76⟩ := Kd.R_slice HO_6.out
                                  subst eo76
                                  try go_wp2_with (first | ((with_reducible refine gate_dst (N := 8) rfl ?_); (try (refine gate_guard (by rfl) ?_; dsimp only)); refine box_event ?hg (N := 8) ?hd (cs := #[.int .i64 0, .int .i64 0, .int .i64 0]) (t := 43) ?hr ?_; (case hd => rfl); (case hg => rfl); (case hr => first | (go_simp; done) | (go_simp; rfl)); intro gb327 hg w77 hbox hb; have n0_ := Aside0.mk (Kd.S_below (by (with_reducible repeat (first | apply Kd.S_alloc | apply Kd.S_drewN | apply Kd.S_drew)); exact HO_4.out) hb); have n1_ := Aside0.mk (Kd.R_below (by (with_reducible repeat (first | apply Kd.R_alloc | apply Kd.R_drewN | apply Kd.R_drew)); exact HO_6.out) hb); have n2_ := bb_ (g := gb317) hb; have n3_ := Aside0.mk (below_step bel_ hb); have n4_ := Aside0.mk (hbox); have n5_ := bs_ (w := w) hg; have n6_ := bs_ (w := w) hg; have n7_ := nlt_ (g := gb317) hg; have n8_ := ngt_ (g := gb317) hg; clear HO_4; clear HO_6; clear BK317; clear HB; have HO_4 := n0_; have HO_6 := n1_; have BK317 := n2_; have HB := n3_; have BK327 := n4_; have GW327 := n5_; have GE327 := n6_; have NB317_327 := n7_; have NB327_317 := n8_; clear n0_ n1_ n2_ n3_ n4_ n5_ n6_ n7_ n8_; clear hb hbox hg; have hnb78 := NB327_317.out; have hnc78 := NB317_327.out; obtain ⟨hcz79_0, hcz79_1, hcz79_2, hfz79_0, hfz79_1, hfz79_2⟩ := cf3_ (w := w77) BK327.out) | ((with_reducible refine gate_callee (f := 54) rfl ?_); refine goesL_ (some 33) rfl rfl Tryd.func54 (by kernel_rfl) rfl #[.string a0, .int .i64 x5_2] rfl mp_ ?_; (with_reducible refine (spec_l7Field.calls k2 a0 x5_2 t328 t329 true _ A17.out).mono ?_); rintro e w80 ⟨rfl, hb⟩; refine ⟨_, rfl, ?_⟩; have n0_ := Aside0.mk (Kd.S_below (by (with_reducible repeat (first | apply Kd.S_alloc | apply Kd.S_drewN | apply Kd.S_drew)); exact (Kd.S_mono (Kd.S_far (p := ⟨gb327, 2, none⟩) (Kd.S_far (p := ⟨gb327, 1, none⟩) (Kd.S_far (p := ⟨gb327, 0, none⟩) (Kd.S_types HO_4.out BK327.out (by decide)) (fun _ hk => hk.2) (.int .i64 2)) (fun _ hk => hk.2) (.int .i64 (x4_1.length : Int))) (fun _ hk => hk.2) (.int .i64 (x6_2.length : Int))) (fun _ h_ => h_.1))) hb); have n1_ := Aside0.mk (Kd.R_below (by (with_reducible repeat (first | apply Kd.R_alloc | apply Kd.R_drewN | apply Kd.R_drew)); exact (Kd.R_mono (Kd.R_far (p := ⟨gb327, 2, none⟩) (Kd.R_far (p := ⟨gb327, 1, none⟩) (Kd.R_far (p := ⟨gb327, 0, none⟩) (Kd.R_types HO_6.out BK327.out (by decide)) (fun _ hk => hk.2) (.int .i64 2)) (fun _ hk => hk.2) (.int .i64 (x4_1.length : Int))) (fun _ hk => hk.2) (.int .i64 (x6_2.length : Int))) (fun _ h_ => h_.1))) hb); have n2_ := Aside0.mk (blk_below (g := gb317) (o := .cells #[.int .i64 x318000_2, .int .i64 x318001_2, .int .i64 x318002_2] 43 (0, 0)) bk_ hb); have n3_ := Aside0.mk (blk_below (g := gb327) (o := .cells #[.int .i64 2, .int .i64 (x4_1.length : Int), .int .i64 (x6_2.length : Int)] 43 (0, 0)) (pu_ #[.int .i64 2, .int .i64 (x4_1.length : Int), .int .i64 0] 2 (h := (pu_ #[.int .i64 2, .int .i64 0, .int .i64 0] 1 (h := (pu_ #[.int .i64 0, .int .i64 0, .int .i64 0] 0 (h := bk_)))))) hb); have n4_ := Aside0.mk (below_step bel_ hb); clear HO_4; clear HO_6; clear BK317; clear BK327; clear HB; have HO_4 := n0_; have HO_6 := n1_; have BK317 := n2_; have BK327 := n3_; have HB := n4_; clear n0_ n1_ n2_ n3_ n4_; (try clear hb); (try clear hb2); (try clear hk); (try clear hi)) | ((with_reducible refine gate_builtin (b := .append) (xs := #[.tmp 41, .tmp 43]) rfl ?_); (try (refine gate_guard (by rfl) ?_; dsimp only)); at_builtin; refine Kd.R_append Kd.string (w0 := w) w.heap.size rfl (.tmp 41) (.tmp 43) 52 9 (.string ⟨#[]⟩) 16 rfl Tryd.underlying52 info9 rfl (by decide) (by omega) (.slice Ao76 x6_2.length co76) x6_2 t328 [.string t328] (fun _ => True) (fun _ => False) rfl rfl ?aP (fun _ hk => hk.elim) ?aF ?aO ?aB ?aS ?aL ?_; (case aP => exact rfl); (case aB => exact bel_); (case aF => exact (fun _ _ => trivial)); (case aO => exact (by (with_reducible repeat (first | apply Kd.R_alloc | apply Kd.R_drewN | apply Kd.R_drew)); exact HO_6.out)); (case aS => exact (below_size bel_)); (case aL => have := LMc19.out; omega); intro v335 w81 ho hb hg hat; rw [← Ny334.out] at ho; have n0_ := Aside0.mk (Kd.S_after (ok := (fun _ => True)) (by (with_reducible repeat (first | apply Kd.S_alloc | apply Kd.S_drewN | apply Kd.S_drew)); exact Kd.S_mono HO_4.out (fun _ hk => ⟨trivial, hk⟩)) hg hat); have n1_ := Aside0.mk (blk_grown (g := gb317) (o := .cells #[.int .i64 x318000_2, .int .i64 x318001_2, .int .i64 x318002_2] 43 (0, 0)) bk_ hg (Kd.R_ne HO_6.out BK317.out (by decide))); have n2_ := Aside0.mk (blk_grown (g := gb327) (o := .cells #[.int .i64 2, .int .i64 (x4_1.length : Int), .int .i64 (x6_2.length : Int)] 43 (0, 0)) bk_ hg (Kd.R_ne HO_6.out BK327.out (by decide))); have n3_ := Aside0.mk (hb); have n4_ := Aside0.mk (ho); clear HO_4; clear BK317; clear BK327; clear HB; clear HO_6; have HO_4 := n0_; have BK317 := n1_; have BK327 := n2_; have HB := n3_; have HO336 := n4_; clear n0_ n1_ n2_ n3_ n4_; clear ho hb hg hat; have p30 : 0 ≤ (t329 : Int) := of_decide_eq_true (by first | (with_reducible assumption) | assumption); have q30 : t329 < (a0.size : Int) := of_decide_eq_true (by first | (with_reducible assumption) | assumption); have hx30 := bt_at a0 t329; replace p30 := eq_true p30; replace q30 := eq_true q30; have p39 : 0 ≤ (t329 : Int) := of_decide_eq_true (by first | (with_reducible assumption) | assumption); have q39 : t329 < (a0.size : Int) := of_decide_eq_true (by first | (with_reducible assumption) | assumption); have hx39 := bt_at a0 t329; replace p39 := eq_true p39; replace q39 := eq_true q39; have p48 : 0 ≤ (t329 : Int) := of_decide_eq_true (by first | (with_reducible assumption) | assumption); have q48 : t329 < (a0.size : Int) := of_decide_eq_true (by first | (with_reducible assumption) | assumption); have hx48 := bt_at a0 t329; replace p48 := eq_true p48; replace q48 := eq_true q48))
                                  have n0_ := Aside0.mk (Kd.S_drew HO_4.out)
                                  have n1_ := Aside0.mk (Kd.R_drew HO336.out)
                                  have n2_ := Aside0.mk (blk_drew BK317.out)
                                  have n3_ := Aside0.mk (blk_drew BK327.out)
                                  have n4_ := Aside0.mk (below_drew1 HB.out)
                                  clear HO_4
                                  clear HO336
                                  clear BK317
                                  clear BK327
                                  clear HB
                                  have HO_4 := n0_
                                  have HO336 := n1_
                                  have BK317 := n2_
                                  have BK327 := n3_
                                  have HB := n4_
                                  clear n0_ n1_ n2_ n3_ n4_
                                  refine start_ (n := 4) (S := fun w' => w'.cell? ⟨gb327, 0, none⟩ = some (.int .i64 2) ∧ w'.cell? ⟨gb327, 1, none⟩ = some (.int .i64 (x4_1.length : Int)) ∧ w'.cell? ⟨gb327, 2, none⟩ = some (.int .i64 (x6_2.length : Int))) (ds := []) #[false, false, false, false] (by kernel_rfl) rfl rfl ⟨bc_, bc_, bc_⟩ (fun hHeld => ?_)
                                  generalize w81.drew = w82 at HO_4 HO336 BK317 BK327 HB hHeld ⊢
                                  refine take_ (i := 1) (N := some 47) (v := ?_) (a' := ?_) #[false, true, false, false] rfl rfl (by kernel_rfl) (fun _ _ _ h => h) (Or.inl ⟨by rfl, ?_⟩) hHeld ?_ ?_
                                  rotate_left
                                  · rintro w' ⟨s0, s1, s2⟩
                                    go_simp
                                    with_reducible rfl
                                  rotate_left
                                  · simp only [Act.put, la_, lb_, lc_, i64_w, i32_w]
                                    rfl
                                  refine one_ (i := 0) (N := some 46) #[true, true, false, false] rfl rfl (by kernel_rfl) (by decide) (fun K hK => ?_)
                                  refine Kd.S_lit_step (Kd.slice 9 Kd.string) _ 52 ?hg (N := 46) ?hd (xs := ([] : List (List ByteArray))) (inner := []) (ok := fun _ => True) (okp := fun _ => True) ?hr ?hp (fun _ hk => hk) trivial (Below.refl _ _) (Nat.le_refl _) (by simp) ?_; (case hd => rfl); (case hg => rfl); (case hr => first | (go_simp; done) | (go_simp; rfl)); (case hp => exact (Reps.none _ _))
                                  intro v341 w83 ho84 hb hg_ hnew_
                                  clear hg_ hnew_
                                  (first | rw [← Ny340.out] at ho84 | (simp only [Int.reduceToNat] at ho84; rw [← Ny340.out] at ho84))
                                  have n0_ := Aside0.mk (Kd.S_elder' (by (with_reducible repeat (first | apply Kd.S_alloc | apply Kd.S_drewN | apply Kd.S_drew)); exact HO_4.out) (Kd.S_base ho84) hb)
                                  have n1_ := Aside0.mk (Kd.R_below (by (with_reducible repeat (first | apply Kd.R_alloc | apply Kd.R_drewN | apply Kd.R_drew)); exact HO336.out) hb)
                                  have n2_ := Aside0.mk (Kd.S_lower (Kd.S_new' (Kd.S_new' ho84 (Kd.S_lt (by (with_reducible repeat (first | apply Kd.S_alloc | apply Kd.S_drewN | apply Kd.S_drew)); exact HO_4.out))) (Kd.R_lt (by (with_reducible repeat (first | apply Kd.R_alloc | apply Kd.R_drewN | apply Kd.R_drew)); exact HO336.out))) (below_size bel_))
                                  have n3_ := bb_ (g := gb317) hb
                                  have n4_ := bb_ (g := gb327) hb
                                  have n5_ := Aside0.mk (below_step bel_ hb)
                                  clear HO_4
                                  clear HO336
                                  clear BK317
                                  clear BK327
                                  clear HB
                                  have HO_4 := n0_
                                  have HO336 := n1_
                                  have HO342 := n2_
                                  have BK317 := n3_
                                  have BK327 := n4_
                                  have HB := n5_
                                  clear n0_ n1_ n2_ n3_ n4_ n5_
                                  clear hb ho84
                                  refine hK.out _ _ ⟨bc_, bc_, bc_⟩ (fun hHeld => ?_)
                                  clear hK K
                                  refine norm_ (a' := ?_) ?_ ?_
                                  rotate_left
                                  · show Act.put _ (some 46) _ = _
                                    simp only [Act.put, la_, lb_, lc_, i64_w, i32_w]
                                    rfl
                                  refine pure_ (i := 2) (N := some 2) (v := ?_) (a' := ?_) #[true, true, true, false] rfl rfl (by kernel_rfl) (fun _ _ _ h => h) (Or.inl ⟨by rfl, ?_⟩) ?_ ?_
                                  rotate_left
                                  · intro w'
                                    go_simp
                                    with_reducible rfl
                                  rotate_left
                                  · simp only [Act.put, la_, lb_, lc_, i64_w, i32_w]
                                    rfl
                                  refine one_ (i := 3) (N := none) #[true, true, true, true] rfl rfl (by kernel_rfl) (by decide) (fun K hK => ?_)
                                  have hs85 : w83.cell? ⟨gb317, 0, none⟩ = some (.int .i64 x318000_2) := (blk_cell BK317.out 0).trans rfl
                                  have hfs85 := blk_frozen BK317.out 0
                                  have hns85_1 := NB327_317.out
                                  have hms85_1 := NB317_327.out
                                  have hs86 : w83.cell? ⟨gb317, 1, none⟩ = some (.int .i64 x318001_2) := (blk_cell BK317.out 1).trans rfl
                                  have hfs86 := blk_frozen BK317.out 1
                                  have hns86_1 := NB327_317.out
                                  have hms86_1 := NB317_327.out
                                  have hs87 : w83.cell? ⟨gb317, 2, none⟩ = some (.int .i64 x318002_2) := (blk_cell BK317.out 2).trans rfl
                                  have hfs87 := blk_frozen BK317.out 2
                                  have hns87_1 := NB327_317.out
                                  have hms87_1 := NB317_327.out
                                  refine skip_ (w1 := ?_) ?_ ?_ ?_ ?_
                                  rotate_left
                                  · rfl
                                  · rfl
                                  · go_simp
                                    rfl
                                  refine hK.out _ _ ⟨(cfar_ hHeld.1), (cfar_ hHeld.2.1), (cfar_ hHeld.2.2)⟩ (fun hHeld => ?_)
                                  clear hK K
                                  refine done_ (by kernel_rfl) ?_
                                  try go_wp2
                                  refine bodyPost_ret (results_tc rfl _ _ gb317 43 #[.int .i64 2, .int .i64 (x4_1.length : Int), .int .i64 (x6_2.length : Int)] (0, 0) _ rfl (pu_ #[.int .i64 2, .int .i64 (x4_1.length : Int), .int .i64 x318002_2] 2 (h := (pu_ #[.int .i64 2, .int .i64 x318001_2, .int .i64 x318002_2] 1 (h := (pu_ #[.int .i64 x318000_2, .int .i64 x318001_2, .int .i64 x318002_2] 0 (h := bk_)))))) Tryd.underlying43 rfl (by kernel_rfl)) rfl ?_
                                  exact ⟨_, by first | rfl | (simp [errW_none, errW_some] <;> rfl) | (simp [*, errW_none, errW_some] <;> rfl), by (with_reducible repeat (first | apply Kd.S_alloc | apply Kd.S_drewN | apply Kd.S_drew)); exact Kd.S_mono (Kd.S_far (p := ⟨gb317, 2, none⟩) (Kd.S_far (p := ⟨gb317, 1, none⟩) (Kd.S_far (p := ⟨gb317, 0, none⟩) (Kd.S_types HO342.out BK317.out (by decide)) (fun _ hk => hk.2) (.int .i64 2)) (fun _ hk => hk.2) (.int .i64 (x4_1.length : Int))) (fun _ hk => hk.2) (.int .i64 (x6_2.length : Int))) (fun _ hk => trivial), bel_⟩
                              · rw [if_neg c49] at H
                                have c49b0 : ((bt a0 t329) == 13) = false := beq_eq_false_iff_ne.mpr c49
                                have c49b1 : ((bt a0 t329) != 13) = true := bne_iff_ne.mpr c49
                                obtain ⟨y343, hy343⟩ : ∃ y_ : List (List ByteArray), y_ = (([] : List (List ByteArray))) := ⟨_, rfl⟩
                                replace H : (some (y343, 2, (x4_1.length : Int), (x6_2.length : Int))) = some (r1, r2, r3, r4) := by first | (rw [hy343]; with_reducible exact H) | (have H2_ := (Option.bind_some _ _).symm.trans H; rw [hy343]; with_reducible exact H2_) | (have H2_ := (Option.bind_some _ _).symm.trans H; with_reducible exact H2_) | with_reducible exact H | (rw [hy343]; exact H) | exact H
                                have Ny343 := Aside0.mk hy343
                                clear hy343
                                simp only [Option.some.injEq, Prod.mk.injEq] at H
                                obtain ⟨rfl, rfl, rfl, rfl⟩ := H
                                obtain ⟨Ao88, co88, eo88⟩ := Kd.S_slice HO_4.out
                                subst eo88
                                obtain ⟨Ao89, co89, eo89⟩ := Kd.R_slice HO_6.out
                                subst eo89
                                try go_wp2_with (first | ((with_reducible refine gate_dst (N := 8) rfl ?_); (try (refine gate_guard (by rfl) ?_; dsimp only)); refine box_event ?hg (N := 8) ?hd (cs := #[.int .i64 0, .int .i64 0, .int .i64 0]) (t := 43) ?hr ?_; (case hd => rfl); (case hg => rfl); (case hr => first | (go_simp; done) | (go_simp; rfl)); intro gb327 hg w90 hbox hb; have n0_ := Aside0.mk (Kd.S_below (by (with_reducible repeat (first | apply Kd.S_alloc | apply Kd.S_drewN | apply Kd.S_drew)); exact HO_4.out) hb); have n1_ := Aside0.mk (Kd.R_below (by (with_reducible repeat (first | apply Kd.R_alloc | apply Kd.R_drewN | apply Kd.R_drew)); exact HO_6.out) hb); have n2_ := bb_ (g := gb317) hb; have n3_ := Aside0.mk (below_step bel_ hb); have n4_ := Aside0.mk (hbox); have n5_ := bs_ (w := w) hg; have n6_ := bs_ (w := w) hg; have n7_ := nlt_ (g := gb317) hg; have n8_ := ngt_ (g := gb317) hg; clear HO_4; clear HO_6; clear BK317; clear HB; have HO_4 := n0_; have HO_6 := n1_; have BK317 := n2_; have HB := n3_; have BK327 := n4_; have GW327 := n5_; have GE327 := n6_; have NB317_327 := n7_; have NB327_317 := n8_; clear n0_ n1_ n2_ n3_ n4_ n5_ n6_ n7_ n8_; clear hb hbox hg; have hnb91 := NB327_317.out; have hnc91 := NB317_327.out; obtain ⟨hcz92_0, hcz92_1, hcz92_2, hfz92_0, hfz92_1, hfz92_2⟩ := cf3_ (w := w90) BK327.out) | ((with_reducible refine gate_callee (f := 54) rfl ?_); refine goesL_ (some 33) rfl rfl Tryd.func54 (by kernel_rfl) rfl #[.string a0, .int .i64 x5_2] rfl mp_ ?_; (with_reducible refine (spec_l7Field.calls k2 a0 x5_2 t328 t329 true _ A17.out).mono ?_); rintro e w93 ⟨rfl, hb⟩; refine ⟨_, rfl, ?_⟩; have n0_ := Aside0.mk (Kd.S_below (by (with_reducible repeat (first | apply Kd.S_alloc | apply Kd.S_drewN | apply Kd.S_drew)); exact (Kd.S_mono (Kd.S_far (p := ⟨gb327, 2, none⟩) (Kd.S_far (p := ⟨gb327, 1, none⟩) (Kd.S_far (p := ⟨gb327, 0, none⟩) (Kd.S_types HO_4.out BK327.out (by decide)) (fun _ hk => hk.2) (.int .i64 2)) (fun _ hk => hk.2) (.int .i64 (x4_1.length : Int))) (fun _ hk => hk.2) (.int .i64 (x6_2.length : Int))) (fun _ h_ => h_.1))) hb); have n1_ := Aside0.mk (Kd.R_below (by (with_reducible repeat (first | apply Kd.R_alloc | apply Kd.R_drewN | apply Kd.R_drew)); exact (Kd.R_mono (Kd.R_far (p := ⟨gb327, 2, none⟩) (Kd.R_far (p := ⟨gb327, 1, none⟩) (Kd.R_far (p := ⟨gb327, 0, none⟩) (Kd.R_types HO_6.out BK327.out (by decide)) (fun _ hk => hk.2) (.int .i64 2)) (fun _ hk => hk.2) (.int .i64 (x4_1.length : Int))) (fun _ hk => hk.2) (.int .i64 (x6_2.length : Int))) (fun _ h_ => h_.1))) hb); have n2_ := Aside0.mk (blk_below (g := gb317) (o := .cells #[.int .i64 x318000_2, .int .i64 x318001_2, .int .i64 x318002_2] 43 (0, 0)) bk_ hb); have n3_ := Aside0.mk (blk_below (g := gb327) (o := .cells #[.int .i64 2, .int .i64 (x4_1.length : Int), .int .i64 (x6_2.length : Int)] 43 (0, 0)) (pu_ #[.int .i64 2, .int .i64 (x4_1.length : Int), .int .i64 0] 2 (h := (pu_ #[.int .i64 2, .int .i64 0, .int .i64 0] 1 (h := (pu_ #[.int .i64 0, .int .i64 0, .int .i64 0] 0 (h := bk_)))))) hb); have n4_ := Aside0.mk (below_step bel_ hb); clear HO_4; clear HO_6; clear BK317; clear BK327; clear HB; have HO_4 := n0_; have HO_6 := n1_; have BK317 := n2_; have BK327 := n3_; have HB := n4_; clear n0_ n1_ n2_ n3_ n4_; (try clear hb); (try clear hb2); (try clear hk); (try clear hi)) | ((with_reducible refine gate_builtin (b := .append) (xs := #[.tmp 41, .tmp 43]) rfl ?_); (try (refine gate_guard (by rfl) ?_; dsimp only)); at_builtin; refine Kd.R_append Kd.string (w0 := w) w.heap.size rfl (.tmp 41) (.tmp 43) 52 9 (.string ⟨#[]⟩) 16 rfl Tryd.underlying52 info9 rfl (by decide) (by omega) (.slice Ao89 x6_2.length co89) x6_2 t328 [.string t328] (fun _ => True) (fun _ => False) rfl rfl ?aP (fun _ hk => hk.elim) ?aF ?aO ?aB ?aS ?aL ?_; (case aP => exact rfl); (case aB => exact bel_); (case aF => exact (fun _ _ => trivial)); (case aO => exact (by (with_reducible repeat (first | apply Kd.R_alloc | apply Kd.R_drewN | apply Kd.R_drew)); exact HO_6.out)); (case aS => exact (below_size bel_)); (case aL => have := LMc19.out; omega); intro v335 w94 ho hb hg hat; rw [← Ny334.out] at ho; have n0_ := Aside0.mk (Kd.S_after (ok := (fun _ => True)) (by (with_reducible repeat (first | apply Kd.S_alloc | apply Kd.S_drewN | apply Kd.S_drew)); exact Kd.S_mono HO_4.out (fun _ hk => ⟨trivial, hk⟩)) hg hat); have n1_ := Aside0.mk (blk_grown (g := gb317) (o := .cells #[.int .i64 x318000_2, .int .i64 x318001_2, .int .i64 x318002_2] 43 (0, 0)) bk_ hg (Kd.R_ne HO_6.out BK317.out (by decide))); have n2_ := Aside0.mk (blk_grown (g := gb327) (o := .cells #[.int .i64 2, .int .i64 (x4_1.length : Int), .int .i64 (x6_2.length : Int)] 43 (0, 0)) bk_ hg (Kd.R_ne HO_6.out BK327.out (by decide))); have n3_ := Aside0.mk (hb); have n4_ := Aside0.mk (ho); clear HO_4; clear BK317; clear BK327; clear HB; clear HO_6; have HO_4 := n0_; have BK317 := n1_; have BK327 := n2_; have HB := n3_; have HO336 := n4_; clear n0_ n1_ n2_ n3_ n4_; clear ho hb hg hat; have p30 : 0 ≤ (t329 : Int) := of_decide_eq_true (by first | (with_reducible assumption) | assumption); have q30 : t329 < (a0.size : Int) := of_decide_eq_true (by first | (with_reducible assumption) | assumption); have hx30 := bt_at a0 t329; replace p30 := eq_true p30; replace q30 := eq_true q30; have p39 : 0 ≤ (t329 : Int) := of_decide_eq_true (by first | (with_reducible assumption) | assumption); have q39 : t329 < (a0.size : Int) := of_decide_eq_true (by first | (with_reducible assumption) | assumption); have hx39 := bt_at a0 t329; replace p39 := eq_true p39; replace q39 := eq_true q39; have p48 : 0 ≤ (t329 : Int) := of_decide_eq_true (by first | (with_reducible assumption) | assumption); have q48 : t329 < (a0.size : Int) := of_decide_eq_true (by first | (with_reducible assumption) | assumption); have hx48 := bt_at a0 t329; replace p48 := eq_true p48; replace q48 := eq_true q48))
                                have n0_ := Aside0.mk (Kd.S_drew HO_4.out)
                                have n1_ := Aside0.mk (Kd.R_drew HO336.out)
                                have n2_ := Aside0.mk (blk_drew BK317.out)
                                have n3_ := Aside0.mk (blk_drew BK327.out)
                                have n4_ := Aside0.mk (below_drew1 HB.out)
                                clear HO_4
                                clear HO336
                                clear BK317
                                clear BK327
                                clear HB
                                have HO_4 := n0_
                                have HO336 := n1_
                                have BK317 := n2_
                                have BK327 := n3_
                                have HB := n4_
                                clear n0_ n1_ n2_ n3_ n4_
                                refine start_ (n := 4) (S := fun w' => w'.cell? ⟨gb327, 0, none⟩ = some (.int .i64 2) ∧ w'.cell? ⟨gb327, 1, none⟩ = some (.int .i64 (x4_1.length : Int)) ∧ w'.cell? ⟨gb327, 2, none⟩ = some (.int .i64 (x6_2.length : Int))) (ds := []) #[false, false, false, false] (by kernel_rfl) rfl rfl ⟨bc_, bc_, bc_⟩ (fun hHeld => ?_)
                                generalize w94.drew = w95 at HO_4 HO336 BK317 BK327 HB hHeld ⊢
                                refine take_ (i := 1) (N := some 47) (v := ?_) (a' := ?_) #[false, true, false, false] rfl rfl (by kernel_rfl) (fun _ _ _ h => h) (Or.inl ⟨by rfl, ?_⟩) hHeld ?_ ?_
                                rotate_left
                                · rintro w' ⟨s0, s1, s2⟩
                                  go_simp
                                  with_reducible rfl
                                rotate_left
                                · simp only [Act.put, la_, lb_, lc_, i64_w, i32_w]
                                  rfl
                                refine one_ (i := 0) (N := some 46) #[true, true, false, false] rfl rfl (by kernel_rfl) (by decide) (fun K hK => ?_)
                                refine Kd.S_lit_step (Kd.slice 9 Kd.string) _ 52 ?hg (N := 46) ?hd (xs := ([] : List (List ByteArray))) (inner := []) (ok := fun _ => True) (okp := fun _ => True) ?hr ?hp (fun _ hk => hk) trivial (Below.refl _ _) (Nat.le_refl _) (by simp) ?_; (case hd => rfl); (case hg => rfl); (case hr => first | (go_simp; done) | (go_simp; rfl)); (case hp => exact (Reps.none _ _))
                                intro v344 w96 ho97 hb hg_ hnew_
                                clear hg_ hnew_
                                (first | rw [← Ny343.out] at ho97 | (simp only [Int.reduceToNat] at ho97; rw [← Ny343.out] at ho97))
                                have n0_ := Aside0.mk (Kd.S_elder' (by (with_reducible repeat (first | apply Kd.S_alloc | apply Kd.S_drewN | apply Kd.S_drew)); exact HO_4.out) (Kd.S_base ho97) hb)
                                have n1_ := Aside0.mk (Kd.R_below (by (with_reducible repeat (first | apply Kd.R_alloc | apply Kd.R_drewN | apply Kd.R_drew)); exact HO336.out) hb)
                                have n2_ := Aside0.mk (Kd.S_lower (Kd.S_new' (Kd.S_new' ho97 (Kd.S_lt (by (with_reducible repeat (first | apply Kd.S_alloc | apply Kd.S_drewN | apply Kd.S_drew)); exact HO_4.out))) (Kd.R_lt (by (with_reducible repeat (first | apply Kd.R_alloc | apply Kd.R_drewN | apply Kd.R_drew)); exact HO336.out))) (below_size bel_))
                                have n3_ := bb_ (g := gb317) hb
                                have n4_ := bb_ (g := gb327) hb
                                have n5_ := Aside0.mk (below_step bel_ hb)
                                clear HO_4
                                clear HO336
                                clear BK317
                                clear BK327
                                clear HB
                                have HO_4 := n0_
                                have HO336 := n1_
                                have HO345 := n2_
                                have BK317 := n3_
                                have BK327 := n4_
                                have HB := n5_
                                clear n0_ n1_ n2_ n3_ n4_ n5_
                                clear hb ho97
                                refine hK.out _ _ ⟨bc_, bc_, bc_⟩ (fun hHeld => ?_)
                                clear hK K
                                refine norm_ (a' := ?_) ?_ ?_
                                rotate_left
                                · show Act.put _ (some 46) _ = _
                                  simp only [Act.put, la_, lb_, lc_, i64_w, i32_w]
                                  rfl
                                refine pure_ (i := 2) (N := some 2) (v := ?_) (a' := ?_) #[true, true, true, false] rfl rfl (by kernel_rfl) (fun _ _ _ h => h) (Or.inl ⟨by rfl, ?_⟩) ?_ ?_
                                rotate_left
                                · intro w'
                                  go_simp
                                  with_reducible rfl
                                rotate_left
                                · simp only [Act.put, la_, lb_, lc_, i64_w, i32_w]
                                  rfl
                                refine one_ (i := 3) (N := none) #[true, true, true, true] rfl rfl (by kernel_rfl) (by decide) (fun K hK => ?_)
                                have hs98 : w96.cell? ⟨gb317, 0, none⟩ = some (.int .i64 x318000_2) := (blk_cell BK317.out 0).trans rfl
                                have hfs98 := blk_frozen BK317.out 0
                                have hns98_1 := NB327_317.out
                                have hms98_1 := NB317_327.out
                                have hs99 : w96.cell? ⟨gb317, 1, none⟩ = some (.int .i64 x318001_2) := (blk_cell BK317.out 1).trans rfl
                                have hfs99 := blk_frozen BK317.out 1
                                have hns99_1 := NB327_317.out
                                have hms99_1 := NB317_327.out
                                have hs100 : w96.cell? ⟨gb317, 2, none⟩ = some (.int .i64 x318002_2) := (blk_cell BK317.out 2).trans rfl
                                have hfs100 := blk_frozen BK317.out 2
                                have hns100_1 := NB327_317.out
                                have hms100_1 := NB317_327.out
                                refine skip_ (w1 := ?_) ?_ ?_ ?_ ?_
                                rotate_left
                                · rfl
                                · rfl
                                · go_simp
                                  rfl
                                refine hK.out _ _ ⟨(cfar_ hHeld.1), (cfar_ hHeld.2.1), (cfar_ hHeld.2.2)⟩ (fun hHeld => ?_)
                                clear hK K
                                refine done_ (by kernel_rfl) ?_
                                try go_wp2
                                refine bodyPost_ret (results_tc rfl _ _ gb317 43 #[.int .i64 2, .int .i64 (x4_1.length : Int), .int .i64 (x6_2.length : Int)] (0, 0) _ rfl (pu_ #[.int .i64 2, .int .i64 (x4_1.length : Int), .int .i64 x318002_2] 2 (h := (pu_ #[.int .i64 2, .int .i64 x318001_2, .int .i64 x318002_2] 1 (h := (pu_ #[.int .i64 x318000_2, .int .i64 x318001_2, .int .i64 x318002_2] 0 (h := bk_)))))) Tryd.underlying43 rfl (by kernel_rfl)) rfl ?_
                                exact ⟨_, by first | rfl | (simp [errW_none, errW_some] <;> rfl) | (simp [*, errW_none, errW_some] <;> rfl), by (with_reducible repeat (first | apply Kd.S_alloc | apply Kd.S_drewN | apply Kd.S_drew)); exact Kd.S_mono (Kd.S_far (p := ⟨gb317, 2, none⟩) (Kd.S_far (p := ⟨gb317, 1, none⟩) (Kd.S_far (p := ⟨gb317, 0, none⟩) (Kd.S_types HO345.out BK317.out (by decide)) (fun _ hk => hk.2) (.int .i64 2)) (fun _ hk => hk.2) (.int .i64 (x4_1.length : Int))) (fun _ hk => hk.2) (.int .i64 (x6_2.length : Int))) (fun _ hk => trivial), bel_⟩
                        · rw [if_neg c29] at H
                          exact absurd H (by simp)
                      · rw [if_neg c28] at H
                        exact absurd H (by simp)
                  · rw [if_neg c19] at H
                    exact absurd H (by simp)
                · replace c18 := Bool.eq_false_iff.mpr c18
                  subst c18
                  have H1 : (some ((([] : List (List ByteArray))), 2, (x4_1.length : Int), (x6_2.length : Int))) = some (r1, r2, r3, r4) := by rw [if_neg (show ¬ (false = true) by decide)] at H; exact H
                  clear H
                  have H := H1
                  clear H1
                  obtain ⟨y331, hy331⟩ : ∃ y_ : List (List ByteArray), y_ = (([] : List (List ByteArray))) := ⟨_, rfl⟩
                  replace H : (some (y331, 2, (x4_1.length : Int), (x6_2.length : Int))) = some (r1, r2, r3, r4) := by first | (rw [hy331]; with_reducible exact H) | (have H2_ := (Option.bind_some _ _).symm.trans H; rw [hy331]; with_reducible exact H2_) | (have H2_ := (Option.bind_some _ _).symm.trans H; with_reducible exact H2_) | with_reducible exact H | (rw [hy331]; exact H) | exact H
                  have Ny331 := Aside0.mk hy331
                  clear hy331
                  simp only [Option.some.injEq, Prod.mk.injEq] at H
                  obtain ⟨rfl, rfl, rfl, rfl⟩ := H
                  obtain ⟨Ao101, co101, eo101⟩ := Kd.S_slice HO_4.out
                  subst eo101
                  obtain ⟨Ao102, co102, eo102⟩ := Kd.R_slice HO_6.out
                  subst eo102
                  try go_wp2_with (first | ((with_reducible refine gate_dst (N := 8) rfl ?_); (try (refine gate_guard (by rfl) ?_; dsimp only)); refine box_event ?hg (N := 8) ?hd (cs := #[.int .i64 0, .int .i64 0, .int .i64 0]) (t := 43) ?hr ?_; (case hd => rfl); (case hg => rfl); (case hr => first | (go_simp; done) | (go_simp; rfl)); intro gb327 hg w103 hbox hb; have n0_ := Aside0.mk (Kd.S_below (by (with_reducible repeat (first | apply Kd.S_alloc | apply Kd.S_drewN | apply Kd.S_drew)); exact HO_4.out) hb); have n1_ := Aside0.mk (Kd.R_below (by (with_reducible repeat (first | apply Kd.R_alloc | apply Kd.R_drewN | apply Kd.R_drew)); exact HO_6.out) hb); have n2_ := bb_ (g := gb317) hb; have n3_ := Aside0.mk (below_step bel_ hb); have n4_ := Aside0.mk (hbox); have n5_ := bs_ (w := w) hg; have n6_ := bs_ (w := w) hg; have n7_ := nlt_ (g := gb317) hg; have n8_ := ngt_ (g := gb317) hg; clear HO_4; clear HO_6; clear BK317; clear HB; have HO_4 := n0_; have HO_6 := n1_; have BK317 := n2_; have HB := n3_; have BK327 := n4_; have GW327 := n5_; have GE327 := n6_; have NB317_327 := n7_; have NB327_317 := n8_; clear n0_ n1_ n2_ n3_ n4_ n5_ n6_ n7_ n8_; clear hb hbox hg; have hnb104 := NB327_317.out; have hnc104 := NB317_327.out; obtain ⟨hcz105_0, hcz105_1, hcz105_2, hfz105_0, hfz105_1, hfz105_2⟩ := cf3_ (w := w103) BK327.out) | ((with_reducible refine gate_callee (f := 54) rfl ?_); refine goesL_ (some 33) rfl rfl Tryd.func54 (by kernel_rfl) rfl #[.string a0, .int .i64 x5_2] rfl mp_ ?_; (with_reducible refine (spec_l7Field.calls k2 a0 x5_2 t328 t329 false _ A17.out).mono ?_); rintro e w106 ⟨rfl, hb⟩; refine ⟨_, rfl, ?_⟩; have n0_ := Aside0.mk (Kd.S_below (by (with_reducible repeat (first | apply Kd.S_alloc | apply Kd.S_drewN | apply Kd.S_drew)); exact (Kd.S_mono (Kd.S_far (p := ⟨gb327, 2, none⟩) (Kd.S_far (p := ⟨gb327, 1, none⟩) (Kd.S_far (p := ⟨gb327, 0, none⟩) (Kd.S_types HO_4.out BK327.out (by decide)) (fun _ hk => hk.2) (.int .i64 2)) (fun _ hk => hk.2) (.int .i64 (x4_1.length : Int))) (fun _ hk => hk.2) (.int .i64 (x6_2.length : Int))) (fun _ h_ => h_.1))) hb); have n1_ := Aside0.mk (Kd.R_below (by (with_reducible repeat (first | apply Kd.R_alloc | apply Kd.R_drewN | apply Kd.R_drew)); exact (Kd.R_mono (Kd.R_far (p := ⟨gb327, 2, none⟩) (Kd.R_far (p := ⟨gb327, 1, none⟩) (Kd.R_far (p := ⟨gb327, 0, none⟩) (Kd.R_types HO_6.out BK327.out (by decide)) (fun _ hk => hk.2) (.int .i64 2)) (fun _ hk => hk.2) (.int .i64 (x4_1.length : Int))) (fun _ hk => hk.2) (.int .i64 (x6_2.length : Int))) (fun _ h_ => h_.1))) hb); have n2_ := Aside0.mk (blk_below (g := gb317) (o := .cells #[.int .i64 x318000_2, .int .i64 x318001_2, .int .i64 x318002_2] 43 (0, 0)) bk_ hb); have n3_ := Aside0.mk (blk_below (g := gb327) (o := .cells #[.int .i64 2, .int .i64 (x4_1.length : Int), .int .i64 (x6_2.length : Int)] 43 (0, 0)) (pu_ #[.int .i64 2, .int .i64 (x4_1.length : Int), .int .i64 0] 2 (h := (pu_ #[.int .i64 2, .int .i64 0, .int .i64 0] 1 (h := (pu_ #[.int .i64 0, .int .i64 0, .int .i64 0] 0 (h := bk_)))))) hb); have n4_ := Aside0.mk (below_step bel_ hb); clear HO_4; clear HO_6; clear BK317; clear BK327; clear HB; have HO_4 := n0_; have HO_6 := n1_; have BK317 := n2_; have BK327 := n3_; have HB := n4_; clear n0_ n1_ n2_ n3_ n4_; (try clear hb); (try clear hb2); (try clear hk); (try clear hi)))
                  have n0_ := Aside0.mk (Kd.S_drew HO_4.out)
                  have n1_ := Aside0.mk (Kd.R_drew HO_6.out)
                  have n2_ := Aside0.mk (blk_drew BK317.out)
                  have n3_ := Aside0.mk (blk_drew BK327.out)
                  have n4_ := Aside0.mk (below_drew1 HB.out)
                  clear HO_4
                  clear HO_6
                  clear BK317
                  clear BK327
                  clear HB
                  have HO_4 := n0_
                  have HO_6 := n1_
                  have BK317 := n2_
                  have BK327 := n3_
                  have HB := n4_
                  clear n0_ n1_ n2_ n3_ n4_
                  refine start_ (n := 4) (S := fun w' => w'.cell? ⟨gb327, 0, none⟩ = some (.int .i64 2) ∧ w'.cell? ⟨gb327, 1, none⟩ = some (.int .i64 (x4_1.length : Int)) ∧ w'.cell? ⟨gb327, 2, none⟩ = some (.int .i64 (x6_2.length : Int))) (ds := []) #[false, false, false, false] (by kernel_rfl) rfl rfl ⟨bc_, bc_, bc_⟩ (fun hHeld => ?_)
                  generalize w106.drew = w107 at HO_4 HO_6 BK317 BK327 HB hHeld ⊢
                  refine take_ (i := 1) (N := some 40) (v := ?_) (a' := ?_) #[false, true, false, false] rfl rfl (by kernel_rfl) (fun _ _ _ h => h) (Or.inl ⟨by rfl, ?_⟩) hHeld ?_ ?_
                  rotate_left
                  · rintro w' ⟨s0, s1, s2⟩
                    go_simp
                    with_reducible rfl
                  rotate_left
                  · simp only [Act.put, la_, lb_, lc_, i64_w, i32_w]
                    rfl
                  refine one_ (i := 0) (N := some 39) #[true, true, false, false] rfl rfl (by kernel_rfl) (by decide) (fun K hK => ?_)
                  refine Kd.S_lit_step (Kd.slice 9 Kd.string) _ 52 ?hg (N := 39) ?hd (xs := ([] : List (List ByteArray))) (inner := []) (ok := fun _ => True) (okp := fun _ => True) ?hr ?hp (fun _ hk => hk) trivial (Below.refl _ _) (Nat.le_refl _) (by simp) ?_; (case hd => rfl); (case hg => rfl); (case hr => first | (go_simp; done) | (go_simp; rfl)); (case hp => exact (Reps.none _ _))
                  intro v332 w108 ho109 hb hg_ hnew_
                  clear hg_ hnew_
                  (first | rw [← Ny331.out] at ho109 | (simp only [Int.reduceToNat] at ho109; rw [← Ny331.out] at ho109))
                  have n0_ := Aside0.mk (Kd.S_elder' (by (with_reducible repeat (first | apply Kd.S_alloc | apply Kd.S_drewN | apply Kd.S_drew)); exact HO_4.out) (Kd.S_base ho109) hb)
                  have n1_ := Aside0.mk (Kd.R_below (by (with_reducible repeat (first | apply Kd.R_alloc | apply Kd.R_drewN | apply Kd.R_drew)); exact HO_6.out) hb)
                  have n2_ := Aside0.mk (Kd.S_lower (Kd.S_new' (Kd.S_new' ho109 (Kd.S_lt (by (with_reducible repeat (first | apply Kd.S_alloc | apply Kd.S_drewN | apply Kd.S_drew)); exact HO_4.out))) (Kd.R_lt (by (with_reducible repeat (first | apply Kd.R_alloc | apply Kd.R_drewN | apply Kd.R_drew)); exact HO_6.out))) (below_size bel_))
                  have n3_ := bb_ (g := gb317) hb
                  have n4_ := bb_ (g := gb327) hb
                  have n5_ := Aside0.mk (below_step bel_ hb)
                  clear HO_4
                  clear HO_6
                  clear BK317
                  clear BK327
                  clear HB
                  have HO_4 := n0_
                  have HO_6 := n1_
                  have HO333 := n2_
                  have BK317 := n3_
                  have BK327 := n4_
                  have HB := n5_
                  clear n0_ n1_ n2_ n3_ n4_ n5_
                  clear hb ho109
                  refine hK.out _ _ ⟨bc_, bc_, bc_⟩ (fun hHeld => ?_)
                  clear hK K
                  refine norm_ (a' := ?_) ?_ ?_
                  rotate_left
                  · show Act.put _ (some 39) _ = _
                    simp only [Act.put, la_, lb_, lc_, i64_w, i32_w]
                    rfl
                  refine pure_ (i := 2) (N := some 2) (v := ?_) (a' := ?_) #[true, true, true, false] rfl rfl (by kernel_rfl) (fun _ _ _ h => h) (Or.inl ⟨by rfl, ?_⟩) ?_ ?_
                  rotate_left
                  · intro w'
                    go_simp
                    with_reducible rfl
                  rotate_left
                  · simp only [Act.put, la_, lb_, lc_, i64_w, i32_w]
                    rfl
                  refine one_ (i := 3) (N := none) #[true, true, true, true] rfl rfl (by kernel_rfl) (by decide) (fun K hK => ?_)
                  have hs110 : w108.cell? ⟨gb317, 0, none⟩ = some (.int .i64 x318000_2) := (blk_cell BK317.out 0).trans rfl
                  have hfs110 := blk_frozen BK317.out 0
                  have hns110_1 := NB327_317.out
                  have hms110_1 := NB317_327.out
                  have hs111 : w108.cell? ⟨gb317, 1, none⟩ = some (.int .i64 x318001_2) := (blk_cell BK317.out 1).trans rfl
                  have hfs111 := blk_frozen BK317.out 1
                  have hns111_1 := NB327_317.out
                  have hms111_1 := NB317_327.out
                  have hs112 : w108.cell? ⟨gb317, 2, none⟩ = some (.int .i64 x318002_2) := (blk_cell BK317.out 2).trans rfl
                  have hfs112 := blk_frozen BK317.out 2
                  have hns112_1 := NB327_317.out
                  have hms112_1 := NB317_327.out
                  refine skip_ (w1 := ?_) ?_ ?_ ?_ ?_
                  rotate_left
                  · rfl
                  · rfl
                  · go_simp
                    rfl
                  refine hK.out _ _ ⟨(cfar_ hHeld.1), (cfar_ hHeld.2.1), (cfar_ hHeld.2.2)⟩ (fun hHeld => ?_)
                  clear hK K
                  refine done_ (by kernel_rfl) ?_
                  try go_wp2
                  refine bodyPost_ret (results_tc rfl _ _ gb317 43 #[.int .i64 2, .int .i64 (x4_1.length : Int), .int .i64 (x6_2.length : Int)] (0, 0) _ rfl (pu_ #[.int .i64 2, .int .i64 (x4_1.length : Int), .int .i64 x318002_2] 2 (h := (pu_ #[.int .i64 2, .int .i64 x318001_2, .int .i64 x318002_2] 1 (h := (pu_ #[.int .i64 x318000_2, .int .i64 x318001_2, .int .i64 x318002_2] 0 (h := bk_)))))) Tryd.underlying43 rfl (by kernel_rfl)) rfl ?_
                  exact ⟨_, by first | rfl | (simp [errW_none, errW_some] <;> rfl) | (simp [*, errW_none, errW_some] <;> rfl), by (with_reducible repeat (first | apply Kd.S_alloc | apply Kd.S_drewN | apply Kd.S_drew)); exact Kd.S_mono (Kd.S_far (p := ⟨gb317, 2, none⟩) (Kd.S_far (p := ⟨gb317, 1, none⟩) (Kd.S_far (p := ⟨gb317, 0, none⟩) (Kd.S_types HO333.out BK317.out (by decide)) (fun _ hk => hk.2) (.int .i64 2)) (fun _ hk => hk.2) (.int .i64 (x4_1.length : Int))) (fun _ hk => hk.2) (.int .i64 (x6_2.length : Int))) (fun _ hk => trivial), bel_⟩
        · rw [if_neg c10] at H
          have c10b0 : decide (x5_1 < (a0.size : Int)) = false := decide_eq_false c10
          clear c10
          simp only [Option.some.injEq, Prod.mk.injEq] at H
          obtain ⟨rfl, rfl, rfl, rfl⟩ := H
          obtain ⟨hcz113_0, hcz113_1, hcz113_2, hfz113_0, hfz113_1, hfz113_2⟩ := cf3_ (w := wr) BK317.out
          go_wp2
          refine bodyPost_ret (results_tc rfl _ _ gb317 43 #[.int .i64 0, .int .i64 0, .int .i64 0] (0, 0) _ rfl (pu_ #[.int .i64 0, .int .i64 0, .int .i64 x318002_1] 2 (h := (pu_ #[.int .i64 0, .int .i64 x318001_1, .int .i64 x318002_1] 1 (h := (pu_ #[.int .i64 x318000_1, .int .i64 x318001_1, .int .i64 x318002_1] 0 (h := bk_)))))) Tryd.underlying43 rfl (by kernel_rfl)) rfl ?_
          exact ⟨_, by first | rfl | (simp [errW_none, errW_some] <;> rfl) | (simp [*, errW_none, errW_some] <;> rfl), by (with_reducible repeat (first | apply Kd.S_alloc | apply Kd.S_drewN | apply Kd.S_drew)); exact Kd.S_mono (Kd.S_far (p := ⟨gb317, 2, none⟩) (Kd.S_far (p := ⟨gb317, 1, none⟩) (Kd.S_far (p := ⟨gb317, 0, none⟩) (Kd.S_types HO_4.out BK317.out (by decide)) (fun _ hk => hk.2) (.int .i64 0)) (fun _ hk => hk.2) (.int .i64 0)) (fun _ hk => hk.2) (.int .i64 0)) (fun _ hk => trivial), bel_⟩

end Go.Proofs.YtcbiijfiecjcaaaDoor.PFnCsvRead
