/- Contracts of Go functions, each with the Lean function that says what it computes: begun by the print, turned by this session. No condition beyond what each theorem states. -/
import Derived.Test.YtodbmgnhcglcnaaPFnFloorx0
import Derived.Test.YtodbmgnhcglcnaaPFnFloorx3
namespace Go.Proofs.Ytodbmgnhcglcnaa.PFnFloor
open Go.RowKit Go.Proofs.YtodbmgnhcglcnaaW.PrintWords Go.Proofs.YtodbmgnhcglcnaaW.PrintLast Go.Proofs.YtodbmgnhcglcnaaW.PrintMore
attribute [local go_sem] max2_int min2_int max_two min_two max_three min_three max_four min_four   -- for this text's walks alone
set_option linter.unusedVariables false
set_option linter.unusedSimpArgs false

/-! ### impl_compareSizes: function 43 -/
def impl_compareSizes.f (k : Nat) (a0_0 : Bool) (a0_1 : Int) (a0_2 : Int) (a1_0 : Bool) (a1_1 : Int) (a1_2 : Int) : Option (Int) := (cmp_Compare_uint64.f a0_1 a1_1).bind fun t179 => ((cmp_Compare_uint64.f a0_2 a1_2).bind fun t180 => ((cmp_Or_int.f k (([t179, t180] : List Int))).bind fun t184 => (some t184)))
theorem impl_compareSizes.mono : ∀ a0 a1 a2 a3 a4 a5 k, LeO (impl_compareSizes.f k a0 a1 a2 a3 a4 a5) (impl_compareSizes.f (k + 1) a0 a1 a2 a3 a4 a5) := by
  intro a0 a1 a2 a3 a4 a5 k
  unfold impl_compareSizes.f
  repeat' first
      | (with_reducible exact cmp_Or_int.mono _ _)
      | (with_reducible exact LeO.refl _)
      | (with_reducible exact LeO.none _)
      | (with_reducible refine LeO.ite ?_ ?_)
      | (with_reducible refine LeO.bind ?_ (fun _ => ?_))
      | exact cmp_Or_int.mono _ _
      | exact LeO.none _
      | refine LeO.ite ?_ ?_
      | refine LeO.bind ?_ (fun _ => ?_)
def impl_compareSizes.T1 : Bool × List (List Nat × List Nat) := (true, [([], []), ([0], [0]), ([], []), ([2], [2]), ([1, 3], [1, 3]), ([], []), ([5], [5]), ([], []), ([7], [7]), ([6, 8, 4], [6, 8]), ([4, 9], [4, 9]), ([10, 9], [10]), ([11, 11, 0, 1, 2, 3, 4, 5, 6, 7, 8, 9, 10, 11], [11])])
def impl_compareSizes.B1 : List Nat := [0, 1, 0, 4, 15, 0, 32, 0, 128, 511, 1023, 2047, 4095]
theorem impl_compareSizes.tab1 : rtab .any (opsOf Try.f43 1) = impl_compareSizes.T1 := by kernel_rfl
theorem impl_compareSizes.bits1 : waitsOk impl_compareSizes.T1.2 impl_compareSizes.B1 = true := by kernel_rfl
set_option maxHeartbeats 8000000 in
set_option maxRecDepth 100000 in
theorem impl_compareSizes.calls (k : Nat) (a0_0 : Bool) (a0_1 : Int) (a0_2 : Int) (a1_0 : Bool) (a1_1 : Int) (a1_2 : Int) (r : Int) (w : World) (h : impl_compareSizes.f k a0_0 a0_1 a0_2 a1_0 a1_1 a1_2 = some r) :
    Calls Try.prog 43 #[.agg #[.bool a0_0, .int .u64 a0_1, .int .u64 a0_2], .agg #[.bool a1_0, .int .u64 a1_1, .int .u64 a1_2]] w fun e w' => e = .returned (.int .i64 r) ∧ Below w.heap.size w w' := by
  have hu30 := Try.underlying30
  have HB := Aside0.mk (Below.refl w.heap.size w)
  have H : ((cmp_Compare_uint64.f a0_1 a1_1).bind fun t179 => ((cmp_Compare_uint64.f a0_2 a1_2).bind fun t180 => ((cmp_Or_int.f k (([t179, t180] : List Int))).bind fun t184 => (some t184)))) = some r := h
  clear h
  replace H := Option.bind_eq_some_iff.mp H
  obtain ⟨t179, A30, H⟩ := H
  replace H : ((cmp_Compare_uint64.f a0_2 a1_2).bind fun t180 => ((cmp_Or_int.f k (([t179, t180] : List Int))).bind fun t184 => (some t184))) = some r := H
  have A3 := Aside0.mk A30
  clear A30
  replace H := Option.bind_eq_some_iff.mp H
  obtain ⟨t180, A40, H⟩ := H
  replace H : ((cmp_Or_int.f k (([t179, t180] : List Int))).bind fun t184 => (some t184)) = some r := H
  have A4 := Aside0.mk A40
  clear A40
  obtain ⟨y181, hy181⟩ : ∃ y_ : List Int, y_ = (([t179, t180] : List Int)) := ⟨_, rfl⟩
  replace H : ((cmp_Or_int.f k y181).bind fun t184 => (some t184)) = some r := by first | (rw [hy181]; with_reducible exact H) | (have H2_ := (Option.bind_some _ _).symm.trans H; rw [hy181]; with_reducible exact H2_) | (have H2_ := (Option.bind_some _ _).symm.trans H; with_reducible exact H2_) | with_reducible exact H | (rw [hy181]; exact H) | exact H
  have Ny181 := Aside0.mk hy181
  clear hy181
  replace H := Option.bind_eq_some_iff.mp H
  obtain ⟨t184, A50, H⟩ := H
  replace H : (some t184) = some r := H
  have A5 := Aside0.mk A50
  clear A50
  obtain rfl := Option.some.inj H
  go_enter Try.func43, Try.ntmps43
  try go_wp2_with (first | ((with_reducible refine gate_dst (N := 2) rfl ?_); refine box_event ?hg (N := 2) ?hd (cs := #[.bool a0_0, .int .u64 a0_1, .int .u64 a0_2]) (t := 30) ?hr ?_; (case hd => rfl); (case hg => rfl); (case hr => first | (go_simp; done) | (go_simp; rfl)); intro gb177 hg w6 hbox hb; have n0_ := Aside0.mk (below_step bel_ hb); have n1_ := Aside0.mk (hbox); have n2_ := Aside0.mk ((by rw [hg]; exact (below_size bel_) : w.heap.size ≤ gb177)); have n3_ := Aside0.mk ((by rw [hg]; exact (below_size bel_) : w.heap.size ≤ gb177)); clear HB; have HB := n0_; have BK177 := n1_; have GW177 := n2_; have GE177 := n3_; clear n0_ n1_ n2_ n3_; clear hb hbox hg) | ((with_reducible refine gate_dst (N := 3) rfl ?_); refine box_event ?hg (N := 3) ?hd (cs := #[.bool a1_0, .int .u64 a1_1, .int .u64 a1_2]) (t := 30) ?hr ?_; (case hd => rfl); (case hg => rfl); (case hr => first | (go_simp; done) | (go_simp; rfl)); intro gb178 hg w7 hbox hb; have n0_ := bb_ (g := gb177) (o := .cells #[.bool a0_0, .int .u64 a0_1, .int .u64 a0_2] 30 (0, 0)) hb; have n1_ := Aside0.mk (below_step bel_ hb); have n2_ := Aside0.mk (hbox); have n3_ := Aside0.mk ((by rw [hg]; exact (below_size bel_) : w.heap.size ≤ gb178)); have n4_ := Aside0.mk ((by rw [hg]; exact (below_size bel_) : w.heap.size ≤ gb178)); have n5_ := nlt_ (g := gb177) (o := .cells #[.bool a0_0, .int .u64 a0_1, .int .u64 a0_2] 30 (0, 0)) hg; have n6_ := ngt_ (g := gb177) (o := .cells #[.bool a0_0, .int .u64 a0_1, .int .u64 a0_2] 30 (0, 0)) hg; clear BK177; clear HB; have BK177 := n0_; have HB := n1_; have BK178 := n2_; have GW178 := n3_; have GE178 := n4_; have NB177_178 := n5_; have NB178_177 := n6_; clear n0_ n1_ n2_ n3_ n4_ n5_ n6_; clear hb hbox hg))
  have n0_ := Aside0.mk (blk_drew BK177.out)
  have n1_ := Aside0.mk (blk_drew BK178.out)
  have n2_ := Aside0.mk (below_drew1 HB.out)
  clear BK177
  clear BK178
  clear HB
  have BK177 := n0_
  have BK178 := n1_
  have HB := n2_
  clear n0_ n1_ n2_
  refine start_ (n := 13) (S := fun w' => w'.cell? ⟨gb177, 0, none⟩ = some (.bool a0_0) ∧ w'.cell? ⟨gb177, 1, none⟩ = some (.int .u64 a0_1) ∧ w'.cell? ⟨gb177, 2, none⟩ = some (.int .u64 a0_2) ∧ w'.cell? ⟨gb178, 0, none⟩ = some (.bool a1_0) ∧ w'.cell? ⟨gb178, 1, none⟩ = some (.int .u64 a1_1) ∧ w'.cell? ⟨gb178, 2, none⟩ = some (.int .u64 a1_2)) (ds := []) #[false, false, false, false, false, false, false, false, false, false, false, false, false] (by kernel_rfl) rfl rfl ⟨bc_, bc_, bc_, bc_, bc_, bc_⟩ (fun hHeld => ?_); refine with_tabW impl_compareSizes.tab1 impl_compareSizes.bits1 (fun HT_ HW_ => ?_)
  generalize w7.drew = w8 at BK177 BK178 HB hHeld ⊢
  refine pure_ (i := 0) (N := some 5) (v := ?_) (a' := ?_) #[true, false, false, false, false, false, false, false, false, false, false, false, false] rfl rfl (any_of HT_.out (by kernel_rfl)) (fun _ _ _ h => h) (Or.inl ⟨by rfl, ?_⟩) ?_ ?_
  rotate_left
  · intro w'
    go_simp
    with_reducible rfl
  rotate_left
  · simp only [Act.put, la_, lb_, lc_, i64_w, i32_w]
    rfl
  refine pure_ (i := 2) (N := some 7) (v := ?_) (a' := ?_) #[true, false, true, false, false, false, false, false, false, false, false, false, false] rfl rfl (any_of HT_.out (by kernel_rfl)) (fun _ _ _ h => h) (Or.inl ⟨by rfl, ?_⟩) ?_ ?_
  rotate_left
  · intro w'
    go_simp
    with_reducible rfl
  rotate_left
  · simp only [Act.put, la_, lb_, lc_, i64_w, i32_w]
    rfl
  refine pure_ (i := 5) (N := some 10) (v := ?_) (a' := ?_) #[true, false, true, false, false, true, false, false, false, false, false, false, false] rfl rfl (any_of HT_.out (by kernel_rfl)) (fun _ _ _ h => h) (Or.inl ⟨by rfl, ?_⟩) ?_ ?_
  rotate_left
  · intro w'
    go_simp
    with_reducible rfl
  rotate_left
  · simp only [Act.put, la_, lb_, lc_, i64_w, i32_w]
    rfl
  refine pure_ (i := 7) (N := some 12) (v := ?_) (a' := ?_) #[true, false, true, false, false, true, false, true, false, false, false, false, false] rfl rfl (any_of HT_.out (by kernel_rfl)) (fun _ _ _ h => h) (Or.inl ⟨by rfl, ?_⟩) ?_ ?_
  rotate_left
  · intro w'
    go_simp
    with_reducible rfl
  rotate_left
  · simp only [Act.put, la_, lb_, lc_, i64_w, i32_w]
    rfl
  refine take_ (i := 1) (N := some 6) (v := ?_) (a' := ?_) #[true, true, true, false, false, true, false, true, false, false, false, false, false] rfl rfl (take_ofW HT_.out HW_.out (by kernel_rfl)) (fun _ _ _ h => h) (Or.inl ⟨by rfl, ?_⟩) hHeld ?_ ?_
  rotate_left
  · rintro w' ⟨s0, s1, s2, s3, s4, s5⟩
    go_simp
    with_reducible rfl
  rotate_left
  · simp only [Act.put, la_, lb_, lc_, i64_w, i32_w]
    rfl
  refine take_ (i := 3) (N := some 8) (v := ?_) (a' := ?_) #[true, true, true, true, false, true, false, true, false, false, false, false, false] rfl rfl (take_ofW HT_.out HW_.out (by kernel_rfl)) (fun _ _ _ h => h) (Or.inl ⟨by rfl, ?_⟩) hHeld ?_ ?_
  rotate_left
  · rintro w' ⟨s0, s1, s2, s3, s4, s5⟩
    go_simp
    with_reducible rfl
  rotate_left
  · simp only [Act.put, la_, lb_, lc_, i64_w, i32_w]
    rfl
  refine take_ (i := 6) (N := some 11) (v := ?_) (a' := ?_) #[true, true, true, true, false, true, true, true, false, false, false, false, false] rfl rfl (take_ofW HT_.out HW_.out (by kernel_rfl)) (fun _ _ _ h => h) (Or.inl ⟨by rfl, ?_⟩) hHeld ?_ ?_
  rotate_left
  · rintro w' ⟨s0, s1, s2, s3, s4, s5⟩
    go_simp
    with_reducible rfl
  rotate_left
  · simp only [Act.put, la_, lb_, lc_, i64_w, i32_w]
    rfl
  refine take_ (i := 8) (N := some 13) (v := ?_) (a' := ?_) #[true, true, true, true, false, true, true, true, true, false, false, false, false] rfl rfl (take_ofW HT_.out HW_.out (by kernel_rfl)) (fun _ _ _ h => h) (Or.inl ⟨by rfl, ?_⟩) hHeld ?_ ?_
  rotate_left
  · rintro w' ⟨s0, s1, s2, s3, s4, s5⟩
    go_simp
    with_reducible rfl
  rotate_left
  · simp only [Act.put, la_, lb_, lc_, i64_w, i32_w]
    rfl
  refine one_ (i := 4) (N := some 9) #[true, true, true, true, true, true, true, true, true, false, false, false, false] rfl rfl (one_of HT_.out (by kernel_rfl)) (by decide) (fun K hK => ?_)
  refine goes_ Try.func70 (by kernel_rfl) rfl #[.int .u64 a0_1, .int .u64 a1_1] (by rfl) rfl rfl mp_ ?_
  with_reducible refine (cmp_Compare_uint64.calls a0_1 a1_1 t179 _ A3.out).mono ?_
  rintro e w' ⟨rfl, ⟨nd, rfl⟩⟩
  refine ⟨_, rfl, ?_⟩
  refine hK.out _ _ ⟨bc_, bc_, bc_, bc_, bc_, bc_⟩ (fun hHeld => ?_)
  clear hK K
  refine norm_ (a' := ?_) ?_ ?_
  rotate_left
  · show Act.put _ (some 9) _ = _
    simp only [Act.put, la_, lb_, lc_, i64_w, i32_w]
    rfl
  refine one_ (i := 9) (N := some 14) #[true, true, true, true, true, true, true, true, true, true, false, false, false] rfl rfl (one_of HT_.out (by kernel_rfl)) (by decide) (fun K hK => ?_)
  refine goes_ Try.func70 (by kernel_rfl) rfl #[.int .u64 a0_2, .int .u64 a1_2] (by rfl) rfl rfl mp_ ?_
  with_reducible refine (cmp_Compare_uint64.calls a0_2 a1_2 t180 _ A4.out).mono ?_
  rintro e w' ⟨rfl, ⟨nd, rfl⟩⟩
  refine ⟨_, rfl, ?_⟩
  refine hK.out _ _ ⟨bc_, bc_, bc_, bc_, bc_, bc_⟩ (fun hHeld => ?_)
  clear hK K
  refine norm_ (a' := ?_) ?_ ?_
  rotate_left
  · show Act.put _ (some 14) _ = _
    simp only [Act.put, la_, lb_, lc_, i64_w, i32_w]
    rfl
  refine one_ (i := 10) (N := some 15) #[true, true, true, true, true, true, true, true, true, true, true, false, false] rfl rfl (one_of HT_.out (by kernel_rfl)) (by decide) (fun K hK => ?_)
  refine Kd.R_lit_step (Kd.int .i64) _ 3 ?hg (N := 15) ?hd (xs := ([t179, t180] : List Int)) (inner := [.int .i64 t179, .int .i64 t180]) (ok := fun _ => True) (okp := fun _ => True) ?hr ?hp (fun _ hk => hk) trivial (Below.refl _ _) (Nat.le_refl _) (by simp) ?_; (case hd => rfl); (case hg => rfl); (case hr => first | (go_simp; done) | (go_simp; rfl)); (case hp => exact (Reps.one (show Kd.M (Kd.int .i64) _ _ _ t179 [.int .i64 t179] from rfl) (Reps.one (show Kd.M (Kd.int .i64) _ _ _ t180 [.int .i64 t180] from rfl) (Reps.none _ _))))
  intro v182 w9 ho10 hb hg_ hnew_
  clear hg_ hnew_
  (first | rw [← Ny181.out] at ho10 | (simp only [Int.reduceToNat] at ho10; rw [← Ny181.out] at ho10))
  have n0_ := Aside0.mk (Kd.R_lower ho10 (below_size bel_))
  have n1_ := bb_ (g := gb177) (o := .cells #[.bool a0_0, .int .u64 a0_1, .int .u64 a0_2] 30 (0, 0)) hb
  have n2_ := bb_ (g := gb178) (o := .cells #[.bool a1_0, .int .u64 a1_1, .int .u64 a1_2] 30 (0, 0)) hb
  have n3_ := Aside0.mk (below_step bel_ hb)
  clear BK177
  clear BK178
  clear HB
  have HO183 := n0_
  have BK177 := n1_
  have BK178 := n2_
  have HB := n3_
  clear n0_ n1_ n2_ n3_
  clear hb ho10
  obtain ⟨Ao11, co11, eo11⟩ := Kd.R_slice HO183.out
  (first | subst eo11 | (injection eo11 with f1_ f2_ f3_; have f4_ := f1_.symm; have f5_ := f3_.symm; clear f1_ f2_ f3_; subst f4_; subst f5_))
  refine hK.out _ _ ⟨bc_, bc_, bc_, bc_, bc_, bc_⟩ (fun hHeld => ?_)
  clear hK K
  refine norm_ (a' := ?_) ?_ ?_
  rotate_left
  · show Act.put _ (some 15) _ = _
    simp only [Act.put, la_, lb_, lc_, i64_w, i32_w]
    rfl
  refine one_ (i := 11) (N := some 16) #[true, true, true, true, true, true, true, true, true, true, true, true, false] rfl rfl (one_of HT_.out (by kernel_rfl)) (by decide) (fun K hK => ?_)
  refine goes_ Try.func69 (by kernel_rfl) rfl #[.slice Ao11 y181.length co11] (by rfl) rfl rfl mp_ ?_
  with_reducible refine (cmp_Or_int.calls k _ _ y181 t184 _ ?side1 ?side2 A5.out).mono ?_
  (case side1 => repeat (first | exact (Kd.R_reads' HO183.out).2.2 | (with_reducible refine Kd.C_alloc ?_ _) | (with_reducible refine Kd.C_drewN ?_ _) | (with_reducible refine Kd.C_drew ?_)))
  (case side2 => exact (Kd.R_reads' HO183.out).2.1)
  rintro e w' ⟨rfl, ⟨nd, rfl⟩⟩
  refine ⟨_, rfl, ?_⟩
  refine hK.out _ _ ⟨bc_, bc_, bc_, bc_, bc_, bc_⟩ (fun hHeld => ?_)
  clear hK K
  refine norm_ (a' := ?_) ?_ ?_
  rotate_left
  · show Act.put _ (some 16) _ = _
    simp only [Act.put, la_, lb_, lc_, i64_w, i32_w]
    rfl
  refine pure_ (i := 12) (N := some 4) (v := ?_) (a' := ?_) #[true, true, true, true, true, true, true, true, true, true, true, true, true] rfl rfl (any_of HT_.out (by kernel_rfl)) (fun _ _ _ h => h) (Or.inl ⟨by rfl, ?_⟩) ?_ ?_
  rotate_left
  · intro w'
    go_simp
    with_reducible rfl
  rotate_left
  · simp only [Act.put, la_, lb_, lc_, i64_w, i32_w]
    rfl
  refine done_ (done_of HT_.out (by kernel_rfl)) ?_
  try go_wp2
  go_ret
  exact ⟨by first | rfl | (simp [errW_none, errW_some] <;> rfl) | (simp [*, errW_none, errW_some] <;> rfl), by repeat (first | (with_reducible first | exact HB.out | apply below_alloc | apply pw_below_drewN | apply below_drew1 | refine below_set ?_ GE177.out | refine below_set ?_ GE178.out) | exact HB.out)⟩

/-! ### impl_WideOk: function 63 -/
def impl_WideOk.f (a0_0 : Bool) (a0_1 : Int) (a0_2 : Int) : Option (Bool) := if a0_1 < 9223372036854775808 then (if a0_0 = true then (if a0_1 > 0 then (some true) else (some (decide (a0_2 > 0)))) else (some true)) else (some false)
set_option maxHeartbeats 8000000 in
set_option maxRecDepth 100000 in
theorem impl_WideOk.calls (a0_0 : Bool) (a0_1 : Int) (a0_2 : Int) (r : Bool) (w : World) (h : impl_WideOk.f a0_0 a0_1 a0_2 = some r) :
    Calls Try.prog 63 #[.agg #[.bool a0_0, .int .u64 a0_1, .int .u64 a0_2]] w fun e w' => e = .returned (.bool r) ∧ Below w.heap.size w w' := by
  have hu30 := Try.underlying30
  have HB := Aside0.mk (Below.refl w.heap.size w)
  have H : (if a0_1 < 9223372036854775808 then (if a0_0 = true then (if a0_1 > 0 then (some true) else (some (decide (a0_2 > 0)))) else (some true)) else (some false)) = some r := h
  clear h
  by_cases c2 : a0_1 < 9223372036854775808
  · rw [if_pos c2] at H
    have c2b0 : decide (a0_1 < 9223372036854775808) = true := decide_eq_true c2
    clear c2
    by_cases c3 : a0_0 = true
    · subst c3
      have H1 : (if a0_1 > 0 then (some true) else (some (decide (a0_2 > 0)))) = some r := by rw [if_pos rfl] at H; exact H
      clear H
      have H := H1
      clear H1
      by_cases c4 : a0_1 > 0
      · rw [if_pos c4] at H
        have c4b0 : decide (0 < a0_1) = true := decide_eq_true c4
        clear c4
        obtain rfl := Option.some.inj H
        go_enter Try.func63, Try.ntmps63
        go_wp2_with (first | ((with_reducible refine gate_dst (N := 1) rfl ?_); refine box_event ?hg (N := 1) ?hd (cs := #[.bool true, .int .u64 a0_1, .int .u64 a0_2]) (t := 30) ?hr ?_; (case hd => rfl); (case hg => rfl); (case hr => first | (go_simp; done) | (go_simp; rfl)); intro gb185 hg w5 hbox hb; have n0_ := Aside0.mk (below_step bel_ hb); have n1_ := Aside0.mk (hbox); have n2_ := Aside0.mk ((by rw [hg]; exact (below_size bel_) : w.heap.size ≤ gb185)); have n3_ := Aside0.mk ((by rw [hg]; exact (below_size bel_) : w.heap.size ≤ gb185)); clear HB; have HB := n0_; have BK185 := n1_; have GW185 := n2_; have GE185 := n3_; clear n0_ n1_ n2_ n3_; clear hb hbox hg; have hcz6_0 : w5.cell? ⟨gb185, 0, none⟩ = some (.bool true) := bc_; have hcz6_1 : w5.cell? ⟨gb185, 1, none⟩ = some (.int .u64 a0_1) := bc_; have hcz6_2 : w5.cell? ⟨gb185, 2, none⟩ = some (.int .u64 a0_2) := bc_; have hfz6_0 := blk_frozen BK185.out 0; have hfz6_1 := blk_frozen BK185.out 1; have hfz6_2 := blk_frozen BK185.out 2))
        go_ret
        exact ⟨by first | rfl | (simp [errW_none, errW_some] <;> rfl) | (simp [*, errW_none, errW_some] <;> rfl), by repeat (first | (with_reducible first | exact HB.out | apply below_alloc | apply pw_below_drewN | apply below_drew1 | refine below_set ?_ GE185.out) | exact HB.out)⟩
      · rw [if_neg c4] at H
        have c4b0 : decide (0 < a0_1) = false := decide_eq_false c4
        clear c4
        obtain rfl := Option.some.inj H
        go_enter Try.func63, Try.ntmps63
        go_wp2_with (first | ((with_reducible refine gate_dst (N := 1) rfl ?_); refine box_event ?hg (N := 1) ?hd (cs := #[.bool true, .int .u64 a0_1, .int .u64 a0_2]) (t := 30) ?hr ?_; (case hd => rfl); (case hg => rfl); (case hr => first | (go_simp; done) | (go_simp; rfl)); intro gb185 hg w7 hbox hb; have n0_ := Aside0.mk (below_step bel_ hb); have n1_ := Aside0.mk (hbox); have n2_ := Aside0.mk ((by rw [hg]; exact (below_size bel_) : w.heap.size ≤ gb185)); have n3_ := Aside0.mk ((by rw [hg]; exact (below_size bel_) : w.heap.size ≤ gb185)); clear HB; have HB := n0_; have BK185 := n1_; have GW185 := n2_; have GE185 := n3_; clear n0_ n1_ n2_ n3_; clear hb hbox hg; have hcz8_0 : w7.cell? ⟨gb185, 0, none⟩ = some (.bool true) := bc_; have hcz8_1 : w7.cell? ⟨gb185, 1, none⟩ = some (.int .u64 a0_1) := bc_; have hcz8_2 : w7.cell? ⟨gb185, 2, none⟩ = some (.int .u64 a0_2) := bc_; have hfz8_0 := blk_frozen BK185.out 0; have hfz8_1 := blk_frozen BK185.out 1; have hfz8_2 := blk_frozen BK185.out 2))
        go_ret
        exact ⟨by first | rfl | (simp [errW_none, errW_some] <;> rfl) | (simp [*, errW_none, errW_some] <;> rfl), by repeat (first | (with_reducible first | exact HB.out | apply below_alloc | apply pw_below_drewN | apply below_drew1 | refine below_set ?_ GE185.out) | exact HB.out)⟩
    · replace c3 := Bool.eq_false_iff.mpr c3
      subst c3
      have H1 : (some true) = some r := by rw [if_neg (show ¬ (false = true) by decide)] at H; exact H
      clear H
      have H := H1
      clear H1
      obtain rfl := Option.some.inj H
      go_enter Try.func63, Try.ntmps63
      go_wp2_with (first | ((with_reducible refine gate_dst (N := 1) rfl ?_); refine box_event ?hg (N := 1) ?hd (cs := #[.bool false, .int .u64 a0_1, .int .u64 a0_2]) (t := 30) ?hr ?_; (case hd => rfl); (case hg => rfl); (case hr => first | (go_simp; done) | (go_simp; rfl)); intro gb185 hg w9 hbox hb; have n0_ := Aside0.mk (below_step bel_ hb); have n1_ := Aside0.mk (hbox); have n2_ := Aside0.mk ((by rw [hg]; exact (below_size bel_) : w.heap.size ≤ gb185)); have n3_ := Aside0.mk ((by rw [hg]; exact (below_size bel_) : w.heap.size ≤ gb185)); clear HB; have HB := n0_; have BK185 := n1_; have GW185 := n2_; have GE185 := n3_; clear n0_ n1_ n2_ n3_; clear hb hbox hg; have hcz10_0 : w9.cell? ⟨gb185, 0, none⟩ = some (.bool false) := bc_; have hcz10_1 : w9.cell? ⟨gb185, 1, none⟩ = some (.int .u64 a0_1) := bc_; have hcz10_2 : w9.cell? ⟨gb185, 2, none⟩ = some (.int .u64 a0_2) := bc_; have hfz10_0 := blk_frozen BK185.out 0; have hfz10_1 := blk_frozen BK185.out 1; have hfz10_2 := blk_frozen BK185.out 2))
      go_ret
      exact ⟨by first | rfl | (simp [errW_none, errW_some] <;> rfl) | (simp [*, errW_none, errW_some] <;> rfl), by repeat (first | (with_reducible first | exact HB.out | apply below_alloc | apply pw_below_drewN | apply below_drew1 | refine below_set ?_ GE185.out) | exact HB.out)⟩
  · rw [if_neg c2] at H
    have c2b0 : decide (a0_1 < 9223372036854775808) = false := decide_eq_false c2
    clear c2
    obtain rfl := Option.some.inj H
    go_enter Try.func63, Try.ntmps63
    go_wp2_with (first | ((with_reducible refine gate_dst (N := 1) rfl ?_); refine box_event ?hg (N := 1) ?hd (cs := #[.bool a0_0, .int .u64 a0_1, .int .u64 a0_2]) (t := 30) ?hr ?_; (case hd => rfl); (case hg => rfl); (case hr => first | (go_simp; done) | (go_simp; rfl)); intro gb185 hg w11 hbox hb; have n0_ := Aside0.mk (below_step bel_ hb); have n1_ := Aside0.mk (hbox); have n2_ := Aside0.mk ((by rw [hg]; exact (below_size bel_) : w.heap.size ≤ gb185)); have n3_ := Aside0.mk ((by rw [hg]; exact (below_size bel_) : w.heap.size ≤ gb185)); clear HB; have HB := n0_; have BK185 := n1_; have GW185 := n2_; have GE185 := n3_; clear n0_ n1_ n2_ n3_; clear hb hbox hg; have hcz12_0 : w11.cell? ⟨gb185, 0, none⟩ = some (.bool a0_0) := bc_; have hcz12_1 : w11.cell? ⟨gb185, 1, none⟩ = some (.int .u64 a0_1) := bc_; have hcz12_2 : w11.cell? ⟨gb185, 2, none⟩ = some (.int .u64 a0_2) := bc_; have hfz12_0 := blk_frozen BK185.out 0; have hfz12_1 := blk_frozen BK185.out 1; have hfz12_2 := blk_frozen BK185.out 2))
    go_ret
    exact ⟨by first | rfl | (simp [errW_none, errW_some] <;> rfl) | (simp [*, errW_none, errW_some] <;> rfl), by repeat (first | (with_reducible first | exact HB.out | apply below_alloc | apply pw_below_drewN | apply below_drew1 | refine below_set ?_ GE185.out) | exact HB.out)⟩

/-! ### bits_Sub64: function 64, the model's own entry -/
def bits_Sub64.entry : Array Value → Sem Value := fun args => do
  let (x, y, b) ← Extern.MathBitsCarry.three "Sub64" args
  pure (Extern.MathBitsCarry.pair ((x + Extern.MathBitsCarry.m64 - y - b) % Extern.MathBitsCarry.m64) (if x < y + b then 1 else 0))
theorem bits_Sub64.entry_run (x y b : Nat) (hb : b ≤ 1) (w : World) :
    (bits_Sub64.entry #[.int .u64 x, .int .u64 y, .int .u64 b]).run Try.prog w =
      .ok (.tuple #[.int .u64 (((x + 18446744073709551616 - y - b) % 18446744073709551616 : Nat) : Int), .int .u64 ((if x < y + b then 1 else 0 : Nat) : Int)]) w := by
  have : b = 0 ∨ b = 1 := by omega
  rcases this with rfl | rfl <;> rfl
def bits_Sub64.f (a0 : Int) (a1 : Int) (a2 : Int) : Option (Int × Int) := if 0 ≤ a0 ∧ 0 ≤ a1 ∧ a1 < 18446744073709551616 ∧ 0 ≤ a2 ∧ a2 ≤ 1 then some ((a0 - a1 - a2) % 18446744073709551616, if a0 < a1 + a2 then 1 else 0) else none
theorem bits_Sub64.run (a0 a1 a2 r1 r2 : Int) (w : World) (h : bits_Sub64.f a0 a1 a2 = some (r1, r2)) :
    (callFunc 64 #[.int .u64 a0, .int .u64 a1, .int .u64 a2]).run Try.prog w = .ok (.value (.tuple #[.int .u64 r1, .int .u64 r2])) w := by
  unfold bits_Sub64.f at h
  by_cases c : 0 ≤ a0 ∧ 0 ≤ a1 ∧ a1 < 18446744073709551616 ∧ 0 ≤ a2 ∧ a2 ≤ 1
  · rw [if_pos c] at h
    simp only [Option.some.injEq, Prod.mk.injEq] at h
    obtain ⟨h1, h2⟩ := h
    obtain ⟨x, rfl⟩ := Int.eq_ofNat_of_zero_le c.1
    obtain ⟨y, rfl⟩ := Int.eq_ofNat_of_zero_le c.2.1
    obtain ⟨b, rfl⟩ := Int.eq_ofNat_of_zero_le c.2.2.2.1
    rw [run_callFunc_extern Try.func64 (by kernel_rfl) (by kernel_rfl) (by kernel_rfl) (e := bits_Sub64.entry) (by kernel_rfl), bits_Sub64.entry_run x y b (by omega)]
    have e1 : (((x + 18446744073709551616 - y - b) % 18446744073709551616 : Nat) : Int) = r1 := by rw [← h1]; omega
    have e2 : ((if x < y + b then 1 else 0 : Nat) : Int) = r2 := by
      rw [← h2]
      by_cases d : x < y + b
      · rw [if_pos d, if_pos (by omega)]; rfl
      · rw [if_neg d, if_neg (by omega)]; rfl
    rw [e1, e2]
    rfl
  · rw [if_neg c] at h
    cases h

/-! ### bits_Add64: function 65, the model's own entry -/
def bits_Add64.f (a0 : Int) (a1 : Int) (a2 : Int) : Option (Int × Int) := if 0 ≤ a0 ∧ 0 ≤ a1 ∧ 0 ≤ a2 ∧ a2 ≤ 1 then some ((a0 + a1 + a2) % 18446744073709551616, (a0 + a1 + a2) / 18446744073709551616) else none
theorem bits_Add64.run (a0 a1 a2 r1 r2 : Int) (w : World) (h : bits_Add64.f a0 a1 a2 = some (r1, r2)) :
    (callFunc 65 #[.int .u64 a0, .int .u64 a1, .int .u64 a2]).run Try.prog w = .ok (.value (.tuple #[.int .u64 r1, .int .u64 r2])) w := by
  unfold bits_Add64.f at h
  by_cases c : 0 ≤ a0 ∧ 0 ≤ a1 ∧ 0 ≤ a2 ∧ a2 ≤ 1
  · rw [if_pos c] at h
    simp only [Option.some.injEq, Prod.mk.injEq] at h
    obtain ⟨rfl, rfl⟩ := h
    rw [run_callFunc_extern Try.func65 (by kernel_rfl) (by kernel_rfl) (by kernel_rfl) (e := add64Entry) (by kernel_rfl), run_add64 a0 a1 a2 c.1 c.2.1 c.2.2.1 c.2.2.2]
    rfl
  · rw [if_neg c] at h
    cases h

/-! ### impl_AddWide: function 38 -/
def impl_AddWide.j0 : Nat → Bool → Bool → Int → Int → Bool → Int → Int → Option (Bool × Int × Int × Bool)
  | 0, _, _, _, _, _, _, _ => none
  | k + 1, x22, x187000, x187001, x187002, x188000, x188001, x188002 => if x22 = true then (some (false, 0, 0, false)) else (if (x187000 != x188000) = true then ((impl_compareSizes.f k x187000 x187001 x187002 x188000 x188001 x188002).bind fun t191 => (if t191 < 0 then ((bits_Sub64.f x188002 x187002 0).bind fun bt192 => ((bits_Sub64.f x188001 x187001 bt192.2).bind fun bt194 => ((impl_wideOf.f x188000 bt194.1 bt192.1).bind fun bt196 => (some (bt196.1, bt196.2.1, bt196.2.2, true))))) else ((bits_Sub64.f x187002 x188002 0).bind fun bt199 => ((bits_Sub64.f x187001 x188001 bt199.2).bind fun bt201 => ((impl_wideOf.f x187000 bt201.1 bt199.1).bind fun bt203 => (some (bt203.1, bt203.2.1, bt203.2.2, true))))))) else ((bits_Add64.f x187002 x188002 0).bind fun bt206 => ((bits_Add64.f x187001 x188001 bt206.2).bind fun bt208 => ((impl_wideOf.f x187000 bt208.1 bt206.1).bind fun bt210 => ((impl_WideOk.f bt210.1 bt210.2.1 bt210.2.2).bind fun t214 => (if t214 = true then (some (bt210.1, bt210.2.1, bt210.2.2, true)) else (some (false, 0, 0, false))))))))
def impl_AddWide.f (k : Nat) (a0_0 : Bool) (a0_1 : Int) (a0_2 : Int) (a1_0 : Bool) (a1_1 : Int) (a1_2 : Int) : Option (Bool × Int × Int × Bool) := (impl_WideOk.f a0_0 a0_1 a0_2).bind fun t189 => (if t189 = true then ((impl_WideOk.f a1_0 a1_1 a1_2).bind fun t190 => (impl_AddWide.j0 k (!t190) a0_0 a0_1 a0_2 a1_0 a1_1 a1_2)) else (impl_AddWide.j0 k true a0_0 a0_1 a0_2 a1_0 a1_1 a1_2))
theorem impl_AddWide.mono_l : ∀ k, (∀ y0 y1 y2 y3 y4 y5 y6, LeO (impl_AddWide.j0 k y0 y1 y2 y3 y4 y5 y6) (impl_AddWide.j0 (k + 1) y0 y1 y2 y3 y4 y5 y6))
  | 0 => fun _ _ _ _ _ _ _ r h => by simp [impl_AddWide.j0] at h
  | k + 1 => by
    have ih0 := impl_AddWide.mono_l k
    · intro y0 y1 y2 y3 y4 y5 y6
      unfold impl_AddWide.j0
      repeat' first
      | (with_reducible exact ih0 _ _ _ _ _ _ _)
      | (with_reducible exact impl_compareSizes.mono _ _ _ _ _ _ _)
      | (with_reducible exact LeO.refl _)
      | (with_reducible exact LeO.none _)
      | (with_reducible refine LeO.ite ?_ ?_)
      | (with_reducible refine LeO.bind ?_ (fun _ => ?_))
      | exact ih0 _ _ _ _ _ _ _
      | exact impl_compareSizes.mono _ _ _ _ _ _ _
      | exact LeO.none _
      | refine LeO.ite ?_ ?_
      | refine LeO.bind ?_ (fun _ => ?_)
theorem impl_AddWide.mono : ∀ a0 a1 a2 a3 a4 a5 k, LeO (impl_AddWide.f k a0 a1 a2 a3 a4 a5) (impl_AddWide.f (k + 1) a0 a1 a2 a3 a4 a5) := by
  intro a0 a1 a2 a3 a4 a5 k
  have ih0 := impl_AddWide.mono_l k
  unfold impl_AddWide.f
  repeat' first
      | (with_reducible exact ih0 _ _ _ _ _ _ _)
      | (with_reducible exact impl_compareSizes.mono _ _ _ _ _ _ _)
      | (with_reducible exact LeO.refl _)
      | (with_reducible exact LeO.none _)
      | (with_reducible refine LeO.ite ?_ ?_)
      | (with_reducible refine LeO.bind ?_ (fun _ => ?_))
      | exact ih0 _ _ _ _ _ _ _
      | exact impl_compareSizes.mono _ _ _ _ _ _ _
      | exact LeO.none _
      | refine LeO.ite ?_ ?_
      | refine LeO.bind ?_ (fun _ => ?_)
set_option maxHeartbeats 8000000 in
set_option maxRecDepth 100000 in
theorem impl_AddWide.calls (k : Nat) (a0_0 : Bool) (a0_1 : Int) (a0_2 : Int) (a1_0 : Bool) (a1_1 : Int) (a1_2 : Int) (r1 : Bool) (r2 : Int) (r3 : Int) (r4 : Bool) (w : World) (h : impl_AddWide.f k a0_0 a0_1 a0_2 a1_0 a1_1 a1_2 = some (r1, r2, r3, r4)) :
    Calls Try.prog 38 #[.agg #[.bool a0_0, .int .u64 a0_1, .int .u64 a0_2], .agg #[.bool a1_0, .int .u64 a1_1, .int .u64 a1_2]] w fun e w' => e = .returned (.tuple #[.agg #[.bool r1, .int .u64 r2, .int .u64 r3], .bool r4]) ∧ Below w.heap.size w w' := by
  have hu30 := Try.underlying30
  have HB := Aside0.mk (Below.refl w.heap.size w)
  have H : ((impl_WideOk.f a0_0 a0_1 a0_2).bind fun t189 => (if t189 = true then ((impl_WideOk.f a1_0 a1_1 a1_2).bind fun t190 => (impl_AddWide.j0 k (!t190) a0_0 a0_1 a0_2 a1_0 a1_1 a1_2)) else (impl_AddWide.j0 k true a0_0 a0_1 a0_2 a1_0 a1_1 a1_2))) = some (r1, r2, r3, r4) := h
  clear h
  have HC3 := Aside0.mk H
  clear H
  go_enter Try.func38, Try.ntmps38
  go_upto_region 1 with (first | ((with_reducible refine gate_dst (N := 2) rfl ?_); refine box_event ?hg (N := 2) ?hd (cs := #[.bool a0_0, .int .u64 a0_1, .int .u64 a0_2]) (t := 30) ?hr ?_; (case hd => rfl); (case hg => rfl); (case hr => first | (go_simp; done) | (go_simp; rfl)); intro gb186 hg w4 hbox hb; have n0_ := Aside0.mk (below_step bel_ hb); have n1_ := Aside0.mk (hbox); have n2_ := Aside0.mk ((by rw [hg]; exact (below_size bel_) : w.heap.size ≤ gb186)); have n3_ := Aside0.mk ((by rw [hg]; exact (below_size bel_) : w.heap.size ≤ gb186)); clear HB; have HB := n0_; have BK186 := n1_; have GW186 := n2_; have GE186 := n3_; clear n0_ n1_ n2_ n3_; clear hb hbox hg) | ((with_reducible refine gate_dst (N := 3) rfl ?_); refine box_event ?hg (N := 3) ?hd (cs := #[.bool a1_0, .int .u64 a1_1, .int .u64 a1_2]) (t := 30) ?hr ?_; (case hd => rfl); (case hg => rfl); (case hr => first | (go_simp; done) | (go_simp; rfl)); intro gb187 hg w5 hbox hb; have n0_ := bb_ (g := gb186) (o := .cells #[.bool a0_0, .int .u64 a0_1, .int .u64 a0_2] 30 (0, 0)) hb; have n1_ := Aside0.mk (below_step bel_ hb); have n2_ := Aside0.mk (hbox); have n3_ := Aside0.mk ((by rw [hg]; exact (below_size bel_) : w.heap.size ≤ gb187)); have n4_ := Aside0.mk ((by rw [hg]; exact (below_size bel_) : w.heap.size ≤ gb187)); have n5_ := nlt_ (g := gb186) (o := .cells #[.bool a0_0, .int .u64 a0_1, .int .u64 a0_2] 30 (0, 0)) hg; have n6_ := ngt_ (g := gb186) (o := .cells #[.bool a0_0, .int .u64 a0_1, .int .u64 a0_2] 30 (0, 0)) hg; clear BK186; clear HB; have BK186 := n0_; have HB := n1_; have BK187 := n2_; have GW187 := n3_; have GE187 := n4_; have NB186_187 := n5_; have NB187_186 := n6_; clear n0_ n1_ n2_ n3_ n4_ n5_ n6_; clear hb hbox hg) | ((with_reducible refine gate_dst (N := 4) rfl ?_); refine box_event ?hg (N := 4) ?hd (cs := #[.bool false, .int .u64 0, .int .u64 0]) (t := 30) ?hr ?_; (case hd => rfl); (case hg => rfl); (case hr => first | (go_simp; done) | (go_simp; rfl)); intro gb188 hg w6 hbox hb; have n0_ := bb_ (g := gb186) (o := .cells #[.bool a0_0, .int .u64 a0_1, .int .u64 a0_2] 30 (0, 0)) hb; have n1_ := bb_ (g := gb187) (o := .cells #[.bool a1_0, .int .u64 a1_1, .int .u64 a1_2] 30 (0, 0)) hb; have n2_ := Aside0.mk (below_step bel_ hb); have n3_ := Aside0.mk (hbox); have n4_ := Aside0.mk ((by rw [hg]; exact (below_size bel_) : w.heap.size ≤ gb188)); have n5_ := Aside0.mk ((by rw [hg]; exact (below_size bel_) : w.heap.size ≤ gb188)); have n6_ := nlt_ (g := gb186) (o := .cells #[.bool a0_0, .int .u64 a0_1, .int .u64 a0_2] 30 (0, 0)) hg; have n7_ := ngt_ (g := gb186) (o := .cells #[.bool a0_0, .int .u64 a0_1, .int .u64 a0_2] 30 (0, 0)) hg; have n8_ := nlt_ (g := gb187) (o := .cells #[.bool a1_0, .int .u64 a1_1, .int .u64 a1_2] 30 (0, 0)) hg; have n9_ := ngt_ (g := gb187) (o := .cells #[.bool a1_0, .int .u64 a1_1, .int .u64 a1_2] 30 (0, 0)) hg; clear BK186; clear BK187; clear HB; have BK186 := n0_; have BK187 := n1_; have HB := n2_; have BK188 := n3_; have GW188 := n4_; have GE188 := n5_; have NB186_188 := n6_; have NB188_186 := n7_; have NB187_188 := n8_; have NB188_187 := n9_; clear n0_ n1_ n2_ n3_ n4_ n5_ n6_ n7_ n8_ n9_; clear hb hbox hg))
  (try simp only [Act.put, la_, lb_, lc_])
  go_cut [22] (fun v22 wc => ∃ (kq : Nat) (x22_2 : Bool), v22 = .bool x22_2 ∧ Aside0 (impl_AddWide.j0 kq x22_2 a0_0 a0_1 a0_2 a1_0 a1_1 a1_2 = some (r1, r2, r3, r4)) ∧ Aside0 (kq ≤ k) ∧ Aside0 (wc.heap[gb186]? = some (.cells #[.bool a0_0, .int .u64 a0_1, .int .u64 a0_2] 30 (0, 0))) ∧ Aside0 (wc.heap[gb187]? = some (.cells #[.bool a1_0, .int .u64 a1_1, .int .u64 a1_2] 30 (0, 0))) ∧ Aside0 (wc.heap[gb188]? = some (.cells #[.bool false, .int .u64 0, .int .u64 0] 30 (0, 0))) ∧ Aside0 (Below w.heap.size w wc))
  case first =>
    have H := HC3.out
    clear HC3
    replace H := Option.bind_eq_some_iff.mp H
    obtain ⟨t189, A70, H⟩ := H
    replace H : (if t189 = true then ((impl_WideOk.f a1_0 a1_1 a1_2).bind fun t190 => (impl_AddWide.j0 k (!t190) a0_0 a0_1 a0_2 a1_0 a1_1 a1_2)) else (impl_AddWide.j0 k true a0_0 a0_1 a0_2 a1_0 a1_1 a1_2)) = some (r1, r2, r3, r4) := H
    have A7 := Aside0.mk A70
    clear A70
    by_cases c8 : t189 = true
    · subst c8
      have H1 : ((impl_WideOk.f a1_0 a1_1 a1_2).bind fun t190 => (impl_AddWide.j0 k (!t190) a0_0 a0_1 a0_2 a1_0 a1_1 a1_2)) = some (r1, r2, r3, r4) := by rw [if_pos rfl] at H; exact H
      clear H
      have H := H1
      clear H1
      replace H := Option.bind_eq_some_iff.mp H
      obtain ⟨t190, A90, H⟩ := H
      replace H : (impl_AddWide.j0 k (!t190) a0_0 a0_1 a0_2 a1_0 a1_1 a1_2) = some (r1, r2, r3, r4) := H
      have A9 := Aside0.mk A90
      clear A90
      have H' := Aside0.mk H
      clear H
      have hnb10 := NB186_187.out
      have hnc10 := NB187_186.out
      have hnb11 := NB186_188.out
      have hnc11 := NB188_186.out
      have hcz12_0 : w6.cell? ⟨gb186, 0, none⟩ = some (.bool a0_0) := bc_
      have hcz12_1 : w6.cell? ⟨gb186, 1, none⟩ = some (.int .u64 a0_1) := bc_
      have hcz12_2 : w6.cell? ⟨gb186, 2, none⟩ = some (.int .u64 a0_2) := bc_
      have hfz12_0 := blk_frozen BK186.out 0
      have hfz12_1 := blk_frozen BK186.out 1
      have hfz12_2 := blk_frozen BK186.out 2
      go_wp2_with (first | ((with_reducible refine gate_callee (f := 63) rfl ?_); refine goesL_ (some 16) rfl rfl Try.func63 (by kernel_rfl) rfl #[.agg #[.bool a0_0, .int .u64 a0_1, .int .u64 a0_2]] rfl mp_ ?_; (with_reducible refine (impl_WideOk.calls a0_0 a0_1 a0_2 true _ A7.out).mono ?_); rintro e w13 ⟨rfl, hb⟩; refine ⟨_, rfl, ?_⟩; have n0_ := bb_ (g := gb186) (o := .cells #[.bool a0_0, .int .u64 a0_1, .int .u64 a0_2] 30 (0, 0)) hb; have n1_ := bb_ (g := gb187) (o := .cells #[.bool a1_0, .int .u64 a1_1, .int .u64 a1_2] 30 (0, 0)) hb; have n2_ := bb_ (g := gb188) (o := .cells #[.bool false, .int .u64 0, .int .u64 0] 30 (0, 0)) hb; have n3_ := Aside0.mk (below_step bel_ hb); clear BK186; clear BK187; clear BK188; clear HB; have BK186 := n0_; have BK187 := n1_; have BK188 := n2_; have HB := n3_; clear n0_ n1_ n2_ n3_; (try clear hb); (try clear hb2); (try clear hk); (try clear hi); have hnb14 := NB187_188.out; have hnc14 := NB188_187.out; have hcz15_0 : w13.cell? ⟨gb187, 0, none⟩ = some (.bool a1_0) := bc_; have hcz15_1 : w13.cell? ⟨gb187, 1, none⟩ = some (.int .u64 a1_1) := bc_; have hcz15_2 : w13.cell? ⟨gb187, 2, none⟩ = some (.int .u64 a1_2) := bc_; have hfz15_0 := blk_frozen BK187.out 0; have hfz15_1 := blk_frozen BK187.out 1; have hfz15_2 := blk_frozen BK187.out 2) | (go_at_call 63; (with_reducible refine (impl_WideOk.calls a1_0 a1_1 a1_2 t190 _ A9.out).mono ?_); rintro e w16 ⟨rfl, hb⟩; have n0_ := bb_ (g := gb186) (o := .cells #[.bool a0_0, .int .u64 a0_1, .int .u64 a0_2] 30 (0, 0)) hb; have n1_ := bb_ (g := gb187) (o := .cells #[.bool a1_0, .int .u64 a1_1, .int .u64 a1_2] 30 (0, 0)) hb; have n2_ := bb_ (g := gb188) (o := .cells #[.bool false, .int .u64 0, .int .u64 0] 30 (0, 0)) hb; have n3_ := Aside0.mk (below_step bel_ hb); clear BK186; clear BK187; clear BK188; clear HB; have BK186 := n0_; have BK187 := n1_; have BK188 := n2_; have HB := n3_; clear n0_ n1_ n2_ n3_; (try clear hb); (try clear hb2); (try clear hk); (try clear hi)))
      go_meet
      case rel => exact ⟨_, (!t190), (by first | rfl | (simp; done) | (simp [*]; done)), H', ⟨by first | omega | exact Nat.le_refl _⟩, ⟨by (with_reducible repeat (first | refine bN_ _ ?_ | refine bd_ ?_ | refine ba_ _ ?_)); exact BK186.out⟩, ⟨by (with_reducible repeat (first | refine bN_ _ ?_ | refine bd_ ?_ | refine ba_ _ ?_)); exact BK187.out⟩, ⟨by (with_reducible repeat (first | refine bN_ _ ?_ | refine bd_ ?_ | refine ba_ _ ?_)); exact BK188.out⟩, ⟨by repeat (first | (with_reducible first | exact HB.out | apply below_alloc | apply pw_below_drewN | apply below_drew1 | refine below_set ?_ GE186.out | refine below_set ?_ GE187.out | refine below_set ?_ GE188.out) | exact HB.out)⟩⟩
    · replace c8 := Bool.eq_false_iff.mpr c8
      subst c8
      have H1 : (impl_AddWide.j0 k true a0_0 a0_1 a0_2 a1_0 a1_1 a1_2) = some (r1, r2, r3, r4) := by rw [if_neg (show ¬ (false = true) by decide)] at H; exact H
      clear H
      have H := H1
      clear H1
      have H' := Aside0.mk H
      clear H
      have hnb17 := NB186_187.out
      have hnc17 := NB187_186.out
      have hnb18 := NB186_188.out
      have hnc18 := NB188_186.out
      have hcz19_0 : w6.cell? ⟨gb186, 0, none⟩ = some (.bool a0_0) := bc_
      have hcz19_1 : w6.cell? ⟨gb186, 1, none⟩ = some (.int .u64 a0_1) := bc_
      have hcz19_2 : w6.cell? ⟨gb186, 2, none⟩ = some (.int .u64 a0_2) := bc_
      have hfz19_0 := blk_frozen BK186.out 0
      have hfz19_1 := blk_frozen BK186.out 1
      have hfz19_2 := blk_frozen BK186.out 2
      go_wp2_with (first | ((with_reducible refine gate_callee (f := 63) rfl ?_); refine goesL_ (some 16) rfl rfl Try.func63 (by kernel_rfl) rfl #[.agg #[.bool a0_0, .int .u64 a0_1, .int .u64 a0_2]] rfl mp_ ?_; (with_reducible refine (impl_WideOk.calls a0_0 a0_1 a0_2 false _ A7.out).mono ?_); rintro e w20 ⟨rfl, hb⟩; refine ⟨_, rfl, ?_⟩; have n0_ := bb_ (g := gb186) (o := .cells #[.bool a0_0, .int .u64 a0_1, .int .u64 a0_2] 30 (0, 0)) hb; have n1_ := bb_ (g := gb187) (o := .cells #[.bool a1_0, .int .u64 a1_1, .int .u64 a1_2] 30 (0, 0)) hb; have n2_ := bb_ (g := gb188) (o := .cells #[.bool false, .int .u64 0, .int .u64 0] 30 (0, 0)) hb; have n3_ := Aside0.mk (below_step bel_ hb); clear BK186; clear BK187; clear BK188; clear HB; have BK186 := n0_; have BK187 := n1_; have BK188 := n2_; have HB := n3_; clear n0_ n1_ n2_ n3_; (try clear hb); (try clear hb2); (try clear hk); (try clear hi)))
      go_meet
      case rel => exact ⟨_, (true), (by first | rfl | (simp; done) | (simp [*]; done)), H', ⟨by first | omega | exact Nat.le_refl _⟩, ⟨by (with_reducible repeat (first | refine bN_ _ ?_ | refine bd_ ?_ | refine ba_ _ ?_)); exact BK186.out⟩, ⟨by (with_reducible repeat (first | refine bN_ _ ?_ | refine bd_ ?_ | refine ba_ _ ?_)); exact BK187.out⟩, ⟨by (with_reducible repeat (first | refine bN_ _ ?_ | refine bd_ ?_ | refine ba_ _ ?_)); exact BK188.out⟩, ⟨by repeat (first | (with_reducible first | exact HB.out | apply below_alloc | apply pw_below_drewN | apply below_drew1 | refine below_set ?_ GE186.out | refine below_set ?_ GE187.out | refine below_set ?_ GE188.out) | exact HB.out)⟩⟩
  case rest =>
    clear HC3
    try clear c1
    try clear p2
    try clear c3
    try clear c6
    try clear c8
    try clear c10
    try clear c11
    try clear c14
    try clear c17
    try clear c18
    try clear hcz12_0
    try clear hcz12_1
    try clear hcz12_2
    try clear hcz15_0
    try clear hcz15_1
    try clear hcz15_2
    try clear hcz19_0
    try clear hcz19_1
    try clear hcz19_2
    try clear hfz12_0
    try clear hfz12_1
    try clear hfz12_2
    try clear hfz15_0
    try clear hfz15_1
    try clear hfz15_2
    try clear hfz19_0
    try clear hfz19_1
    try clear hfz19_2
    obtain ⟨kq, x22_2, rfl, HA, HJ2, BK186, BK187, BK188, HB⟩ := hcut
    cases kq with
    | zero => exact absurd HA.out (by simp [impl_AddWide.j0])
    | succ kj2 =>
      have H := HA.out
      clear HA
      simp only [impl_AddWide.j0] at H
      by_cases c21 : x22_2 = true
      · subst c21
        have H1 : (some (false, 0, 0, false)) = some (r1, r2, r3, r4) := by rw [if_pos rfl] at H; exact H
        clear H
        have H := H1
        clear H1
        simp only [Option.some.injEq, Prod.mk.injEq] at H
        obtain ⟨rfl, rfl, rfl, rfl⟩ := H
        have hnb22 := NB188_186.out
        have hnc22 := NB186_188.out
        have hnb23 := NB188_187.out
        have hnc23 := NB187_188.out
        have hcz24_0 : wc.cell? ⟨gb188, 0, none⟩ = some (.bool false) := bc_
        have hcz24_1 : wc.cell? ⟨gb188, 1, none⟩ = some (.int .u64 0) := bc_
        have hcz24_2 : wc.cell? ⟨gb188, 2, none⟩ = some (.int .u64 0) := bc_
        have hfz24_0 := blk_frozen BK188.out 0
        have hfz24_1 := blk_frozen BK188.out 1
        have hfz24_2 := blk_frozen BK188.out 2
        go_wp2
        refine bodyPost_ret (results_ct rfl _ _ gb188 30 #[.bool false, .int .u64 0, .int .u64 0] (0, 0) _ rfl (by (with_reducible repeat (first | refine bN_ _ ?_ | refine bd_ ?_ | refine ba_ _ ?_)); refine blk_put (cs := #[.bool false, .int .u64 0, .int .u64 0]) ?_ 2 _ rfl; (with_reducible repeat (first | refine bN_ _ ?_ | refine bd_ ?_ | refine ba_ _ ?_)); refine blk_put (cs := #[.bool false, .int .u64 0, .int .u64 0]) ?_ 1 _ rfl; (with_reducible repeat (first | refine bN_ _ ?_ | refine bd_ ?_ | refine ba_ _ ?_)); refine blk_put (cs := #[.bool false, .int .u64 0, .int .u64 0]) ?_ 0 _ rfl; (with_reducible repeat (first | refine bN_ _ ?_ | refine bd_ ?_ | refine ba_ _ ?_)); exact BK188.out) Try.underlying30 rfl (by kernel_rfl)) rfl ?_
        exact ⟨by first | rfl | (simp [errW_none, errW_some] <;> rfl) | (simp [*, errW_none, errW_some] <;> rfl), by repeat (first | (with_reducible first | exact HB.out | apply below_alloc | apply pw_below_drewN | apply below_drew1 | refine below_set ?_ GE186.out | refine below_set ?_ GE187.out | refine below_set ?_ GE188.out) | exact HB.out)⟩
      · replace c21 := Bool.eq_false_iff.mpr c21
        subst c21
        have H1 : (if (a0_0 != a1_0) = true then ((impl_compareSizes.f kj2 a0_0 a0_1 a0_2 a1_0 a1_1 a1_2).bind fun t191 => (if t191 < 0 then ((bits_Sub64.f a1_2 a0_2 0).bind fun bt192 => ((bits_Sub64.f a1_1 a0_1 bt192.2).bind fun bt194 => ((impl_wideOf.f a1_0 bt194.1 bt192.1).bind fun bt196 => (some (bt196.1, bt196.2.1, bt196.2.2, true))))) else ((bits_Sub64.f a0_2 a1_2 0).bind fun bt199 => ((bits_Sub64.f a0_1 a1_1 bt199.2).bind fun bt201 => ((impl_wideOf.f a0_0 bt201.1 bt199.1).bind fun bt203 => (some (bt203.1, bt203.2.1, bt203.2.2, true))))))) else ((bits_Add64.f a0_2 a1_2 0).bind fun bt206 => ((bits_Add64.f a0_1 a1_1 bt206.2).bind fun bt208 => ((impl_wideOf.f a0_0 bt208.1 bt206.1).bind fun bt210 => ((impl_WideOk.f bt210.1 bt210.2.1 bt210.2.2).bind fun t214 => (if t214 = true then (some (bt210.1, bt210.2.1, bt210.2.2, true)) else (some (false, 0, 0, false)))))))) = some (r1, r2, r3, r4) := by rw [if_neg (show ¬ (false = true) by decide)] at H; exact H
        clear H
        have H := H1
        clear H1
        by_cases c25 : (a0_0 != a1_0) = true
        · rw [if_pos c25] at H
          have c25b0 : (a0_0 != a1_0) = true := c25
          (try (have c25b1 : decide (a0_0 = a1_0) = false := by simpa using c25))
          (try (have c25b2 : (a0_0 == a1_0) = false := by simpa using c25))
          (try (have c25b3 : ¬ (a0_0 = a1_0) := by simpa using c25))
          clear c25
          replace H := Option.bind_eq_some_iff.mp H
          obtain ⟨t191, A260, H⟩ := H
          replace H : (if t191 < 0 then ((bits_Sub64.f a1_2 a0_2 0).bind fun bt192 => ((bits_Sub64.f a1_1 a0_1 bt192.2).bind fun bt194 => ((impl_wideOf.f a1_0 bt194.1 bt192.1).bind fun bt196 => (some (bt196.1, bt196.2.1, bt196.2.2, true))))) else ((bits_Sub64.f a0_2 a1_2 0).bind fun bt199 => ((bits_Sub64.f a0_1 a1_1 bt199.2).bind fun bt201 => ((impl_wideOf.f a0_0 bt201.1 bt199.1).bind fun bt203 => (some (bt203.1, bt203.2.1, bt203.2.2, true)))))) = some (r1, r2, r3, r4) := H
          have A26 := Aside0.mk A260
          clear A260
          by_cases c27 : t191 < 0
          · rw [if_pos c27] at H
            have c27b0 : decide (t191 < 0) = true := decide_eq_true c27
            clear c27
            replace H := Option.bind_eq_some_iff.mp H
            obtain ⟨⟨t192, t193⟩, A280, H⟩ := H
            replace H : ((bits_Sub64.f a1_1 a0_1 t193).bind fun bt194 => ((impl_wideOf.f a1_0 bt194.1 t192).bind fun bt196 => (some (bt196.1, bt196.2.1, bt196.2.2, true)))) = some (r1, r2, r3, r4) := H
            have A28 := Aside0.mk A280
            clear A280
            replace H := Option.bind_eq_some_iff.mp H
            obtain ⟨⟨t194, t195⟩, A290, H⟩ := H
            replace H : ((impl_wideOf.f a1_0 t194 t192).bind fun bt196 => (some (bt196.1, bt196.2.1, bt196.2.2, true))) = some (r1, r2, r3, r4) := H
            have A29 := Aside0.mk A290
            clear A290
            replace H := Option.bind_eq_some_iff.mp H
            obtain ⟨⟨t196, t197, t198⟩, A300, H⟩ := H
            replace H : (some (t196, t197, t198, true)) = some (r1, r2, r3, r4) := H
            have A30 := Aside0.mk A300
            clear A300
            simp only [Option.some.injEq, Prod.mk.injEq] at H
            obtain ⟨rfl, rfl, rfl, rfl⟩ := H
            have hnb31 := NB186_187.out
            have hnc31 := NB187_186.out
            have hnb32 := NB186_188.out
            have hnc32 := NB188_186.out
            have hcz33_0 : wc.cell? ⟨gb186, 0, none⟩ = some (.bool a0_0) := bc_
            have hcz33_1 : wc.cell? ⟨gb186, 1, none⟩ = some (.int .u64 a0_1) := bc_
            have hcz33_2 : wc.cell? ⟨gb186, 2, none⟩ = some (.int .u64 a0_2) := bc_
            have hfz33_0 := blk_frozen BK186.out 0
            have hfz33_1 := blk_frozen BK186.out 1
            have hfz33_2 := blk_frozen BK186.out 2
            have hnb34 := NB187_188.out
            have hnc34 := NB188_187.out
            have hcz35_0 : wc.cell? ⟨gb187, 0, none⟩ = some (.bool a1_0) := bc_
            have hcz35_1 : wc.cell? ⟨gb187, 1, none⟩ = some (.int .u64 a1_1) := bc_
            have hcz35_2 : wc.cell? ⟨gb187, 2, none⟩ = some (.int .u64 a1_2) := bc_
            have hfz35_0 := blk_frozen BK187.out 0
            have hfz35_1 := blk_frozen BK187.out 1
            have hfz35_2 := blk_frozen BK187.out 2
            go_wp2_with (first | ((with_reducible refine gate_callee (f := 43) rfl ?_); refine goesL_ (some 31) rfl rfl Try.func43 (by kernel_rfl) rfl #[.agg #[.bool a0_0, .int .u64 a0_1, .int .u64 a0_2], .agg #[.bool a1_0, .int .u64 a1_1, .int .u64 a1_2]] rfl mp_ ?_; (with_reducible refine (impl_compareSizes.calls kj2 a0_0 a0_1 a0_2 a1_0 a1_1 a1_2 t191 _ A26.out).mono ?_); rintro e w36 ⟨rfl, hb⟩; refine ⟨_, rfl, ?_⟩; have n0_ := bb_ (g := gb186) (o := .cells #[.bool a0_0, .int .u64 a0_1, .int .u64 a0_2] 30 (0, 0)) hb; have n1_ := bb_ (g := gb187) (o := .cells #[.bool a1_0, .int .u64 a1_1, .int .u64 a1_2] 30 (0, 0)) hb; have n2_ := bb_ (g := gb188) (o := .cells #[.bool false, .int .u64 0, .int .u64 0] 30 (0, 0)) hb; have n3_ := Aside0.mk (below_step bel_ hb); clear BK186; clear BK187; clear BK188; clear HB; have BK186 := n0_; have BK187 := n1_; have BK188 := n2_; have HB := n3_; clear n0_ n1_ n2_ n3_; (try clear hb); (try clear hb2); (try clear hk); (try clear hi); have hcz37_0 : w36.cell? ⟨gb187, 0, none⟩ = some (.bool a1_0) := bc_; have hcz37_1 : w36.cell? ⟨gb187, 1, none⟩ = some (.int .u64 a1_1) := bc_; have hcz37_2 : w36.cell? ⟨gb187, 2, none⟩ = some (.int .u64 a1_2) := bc_; have hfz37_0 := blk_frozen BK187.out 0; have hfz37_1 := blk_frozen BK187.out 1; have hfz37_2 := blk_frozen BK187.out 2; have hcz38_0 : w36.cell? ⟨gb186, 0, none⟩ = some (.bool a0_0) := bc_; have hcz38_1 : w36.cell? ⟨gb186, 1, none⟩ = some (.int .u64 a0_1) := bc_; have hcz38_2 : w36.cell? ⟨gb186, 2, none⟩ = some (.int .u64 a0_2) := bc_; have hfz38_0 := blk_frozen BK186.out 0; have hfz38_1 := blk_frozen BK186.out 1; have hfz38_2 := blk_frozen BK186.out 2) | ((with_reducible refine gate_callee (f := 64) rfl ?_); refine goesX_ (some 40) rfl rfl #[.int .u64 a1_2, .int .u64 a0_2, .int .u64 0] rfl mp_ (bits_Sub64.run a1_2 a0_2 0 t192 t193 _ A28.out) ?_) | ((with_reducible refine gate_callee (f := 64) rfl ?_); refine goesX_ (some 49) rfl rfl #[.int .u64 a1_1, .int .u64 a0_1, .int .u64 t193] rfl mp_ (bits_Sub64.run a1_1 a0_1 t193 t194 t195 _ A29.out) ?_) | ((with_reducible refine gate_callee (f := 42) rfl ?_); refine goesL_ (some 56) rfl rfl Try.func42 (by kernel_rfl) rfl #[.bool a1_0, .int .u64 t194, .int .u64 t192] rfl mp_ ?_; (with_reducible refine (impl_wideOf.calls a1_0 t194 t192 t196 t197 t198 _ A30.out).mono ?_); rintro e w39 ⟨rfl, hb⟩; refine ⟨_, rfl, ?_⟩; have n0_ := Aside0.mk (blk_below (g := gb186) (o := .cells #[.bool a1_0, .int .u64 a1_1, .int .u64 a1_2] 30 (0, 0)) (by (with_reducible repeat (first | refine bN_ _ ?_ | refine bd_ ?_ | refine ba_ _ ?_)); refine blk_far ?_ NB186_187.out _; (with_reducible repeat (first | refine bN_ _ ?_ | refine bd_ ?_ | refine ba_ _ ?_)); refine blk_far ?_ NB186_187.out _; (with_reducible repeat (first | refine bN_ _ ?_ | refine bd_ ?_ | refine ba_ _ ?_)); refine blk_far ?_ NB186_187.out _; (with_reducible repeat (first | refine bN_ _ ?_ | refine bd_ ?_ | refine ba_ _ ?_)); refine blk_put (cs := #[.bool a1_0, .int .u64 a1_1, .int .u64 a0_2]) ?_ 2 _ rfl; (with_reducible repeat (first | refine bN_ _ ?_ | refine bd_ ?_ | refine ba_ _ ?_)); refine blk_put (cs := #[.bool a1_0, .int .u64 a0_1, .int .u64 a0_2]) ?_ 1 _ rfl; (with_reducible repeat (first | refine bN_ _ ?_ | refine bd_ ?_ | refine ba_ _ ?_)); refine blk_put (cs := #[.bool a0_0, .int .u64 a0_1, .int .u64 a0_2]) ?_ 0 _ rfl; (with_reducible repeat (first | refine bN_ _ ?_ | refine bd_ ?_ | refine ba_ _ ?_)); exact BK186.out) hb); have n1_ := Aside0.mk (blk_below (g := gb187) (o := .cells #[.bool a0_0, .int .u64 a0_1, .int .u64 a0_2] 30 (0, 0)) (by (with_reducible repeat (first | refine bN_ _ ?_ | refine bd_ ?_ | refine ba_ _ ?_)); refine blk_put (cs := #[.bool a0_0, .int .u64 a0_1, .int .u64 a1_2]) ?_ 2 _ rfl; (with_reducible repeat (first | refine bN_ _ ?_ | refine bd_ ?_ | refine ba_ _ ?_)); refine blk_put (cs := #[.bool a0_0, .int .u64 a1_1, .int .u64 a1_2]) ?_ 1 _ rfl; (with_reducible repeat (first | refine bN_ _ ?_ | refine bd_ ?_ | refine ba_ _ ?_)); refine blk_put (cs := #[.bool a1_0, .int .u64 a1_1, .int .u64 a1_2]) ?_ 0 _ rfl; (with_reducible repeat (first | refine bN_ _ ?_ | refine bd_ ?_ | refine ba_ _ ?_)); refine blk_far ?_ NB187_186.out _; (with_reducible repeat (first | refine bN_ _ ?_ | refine bd_ ?_ | refine ba_ _ ?_)); refine blk_far ?_ NB187_186.out _; (with_reducible repeat (first | refine bN_ _ ?_ | refine bd_ ?_ | refine ba_ _ ?_)); refine blk_far ?_ NB187_186.out _; (with_reducible repeat (first | refine bN_ _ ?_ | refine bd_ ?_ | refine ba_ _ ?_)); exact BK187.out) hb); have n2_ := Aside0.mk (blk_below (g := gb188) (o := .cells #[.bool false, .int .u64 0, .int .u64 0] 30 (0, 0)) (by (with_reducible repeat (first | refine bN_ _ ?_ | refine bd_ ?_ | refine ba_ _ ?_)); refine blk_far ?_ NB188_187.out _; (with_reducible repeat (first | refine bN_ _ ?_ | refine bd_ ?_ | refine ba_ _ ?_)); refine blk_far ?_ NB188_187.out _; (with_reducible repeat (first | refine bN_ _ ?_ | refine bd_ ?_ | refine ba_ _ ?_)); refine blk_far ?_ NB188_187.out _; (with_reducible repeat (first | refine bN_ _ ?_ | refine bd_ ?_ | refine ba_ _ ?_)); refine blk_far ?_ NB188_186.out _; (with_reducible repeat (first | refine bN_ _ ?_ | refine bd_ ?_ | refine ba_ _ ?_)); refine blk_far ?_ NB188_186.out _; (with_reducible repeat (first | refine bN_ _ ?_ | refine bd_ ?_ | refine ba_ _ ?_)); refine blk_far ?_ NB188_186.out _; (with_reducible repeat (first | refine bN_ _ ?_ | refine bd_ ?_ | refine ba_ _ ?_)); exact BK188.out) hb); have n3_ := Aside0.mk (below_step bel_ hb); clear BK186; clear BK187; clear BK188; clear HB; have BK186 := n0_; have BK187 := n1_; have BK188 := n2_; have HB := n3_; clear n0_ n1_ n2_ n3_; (try clear hb); (try clear hb2); (try clear hk); (try clear hi); have hcz40_0 : w39.cell? ⟨gb188, 0, none⟩ = some (.bool false) := bc_; have hcz40_1 : w39.cell? ⟨gb188, 1, none⟩ = some (.int .u64 0) := bc_; have hcz40_2 : w39.cell? ⟨gb188, 2, none⟩ = some (.int .u64 0) := bc_; have hfz40_0 := blk_frozen BK188.out 0; have hfz40_1 := blk_frozen BK188.out 1; have hfz40_2 := blk_frozen BK188.out 2))
            refine bodyPost_ret (results_ct rfl _ _ gb188 30 #[.bool t196, .int .u64 t197, .int .u64 t198] (0, 0) _ rfl (by (with_reducible repeat (first | refine bN_ _ ?_ | refine bd_ ?_ | refine ba_ _ ?_)); refine blk_put (cs := #[.bool t196, .int .u64 t197, .int .u64 0]) ?_ 2 _ rfl; (with_reducible repeat (first | refine bN_ _ ?_ | refine bd_ ?_ | refine ba_ _ ?_)); refine blk_put (cs := #[.bool t196, .int .u64 0, .int .u64 0]) ?_ 1 _ rfl; (with_reducible repeat (first | refine bN_ _ ?_ | refine bd_ ?_ | refine ba_ _ ?_)); refine blk_put (cs := #[.bool false, .int .u64 0, .int .u64 0]) ?_ 0 _ rfl; (with_reducible repeat (first | refine bN_ _ ?_ | refine bd_ ?_ | refine ba_ _ ?_)); exact BK188.out) Try.underlying30 rfl (by kernel_rfl)) rfl ?_
            exact ⟨by first | rfl | (simp [errW_none, errW_some] <;> rfl) | (simp [*, errW_none, errW_some] <;> rfl), by repeat (first | (with_reducible first | exact HB.out | apply below_alloc | apply pw_below_drewN | apply below_drew1 | refine below_set ?_ GE186.out | refine below_set ?_ GE187.out | refine below_set ?_ GE188.out) | exact HB.out)⟩
          · rw [if_neg c27] at H
            have c27b0 : decide (t191 < 0) = false := decide_eq_false c27
            clear c27
            replace H := Option.bind_eq_some_iff.mp H
            obtain ⟨⟨t199, t200⟩, A410, H⟩ := H
            replace H : ((bits_Sub64.f a0_1 a1_1 t200).bind fun bt201 => ((impl_wideOf.f a0_0 bt201.1 t199).bind fun bt203 => (some (bt203.1, bt203.2.1, bt203.2.2, true)))) = some (r1, r2, r3, r4) := H
            have A41 := Aside0.mk A410
            clear A410
            replace H := Option.bind_eq_some_iff.mp H
            obtain ⟨⟨t201, t202⟩, A420, H⟩ := H
            replace H : ((impl_wideOf.f a0_0 t201 t199).bind fun bt203 => (some (bt203.1, bt203.2.1, bt203.2.2, true))) = some (r1, r2, r3, r4) := H
            have A42 := Aside0.mk A420
            clear A420
            replace H := Option.bind_eq_some_iff.mp H
            obtain ⟨⟨t203, t204, t205⟩, A430, H⟩ := H
            replace H : (some (t203, t204, t205, true)) = some (r1, r2, r3, r4) := H
            have A43 := Aside0.mk A430
            clear A430
            simp only [Option.some.injEq, Prod.mk.injEq] at H
            obtain ⟨rfl, rfl, rfl, rfl⟩ := H
            have hnb44 := NB186_187.out
            have hnc44 := NB187_186.out
            have hnb45 := NB186_188.out
            have hnc45 := NB188_186.out
            have hcz46_0 : wc.cell? ⟨gb186, 0, none⟩ = some (.bool a0_0) := bc_
            have hcz46_1 : wc.cell? ⟨gb186, 1, none⟩ = some (.int .u64 a0_1) := bc_
            have hcz46_2 : wc.cell? ⟨gb186, 2, none⟩ = some (.int .u64 a0_2) := bc_
            have hfz46_0 := blk_frozen BK186.out 0
            have hfz46_1 := blk_frozen BK186.out 1
            have hfz46_2 := blk_frozen BK186.out 2
            have hnb47 := NB187_188.out
            have hnc47 := NB188_187.out
            have hcz48_0 : wc.cell? ⟨gb187, 0, none⟩ = some (.bool a1_0) := bc_
            have hcz48_1 : wc.cell? ⟨gb187, 1, none⟩ = some (.int .u64 a1_1) := bc_
            have hcz48_2 : wc.cell? ⟨gb187, 2, none⟩ = some (.int .u64 a1_2) := bc_
            have hfz48_0 := blk_frozen BK187.out 0
            have hfz48_1 := blk_frozen BK187.out 1
            have hfz48_2 := blk_frozen BK187.out 2
            go_wp2_with (first | ((with_reducible refine gate_callee (f := 43) rfl ?_); refine goesL_ (some 31) rfl rfl Try.func43 (by kernel_rfl) rfl #[.agg #[.bool a0_0, .int .u64 a0_1, .int .u64 a0_2], .agg #[.bool a1_0, .int .u64 a1_1, .int .u64 a1_2]] rfl mp_ ?_; (with_reducible refine (impl_compareSizes.calls kj2 a0_0 a0_1 a0_2 a1_0 a1_1 a1_2 t191 _ A26.out).mono ?_); rintro e w49 ⟨rfl, hb⟩; refine ⟨_, rfl, ?_⟩; have n0_ := bb_ (g := gb186) (o := .cells #[.bool a0_0, .int .u64 a0_1, .int .u64 a0_2] 30 (0, 0)) hb; have n1_ := bb_ (g := gb187) (o := .cells #[.bool a1_0, .int .u64 a1_1, .int .u64 a1_2] 30 (0, 0)) hb; have n2_ := bb_ (g := gb188) (o := .cells #[.bool false, .int .u64 0, .int .u64 0] 30 (0, 0)) hb; have n3_ := Aside0.mk (below_step bel_ hb); clear BK186; clear BK187; clear BK188; clear HB; have BK186 := n0_; have BK187 := n1_; have BK188 := n2_; have HB := n3_; clear n0_ n1_ n2_ n3_; (try clear hb); (try clear hb2); (try clear hk); (try clear hi); have hcz50_0 : w49.cell? ⟨gb186, 0, none⟩ = some (.bool a0_0) := bc_; have hcz50_1 : w49.cell? ⟨gb186, 1, none⟩ = some (.int .u64 a0_1) := bc_; have hcz50_2 : w49.cell? ⟨gb186, 2, none⟩ = some (.int .u64 a0_2) := bc_; have hfz50_0 := blk_frozen BK186.out 0; have hfz50_1 := blk_frozen BK186.out 1; have hfz50_2 := blk_frozen BK186.out 2; have hcz51_0 : w49.cell? ⟨gb187, 0, none⟩ = some (.bool a1_0) := bc_; have hcz51_1 : w49.cell? ⟨gb187, 1, none⟩ = some (.int .u64 a1_1) := bc_; have hcz51_2 : w49.cell? ⟨gb187, 2, none⟩ = some (.int .u64 a1_2) := bc_; have hfz51_0 := blk_frozen BK187.out 0; have hfz51_1 := blk_frozen BK187.out 1; have hfz51_2 := blk_frozen BK187.out 2) | ((with_reducible refine gate_callee (f := 64) rfl ?_); refine goesX_ (some 40) rfl rfl #[.int .u64 a0_2, .int .u64 a1_2, .int .u64 0] rfl mp_ (bits_Sub64.run a0_2 a1_2 0 t199 t200 _ A41.out) ?_; (try (rw [drewN_self w49]; generalize hq_ : World.drewN w49 _ = w49; have n0_ : Aside0 (w49.heap[gb186]? = some (.cells #[.bool a0_0, .int .u64 a0_1, .int .u64 a0_2] 30 (0, 0))) := ⟨by rw [← hq_]; exact (by (with_reducible repeat (first | refine bN_ _ ?_ | refine bd_ ?_ | refine ba_ _ ?_)); exact BK186.out)⟩; have n1_ : Aside0 (w49.heap[gb187]? = some (.cells #[.bool a1_0, .int .u64 a1_1, .int .u64 a1_2] 30 (0, 0))) := ⟨by rw [← hq_]; exact (by (with_reducible repeat (first | refine bN_ _ ?_ | refine bd_ ?_ | refine ba_ _ ?_)); exact BK187.out)⟩; have n2_ : Aside0 (w49.heap[gb188]? = some (.cells #[.bool false, .int .u64 0, .int .u64 0] 30 (0, 0))) := ⟨by rw [← hq_]; exact (by (with_reducible repeat (first | refine bN_ _ ?_ | refine bd_ ?_ | refine ba_ _ ?_)); exact BK188.out)⟩; have n3_ : Aside0 (Below w.heap.size w w49) := ⟨by rw [← hq_]; exact bel_⟩; clear BK186 BK187 BK188 HB hq_; have BK186 := n0_; have BK187 := n1_; have BK188 := n2_; have HB := n3_; clear n0_ n1_ n2_ n3_))) | ((with_reducible refine gate_callee (f := 64) rfl ?_); refine goesX_ (some 49) rfl rfl #[.int .u64 a0_1, .int .u64 a1_1, .int .u64 t200] rfl mp_ (bits_Sub64.run a0_1 a1_1 t200 t201 t202 _ A42.out) ?_; (try (rw [drewN_self w49]; generalize hq_ : World.drewN w49 _ = w49; have n0_ : Aside0 (w49.heap[gb186]? = some (.cells #[.bool a0_0, .int .u64 a0_1, .int .u64 a0_2] 30 (0, 0))) := ⟨by rw [← hq_]; exact (by (with_reducible repeat (first | refine bN_ _ ?_ | refine bd_ ?_ | refine ba_ _ ?_)); exact BK186.out)⟩; have n1_ : Aside0 (w49.heap[gb187]? = some (.cells #[.bool a1_0, .int .u64 a1_1, .int .u64 a1_2] 30 (0, 0))) := ⟨by rw [← hq_]; exact (by (with_reducible repeat (first | refine bN_ _ ?_ | refine bd_ ?_ | refine ba_ _ ?_)); exact BK187.out)⟩; have n2_ : Aside0 (w49.heap[gb188]? = some (.cells #[.bool false, .int .u64 0, .int .u64 0] 30 (0, 0))) := ⟨by rw [← hq_]; exact (by (with_reducible repeat (first | refine bN_ _ ?_ | refine bd_ ?_ | refine ba_ _ ?_)); exact BK188.out)⟩; have n3_ : Aside0 (Below w.heap.size w w49) := ⟨by rw [← hq_]; exact bel_⟩; clear BK186 BK187 BK188 HB hq_; have BK186 := n0_; have BK187 := n1_; have BK188 := n2_; have HB := n3_; clear n0_ n1_ n2_ n3_))) | ((with_reducible refine gate_callee (f := 42) rfl ?_); refine goesL_ (some 56) rfl rfl Try.func42 (by kernel_rfl) rfl #[.bool a0_0, .int .u64 t201, .int .u64 t199] rfl mp_ ?_; (with_reducible refine (impl_wideOf.calls a0_0 t201 t199 t203 t204 t205 _ A43.out).mono ?_); rintro e w52 ⟨rfl, hb⟩; refine ⟨_, rfl, ?_⟩; have n0_ := bb_ (g := gb186) (o := .cells #[.bool a0_0, .int .u64 a0_1, .int .u64 a0_2] 30 (0, 0)) hb; have n1_ := bb_ (g := gb187) (o := .cells #[.bool a1_0, .int .u64 a1_1, .int .u64 a1_2] 30 (0, 0)) hb; have n2_ := bb_ (g := gb188) (o := .cells #[.bool false, .int .u64 0, .int .u64 0] 30 (0, 0)) hb; have n3_ := Aside0.mk (below_step bel_ hb); clear BK186; clear BK187; clear BK188; clear HB; have BK186 := n0_; have BK187 := n1_; have BK188 := n2_; have HB := n3_; clear n0_ n1_ n2_ n3_; (try clear hb); (try clear hb2); (try clear hk); (try clear hi); have hcz53_0 : w52.cell? ⟨gb188, 0, none⟩ = some (.bool false) := bc_; have hcz53_1 : w52.cell? ⟨gb188, 1, none⟩ = some (.int .u64 0) := bc_; have hcz53_2 : w52.cell? ⟨gb188, 2, none⟩ = some (.int .u64 0) := bc_; have hfz53_0 := blk_frozen BK188.out 0; have hfz53_1 := blk_frozen BK188.out 1; have hfz53_2 := blk_frozen BK188.out 2))
            refine bodyPost_ret (results_ct rfl _ _ gb188 30 #[.bool t203, .int .u64 t204, .int .u64 t205] (0, 0) _ rfl (by (with_reducible repeat (first | refine bN_ _ ?_ | refine bd_ ?_ | refine ba_ _ ?_)); refine blk_put (cs := #[.bool t203, .int .u64 t204, .int .u64 0]) ?_ 2 _ rfl; (with_reducible repeat (first | refine bN_ _ ?_ | refine bd_ ?_ | refine ba_ _ ?_)); refine blk_put (cs := #[.bool t203, .int .u64 0, .int .u64 0]) ?_ 1 _ rfl; (with_reducible repeat (first | refine bN_ _ ?_ | refine bd_ ?_ | refine ba_ _ ?_)); refine blk_put (cs := #[.bool false, .int .u64 0, .int .u64 0]) ?_ 0 _ rfl; (with_reducible repeat (first | refine bN_ _ ?_ | refine bd_ ?_ | refine ba_ _ ?_)); exact BK188.out) Try.underlying30 rfl (by kernel_rfl)) rfl ?_
            exact ⟨by first | rfl | (simp [errW_none, errW_some] <;> rfl) | (simp [*, errW_none, errW_some] <;> rfl), by repeat (first | (with_reducible first | exact HB.out | apply below_alloc | apply pw_below_drewN | apply below_drew1 | refine below_set ?_ GE186.out | refine below_set ?_ GE187.out | refine below_set ?_ GE188.out) | exact HB.out)⟩
        · rw [if_neg c25] at H
          have c25b0 : (a0_0 != a1_0) = false := by simpa using c25
          (try (have c25b1 : decide (a0_0 = a1_0) = true := by simpa using c25))
          (try (have c25b2 : (a0_0 == a1_0) = true := by simpa using c25))
          clear c25
          replace H := Option.bind_eq_some_iff.mp H
          obtain ⟨⟨t206, t207⟩, A540, H⟩ := H
          replace H : ((bits_Add64.f a0_1 a1_1 t207).bind fun bt208 => ((impl_wideOf.f a0_0 bt208.1 t206).bind fun bt210 => ((impl_WideOk.f bt210.1 bt210.2.1 bt210.2.2).bind fun t214 => (if t214 = true then (some (bt210.1, bt210.2.1, bt210.2.2, true)) else (some (false, 0, 0, false)))))) = some (r1, r2, r3, r4) := H
          have A54 := Aside0.mk A540
          clear A540
          replace H := Option.bind_eq_some_iff.mp H
          obtain ⟨⟨t208, t209⟩, A550, H⟩ := H
          replace H : ((impl_wideOf.f a0_0 t208 t206).bind fun bt210 => ((impl_WideOk.f bt210.1 bt210.2.1 bt210.2.2).bind fun t214 => (if t214 = true then (some (bt210.1, bt210.2.1, bt210.2.2, true)) else (some (false, 0, 0, false))))) = some (r1, r2, r3, r4) := H
          have A55 := Aside0.mk A550
          clear A550
          replace H := Option.bind_eq_some_iff.mp H
          obtain ⟨⟨t210, t211, t212⟩, A560, H⟩ := H
          replace H : ((impl_WideOk.f t210 t211 t212).bind fun t214 => (if t214 = true then (some (t210, t211, t212, true)) else (some (false, 0, 0, false)))) = some (r1, r2, r3, r4) := H
          have A56 := Aside0.mk A560
          clear A560
          replace H := Option.bind_eq_some_iff.mp H
          obtain ⟨t214, A570, H⟩ := H
          replace H : (if t214 = true then (some (t210, t211, t212, true)) else (some (false, 0, 0, false))) = some (r1, r2, r3, r4) := H
          have A57 := Aside0.mk A570
          clear A570
          by_cases c58 : t214 = true
          · subst c58
            have H1 : (some (t210, t211, t212, true)) = some (r1, r2, r3, r4) := by rw [if_pos rfl] at H; exact H
            clear H
            have H := H1
            clear H1
            simp only [Option.some.injEq, Prod.mk.injEq] at H
            obtain ⟨rfl, rfl, rfl, rfl⟩ := H
            have hnb59 := NB186_187.out
            have hnc59 := NB187_186.out
            have hnb60 := NB186_188.out
            have hnc60 := NB188_186.out
            have hcz61_0 : wc.cell? ⟨gb186, 0, none⟩ = some (.bool a0_0) := bc_
            have hcz61_1 : wc.cell? ⟨gb186, 1, none⟩ = some (.int .u64 a0_1) := bc_
            have hcz61_2 : wc.cell? ⟨gb186, 2, none⟩ = some (.int .u64 a0_2) := bc_
            have hfz61_0 := blk_frozen BK186.out 0
            have hfz61_1 := blk_frozen BK186.out 1
            have hfz61_2 := blk_frozen BK186.out 2
            have hnb62 := NB187_188.out
            have hnc62 := NB188_187.out
            have hcz63_0 : wc.cell? ⟨gb187, 0, none⟩ = some (.bool a1_0) := bc_
            have hcz63_1 : wc.cell? ⟨gb187, 1, none⟩ = some (.int .u64 a1_1) := bc_
            have hcz63_2 : wc.cell? ⟨gb187, 2, none⟩ = some (.int .u64 a1_2) := bc_
            have hfz63_0 := blk_frozen BK187.out 0
            have hfz63_1 := blk_frozen BK187.out 1
            have hfz63_2 := blk_frozen BK187.out 2
            go_wp2_with (first | ((with_reducible refine gate_callee (f := 65) rfl ?_); refine goesX_ (some 62) rfl rfl #[.int .u64 a0_2, .int .u64 a1_2, .int .u64 0] rfl mp_ (bits_Add64.run a0_2 a1_2 0 t206 t207 _ A54.out) ?_; (try (rw [drewN_self wc]; generalize hq_ : World.drewN wc _ = wc; have n0_ : Aside0 (wc.heap[gb186]? = some (.cells #[.bool a0_0, .int .u64 a0_1, .int .u64 a0_2] 30 (0, 0))) := ⟨by rw [← hq_]; exact (by (with_reducible repeat (first | refine bN_ _ ?_ | refine bd_ ?_ | refine ba_ _ ?_)); exact BK186.out)⟩; have n1_ : Aside0 (wc.heap[gb187]? = some (.cells #[.bool a1_0, .int .u64 a1_1, .int .u64 a1_2] 30 (0, 0))) := ⟨by rw [← hq_]; exact (by (with_reducible repeat (first | refine bN_ _ ?_ | refine bd_ ?_ | refine ba_ _ ?_)); exact BK187.out)⟩; have n2_ : Aside0 (wc.heap[gb188]? = some (.cells #[.bool false, .int .u64 0, .int .u64 0] 30 (0, 0))) := ⟨by rw [← hq_]; exact (by (with_reducible repeat (first | refine bN_ _ ?_ | refine bd_ ?_ | refine ba_ _ ?_)); exact BK188.out)⟩; have n3_ : Aside0 (Below w.heap.size w wc) := ⟨by rw [← hq_]; exact bel_⟩; clear BK186 BK187 BK188 HB hq_; have BK186 := n0_; have BK187 := n1_; have BK188 := n2_; have HB := n3_; clear n0_ n1_ n2_ n3_))) | ((with_reducible refine gate_callee (f := 65) rfl ?_); refine goesX_ (some 71) rfl rfl #[.int .u64 a0_1, .int .u64 a1_1, .int .u64 t207] rfl mp_ (bits_Add64.run a0_1 a1_1 t207 t208 t209 _ A55.out) ?_; (try (rw [drewN_self wc]; generalize hq_ : World.drewN wc _ = wc; have n0_ : Aside0 (wc.heap[gb186]? = some (.cells #[.bool a0_0, .int .u64 a0_1, .int .u64 a0_2] 30 (0, 0))) := ⟨by rw [← hq_]; exact (by (with_reducible repeat (first | refine bN_ _ ?_ | refine bd_ ?_ | refine ba_ _ ?_)); exact BK186.out)⟩; have n1_ : Aside0 (wc.heap[gb187]? = some (.cells #[.bool a1_0, .int .u64 a1_1, .int .u64 a1_2] 30 (0, 0))) := ⟨by rw [← hq_]; exact (by (with_reducible repeat (first | refine bN_ _ ?_ | refine bd_ ?_ | refine ba_ _ ?_)); exact BK187.out)⟩; have n2_ : Aside0 (wc.heap[gb188]? = some (.cells #[.bool false, .int .u64 0, .int .u64 0] 30 (0, 0))) := ⟨by rw [← hq_]; exact (by (with_reducible repeat (first | refine bN_ _ ?_ | refine bd_ ?_ | refine ba_ _ ?_)); exact BK188.out)⟩; have n3_ : Aside0 (Below w.heap.size w wc) := ⟨by rw [← hq_]; exact bel_⟩; clear BK186 BK187 BK188 HB hq_; have BK186 := n0_; have BK187 := n1_; have BK188 := n2_; have HB := n3_; clear n0_ n1_ n2_ n3_))) | ((with_reducible refine gate_callee (f := 42) rfl ?_); refine goesL_ (some 78) rfl rfl Try.func42 (by kernel_rfl) rfl #[.bool a0_0, .int .u64 t208, .int .u64 t206] rfl mp_ ?_; (with_reducible refine (impl_wideOf.calls a0_0 t208 t206 t210 t211 t212 _ A56.out).mono ?_); rintro e w64 ⟨rfl, hb⟩; refine ⟨_, rfl, ?_⟩; have n0_ := bb_ (g := gb186) (o := .cells #[.bool a0_0, .int .u64 a0_1, .int .u64 a0_2] 30 (0, 0)) hb; have n1_ := bb_ (g := gb187) (o := .cells #[.bool a1_0, .int .u64 a1_1, .int .u64 a1_2] 30 (0, 0)) hb; have n2_ := bb_ (g := gb188) (o := .cells #[.bool false, .int .u64 0, .int .u64 0] 30 (0, 0)) hb; have n3_ := Aside0.mk (below_step bel_ hb); clear BK186; clear BK187; clear BK188; clear HB; have BK186 := n0_; have BK187 := n1_; have BK188 := n2_; have HB := n3_; clear n0_ n1_ n2_ n3_; (try clear hb); (try clear hb2); (try clear hk); (try clear hi)) | ((with_reducible refine gate_dst (N := 14) rfl ?_); refine box_event ?hg (N := 14) ?hd (cs := #[.bool false, .int .u64 0, .int .u64 0]) (t := 30) ?hr ?_; (case hd => rfl); (case hg => rfl); (case hr => first | (go_simp; done) | (go_simp; rfl)); intro gb213 hg w65 hbox hb; have n0_ := bb_ (g := gb186) (o := .cells #[.bool a0_0, .int .u64 a0_1, .int .u64 a0_2] 30 (0, 0)) hb; have n1_ := bb_ (g := gb187) (o := .cells #[.bool a1_0, .int .u64 a1_1, .int .u64 a1_2] 30 (0, 0)) hb; have n2_ := bb_ (g := gb188) (o := .cells #[.bool false, .int .u64 0, .int .u64 0] 30 (0, 0)) hb; have n3_ := Aside0.mk (below_step bel_ hb); have n4_ := Aside0.mk (hbox); have n5_ := Aside0.mk ((by rw [hg]; exact (below_size bel_) : w.heap.size ≤ gb213)); have n6_ := Aside0.mk ((by rw [hg]; exact (below_size bel_) : w.heap.size ≤ gb213)); have n7_ := nlt_ (g := gb186) (o := .cells #[.bool a0_0, .int .u64 a0_1, .int .u64 a0_2] 30 (0, 0)) hg; have n8_ := ngt_ (g := gb186) (o := .cells #[.bool a0_0, .int .u64 a0_1, .int .u64 a0_2] 30 (0, 0)) hg; have n9_ := nlt_ (g := gb187) (o := .cells #[.bool a1_0, .int .u64 a1_1, .int .u64 a1_2] 30 (0, 0)) hg; have n10_ := ngt_ (g := gb187) (o := .cells #[.bool a1_0, .int .u64 a1_1, .int .u64 a1_2] 30 (0, 0)) hg; have n11_ := nlt_ (g := gb188) (o := .cells #[.bool false, .int .u64 0, .int .u64 0] 30 (0, 0)) hg; have n12_ := ngt_ (g := gb188) (o := .cells #[.bool false, .int .u64 0, .int .u64 0] 30 (0, 0)) hg; clear BK186; clear BK187; clear BK188; clear HB; have BK186 := n0_; have BK187 := n1_; have BK188 := n2_; have HB := n3_; have BK213 := n4_; have GW213 := n5_; have GE213 := n6_; have NB186_213 := n7_; have NB213_186 := n8_; have NB187_213 := n9_; have NB213_187 := n10_; have NB188_213 := n11_; have NB213_188 := n12_; clear n0_ n1_ n2_ n3_ n4_ n5_ n6_ n7_ n8_ n9_ n10_ n11_ n12_; clear hb hbox hg; have hnb66 := NB213_186.out; have hnc66 := NB186_213.out; have hnb67 := NB213_187.out; have hnc67 := NB187_213.out; have hnb68 := NB213_188.out; have hnc68 := NB188_213.out; have hcz69_0 : w65.cell? ⟨gb213, 0, none⟩ = some (.bool false) := bc_; have hcz69_1 : w65.cell? ⟨gb213, 1, none⟩ = some (.int .u64 0) := bc_; have hcz69_2 : w65.cell? ⟨gb213, 2, none⟩ = some (.int .u64 0) := bc_; have hfz69_0 := blk_frozen BK213.out 0; have hfz69_1 := blk_frozen BK213.out 1; have hfz69_2 := blk_frozen BK213.out 2) | ((with_reducible refine gate_callee (f := 63) rfl ?_); refine goesL_ (some 80) rfl rfl Try.func63 (by kernel_rfl) rfl #[.agg #[.bool t210, .int .u64 t211, .int .u64 t212]] rfl mp_ ?_; (with_reducible refine (impl_WideOk.calls t210 t211 t212 true _ A57.out).mono ?_); rintro e w70 ⟨rfl, hb⟩; refine ⟨_, rfl, ?_⟩; have n0_ := Aside0.mk (blk_below (g := gb186) (o := .cells #[.bool a0_0, .int .u64 a0_1, .int .u64 a0_2] 30 (0, 0)) (by (with_reducible repeat (first | refine bN_ _ ?_ | refine bd_ ?_ | refine ba_ _ ?_)); refine blk_far ?_ NB186_213.out _; (with_reducible repeat (first | refine bN_ _ ?_ | refine bd_ ?_ | refine ba_ _ ?_)); refine blk_far ?_ NB186_213.out _; (with_reducible repeat (first | refine bN_ _ ?_ | refine bd_ ?_ | refine ba_ _ ?_)); refine blk_far ?_ NB186_213.out _; (with_reducible repeat (first | refine bN_ _ ?_ | refine bd_ ?_ | refine ba_ _ ?_)); exact BK186.out) hb); have n1_ := Aside0.mk (blk_below (g := gb187) (o := .cells #[.bool a1_0, .int .u64 a1_1, .int .u64 a1_2] 30 (0, 0)) (by (with_reducible repeat (first | refine bN_ _ ?_ | refine bd_ ?_ | refine ba_ _ ?_)); refine blk_far ?_ NB187_213.out _; (with_reducible repeat (first | refine bN_ _ ?_ | refine bd_ ?_ | refine ba_ _ ?_)); refine blk_far ?_ NB187_213.out _; (with_reducible repeat (first | refine bN_ _ ?_ | refine bd_ ?_ | refine ba_ _ ?_)); refine blk_far ?_ NB187_213.out _; (with_reducible repeat (first | refine bN_ _ ?_ | refine bd_ ?_ | refine ba_ _ ?_)); exact BK187.out) hb); have n2_ := Aside0.mk (blk_below (g := gb188) (o := .cells #[.bool false, .int .u64 0, .int .u64 0] 30 (0, 0)) (by (with_reducible repeat (first | refine bN_ _ ?_ | refine bd_ ?_ | refine ba_ _ ?_)); refine blk_far ?_ NB188_213.out _; (with_reducible repeat (first | refine bN_ _ ?_ | refine bd_ ?_ | refine ba_ _ ?_)); refine blk_far ?_ NB188_213.out _; (with_reducible repeat (first | refine bN_ _ ?_ | refine bd_ ?_ | refine ba_ _ ?_)); refine blk_far ?_ NB188_213.out _; (with_reducible repeat (first | refine bN_ _ ?_ | refine bd_ ?_ | refine ba_ _ ?_)); exact BK188.out) hb); have n3_ := Aside0.mk (blk_below (g := gb213) (o := .cells #[.bool t210, .int .u64 t211, .int .u64 t212] 30 (0, 0)) (by (with_reducible repeat (first | refine bN_ _ ?_ | refine bd_ ?_ | refine ba_ _ ?_)); refine blk_put (cs := #[.bool t210, .int .u64 t211, .int .u64 0]) ?_ 2 _ rfl; (with_reducible repeat (first | refine bN_ _ ?_ | refine bd_ ?_ | refine ba_ _ ?_)); refine blk_put (cs := #[.bool t210, .int .u64 0, .int .u64 0]) ?_ 1 _ rfl; (with_reducible repeat (first | refine bN_ _ ?_ | refine bd_ ?_ | refine ba_ _ ?_)); refine blk_put (cs := #[.bool false, .int .u64 0, .int .u64 0]) ?_ 0 _ rfl; (with_reducible repeat (first | refine bN_ _ ?_ | refine bd_ ?_ | refine ba_ _ ?_)); exact BK213.out) hb); have n4_ := Aside0.mk (below_step bel_ hb); clear BK186; clear BK187; clear BK188; clear BK213; clear HB; have BK186 := n0_; have BK187 := n1_; have BK188 := n2_; have BK213 := n3_; have HB := n4_; clear n0_ n1_ n2_ n3_ n4_; (try clear hb); (try clear hb2); (try clear hk); (try clear hi); have hcz71_0 : w70.cell? ⟨gb213, 0, none⟩ = some (.bool t210) := bc_; have hcz71_1 : w70.cell? ⟨gb213, 1, none⟩ = some (.int .u64 t211) := bc_; have hcz71_2 : w70.cell? ⟨gb213, 2, none⟩ = some (.int .u64 t212) := bc_; have hfz71_0 := blk_frozen BK213.out 0; have hfz71_1 := blk_frozen BK213.out 1; have hfz71_2 := blk_frozen BK213.out 2; have hcz72_0 : w70.cell? ⟨gb188, 0, none⟩ = some (.bool false) := bc_; have hcz72_1 : w70.cell? ⟨gb188, 1, none⟩ = some (.int .u64 0) := bc_; have hcz72_2 : w70.cell? ⟨gb188, 2, none⟩ = some (.int .u64 0) := bc_; have hfz72_0 := blk_frozen BK188.out 0; have hfz72_1 := blk_frozen BK188.out 1; have hfz72_2 := blk_frozen BK188.out 2))
            refine bodyPost_ret (results_ct rfl _ _ gb188 30 #[.bool t210, .int .u64 t211, .int .u64 t212] (0, 0) _ rfl (by (with_reducible repeat (first | refine bN_ _ ?_ | refine bd_ ?_ | refine ba_ _ ?_)); refine blk_put (cs := #[.bool t210, .int .u64 t211, .int .u64 0]) ?_ 2 _ rfl; (with_reducible repeat (first | refine bN_ _ ?_ | refine bd_ ?_ | refine ba_ _ ?_)); refine blk_put (cs := #[.bool t210, .int .u64 0, .int .u64 0]) ?_ 1 _ rfl; (with_reducible repeat (first | refine bN_ _ ?_ | refine bd_ ?_ | refine ba_ _ ?_)); refine blk_put (cs := #[.bool false, .int .u64 0, .int .u64 0]) ?_ 0 _ rfl; (with_reducible repeat (first | refine bN_ _ ?_ | refine bd_ ?_ | refine ba_ _ ?_)); exact BK188.out) Try.underlying30 rfl (by kernel_rfl)) rfl ?_
            exact ⟨by first | rfl | (simp [errW_none, errW_some] <;> rfl) | (simp [*, errW_none, errW_some] <;> rfl), by repeat (first | (with_reducible first | exact HB.out | apply below_alloc | apply pw_below_drewN | apply below_drew1 | refine below_set ?_ GE186.out | refine below_set ?_ GE187.out | refine below_set ?_ GE188.out | refine below_set ?_ GE213.out) | exact HB.out)⟩
          · replace c58 := Bool.eq_false_iff.mpr c58
            subst c58
            have H1 : (some (false, 0, 0, false)) = some (r1, r2, r3, r4) := by rw [if_neg (show ¬ (false = true) by decide)] at H; exact H
            clear H
            have H := H1
            clear H1
            simp only [Option.some.injEq, Prod.mk.injEq] at H
            obtain ⟨rfl, rfl, rfl, rfl⟩ := H
            have hnb73 := NB186_187.out
            have hnc73 := NB187_186.out
            have hnb74 := NB186_188.out
            have hnc74 := NB188_186.out
            have hcz75_0 : wc.cell? ⟨gb186, 0, none⟩ = some (.bool a0_0) := bc_
            have hcz75_1 : wc.cell? ⟨gb186, 1, none⟩ = some (.int .u64 a0_1) := bc_
            have hcz75_2 : wc.cell? ⟨gb186, 2, none⟩ = some (.int .u64 a0_2) := bc_
            have hfz75_0 := blk_frozen BK186.out 0
            have hfz75_1 := blk_frozen BK186.out 1
            have hfz75_2 := blk_frozen BK186.out 2
            have hnb76 := NB187_188.out
            have hnc76 := NB188_187.out
            have hcz77_0 : wc.cell? ⟨gb187, 0, none⟩ = some (.bool a1_0) := bc_
            have hcz77_1 : wc.cell? ⟨gb187, 1, none⟩ = some (.int .u64 a1_1) := bc_
            have hcz77_2 : wc.cell? ⟨gb187, 2, none⟩ = some (.int .u64 a1_2) := bc_
            have hfz77_0 := blk_frozen BK187.out 0
            have hfz77_1 := blk_frozen BK187.out 1
            have hfz77_2 := blk_frozen BK187.out 2
            go_wp2_with (first | ((with_reducible refine gate_callee (f := 65) rfl ?_); refine goesX_ (some 62) rfl rfl #[.int .u64 a0_2, .int .u64 a1_2, .int .u64 0] rfl mp_ (bits_Add64.run a0_2 a1_2 0 t206 t207 _ A54.out) ?_; (try (rw [drewN_self wc]; generalize hq_ : World.drewN wc _ = wc; have n0_ : Aside0 (wc.heap[gb186]? = some (.cells #[.bool a0_0, .int .u64 a0_1, .int .u64 a0_2] 30 (0, 0))) := ⟨by rw [← hq_]; exact (by (with_reducible repeat (first | refine bN_ _ ?_ | refine bd_ ?_ | refine ba_ _ ?_)); exact BK186.out)⟩; have n1_ : Aside0 (wc.heap[gb187]? = some (.cells #[.bool a1_0, .int .u64 a1_1, .int .u64 a1_2] 30 (0, 0))) := ⟨by rw [← hq_]; exact (by (with_reducible repeat (first | refine bN_ _ ?_ | refine bd_ ?_ | refine ba_ _ ?_)); exact BK187.out)⟩; have n2_ : Aside0 (wc.heap[gb188]? = some (.cells #[.bool false, .int .u64 0, .int .u64 0] 30 (0, 0))) := ⟨by rw [← hq_]; exact (by (with_reducible repeat (first | refine bN_ _ ?_ | refine bd_ ?_ | refine ba_ _ ?_)); exact BK188.out)⟩; have n3_ : Aside0 (Below w.heap.size w wc) := ⟨by rw [← hq_]; exact bel_⟩; clear BK186 BK187 BK188 HB hq_; have BK186 := n0_; have BK187 := n1_; have BK188 := n2_; have HB := n3_; clear n0_ n1_ n2_ n3_))) | ((with_reducible refine gate_callee (f := 65) rfl ?_); refine goesX_ (some 71) rfl rfl #[.int .u64 a0_1, .int .u64 a1_1, .int .u64 t207] rfl mp_ (bits_Add64.run a0_1 a1_1 t207 t208 t209 _ A55.out) ?_; (try (rw [drewN_self wc]; generalize hq_ : World.drewN wc _ = wc; have n0_ : Aside0 (wc.heap[gb186]? = some (.cells #[.bool a0_0, .int .u64 a0_1, .int .u64 a0_2] 30 (0, 0))) := ⟨by rw [← hq_]; exact (by (with_reducible repeat (first | refine bN_ _ ?_ | refine bd_ ?_ | refine ba_ _ ?_)); exact BK186.out)⟩; have n1_ : Aside0 (wc.heap[gb187]? = some (.cells #[.bool a1_0, .int .u64 a1_1, .int .u64 a1_2] 30 (0, 0))) := ⟨by rw [← hq_]; exact (by (with_reducible repeat (first | refine bN_ _ ?_ | refine bd_ ?_ | refine ba_ _ ?_)); exact BK187.out)⟩; have n2_ : Aside0 (wc.heap[gb188]? = some (.cells #[.bool false, .int .u64 0, .int .u64 0] 30 (0, 0))) := ⟨by rw [← hq_]; exact (by (with_reducible repeat (first | refine bN_ _ ?_ | refine bd_ ?_ | refine ba_ _ ?_)); exact BK188.out)⟩; have n3_ : Aside0 (Below w.heap.size w wc) := ⟨by rw [← hq_]; exact bel_⟩; clear BK186 BK187 BK188 HB hq_; have BK186 := n0_; have BK187 := n1_; have BK188 := n2_; have HB := n3_; clear n0_ n1_ n2_ n3_))) | ((with_reducible refine gate_callee (f := 42) rfl ?_); refine goesL_ (some 78) rfl rfl Try.func42 (by kernel_rfl) rfl #[.bool a0_0, .int .u64 t208, .int .u64 t206] rfl mp_ ?_; (with_reducible refine (impl_wideOf.calls a0_0 t208 t206 t210 t211 t212 _ A56.out).mono ?_); rintro e w78 ⟨rfl, hb⟩; refine ⟨_, rfl, ?_⟩; have n0_ := bb_ (g := gb186) (o := .cells #[.bool a0_0, .int .u64 a0_1, .int .u64 a0_2] 30 (0, 0)) hb; have n1_ := bb_ (g := gb187) (o := .cells #[.bool a1_0, .int .u64 a1_1, .int .u64 a1_2] 30 (0, 0)) hb; have n2_ := bb_ (g := gb188) (o := .cells #[.bool false, .int .u64 0, .int .u64 0] 30 (0, 0)) hb; have n3_ := Aside0.mk (below_step bel_ hb); clear BK186; clear BK187; clear BK188; clear HB; have BK186 := n0_; have BK187 := n1_; have BK188 := n2_; have HB := n3_; clear n0_ n1_ n2_ n3_; (try clear hb); (try clear hb2); (try clear hk); (try clear hi)) | ((with_reducible refine gate_dst (N := 14) rfl ?_); refine box_event ?hg (N := 14) ?hd (cs := #[.bool false, .int .u64 0, .int .u64 0]) (t := 30) ?hr ?_; (case hd => rfl); (case hg => rfl); (case hr => first | (go_simp; done) | (go_simp; rfl)); intro gb213 hg w79 hbox hb; have n0_ := bb_ (g := gb186) (o := .cells #[.bool a0_0, .int .u64 a0_1, .int .u64 a0_2] 30 (0, 0)) hb; have n1_ := bb_ (g := gb187) (o := .cells #[.bool a1_0, .int .u64 a1_1, .int .u64 a1_2] 30 (0, 0)) hb; have n2_ := bb_ (g := gb188) (o := .cells #[.bool false, .int .u64 0, .int .u64 0] 30 (0, 0)) hb; have n3_ := Aside0.mk (below_step bel_ hb); have n4_ := Aside0.mk (hbox); have n5_ := Aside0.mk ((by rw [hg]; exact (below_size bel_) : w.heap.size ≤ gb213)); have n6_ := Aside0.mk ((by rw [hg]; exact (below_size bel_) : w.heap.size ≤ gb213)); have n7_ := nlt_ (g := gb186) (o := .cells #[.bool a0_0, .int .u64 a0_1, .int .u64 a0_2] 30 (0, 0)) hg; have n8_ := ngt_ (g := gb186) (o := .cells #[.bool a0_0, .int .u64 a0_1, .int .u64 a0_2] 30 (0, 0)) hg; have n9_ := nlt_ (g := gb187) (o := .cells #[.bool a1_0, .int .u64 a1_1, .int .u64 a1_2] 30 (0, 0)) hg; have n10_ := ngt_ (g := gb187) (o := .cells #[.bool a1_0, .int .u64 a1_1, .int .u64 a1_2] 30 (0, 0)) hg; have n11_ := nlt_ (g := gb188) (o := .cells #[.bool false, .int .u64 0, .int .u64 0] 30 (0, 0)) hg; have n12_ := ngt_ (g := gb188) (o := .cells #[.bool false, .int .u64 0, .int .u64 0] 30 (0, 0)) hg; clear BK186; clear BK187; clear BK188; clear HB; have BK186 := n0_; have BK187 := n1_; have BK188 := n2_; have HB := n3_; have BK213 := n4_; have GW213 := n5_; have GE213 := n6_; have NB186_213 := n7_; have NB213_186 := n8_; have NB187_213 := n9_; have NB213_187 := n10_; have NB188_213 := n11_; have NB213_188 := n12_; clear n0_ n1_ n2_ n3_ n4_ n5_ n6_ n7_ n8_ n9_ n10_ n11_ n12_; clear hb hbox hg; have hnb80 := NB213_186.out; have hnc80 := NB186_213.out; have hnb81 := NB213_187.out; have hnc81 := NB187_213.out; have hnb82 := NB213_188.out; have hnc82 := NB188_213.out; have hcz83_0 : w79.cell? ⟨gb213, 0, none⟩ = some (.bool false) := bc_; have hcz83_1 : w79.cell? ⟨gb213, 1, none⟩ = some (.int .u64 0) := bc_; have hcz83_2 : w79.cell? ⟨gb213, 2, none⟩ = some (.int .u64 0) := bc_; have hfz83_0 := blk_frozen BK213.out 0; have hfz83_1 := blk_frozen BK213.out 1; have hfz83_2 := blk_frozen BK213.out 2) | ((with_reducible refine gate_callee (f := 63) rfl ?_); refine goesL_ (some 80) rfl rfl Try.func63 (by kernel_rfl) rfl #[.agg #[.bool t210, .int .u64 t211, .int .u64 t212]] rfl mp_ ?_; (with_reducible refine (impl_WideOk.calls t210 t211 t212 false _ A57.out).mono ?_); rintro e w84 ⟨rfl, hb⟩; refine ⟨_, rfl, ?_⟩; have n0_ := Aside0.mk (blk_below (g := gb186) (o := .cells #[.bool a0_0, .int .u64 a0_1, .int .u64 a0_2] 30 (0, 0)) (by (with_reducible repeat (first | refine bN_ _ ?_ | refine bd_ ?_ | refine ba_ _ ?_)); refine blk_far ?_ NB186_213.out _; (with_reducible repeat (first | refine bN_ _ ?_ | refine bd_ ?_ | refine ba_ _ ?_)); refine blk_far ?_ NB186_213.out _; (with_reducible repeat (first | refine bN_ _ ?_ | refine bd_ ?_ | refine ba_ _ ?_)); refine blk_far ?_ NB186_213.out _; (with_reducible repeat (first | refine bN_ _ ?_ | refine bd_ ?_ | refine ba_ _ ?_)); exact BK186.out) hb); have n1_ := Aside0.mk (blk_below (g := gb187) (o := .cells #[.bool a1_0, .int .u64 a1_1, .int .u64 a1_2] 30 (0, 0)) (by (with_reducible repeat (first | refine bN_ _ ?_ | refine bd_ ?_ | refine ba_ _ ?_)); refine blk_far ?_ NB187_213.out _; (with_reducible repeat (first | refine bN_ _ ?_ | refine bd_ ?_ | refine ba_ _ ?_)); refine blk_far ?_ NB187_213.out _; (with_reducible repeat (first | refine bN_ _ ?_ | refine bd_ ?_ | refine ba_ _ ?_)); refine blk_far ?_ NB187_213.out _; (with_reducible repeat (first | refine bN_ _ ?_ | refine bd_ ?_ | refine ba_ _ ?_)); exact BK187.out) hb); have n2_ := Aside0.mk (blk_below (g := gb188) (o := .cells #[.bool false, .int .u64 0, .int .u64 0] 30 (0, 0)) (by (with_reducible repeat (first | refine bN_ _ ?_ | refine bd_ ?_ | refine ba_ _ ?_)); refine blk_far ?_ NB188_213.out _; (with_reducible repeat (first | refine bN_ _ ?_ | refine bd_ ?_ | refine ba_ _ ?_)); refine blk_far ?_ NB188_213.out _; (with_reducible repeat (first | refine bN_ _ ?_ | refine bd_ ?_ | refine ba_ _ ?_)); refine blk_far ?_ NB188_213.out _; (with_reducible repeat (first | refine bN_ _ ?_ | refine bd_ ?_ | refine ba_ _ ?_)); exact BK188.out) hb); have n3_ := Aside0.mk (blk_below (g := gb213) (o := .cells #[.bool t210, .int .u64 t211, .int .u64 t212] 30 (0, 0)) (by (with_reducible repeat (first | refine bN_ _ ?_ | refine bd_ ?_ | refine ba_ _ ?_)); refine blk_put (cs := #[.bool t210, .int .u64 t211, .int .u64 0]) ?_ 2 _ rfl; (with_reducible repeat (first | refine bN_ _ ?_ | refine bd_ ?_ | refine ba_ _ ?_)); refine blk_put (cs := #[.bool t210, .int .u64 0, .int .u64 0]) ?_ 1 _ rfl; (with_reducible repeat (first | refine bN_ _ ?_ | refine bd_ ?_ | refine ba_ _ ?_)); refine blk_put (cs := #[.bool false, .int .u64 0, .int .u64 0]) ?_ 0 _ rfl; (with_reducible repeat (first | refine bN_ _ ?_ | refine bd_ ?_ | refine ba_ _ ?_)); exact BK213.out) hb); have n4_ := Aside0.mk (below_step bel_ hb); clear BK186; clear BK187; clear BK188; clear BK213; clear HB; have BK186 := n0_; have BK187 := n1_; have BK188 := n2_; have BK213 := n3_; have HB := n4_; clear n0_ n1_ n2_ n3_ n4_; (try clear hb); (try clear hb2); (try clear hk); (try clear hi); have hcz85_0 : w84.cell? ⟨gb188, 0, none⟩ = some (.bool false) := bc_; have hcz85_1 : w84.cell? ⟨gb188, 1, none⟩ = some (.int .u64 0) := bc_; have hcz85_2 : w84.cell? ⟨gb188, 2, none⟩ = some (.int .u64 0) := bc_; have hfz85_0 := blk_frozen BK188.out 0; have hfz85_1 := blk_frozen BK188.out 1; have hfz85_2 := blk_frozen BK188.out 2))
            refine bodyPost_ret (results_ct rfl _ _ gb188 30 #[.bool false, .int .u64 0, .int .u64 0] (0, 0) _ rfl (by (with_reducible repeat (first | refine bN_ _ ?_ | refine bd_ ?_ | refine ba_ _ ?_)); refine blk_put (cs := #[.bool false, .int .u64 0, .int .u64 0]) ?_ 2 _ rfl; (with_reducible repeat (first | refine bN_ _ ?_ | refine bd_ ?_ | refine ba_ _ ?_)); refine blk_put (cs := #[.bool false, .int .u64 0, .int .u64 0]) ?_ 1 _ rfl; (with_reducible repeat (first | refine bN_ _ ?_ | refine bd_ ?_ | refine ba_ _ ?_)); refine blk_put (cs := #[.bool false, .int .u64 0, .int .u64 0]) ?_ 0 _ rfl; (with_reducible repeat (first | refine bN_ _ ?_ | refine bd_ ?_ | refine ba_ _ ?_)); exact BK188.out) Try.underlying30 rfl (by kernel_rfl)) rfl ?_
            exact ⟨by first | rfl | (simp [errW_none, errW_some] <;> rfl) | (simp [*, errW_none, errW_some] <;> rfl), by repeat (first | (with_reducible first | exact HB.out | apply below_alloc | apply pw_below_drewN | apply below_drew1 | refine below_set ?_ GE186.out | refine below_set ?_ GE187.out | refine below_set ?_ GE188.out | refine below_set ?_ GE213.out) | exact HB.out)⟩

/-! ### impl_NegWide: function 39 -/
def impl_NegWide.f (a0_0 : Bool) (a0_1 : Int) (a0_2 : Int) : Option (Bool × Int × Int) := (impl_WideOk.f a0_0 a0_1 a0_2).bind fun t217 => (if t217 = true then ((impl_wideOf.f (!a0_0) a0_1 a0_2).bind fun bt218 => (some (bt218.1, bt218.2.1, bt218.2.2))) else (some (a0_0, a0_1, a0_2)))
set_option maxHeartbeats 8000000 in
set_option maxRecDepth 100000 in
theorem impl_NegWide.calls (a0_0 : Bool) (a0_1 : Int) (a0_2 : Int) (r1 : Bool) (r2 : Int) (r3 : Int) (w : World) (h : impl_NegWide.f a0_0 a0_1 a0_2 = some (r1, r2, r3)) :
    Calls Try.prog 39 #[.agg #[.bool a0_0, .int .u64 a0_1, .int .u64 a0_2]] w fun e w' => e = .returned (.agg #[.bool r1, .int .u64 r2, .int .u64 r3]) ∧ Below w.heap.size w w' := by
  have hu30 := Try.underlying30
  have HB := Aside0.mk (Below.refl w.heap.size w)
  have H : ((impl_WideOk.f a0_0 a0_1 a0_2).bind fun t217 => (if t217 = true then ((impl_wideOf.f (!a0_0) a0_1 a0_2).bind fun bt218 => (some (bt218.1, bt218.2.1, bt218.2.2))) else (some (a0_0, a0_1, a0_2)))) = some (r1, r2, r3) := h
  clear h
  replace H := Option.bind_eq_some_iff.mp H
  obtain ⟨t217, A20, H⟩ := H
  replace H : (if t217 = true then ((impl_wideOf.f (!a0_0) a0_1 a0_2).bind fun bt218 => (some (bt218.1, bt218.2.1, bt218.2.2))) else (some (a0_0, a0_1, a0_2))) = some (r1, r2, r3) := H
  have A2 := Aside0.mk A20
  clear A20
  by_cases c3 : t217 = true
  · subst c3
    have H1 : ((impl_wideOf.f (!a0_0) a0_1 a0_2).bind fun bt218 => (some (bt218.1, bt218.2.1, bt218.2.2))) = some (r1, r2, r3) := by rw [if_pos rfl] at H; exact H
    clear H
    have H := H1
    clear H1
    replace H := Option.bind_eq_some_iff.mp H
    obtain ⟨⟨t218, t219, t220⟩, A40, H⟩ := H
    replace H : (some (t218, t219, t220)) = some (r1, r2, r3) := H
    have A4 := Aside0.mk A40
    clear A40
    simp only [Option.some.injEq, Prod.mk.injEq] at H
    obtain ⟨rfl, rfl, rfl⟩ := H
    go_enter Try.func39, Try.ntmps39
    go_wp2_with (first | ((with_reducible refine gate_dst (N := 1) rfl ?_); refine box_event ?hg (N := 1) ?hd (cs := #[.bool a0_0, .int .u64 a0_1, .int .u64 a0_2]) (t := 30) ?hr ?_; (case hd => rfl); (case hg => rfl); (case hr => first | (go_simp; done) | (go_simp; rfl)); intro gb215 hg w5 hbox hb; have n0_ := Aside0.mk (below_step bel_ hb); have n1_ := Aside0.mk (hbox); have n2_ := Aside0.mk ((by rw [hg]; exact (below_size bel_) : w.heap.size ≤ gb215)); have n3_ := Aside0.mk ((by rw [hg]; exact (below_size bel_) : w.heap.size ≤ gb215)); clear HB; have HB := n0_; have BK215 := n1_; have GW215 := n2_; have GE215 := n3_; clear n0_ n1_ n2_ n3_; clear hb hbox hg) | ((with_reducible refine gate_dst (N := 2) rfl ?_); refine box_event ?hg (N := 2) ?hd (cs := #[.bool false, .int .u64 0, .int .u64 0]) (t := 30) ?hr ?_; (case hd => rfl); (case hg => rfl); (case hr => first | (go_simp; done) | (go_simp; rfl)); intro gb216 hg w6 hbox hb; have n0_ := bb_ (g := gb215) (o := .cells #[.bool a0_0, .int .u64 a0_1, .int .u64 a0_2] 30 (0, 0)) hb; have n1_ := Aside0.mk (below_step bel_ hb); have n2_ := Aside0.mk (hbox); have n3_ := Aside0.mk ((by rw [hg]; exact (below_size bel_) : w.heap.size ≤ gb216)); have n4_ := Aside0.mk ((by rw [hg]; exact (below_size bel_) : w.heap.size ≤ gb216)); have n5_ := nlt_ (g := gb215) (o := .cells #[.bool a0_0, .int .u64 a0_1, .int .u64 a0_2] 30 (0, 0)) hg; have n6_ := ngt_ (g := gb215) (o := .cells #[.bool a0_0, .int .u64 a0_1, .int .u64 a0_2] 30 (0, 0)) hg; clear BK215; clear HB; have BK215 := n0_; have HB := n1_; have BK216 := n2_; have GW216 := n3_; have GE216 := n4_; have NB215_216 := n5_; have NB216_215 := n6_; clear n0_ n1_ n2_ n3_ n4_ n5_ n6_; clear hb hbox hg; have hnb7 := NB215_216.out; have hnc7 := NB216_215.out; have hcz8_0 : w6.cell? ⟨gb215, 0, none⟩ = some (.bool a0_0) := bc_; have hcz8_1 : w6.cell? ⟨gb215, 1, none⟩ = some (.int .u64 a0_1) := bc_; have hcz8_2 : w6.cell? ⟨gb215, 2, none⟩ = some (.int .u64 a0_2) := bc_; have hfz8_0 := blk_frozen BK215.out 0; have hfz8_1 := blk_frozen BK215.out 1; have hfz8_2 := blk_frozen BK215.out 2) | ((with_reducible refine gate_callee (f := 63) rfl ?_); refine goesL_ (some 4) rfl rfl Try.func63 (by kernel_rfl) rfl #[.agg #[.bool a0_0, .int .u64 a0_1, .int .u64 a0_2]] rfl mp_ ?_; (with_reducible refine (impl_WideOk.calls a0_0 a0_1 a0_2 true _ A2.out).mono ?_); rintro e w9 ⟨rfl, hb⟩; refine ⟨_, rfl, ?_⟩; have n0_ := bb_ (g := gb215) (o := .cells #[.bool a0_0, .int .u64 a0_1, .int .u64 a0_2] 30 (0, 0)) hb; have n1_ := bb_ (g := gb216) (o := .cells #[.bool false, .int .u64 0, .int .u64 0] 30 (0, 0)) hb; have n2_ := Aside0.mk (below_step bel_ hb); clear BK215; clear BK216; clear HB; have BK215 := n0_; have BK216 := n1_; have HB := n2_; clear n0_ n1_ n2_; (try clear hb); (try clear hb2); (try clear hk); (try clear hi); have hcz10_0 : w9.cell? ⟨gb215, 0, none⟩ = some (.bool a0_0) := bc_; have hcz10_1 : w9.cell? ⟨gb215, 1, none⟩ = some (.int .u64 a0_1) := bc_; have hcz10_2 : w9.cell? ⟨gb215, 2, none⟩ = some (.int .u64 a0_2) := bc_; have hfz10_0 := blk_frozen BK215.out 0; have hfz10_1 := blk_frozen BK215.out 1; have hfz10_2 := blk_frozen BK215.out 2) | ((with_reducible refine gate_callee (f := 42) rfl ?_); refine goesL_ (some 14) rfl rfl Try.func42 (by kernel_rfl) rfl #[.bool (!a0_0), .int .u64 a0_1, .int .u64 a0_2] rfl mp_ ?_; (with_reducible refine (impl_wideOf.calls (!a0_0) a0_1 a0_2 t218 t219 t220 _ A4.out).mono ?_); rintro e w11 ⟨rfl, hb⟩; refine ⟨_, rfl, ?_⟩; have n0_ := bb_ (g := gb215) (o := .cells #[.bool a0_0, .int .u64 a0_1, .int .u64 a0_2] 30 (0, 0)) hb; have n1_ := bb_ (g := gb216) (o := .cells #[.bool false, .int .u64 0, .int .u64 0] 30 (0, 0)) hb; have n2_ := Aside0.mk (below_step bel_ hb); clear BK215; clear BK216; clear HB; have BK215 := n0_; have BK216 := n1_; have HB := n2_; clear n0_ n1_ n2_; (try clear hb); (try clear hb2); (try clear hk); (try clear hi); have hcz12_0 : w11.cell? ⟨gb216, 0, none⟩ = some (.bool false) := bc_; have hcz12_1 : w11.cell? ⟨gb216, 1, none⟩ = some (.int .u64 0) := bc_; have hcz12_2 : w11.cell? ⟨gb216, 2, none⟩ = some (.int .u64 0) := bc_; have hfz12_0 := blk_frozen BK216.out 0; have hfz12_1 := blk_frozen BK216.out 1; have hfz12_2 := blk_frozen BK216.out 2))
    refine bodyPost_ret (results_cell_row rfl _ _ gb216 30 #[.bool t218, .int .u64 t219, .int .u64 t220] (0, 0) _ rfl (by (with_reducible repeat (first | refine bN_ _ ?_ | refine bd_ ?_ | refine ba_ _ ?_)); refine blk_put (cs := #[.bool t218, .int .u64 t219, .int .u64 0]) ?_ 2 _ rfl; (with_reducible repeat (first | refine bN_ _ ?_ | refine bd_ ?_ | refine ba_ _ ?_)); refine blk_put (cs := #[.bool t218, .int .u64 0, .int .u64 0]) ?_ 1 _ rfl; (with_reducible repeat (first | refine bN_ _ ?_ | refine bd_ ?_ | refine ba_ _ ?_)); refine blk_put (cs := #[.bool false, .int .u64 0, .int .u64 0]) ?_ 0 _ rfl; (with_reducible repeat (first | refine bN_ _ ?_ | refine bd_ ?_ | refine ba_ _ ?_)); exact BK216.out) Try.underlying30 rfl (by kernel_rfl)) rfl ?_
    exact ⟨by first | rfl | (simp [errW_none, errW_some] <;> rfl) | (simp [*, errW_none, errW_some] <;> rfl), by repeat (first | (with_reducible first | exact HB.out | apply below_alloc | apply pw_below_drewN | apply below_drew1 | refine below_set ?_ GE215.out | refine below_set ?_ GE216.out) | exact HB.out)⟩
  · replace c3 := Bool.eq_false_iff.mpr c3
    subst c3
    have H1 : (some (a0_0, a0_1, a0_2)) = some (r1, r2, r3) := by rw [if_neg (show ¬ (false = true) by decide)] at H; exact H
    clear H
    have H := H1
    clear H1
    simp only [Option.some.injEq, Prod.mk.injEq] at H
    obtain ⟨rfl, rfl, rfl⟩ := H
    go_enter Try.func39, Try.ntmps39
    go_wp2_with (first | ((with_reducible refine gate_dst (N := 1) rfl ?_); refine box_event ?hg (N := 1) ?hd (cs := #[.bool a0_0, .int .u64 a0_1, .int .u64 a0_2]) (t := 30) ?hr ?_; (case hd => rfl); (case hg => rfl); (case hr => first | (go_simp; done) | (go_simp; rfl)); intro gb215 hg w13 hbox hb; have n0_ := Aside0.mk (below_step bel_ hb); have n1_ := Aside0.mk (hbox); have n2_ := Aside0.mk ((by rw [hg]; exact (below_size bel_) : w.heap.size ≤ gb215)); have n3_ := Aside0.mk ((by rw [hg]; exact (below_size bel_) : w.heap.size ≤ gb215)); clear HB; have HB := n0_; have BK215 := n1_; have GW215 := n2_; have GE215 := n3_; clear n0_ n1_ n2_ n3_; clear hb hbox hg) | ((with_reducible refine gate_dst (N := 2) rfl ?_); refine box_event ?hg (N := 2) ?hd (cs := #[.bool false, .int .u64 0, .int .u64 0]) (t := 30) ?hr ?_; (case hd => rfl); (case hg => rfl); (case hr => first | (go_simp; done) | (go_simp; rfl)); intro gb216 hg w14 hbox hb; have n0_ := bb_ (g := gb215) (o := .cells #[.bool a0_0, .int .u64 a0_1, .int .u64 a0_2] 30 (0, 0)) hb; have n1_ := Aside0.mk (below_step bel_ hb); have n2_ := Aside0.mk (hbox); have n3_ := Aside0.mk ((by rw [hg]; exact (below_size bel_) : w.heap.size ≤ gb216)); have n4_ := Aside0.mk ((by rw [hg]; exact (below_size bel_) : w.heap.size ≤ gb216)); have n5_ := nlt_ (g := gb215) (o := .cells #[.bool a0_0, .int .u64 a0_1, .int .u64 a0_2] 30 (0, 0)) hg; have n6_ := ngt_ (g := gb215) (o := .cells #[.bool a0_0, .int .u64 a0_1, .int .u64 a0_2] 30 (0, 0)) hg; clear BK215; clear HB; have BK215 := n0_; have HB := n1_; have BK216 := n2_; have GW216 := n3_; have GE216 := n4_; have NB215_216 := n5_; have NB216_215 := n6_; clear n0_ n1_ n2_ n3_ n4_ n5_ n6_; clear hb hbox hg; have hnb15 := NB215_216.out; have hnc15 := NB216_215.out; have hcz16_0 : w14.cell? ⟨gb215, 0, none⟩ = some (.bool a0_0) := bc_; have hcz16_1 : w14.cell? ⟨gb215, 1, none⟩ = some (.int .u64 a0_1) := bc_; have hcz16_2 : w14.cell? ⟨gb215, 2, none⟩ = some (.int .u64 a0_2) := bc_; have hfz16_0 := blk_frozen BK215.out 0; have hfz16_1 := blk_frozen BK215.out 1; have hfz16_2 := blk_frozen BK215.out 2) | ((with_reducible refine gate_callee (f := 63) rfl ?_); refine goesL_ (some 4) rfl rfl Try.func63 (by kernel_rfl) rfl #[.agg #[.bool a0_0, .int .u64 a0_1, .int .u64 a0_2]] rfl mp_ ?_; (with_reducible refine (impl_WideOk.calls a0_0 a0_1 a0_2 false _ A2.out).mono ?_); rintro e w17 ⟨rfl, hb⟩; refine ⟨_, rfl, ?_⟩; have n0_ := bb_ (g := gb215) (o := .cells #[.bool a0_0, .int .u64 a0_1, .int .u64 a0_2] 30 (0, 0)) hb; have n1_ := bb_ (g := gb216) (o := .cells #[.bool false, .int .u64 0, .int .u64 0] 30 (0, 0)) hb; have n2_ := Aside0.mk (below_step bel_ hb); clear BK215; clear BK216; clear HB; have BK215 := n0_; have BK216 := n1_; have HB := n2_; clear n0_ n1_ n2_; (try clear hb); (try clear hb2); (try clear hk); (try clear hi); have hcz18_0 : w17.cell? ⟨gb215, 0, none⟩ = some (.bool a0_0) := bc_; have hcz18_1 : w17.cell? ⟨gb215, 1, none⟩ = some (.int .u64 a0_1) := bc_; have hcz18_2 : w17.cell? ⟨gb215, 2, none⟩ = some (.int .u64 a0_2) := bc_; have hfz18_0 := blk_frozen BK215.out 0; have hfz18_1 := blk_frozen BK215.out 1; have hfz18_2 := blk_frozen BK215.out 2; have hcz19_0 : w17.cell? ⟨gb216, 0, none⟩ = some (.bool false) := bc_; have hcz19_1 : w17.cell? ⟨gb216, 1, none⟩ = some (.int .u64 0) := bc_; have hcz19_2 : w17.cell? ⟨gb216, 2, none⟩ = some (.int .u64 0) := bc_; have hfz19_0 := blk_frozen BK216.out 0; have hfz19_1 := blk_frozen BK216.out 1; have hfz19_2 := blk_frozen BK216.out 2))
    refine bodyPost_ret (results_cell_row rfl _ _ gb216 30 #[.bool a0_0, .int .u64 a0_1, .int .u64 a0_2] (0, 0) _ rfl (by (with_reducible repeat (first | refine bN_ _ ?_ | refine bd_ ?_ | refine ba_ _ ?_)); refine blk_put (cs := #[.bool a0_0, .int .u64 a0_1, .int .u64 0]) ?_ 2 _ rfl; (with_reducible repeat (first | refine bN_ _ ?_ | refine bd_ ?_ | refine ba_ _ ?_)); refine blk_put (cs := #[.bool a0_0, .int .u64 0, .int .u64 0]) ?_ 1 _ rfl; (with_reducible repeat (first | refine bN_ _ ?_ | refine bd_ ?_ | refine ba_ _ ?_)); refine blk_put (cs := #[.bool false, .int .u64 0, .int .u64 0]) ?_ 0 _ rfl; (with_reducible repeat (first | refine bN_ _ ?_ | refine bd_ ?_ | refine ba_ _ ?_)); exact BK216.out) Try.underlying30 rfl (by kernel_rfl)) rfl ?_
    exact ⟨by first | rfl | (simp [errW_none, errW_some] <;> rfl) | (simp [*, errW_none, errW_some] <;> rfl), by repeat (first | (with_reducible first | exact HB.out | apply below_alloc | apply pw_below_drewN | apply below_drew1 | refine below_set ?_ GE215.out | refine below_set ?_ GE216.out) | exact HB.out)⟩

/-! ### impl_SubWide: function 14 -/
def impl_SubWide.f (k : Nat) (a0_0 : Bool) (a0_1 : Int) (a0_2 : Int) (a1_0 : Bool) (a1_1 : Int) (a1_2 : Int) : Option (Bool × Int × Int × Bool) := (impl_NegWide.f a1_0 a1_1 a1_2).bind fun bt224 => ((impl_AddWide.f k a0_0 a0_1 a0_2 bt224.1 bt224.2.1 bt224.2.2).bind fun bt227 => (some (bt227.1, bt227.2.1, bt227.2.2.1, bt227.2.2.2)))
theorem impl_SubWide.mono : ∀ a0 a1 a2 a3 a4 a5 k, LeO (impl_SubWide.f k a0 a1 a2 a3 a4 a5) (impl_SubWide.f (k + 1) a0 a1 a2 a3 a4 a5) := by
  intro a0 a1 a2 a3 a4 a5 k
  unfold impl_SubWide.f
  repeat' first
      | (with_reducible exact impl_AddWide.mono _ _ _ _ _ _ _)
      | (with_reducible exact LeO.refl _)
      | (with_reducible exact LeO.none _)
      | (with_reducible refine LeO.ite ?_ ?_)
      | (with_reducible refine LeO.bind ?_ (fun _ => ?_))
      | exact impl_AddWide.mono _ _ _ _ _ _ _
      | exact LeO.none _
      | refine LeO.ite ?_ ?_
      | refine LeO.bind ?_ (fun _ => ?_)
def impl_SubWide.T1 : Bool × List (List Nat × List Nat) := (true, [([], []), ([], []), ([1], [1]), ([0, 2, 2], [0, 2]), ([3], [3]), ([3], [3]), ([4, 3, 0, 1, 2, 3, 4, 5], [4]), ([5, 6, 0, 1, 2, 3, 4, 5, 6], [5])])
def impl_SubWide.B1 : List Nat := [0, 0, 2, 7, 15, 15, 63, 127]
theorem impl_SubWide.tab1 : rtab .any (opsOf Try.f14 1) = impl_SubWide.T1 := by kernel_rfl
theorem impl_SubWide.bits1 : waitsOk impl_SubWide.T1.2 impl_SubWide.B1 = true := by kernel_rfl
set_option maxHeartbeats 8000000 in
set_option maxRecDepth 100000 in
theorem impl_SubWide.calls (k : Nat) (a0_0 : Bool) (a0_1 : Int) (a0_2 : Int) (a1_0 : Bool) (a1_1 : Int) (a1_2 : Int) (r1 : Bool) (r2 : Int) (r3 : Int) (r4 : Bool) (w : World) (h : impl_SubWide.f k a0_0 a0_1 a0_2 a1_0 a1_1 a1_2 = some (r1, r2, r3, r4)) :
    Calls Try.prog 14 #[.agg #[.bool a0_0, .int .u64 a0_1, .int .u64 a0_2], .agg #[.bool a1_0, .int .u64 a1_1, .int .u64 a1_2]] w fun e w' => e = .returned (.tuple #[.agg #[.bool r1, .int .u64 r2, .int .u64 r3], .bool r4]) ∧ Below w.heap.size w w' := by
  have hu30 := Try.underlying30
  have HB := Aside0.mk (Below.refl w.heap.size w)
  have H : ((impl_NegWide.f a1_0 a1_1 a1_2).bind fun bt224 => ((impl_AddWide.f k a0_0 a0_1 a0_2 bt224.1 bt224.2.1 bt224.2.2).bind fun bt227 => (some (bt227.1, bt227.2.1, bt227.2.2.1, bt227.2.2.2)))) = some (r1, r2, r3, r4) := h
  clear h
  replace H := Option.bind_eq_some_iff.mp H
  obtain ⟨⟨t224, t225, t226⟩, A30, H⟩ := H
  replace H : ((impl_AddWide.f k a0_0 a0_1 a0_2 t224 t225 t226).bind fun bt227 => (some (bt227.1, bt227.2.1, bt227.2.2.1, bt227.2.2.2))) = some (r1, r2, r3, r4) := H
  have A3 := Aside0.mk A30
  clear A30
  replace H := Option.bind_eq_some_iff.mp H
  obtain ⟨⟨t227, t228, t229, t230⟩, A40, H⟩ := H
  replace H : (some (t227, t228, t229, t230)) = some (r1, r2, r3, r4) := H
  have A4 := Aside0.mk A40
  clear A40
  simp only [Option.some.injEq, Prod.mk.injEq] at H
  obtain ⟨rfl, rfl, rfl, rfl⟩ := H
  go_enter Try.func14, Try.ntmps14
  try go_wp2_with (first | ((with_reducible refine gate_dst (N := 2) rfl ?_); refine box_event ?hg (N := 2) ?hd (cs := #[.bool a0_0, .int .u64 a0_1, .int .u64 a0_2]) (t := 30) ?hr ?_; (case hd => rfl); (case hg => rfl); (case hr => first | (go_simp; done) | (go_simp; rfl)); intro gb221 hg w5 hbox hb; have n0_ := Aside0.mk (below_step bel_ hb); have n1_ := Aside0.mk (hbox); have n2_ := Aside0.mk ((by rw [hg]; exact (below_size bel_) : w.heap.size ≤ gb221)); have n3_ := Aside0.mk ((by rw [hg]; exact (below_size bel_) : w.heap.size ≤ gb221)); clear HB; have HB := n0_; have BK221 := n1_; have GW221 := n2_; have GE221 := n3_; clear n0_ n1_ n2_ n3_; clear hb hbox hg) | ((with_reducible refine gate_dst (N := 3) rfl ?_); refine box_event ?hg (N := 3) ?hd (cs := #[.bool a1_0, .int .u64 a1_1, .int .u64 a1_2]) (t := 30) ?hr ?_; (case hd => rfl); (case hg => rfl); (case hr => first | (go_simp; done) | (go_simp; rfl)); intro gb222 hg w6 hbox hb; have n0_ := bb_ (g := gb221) (o := .cells #[.bool a0_0, .int .u64 a0_1, .int .u64 a0_2] 30 (0, 0)) hb; have n1_ := Aside0.mk (below_step bel_ hb); have n2_ := Aside0.mk (hbox); have n3_ := Aside0.mk ((by rw [hg]; exact (below_size bel_) : w.heap.size ≤ gb222)); have n4_ := Aside0.mk ((by rw [hg]; exact (below_size bel_) : w.heap.size ≤ gb222)); have n5_ := nlt_ (g := gb221) (o := .cells #[.bool a0_0, .int .u64 a0_1, .int .u64 a0_2] 30 (0, 0)) hg; have n6_ := ngt_ (g := gb221) (o := .cells #[.bool a0_0, .int .u64 a0_1, .int .u64 a0_2] 30 (0, 0)) hg; clear BK221; clear HB; have BK221 := n0_; have HB := n1_; have BK222 := n2_; have GW222 := n3_; have GE222 := n4_; have NB221_222 := n5_; have NB222_221 := n6_; clear n0_ n1_ n2_ n3_ n4_ n5_ n6_; clear hb hbox hg) | ((with_reducible refine gate_dst (N := 4) rfl ?_); refine box_event ?hg (N := 4) ?hd (cs := #[.bool false, .int .u64 0, .int .u64 0]) (t := 30) ?hr ?_; (case hd => rfl); (case hg => rfl); (case hr => first | (go_simp; done) | (go_simp; rfl)); intro gb223 hg w7 hbox hb; have n0_ := bb_ (g := gb221) (o := .cells #[.bool a0_0, .int .u64 a0_1, .int .u64 a0_2] 30 (0, 0)) hb; have n1_ := bb_ (g := gb222) (o := .cells #[.bool a1_0, .int .u64 a1_1, .int .u64 a1_2] 30 (0, 0)) hb; have n2_ := Aside0.mk (below_step bel_ hb); have n3_ := Aside0.mk (hbox); have n4_ := Aside0.mk ((by rw [hg]; exact (below_size bel_) : w.heap.size ≤ gb223)); have n5_ := Aside0.mk ((by rw [hg]; exact (below_size bel_) : w.heap.size ≤ gb223)); have n6_ := nlt_ (g := gb221) (o := .cells #[.bool a0_0, .int .u64 a0_1, .int .u64 a0_2] 30 (0, 0)) hg; have n7_ := ngt_ (g := gb221) (o := .cells #[.bool a0_0, .int .u64 a0_1, .int .u64 a0_2] 30 (0, 0)) hg; have n8_ := nlt_ (g := gb222) (o := .cells #[.bool a1_0, .int .u64 a1_1, .int .u64 a1_2] 30 (0, 0)) hg; have n9_ := ngt_ (g := gb222) (o := .cells #[.bool a1_0, .int .u64 a1_1, .int .u64 a1_2] 30 (0, 0)) hg; clear BK221; clear BK222; clear HB; have BK221 := n0_; have BK222 := n1_; have HB := n2_; have BK223 := n3_; have GW223 := n4_; have GE223 := n5_; have NB221_223 := n6_; have NB223_221 := n7_; have NB222_223 := n8_; have NB223_222 := n9_; clear n0_ n1_ n2_ n3_ n4_ n5_ n6_ n7_ n8_ n9_; clear hb hbox hg))
  have n0_ := Aside0.mk (blk_drew BK221.out)
  have n1_ := Aside0.mk (blk_drew BK222.out)
  have n2_ := Aside0.mk (blk_drew BK223.out)
  have n3_ := Aside0.mk (below_drew1 HB.out)
  clear BK221
  clear BK222
  clear BK223
  clear HB
  have BK221 := n0_
  have BK222 := n1_
  have BK223 := n2_
  have HB := n3_
  clear n0_ n1_ n2_ n3_
  refine start_ (n := 8) (S := fun w' => w'.cell? ⟨gb221, 0, none⟩ = some (.bool a0_0) ∧ w'.cell? ⟨gb221, 1, none⟩ = some (.int .u64 a0_1) ∧ w'.cell? ⟨gb221, 2, none⟩ = some (.int .u64 a0_2) ∧ w'.cell? ⟨gb222, 0, none⟩ = some (.bool a1_0) ∧ w'.cell? ⟨gb222, 1, none⟩ = some (.int .u64 a1_1) ∧ w'.cell? ⟨gb222, 2, none⟩ = some (.int .u64 a1_2)) (ds := []) #[false, false, false, false, false, false, false, false] (by kernel_rfl) rfl rfl ⟨bc_, bc_, bc_, bc_, bc_, bc_⟩ (fun hHeld => ?_); refine with_tabW impl_SubWide.tab1 impl_SubWide.bits1 (fun HT_ HW_ => ?_)
  generalize w7.drew = w8 at BK221 BK222 BK223 HB hHeld ⊢
  refine take_ (i := 0) (N := some 6) (v := ?_) (a' := ?_) #[true, false, false, false, false, false, false, false] rfl rfl (take_ofW HT_.out HW_.out (by kernel_rfl)) (fun _ _ _ h => h) (Or.inl ⟨by rfl, ?_⟩) hHeld ?_ ?_
  rotate_left
  · rintro w' ⟨s0, s1, s2, s3, s4, s5⟩
    go_simp
    with_reducible rfl
  rotate_left
  · simp only [Act.put, la_, lb_, lc_, i64_w, i32_w]
    rfl
  refine take_ (i := 1) (N := some 7) (v := ?_) (a' := ?_) #[true, true, false, false, false, false, false, false] rfl rfl (take_ofW HT_.out HW_.out (by kernel_rfl)) (fun _ _ _ h => h) (Or.inl ⟨by rfl, ?_⟩) hHeld ?_ ?_
  rotate_left
  · rintro w' ⟨s0, s1, s2, s3, s4, s5⟩
    go_simp
    with_reducible rfl
  rotate_left
  · simp only [Act.put, la_, lb_, lc_, i64_w, i32_w]
    rfl
  refine one_ (i := 2) (N := some 8) #[true, true, true, false, false, false, false, false] rfl rfl (one_of HT_.out (by kernel_rfl)) (by decide) (fun K hK => ?_)
  refine goes_ Try.func39 (by kernel_rfl) rfl #[.agg #[.bool a1_0, .int .u64 a1_1, .int .u64 a1_2]] (by rfl) rfl rfl mp_ ?_
  with_reducible refine (impl_NegWide.calls a1_0 a1_1 a1_2 t224 t225 t226 _ A3.out).mono ?_
  rintro e w9 ⟨rfl, hb⟩
  refine ⟨_, rfl, ?_⟩
  have n0_ := bb_ (g := gb221) (o := .cells #[.bool a0_0, .int .u64 a0_1, .int .u64 a0_2] 30 (0, 0)) hb
  have n1_ := bb_ (g := gb222) (o := .cells #[.bool a1_0, .int .u64 a1_1, .int .u64 a1_2] 30 (0, 0)) hb
  have n2_ := bb_ (g := gb223) (o := .cells #[.bool false, .int .u64 0, .int .u64 0] 30 (0, 0)) hb
  have n3_ := Aside0.mk (below_step bel_ hb)
  clear BK221
  clear BK222
  clear BK223
  clear HB
  have BK221 := n0_
  have BK222 := n1_
  have BK223 := n2_
  have HB := n3_
  clear n0_ n1_ n2_ n3_
  (try clear hb)
  (try clear hb2)
  (try clear hk)
  (try clear hi)
  refine hK.out _ _ ⟨bc_, bc_, bc_, bc_, bc_, bc_⟩ (fun hHeld => ?_)
  clear hK K
  refine norm_ (a' := ?_) ?_ ?_
  rotate_left
  · show Act.put _ (some 8) _ = _
    simp only [Act.put, la_, lb_, lc_, i64_w, i32_w]
    rfl
  refine one_ (i := 3) (N := some 9) #[true, true, true, true, false, false, false, false] rfl rfl (one_of HT_.out (by kernel_rfl)) (by decide) (fun K hK => ?_)
  refine goes_ Try.func38 (by kernel_rfl) rfl #[.agg #[.bool a0_0, .int .u64 a0_1, .int .u64 a0_2], .agg #[.bool t224, .int .u64 t225, .int .u64 t226]] (by rfl) rfl rfl mp_ ?_
  with_reducible refine (impl_AddWide.calls k a0_0 a0_1 a0_2 t224 t225 t226 t227 t228 t229 t230 _ A4.out).mono ?_
  rintro e w10 ⟨rfl, hb⟩
  refine ⟨_, rfl, ?_⟩
  have n0_ := bb_ (g := gb221) (o := .cells #[.bool a0_0, .int .u64 a0_1, .int .u64 a0_2] 30 (0, 0)) hb
  have n1_ := bb_ (g := gb222) (o := .cells #[.bool a1_0, .int .u64 a1_1, .int .u64 a1_2] 30 (0, 0)) hb
  have n2_ := bb_ (g := gb223) (o := .cells #[.bool false, .int .u64 0, .int .u64 0] 30 (0, 0)) hb
  have n3_ := Aside0.mk (below_step bel_ hb)
  clear BK221
  clear BK222
  clear BK223
  clear HB
  have BK221 := n0_
  have BK222 := n1_
  have BK223 := n2_
  have HB := n3_
  clear n0_ n1_ n2_ n3_
  (try clear hb)
  (try clear hb2)
  (try clear hk)
  (try clear hi)
  refine hK.out _ _ ⟨bc_, bc_, bc_, bc_, bc_, bc_⟩ (fun hHeld => ?_)
  clear hK K
  refine norm_ (a' := ?_) ?_ ?_
  rotate_left
  · show Act.put _ (some 9) _ = _
    simp only [Act.put, la_, lb_, lc_, i64_w, i32_w]
    rfl
  refine pure_ (i := 4) (N := some 10) (v := ?_) (a' := ?_) #[true, true, true, true, true, false, false, false] rfl rfl (any_of HT_.out (by kernel_rfl)) (fun _ _ _ h => h) (Or.inl ⟨by rfl, ?_⟩) ?_ ?_
  rotate_left
  · intro w'
    go_simp
    with_reducible rfl
  rotate_left
  · simp only [Act.put, la_, lb_, lc_, i64_w, i32_w]
    rfl
  refine pure_ (i := 5) (N := some 11) (v := ?_) (a' := ?_) #[true, true, true, true, true, true, false, false] rfl rfl (any_of HT_.out (by kernel_rfl)) (fun _ _ _ h => h) (Or.inl ⟨by rfl, ?_⟩) ?_ ?_
  rotate_left
  · intro w'
    go_simp
    with_reducible rfl
  rotate_left
  · simp only [Act.put, la_, lb_, lc_, i64_w, i32_w]
    rfl
  refine one_ (i := 6) (N := none) #[true, true, true, true, true, true, true, false] rfl rfl (one_of HT_.out (by kernel_rfl)) (by decide) (fun K hK => ?_)
  have hs11 : w10.cell? ⟨gb223, 0, none⟩ = some (.bool false) := (blk_cell BK223.out 0).trans rfl
  have hfs11 := blk_frozen BK223.out 0
  have hns11_0 := NB221_223.out
  have hns11_1 := NB222_223.out
  have hms11_0 := NB223_221.out
  have hms11_1 := NB223_222.out
  have hs12 : w10.cell? ⟨gb223, 1, none⟩ = some (.int .u64 0) := (blk_cell BK223.out 1).trans rfl
  have hfs12 := blk_frozen BK223.out 1
  have hns12_0 := NB221_223.out
  have hns12_1 := NB222_223.out
  have hms12_0 := NB223_221.out
  have hms12_1 := NB223_222.out
  have hs13 : w10.cell? ⟨gb223, 2, none⟩ = some (.int .u64 0) := (blk_cell BK223.out 2).trans rfl
  have hfs13 := blk_frozen BK223.out 2
  have hns13_0 := NB221_223.out
  have hns13_1 := NB222_223.out
  have hms13_0 := NB223_221.out
  have hms13_1 := NB223_222.out
  refine skip_ (w1 := ?_) (by rfl) rfl ?_ ?_
  rotate_left
  · go_simp
    rfl
  refine hK.out _ _ ⟨((cell_far (p := ⟨gb223, _, none⟩) NB221_223.out _).trans (((cell_far (p := ⟨gb223, _, none⟩) NB221_223.out _).trans (((cell_far (p := ⟨gb223, _, none⟩) NB221_223.out _).trans (hHeld.1)))))), ((cell_far (p := ⟨gb223, _, none⟩) NB221_223.out _).trans (((cell_far (p := ⟨gb223, _, none⟩) NB221_223.out _).trans (((cell_far (p := ⟨gb223, _, none⟩) NB221_223.out _).trans (hHeld.2.1)))))), ((cell_far (p := ⟨gb223, _, none⟩) NB221_223.out _).trans (((cell_far (p := ⟨gb223, _, none⟩) NB221_223.out _).trans (((cell_far (p := ⟨gb223, _, none⟩) NB221_223.out _).trans (hHeld.2.2.1)))))), ((cell_far (p := ⟨gb223, _, none⟩) NB222_223.out _).trans (((cell_far (p := ⟨gb223, _, none⟩) NB222_223.out _).trans (((cell_far (p := ⟨gb223, _, none⟩) NB222_223.out _).trans (hHeld.2.2.2.1)))))), ((cell_far (p := ⟨gb223, _, none⟩) NB222_223.out _).trans (((cell_far (p := ⟨gb223, _, none⟩) NB222_223.out _).trans (((cell_far (p := ⟨gb223, _, none⟩) NB222_223.out _).trans (hHeld.2.2.2.2.1)))))), ((cell_far (p := ⟨gb223, _, none⟩) NB222_223.out _).trans (((cell_far (p := ⟨gb223, _, none⟩) NB222_223.out _).trans (((cell_far (p := ⟨gb223, _, none⟩) NB222_223.out _).trans (hHeld.2.2.2.2.2))))))⟩ (fun hHeld => ?_)
  clear hK K
  refine pure_ (i := 7) (N := some 5) (v := ?_) (a' := ?_) #[true, true, true, true, true, true, true, true] rfl rfl (any_of HT_.out (by kernel_rfl)) (fun _ _ _ h => h) (Or.inl ⟨by rfl, ?_⟩) ?_ ?_
  rotate_left
  · intro w'
    go_simp
    with_reducible rfl
  rotate_left
  · simp only [Act.put, la_, lb_, lc_, i64_w, i32_w]
    rfl
  refine done_ (done_of HT_.out (by kernel_rfl)) ?_
  try go_wp2
  refine bodyPost_ret (results_ct rfl _ _ gb223 30 #[.bool t227, .int .u64 t228, .int .u64 t229] (0, 0) _ rfl (by (with_reducible repeat (first | refine bN_ _ ?_ | refine bd_ ?_ | refine ba_ _ ?_)); refine blk_put (cs := #[.bool t227, .int .u64 t228, .int .u64 0]) ?_ 2 _ rfl; (with_reducible repeat (first | refine bN_ _ ?_ | refine bd_ ?_ | refine ba_ _ ?_)); refine blk_put (cs := #[.bool t227, .int .u64 0, .int .u64 0]) ?_ 1 _ rfl; (with_reducible repeat (first | refine bN_ _ ?_ | refine bd_ ?_ | refine ba_ _ ?_)); refine blk_put (cs := #[.bool false, .int .u64 0, .int .u64 0]) ?_ 0 _ rfl; (with_reducible repeat (first | refine bN_ _ ?_ | refine bd_ ?_ | refine ba_ _ ?_)); exact BK223.out) Try.underlying30 rfl (by kernel_rfl)) rfl ?_
  exact ⟨by first | rfl | (simp [errW_none, errW_some] <;> rfl) | (simp [*, errW_none, errW_some] <;> rfl), by repeat (first | (with_reducible first | exact HB.out | apply below_alloc | apply pw_below_drewN | apply below_drew1 | refine below_set ?_ GE221.out | refine below_set ?_ GE222.out | refine below_set ?_ GE223.out) | exact HB.out)⟩

end Go.Proofs.Ytodbmgnhcglcnaa.PFnFloor
