/- Contracts of Go functions, each with the Lean function that says what it computes: begun by the print, turned by this session. No condition beyond what each theorem states. -/
import Derived.Test.YtodbmgnhcglcnaaPFnExactTenTimesx0
import Derived.Test.YtodbmgnhcglcnaaPFnExactTenTimesx3
namespace Go.Proofs.Ytodbmgnhcglcnaa.PFnExactTenTimes
open Go.RowKit Go.Proofs.YtodbmgnhcglcnaaW.PrintWords Go.Proofs.YtodbmgnhcglcnaaW.PrintLast Go.Proofs.YtodbmgnhcglcnaaW.PrintMore
attribute [local go_sem] max2_int min2_int max_two min_two max_three min_three max_four min_four   -- for this text's walks alone
set_option linter.unusedVariables false
set_option linter.unusedSimpArgs false

/-! ### impl_compareSizes: function 43 -/
def impl_compareSizes.f (k : Nat) (a0_0 : Bool) (a0_1 : Int) (a0_2 : Int) (a1_0 : Bool) (a1_1 : Int) (a1_2 : Int) : Option (Int) := (cmp_Compare_uint64.f a0_1 a1_1).bind fun t165 => ((cmp_Compare_uint64.f a0_2 a1_2).bind fun t166 => ((cmp_Or_int.f k (([t165, t166] : List Int))).bind fun t170 => (some t170)))
theorem impl_compareSizes.mono : ∀ a0 a1 a2 a3 a4 a5 k, LeO (impl_compareSizes.f k a0 a1 a2 a3 a4 a5) (impl_compareSizes.f (k + 1) a0 a1 a2 a3 a4 a5) := by
  intro a0 a1 a2 a3 a4 a5 k
  unfold impl_compareSizes.f
  repeat' first
      | (with_reducible exact cmp_Or_int.mono _ _)
      | (with_reducible exact LeO.refl _)
      | (with_reducible exact LeO.none _)
      | (with_reducible refine LeO.ite ?_ ?_)
      | (with_reducible refine LeO.bind ?_ (fun _ => ?_))
      | exact cmp_Or_int.mono _ _
      | exact LeO.none _
      | refine LeO.ite ?_ ?_
      | refine LeO.bind ?_ (fun _ => ?_)
def impl_compareSizes.T1 : Bool × List (List Nat × List Nat) := (true, [([], []), ([0], [0]), ([], []), ([2], [2]), ([1, 3], [1, 3]), ([], []), ([5], [5]), ([], []), ([7], [7]), ([6, 8, 4], [6, 8]), ([4, 9], [4, 9]), ([10, 9], [10]), ([11, 11, 0, 1, 2, 3, 4, 5, 6, 7, 8, 9, 10, 11], [11])])
def impl_compareSizes.B1 : List Nat := [0, 1, 0, 4, 15, 0, 32, 0, 128, 511, 1023, 2047, 4095]
theorem impl_compareSizes.tab1 : rtab .any (opsOf Try.f43 1) = impl_compareSizes.T1 := by kernel_rfl
theorem impl_compareSizes.bits1 : waitsOk impl_compareSizes.T1.2 impl_compareSizes.B1 = true := by kernel_rfl
set_option maxHeartbeats 8000000 in
set_option maxRecDepth 100000 in
theorem impl_compareSizes.calls (k : Nat) (a0_0 : Bool) (a0_1 : Int) (a0_2 : Int) (a1_0 : Bool) (a1_1 : Int) (a1_2 : Int) (r : Int) (w : World) (h : impl_compareSizes.f k a0_0 a0_1 a0_2 a1_0 a1_1 a1_2 = some r) :
    Calls Try.prog 43 #[.agg #[.bool a0_0, .int .u64 a0_1, .int .u64 a0_2], .agg #[.bool a1_0, .int .u64 a1_1, .int .u64 a1_2]] w fun e w' => e = .returned (.int .i64 r) ∧ Below w.heap.size w w' := by
  have hu30 := Try.underlying30
  have HB := Aside0.mk (Below.refl w.heap.size w)
  have H : ((cmp_Compare_uint64.f a0_1 a1_1).bind fun t165 => ((cmp_Compare_uint64.f a0_2 a1_2).bind fun t166 => ((cmp_Or_int.f k (([t165, t166] : List Int))).bind fun t170 => (some t170)))) = some r := h
  clear h
  replace H := Option.bind_eq_some_iff.mp H
  obtain ⟨t165, A30, H⟩ := H
  replace H : ((cmp_Compare_uint64.f a0_2 a1_2).bind fun t166 => ((cmp_Or_int.f k (([t165, t166] : List Int))).bind fun t170 => (some t170))) = some r := H
  have A3 := Aside0.mk A30
  clear A30
  replace H := Option.bind_eq_some_iff.mp H
  obtain ⟨t166, A40, H⟩ := H
  replace H : ((cmp_Or_int.f k (([t165, t166] : List Int))).bind fun t170 => (some t170)) = some r := H
  have A4 := Aside0.mk A40
  clear A40
  obtain ⟨y167, hy167⟩ : ∃ y_ : List Int, y_ = (([t165, t166] : List Int)) := ⟨_, rfl⟩
  replace H : ((cmp_Or_int.f k y167).bind fun t170 => (some t170)) = some r := by first | (rw [hy167]; with_reducible exact H) | (have H2_ := (Option.bind_some _ _).symm.trans H; rw [hy167]; with_reducible exact H2_) | (have H2_ := (Option.bind_some _ _).symm.trans H; with_reducible exact H2_) | with_reducible exact H | (rw [hy167]; exact H) | exact H
  have Ny167 := Aside0.mk hy167
  clear hy167
  replace H := Option.bind_eq_some_iff.mp H
  obtain ⟨t170, A50, H⟩ := H
  replace H : (some t170) = some r := H
  have A5 := Aside0.mk A50
  clear A50
  obtain rfl := Option.some.inj H
  go_enter Try.func43, Try.ntmps43
  try go_wp2_with (first | ((with_reducible refine gate_dst (N := 2) rfl ?_); refine box_event ?hg (N := 2) ?hd (cs := #[.bool a0_0, .int .u64 a0_1, .int .u64 a0_2]) (t := 30) ?hr ?_; (case hd => rfl); (case hg => rfl); (case hr => first | (go_simp; done) | (go_simp; rfl)); intro gb163 hg w6 hbox hb; have n0_ := Aside0.mk (below_step bel_ hb); have n1_ := Aside0.mk (hbox); have n2_ := Aside0.mk ((by rw [hg]; exact (below_size bel_) : w.heap.size ≤ gb163)); have n3_ := Aside0.mk ((by rw [hg]; exact (below_size bel_) : w.heap.size ≤ gb163)); clear HB; have HB := n0_; have BK163 := n1_; have GW163 := n2_; have GE163 := n3_; clear n0_ n1_ n2_ n3_; clear hb hbox hg) | ((with_reducible refine gate_dst (N := 3) rfl ?_); refine box_event ?hg (N := 3) ?hd (cs := #[.bool a1_0, .int .u64 a1_1, .int .u64 a1_2]) (t := 30) ?hr ?_; (case hd => rfl); (case hg => rfl); (case hr => first | (go_simp; done) | (go_simp; rfl)); intro gb164 hg w7 hbox hb; have n0_ := bb_ (g := gb163) (o := .cells #[.bool a0_0, .int .u64 a0_1, .int .u64 a0_2] 30 (0, 0)) hb; have n1_ := Aside0.mk (below_step bel_ hb); have n2_ := Aside0.mk (hbox); have n3_ := Aside0.mk ((by rw [hg]; exact (below_size bel_) : w.heap.size ≤ gb164)); have n4_ := Aside0.mk ((by rw [hg]; exact (below_size bel_) : w.heap.size ≤ gb164)); have n5_ := nlt_ (g := gb163) (o := .cells #[.bool a0_0, .int .u64 a0_1, .int .u64 a0_2] 30 (0, 0)) hg; have n6_ := ngt_ (g := gb163) (o := .cells #[.bool a0_0, .int .u64 a0_1, .int .u64 a0_2] 30 (0, 0)) hg; clear BK163; clear HB; have BK163 := n0_; have HB := n1_; have BK164 := n2_; have GW164 := n3_; have GE164 := n4_; have NB163_164 := n5_; have NB164_163 := n6_; clear n0_ n1_ n2_ n3_ n4_ n5_ n6_; clear hb hbox hg))
  have n0_ := Aside0.mk (blk_drew BK163.out)
  have n1_ := Aside0.mk (blk_drew BK164.out)
  have n2_ := Aside0.mk (below_drew1 HB.out)
  clear BK163
  clear BK164
  clear HB
  have BK163 := n0_
  have BK164 := n1_
  have HB := n2_
  clear n0_ n1_ n2_
  refine start_ (n := 13) (S := fun w' => w'.cell? ⟨gb163, 0, none⟩ = some (.bool a0_0) ∧ w'.cell? ⟨gb163, 1, none⟩ = some (.int .u64 a0_1) ∧ w'.cell? ⟨gb163, 2, none⟩ = some (.int .u64 a0_2) ∧ w'.cell? ⟨gb164, 0, none⟩ = some (.bool a1_0) ∧ w'.cell? ⟨gb164, 1, none⟩ = some (.int .u64 a1_1) ∧ w'.cell? ⟨gb164, 2, none⟩ = some (.int .u64 a1_2)) (ds := []) #[false, false, false, false, false, false, false, false, false, false, false, false, false] (by kernel_rfl) rfl rfl ⟨bc_, bc_, bc_, bc_, bc_, bc_⟩ (fun hHeld => ?_); refine with_tabW impl_compareSizes.tab1 impl_compareSizes.bits1 (fun HT_ HW_ => ?_)
  generalize w7.drew = w8 at BK163 BK164 HB hHeld ⊢
  refine pure_ (i := 0) (N := some 5) (v := ?_) (a' := ?_) #[true, false, false, false, false, false, false, false, false, false, false, false, false] rfl rfl (any_of HT_.out (by kernel_rfl)) (fun _ _ _ h => h) (Or.inl ⟨by rfl, ?_⟩) ?_ ?_
  rotate_left
  · intro w'
    go_simp
    with_reducible rfl
  rotate_left
  · simp only [Act.put, la_, lb_, lc_, i64_w, i32_w]
    rfl
  refine pure_ (i := 2) (N := some 7) (v := ?_) (a' := ?_) #[true, false, true, false, false, false, false, false, false, false, false, false, false] rfl rfl (any_of HT_.out (by kernel_rfl)) (fun _ _ _ h => h) (Or.inl ⟨by rfl, ?_⟩) ?_ ?_
  rotate_left
  · intro w'
    go_simp
    with_reducible rfl
  rotate_left
  · simp only [Act.put, la_, lb_, lc_, i64_w, i32_w]
    rfl
  refine pure_ (i := 5) (N := some 10) (v := ?_) (a' := ?_) #[true, false, true, false, false, true, false, false, false, false, false, false, false] rfl rfl (any_of HT_.out (by kernel_rfl)) (fun _ _ _ h => h) (Or.inl ⟨by rfl, ?_⟩) ?_ ?_
  rotate_left
  · intro w'
    go_simp
    with_reducible rfl
  rotate_left
  · simp only [Act.put, la_, lb_, lc_, i64_w, i32_w]
    rfl
  refine pure_ (i := 7) (N := some 12) (v := ?_) (a' := ?_) #[true, false, true, false, false, true, false, true, false, false, false, false, false] rfl rfl (any_of HT_.out (by kernel_rfl)) (fun _ _ _ h => h) (Or.inl ⟨by rfl, ?_⟩) ?_ ?_
  rotate_left
  · intro w'
    go_simp
    with_reducible rfl
  rotate_left
  · simp only [Act.put, la_, lb_, lc_, i64_w, i32_w]
    rfl
  refine take_ (i := 1) (N := some 6) (v := ?_) (a' := ?_) #[true, true, true, false, false, true, false, true, false, false, false, false, false] rfl rfl (take_ofW HT_.out HW_.out (by kernel_rfl)) (fun _ _ _ h => h) (Or.inl ⟨by rfl, ?_⟩) hHeld ?_ ?_
  rotate_left
  · rintro w' ⟨s0, s1, s2, s3, s4, s5⟩
    go_simp
    with_reducible rfl
  rotate_left
  · simp only [Act.put, la_, lb_, lc_, i64_w, i32_w]
    rfl
  refine take_ (i := 3) (N := some 8) (v := ?_) (a' := ?_) #[true, true, true, true, false, true, false, true, false, false, false, false, false] rfl rfl (take_ofW HT_.out HW_.out (by kernel_rfl)) (fun _ _ _ h => h) (Or.inl ⟨by rfl, ?_⟩) hHeld ?_ ?_
  rotate_left
  · rintro w' ⟨s0, s1, s2, s3, s4, s5⟩
    go_simp
    with_reducible rfl
  rotate_left
  · simp only [Act.put, la_, lb_, lc_, i64_w, i32_w]
    rfl
  refine take_ (i := 6) (N := some 11) (v := ?_) (a' := ?_) #[true, true, true, true, false, true, true, true, false, false, false, false, false] rfl rfl (take_ofW HT_.out HW_.out (by kernel_rfl)) (fun _ _ _ h => h) (Or.inl ⟨by rfl, ?_⟩) hHeld ?_ ?_
  rotate_left
  · rintro w' ⟨s0, s1, s2, s3, s4, s5⟩
    go_simp
    with_reducible rfl
  rotate_left
  · simp only [Act.put, la_, lb_, lc_, i64_w, i32_w]
    rfl
  refine take_ (i := 8) (N := some 13) (v := ?_) (a' := ?_) #[true, true, true, true, false, true, true, true, true, false, false, false, false] rfl rfl (take_ofW HT_.out HW_.out (by kernel_rfl)) (fun _ _ _ h => h) (Or.inl ⟨by rfl, ?_⟩) hHeld ?_ ?_
  rotate_left
  · rintro w' ⟨s0, s1, s2, s3, s4, s5⟩
    go_simp
    with_reducible rfl
  rotate_left
  · simp only [Act.put, la_, lb_, lc_, i64_w, i32_w]
    rfl
  refine one_ (i := 4) (N := some 9) #[true, true, true, true, true, true, true, true, true, false, false, false, false] rfl rfl (one_of HT_.out (by kernel_rfl)) (by decide) (fun K hK => ?_)
  refine goes_ Try.func70 (by kernel_rfl) rfl #[.int .u64 a0_1, .int .u64 a1_1] (by rfl) rfl rfl mp_ ?_
  with_reducible refine (cmp_Compare_uint64.calls a0_1 a1_1 t165 _ A3.out).mono ?_
  rintro e w' ⟨rfl, ⟨nd, rfl⟩⟩
  refine ⟨_, rfl, ?_⟩
  refine hK.out _ _ ⟨bc_, bc_, bc_, bc_, bc_, bc_⟩ (fun hHeld => ?_)
  clear hK K
  refine norm_ (a' := ?_) ?_ ?_
  rotate_left
  · show Act.put _ (some 9) _ = _
    simp only [Act.put, la_, lb_, lc_, i64_w, i32_w]
    rfl
  refine one_ (i := 9) (N := some 14) #[true, true, true, true, true, true, true, true, true, true, false, false, false] rfl rfl (one_of HT_.out (by kernel_rfl)) (by decide) (fun K hK => ?_)
  refine goes_ Try.func70 (by kernel_rfl) rfl #[.int .u64 a0_2, .int .u64 a1_2] (by rfl) rfl rfl mp_ ?_
  with_reducible refine (cmp_Compare_uint64.calls a0_2 a1_2 t166 _ A4.out).mono ?_
  rintro e w' ⟨rfl, ⟨nd, rfl⟩⟩
  refine ⟨_, rfl, ?_⟩
  refine hK.out _ _ ⟨bc_, bc_, bc_, bc_, bc_, bc_⟩ (fun hHeld => ?_)
  clear hK K
  refine norm_ (a' := ?_) ?_ ?_
  rotate_left
  · show Act.put _ (some 14) _ = _
    simp only [Act.put, la_, lb_, lc_, i64_w, i32_w]
    rfl
  refine one_ (i := 10) (N := some 15) #[true, true, true, true, true, true, true, true, true, true, true, false, false] rfl rfl (one_of HT_.out (by kernel_rfl)) (by decide) (fun K hK => ?_)
  refine Kd.R_lit_step (Kd.int .i64) _ 3 ?hg (N := 15) ?hd (xs := ([t165, t166] : List Int)) (inner := [.int .i64 t165, .int .i64 t166]) (ok := fun _ => True) (okp := fun _ => True) ?hr ?hp (fun _ hk => hk) trivial (Below.refl _ _) (Nat.le_refl _) (by simp) ?_; (case hd => rfl); (case hg => rfl); (case hr => first | (go_simp; done) | (go_simp; rfl)); (case hp => exact (Reps.one (show Kd.M (Kd.int .i64) _ _ _ t165 [.int .i64 t165] from rfl) (Reps.one (show Kd.M (Kd.int .i64) _ _ _ t166 [.int .i64 t166] from rfl) (Reps.none _ _))))
  intro v168 w9 ho10 hb hg_ hnew_
  clear hg_ hnew_
  (first | rw [← Ny167.out] at ho10 | (simp only [Int.reduceToNat] at ho10; rw [← Ny167.out] at ho10))
  have n0_ := Aside0.mk (Kd.R_lower ho10 (below_size bel_))
  have n1_ := bb_ (g := gb163) (o := .cells #[.bool a0_0, .int .u64 a0_1, .int .u64 a0_2] 30 (0, 0)) hb
  have n2_ := bb_ (g := gb164) (o := .cells #[.bool a1_0, .int .u64 a1_1, .int .u64 a1_2] 30 (0, 0)) hb
  have n3_ := Aside0.mk (below_step bel_ hb)
  clear BK163
  clear BK164
  clear HB
  have HO169 := n0_
  have BK163 := n1_
  have BK164 := n2_
  have HB := n3_
  clear n0_ n1_ n2_ n3_
  clear hb ho10
  obtain ⟨Ao11, co11, eo11⟩ := Kd.R_slice HO169.out
  (first | subst eo11 | (injection eo11 with f1_ f2_ f3_; have f4_ := f1_.symm; have f5_ := f3_.symm; clear f1_ f2_ f3_; subst f4_; subst f5_))
  refine hK.out _ _ ⟨bc_, bc_, bc_, bc_, bc_, bc_⟩ (fun hHeld => ?_)
  clear hK K
  refine norm_ (a' := ?_) ?_ ?_
  rotate_left
  · show Act.put _ (some 15) _ = _
    simp only [Act.put, la_, lb_, lc_, i64_w, i32_w]
    rfl
  refine one_ (i := 11) (N := some 16) #[true, true, true, true, true, true, true, true, true, true, true, true, false] rfl rfl (one_of HT_.out (by kernel_rfl)) (by decide) (fun K hK => ?_)
  refine goes_ Try.func69 (by kernel_rfl) rfl #[.slice Ao11 y167.length co11] (by rfl) rfl rfl mp_ ?_
  with_reducible refine (cmp_Or_int.calls k _ _ y167 t170 _ ?side1 ?side2 A5.out).mono ?_
  (case side1 => repeat (first | exact (Kd.R_reads' HO169.out).2.2 | (with_reducible refine Kd.C_alloc ?_ _) | (with_reducible refine Kd.C_drewN ?_ _) | (with_reducible refine Kd.C_drew ?_)))
  (case side2 => exact (Kd.R_reads' HO169.out).2.1)
  rintro e w' ⟨rfl, ⟨nd, rfl⟩⟩
  refine ⟨_, rfl, ?_⟩
  refine hK.out _ _ ⟨bc_, bc_, bc_, bc_, bc_, bc_⟩ (fun hHeld => ?_)
  clear hK K
  refine norm_ (a' := ?_) ?_ ?_
  rotate_left
  · show Act.put _ (some 16) _ = _
    simp only [Act.put, la_, lb_, lc_, i64_w, i32_w]
    rfl
  refine pure_ (i := 12) (N := some 4) (v := ?_) (a' := ?_) #[true, true, true, true, true, true, true, true, true, true, true, true, true] rfl rfl (any_of HT_.out (by kernel_rfl)) (fun _ _ _ h => h) (Or.inl ⟨by rfl, ?_⟩) ?_ ?_
  rotate_left
  · intro w'
    go_simp
    with_reducible rfl
  rotate_left
  · simp only [Act.put, la_, lb_, lc_, i64_w, i32_w]
    rfl
  refine done_ (done_of HT_.out (by kernel_rfl)) ?_
  try go_wp2
  go_ret
  exact ⟨by first | rfl | (simp [errW_none, errW_some] <;> rfl) | (simp [*, errW_none, errW_some] <;> rfl), by repeat (first | (with_reducible first | exact HB.out | apply below_alloc | apply pw_below_drewN | apply below_drew1 | refine below_set ?_ GE163.out | refine below_set ?_ GE164.out) | exact HB.out)⟩

/-! ### impl_WideOk: function 63 -/
def impl_WideOk.f (a0_0 : Bool) (a0_1 : Int) (a0_2 : Int) : Option (Bool) := if a0_1 < 9223372036854775808 then (if a0_0 = true then (if a0_1 > 0 then (some true) else (some (decide (a0_2 > 0)))) else (some true)) else (some false)
set_option maxHeartbeats 8000000 in
set_option maxRecDepth 100000 in
theorem impl_WideOk.calls (a0_0 : Bool) (a0_1 : Int) (a0_2 : Int) (r : Bool) (w : World) (h : impl_WideOk.f a0_0 a0_1 a0_2 = some r) :
    Calls Try.prog 63 #[.agg #[.bool a0_0, .int .u64 a0_1, .int .u64 a0_2]] w fun e w' => e = .returned (.bool r) ∧ Below w.heap.size w w' := by
  have hu30 := Try.underlying30
  have HB := Aside0.mk (Below.refl w.heap.size w)
  have H : (if a0_1 < 9223372036854775808 then (if a0_0 = true then (if a0_1 > 0 then (some true) else (some (decide (a0_2 > 0)))) else (some true)) else (some false)) = some r := h
  clear h
  by_cases c2 : a0_1 < 9223372036854775808
  · rw [if_pos c2] at H
    have c2b0 : decide (a0_1 < 9223372036854775808) = true := decide_eq_true c2
    clear c2
    by_cases c3 : a0_0 = true
    · subst c3
      have H1 : (if a0_1 > 0 then (some true) else (some (decide (a0_2 > 0)))) = some r := by rw [if_pos rfl] at H; exact H
      clear H
      have H := H1
      clear H1
      by_cases c4 : a0_1 > 0
      · rw [if_pos c4] at H
        have c4b0 : decide (0 < a0_1) = true := decide_eq_true c4
        clear c4
        obtain rfl := Option.some.inj H
        go_enter Try.func63, Try.ntmps63
        go_wp2_with (first | ((with_reducible refine gate_dst (N := 1) rfl ?_); refine box_event ?hg (N := 1) ?hd (cs := #[.bool true, .int .u64 a0_1, .int .u64 a0_2]) (t := 30) ?hr ?_; (case hd => rfl); (case hg => rfl); (case hr => first | (go_simp; done) | (go_simp; rfl)); intro gb171 hg w5 hbox hb; have n0_ := Aside0.mk (below_step bel_ hb); have n1_ := Aside0.mk (hbox); have n2_ := Aside0.mk ((by rw [hg]; exact (below_size bel_) : w.heap.size ≤ gb171)); have n3_ := Aside0.mk ((by rw [hg]; exact (below_size bel_) : w.heap.size ≤ gb171)); clear HB; have HB := n0_; have BK171 := n1_; have GW171 := n2_; have GE171 := n3_; clear n0_ n1_ n2_ n3_; clear hb hbox hg; have hcz6_0 : w5.cell? ⟨gb171, 0, none⟩ = some (.bool true) := bc_; have hcz6_1 : w5.cell? ⟨gb171, 1, none⟩ = some (.int .u64 a0_1) := bc_; have hcz6_2 : w5.cell? ⟨gb171, 2, none⟩ = some (.int .u64 a0_2) := bc_; have hfz6_0 := blk_frozen BK171.out 0; have hfz6_1 := blk_frozen BK171.out 1; have hfz6_2 := blk_frozen BK171.out 2))
        go_ret
        exact ⟨by first | rfl | (simp [errW_none, errW_some] <;> rfl) | (simp [*, errW_none, errW_some] <;> rfl), by repeat (first | (with_reducible first | exact HB.out | apply below_alloc | apply pw_below_drewN | apply below_drew1 | refine below_set ?_ GE171.out) | exact HB.out)⟩
      · rw [if_neg c4] at H
        have c4b0 : decide (0 < a0_1) = false := decide_eq_false c4
        clear c4
        obtain rfl := Option.some.inj H
        go_enter Try.func63, Try.ntmps63
        go_wp2_with (first | ((with_reducible refine gate_dst (N := 1) rfl ?_); refine box_event ?hg (N := 1) ?hd (cs := #[.bool true, .int .u64 a0_1, .int .u64 a0_2]) (t := 30) ?hr ?_; (case hd => rfl); (case hg => rfl); (case hr => first | (go_simp; done) | (go_simp; rfl)); intro gb171 hg w7 hbox hb; have n0_ := Aside0.mk (below_step bel_ hb); have n1_ := Aside0.mk (hbox); have n2_ := Aside0.mk ((by rw [hg]; exact (below_size bel_) : w.heap.size ≤ gb171)); have n3_ := Aside0.mk ((by rw [hg]; exact (below_size bel_) : w.heap.size ≤ gb171)); clear HB; have HB := n0_; have BK171 := n1_; have GW171 := n2_; have GE171 := n3_; clear n0_ n1_ n2_ n3_; clear hb hbox hg; have hcz8_0 : w7.cell? ⟨gb171, 0, none⟩ = some (.bool true) := bc_; have hcz8_1 : w7.cell? ⟨gb171, 1, none⟩ = some (.int .u64 a0_1) := bc_; have hcz8_2 : w7.cell? ⟨gb171, 2, none⟩ = some (.int .u64 a0_2) := bc_; have hfz8_0 := blk_frozen BK171.out 0; have hfz8_1 := blk_frozen BK171.out 1; have hfz8_2 := blk_frozen BK171.out 2))
        go_ret
        exact ⟨by first | rfl | (simp [errW_none, errW_some] <;> rfl) | (simp [*, errW_none, errW_some] <;> rfl), by repeat (first | (with_reducible first | exact HB.out | apply below_alloc | apply pw_below_drewN | apply below_drew1 | refine below_set ?_ GE171.out) | exact HB.out)⟩
    · replace c3 := Bool.eq_false_iff.mpr c3
      subst c3
      have H1 : (some true) = some r := by rw [if_neg (show ¬ (false = true) by decide)] at H; exact H
      clear H
      have H := H1
      clear H1
      obtain rfl := Option.some.inj H
      go_enter Try.func63, Try.ntmps63
      go_wp2_with (first | ((with_reducible refine gate_dst (N := 1) rfl ?_); refine box_event ?hg (N := 1) ?hd (cs := #[.bool false, .int .u64 a0_1, .int .u64 a0_2]) (t := 30) ?hr ?_; (case hd => rfl); (case hg => rfl); (case hr => first | (go_simp; done) | (go_simp; rfl)); intro gb171 hg w9 hbox hb; have n0_ := Aside0.mk (below_step bel_ hb); have n1_ := Aside0.mk (hbox); have n2_ := Aside0.mk ((by rw [hg]; exact (below_size bel_) : w.heap.size ≤ gb171)); have n3_ := Aside0.mk ((by rw [hg]; exact (below_size bel_) : w.heap.size ≤ gb171)); clear HB; have HB := n0_; have BK171 := n1_; have GW171 := n2_; have GE171 := n3_; clear n0_ n1_ n2_ n3_; clear hb hbox hg; have hcz10_0 : w9.cell? ⟨gb171, 0, none⟩ = some (.bool false) := bc_; have hcz10_1 : w9.cell? ⟨gb171, 1, none⟩ = some (.int .u64 a0_1) := bc_; have hcz10_2 : w9.cell? ⟨gb171, 2, none⟩ = some (.int .u64 a0_2) := bc_; have hfz10_0 := blk_frozen BK171.out 0; have hfz10_1 := blk_frozen BK171.out 1; have hfz10_2 := blk_frozen BK171.out 2))
      go_ret
      exact ⟨by first | rfl | (simp [errW_none, errW_some] <;> rfl) | (simp [*, errW_none, errW_some] <;> rfl), by repeat (first | (with_reducible first | exact HB.out | apply below_alloc | apply pw_below_drewN | apply below_drew1 | refine below_set ?_ GE171.out) | exact HB.out)⟩
  · rw [if_neg c2] at H
    have c2b0 : decide (a0_1 < 9223372036854775808) = false := decide_eq_false c2
    clear c2
    obtain rfl := Option.some.inj H
    go_enter Try.func63, Try.ntmps63
    go_wp2_with (first | ((with_reducible refine gate_dst (N := 1) rfl ?_); refine box_event ?hg (N := 1) ?hd (cs := #[.bool a0_0, .int .u64 a0_1, .int .u64 a0_2]) (t := 30) ?hr ?_; (case hd => rfl); (case hg => rfl); (case hr => first | (go_simp; done) | (go_simp; rfl)); intro gb171 hg w11 hbox hb; have n0_ := Aside0.mk (below_step bel_ hb); have n1_ := Aside0.mk (hbox); have n2_ := Aside0.mk ((by rw [hg]; exact (below_size bel_) : w.heap.size ≤ gb171)); have n3_ := Aside0.mk ((by rw [hg]; exact (below_size bel_) : w.heap.size ≤ gb171)); clear HB; have HB := n0_; have BK171 := n1_; have GW171 := n2_; have GE171 := n3_; clear n0_ n1_ n2_ n3_; clear hb hbox hg; have hcz12_0 : w11.cell? ⟨gb171, 0, none⟩ = some (.bool a0_0) := bc_; have hcz12_1 : w11.cell? ⟨gb171, 1, none⟩ = some (.int .u64 a0_1) := bc_; have hcz12_2 : w11.cell? ⟨gb171, 2, none⟩ = some (.int .u64 a0_2) := bc_; have hfz12_0 := blk_frozen BK171.out 0; have hfz12_1 := blk_frozen BK171.out 1; have hfz12_2 := blk_frozen BK171.out 2))
    go_ret
    exact ⟨by first | rfl | (simp [errW_none, errW_some] <;> rfl) | (simp [*, errW_none, errW_some] <;> rfl), by repeat (first | (with_reducible first | exact HB.out | apply below_alloc | apply pw_below_drewN | apply below_drew1 | refine below_set ?_ GE171.out) | exact HB.out)⟩

/-! ### bits_Sub64: function 64, the model's own entry -/
def bits_Sub64.entry : Array Value → Sem Value := fun args => do
  let (x, y, b) ← Extern.MathBitsCarry.three "Sub64" args
  pure (Extern.MathBitsCarry.pair ((x + Extern.MathBitsCarry.m64 - y - b) % Extern.MathBitsCarry.m64) (if x < y + b then 1 else 0))
theorem bits_Sub64.entry_run (x y b : Nat) (hb : b ≤ 1) (w : World) :
    (bits_Sub64.entry #[.int .u64 x, .int .u64 y, .int .u64 b]).run Try.prog w =
      .ok (.tuple #[.int .u64 (((x + 18446744073709551616 - y - b) % 18446744073709551616 : Nat) : Int), .int .u64 ((if x < y + b then 1 else 0 : Nat) : Int)]) w := by
  have : b = 0 ∨ b = 1 := by omega
  rcases this with rfl | rfl <;> rfl
def bits_Sub64.f (a0 : Int) (a1 : Int) (a2 : Int) : Option (Int × Int) := if 0 ≤ a0 ∧ 0 ≤ a1 ∧ a1 < 18446744073709551616 ∧ 0 ≤ a2 ∧ a2 ≤ 1 then some ((a0 - a1 - a2) % 18446744073709551616, if a0 < a1 + a2 then 1 else 0) else none
theorem bits_Sub64.run (a0 a1 a2 r1 r2 : Int) (w : World) (h : bits_Sub64.f a0 a1 a2 = some (r1, r2)) :
    (callFunc 64 #[.int .u64 a0, .int .u64 a1, .int .u64 a2]).run Try.prog w = .ok (.value (.tuple #[.int .u64 r1, .int .u64 r2])) w := by
  unfold bits_Sub64.f at h
  by_cases c : 0 ≤ a0 ∧ 0 ≤ a1 ∧ a1 < 18446744073709551616 ∧ 0 ≤ a2 ∧ a2 ≤ 1
  · rw [if_pos c] at h
    simp only [Option.some.injEq, Prod.mk.injEq] at h
    obtain ⟨h1, h2⟩ := h
    obtain ⟨x, rfl⟩ := Int.eq_ofNat_of_zero_le c.1
    obtain ⟨y, rfl⟩ := Int.eq_ofNat_of_zero_le c.2.1
    obtain ⟨b, rfl⟩ := Int.eq_ofNat_of_zero_le c.2.2.2.1
    rw [run_callFunc_extern Try.func64 (by kernel_rfl) (by kernel_rfl) (by kernel_rfl) (e := bits_Sub64.entry) (by kernel_rfl), bits_Sub64.entry_run x y b (by omega)]
    have e1 : (((x + 18446744073709551616 - y - b) % 18446744073709551616 : Nat) : Int) = r1 := by rw [← h1]; omega
    have e2 : ((if x < y + b then 1 else 0 : Nat) : Int) = r2 := by
      rw [← h2]
      by_cases d : x < y + b
      · rw [if_pos d, if_pos (by omega)]; rfl
      · rw [if_neg d, if_neg (by omega)]; rfl
    rw [e1, e2]
    rfl
  · rw [if_neg c] at h
    cases h

/-! ### bits_Add64: function 65, the model's own entry -/
def bits_Add64.f (a0 : Int) (a1 : Int) (a2 : Int) : Option (Int × Int) := if 0 ≤ a0 ∧ 0 ≤ a1 ∧ 0 ≤ a2 ∧ a2 ≤ 1 then some ((a0 + a1 + a2) % 18446744073709551616, (a0 + a1 + a2) / 18446744073709551616) else none
theorem bits_Add64.run (a0 a1 a2 r1 r2 : Int) (w : World) (h : bits_Add64.f a0 a1 a2 = some (r1, r2)) :
    (callFunc 65 #[.int .u64 a0, .int .u64 a1, .int .u64 a2]).run Try.prog w = .ok (.value (.tuple #[.int .u64 r1, .int .u64 r2])) w := by
  unfold bits_Add64.f at h
  by_cases c : 0 ≤ a0 ∧ 0 ≤ a1 ∧ 0 ≤ a2 ∧ a2 ≤ 1
  · rw [if_pos c] at h
    simp only [Option.some.injEq, Prod.mk.injEq] at h
    obtain ⟨rfl, rfl⟩ := h
    rw [run_callFunc_extern Try.func65 (by kernel_rfl) (by kernel_rfl) (by kernel_rfl) (e := add64Entry) (by kernel_rfl), run_add64 a0 a1 a2 c.1 c.2.1 c.2.2.1 c.2.2.2]
    rfl
  · rw [if_neg c] at h
    cases h

/-! ### impl_AddWide: function 38 -/
def impl_AddWide.j0 : Nat → Bool → Bool → Int → Int → Bool → Int → Int → Option (Bool × Int × Int × Bool)
  | 0, _, _, _, _, _, _, _ => none
  | k + 1, x22, x173000, x173001, x173002, x174000, x174001, x174002 => if x22 = true then (some (false, 0, 0, false)) else (if (x173000 != x174000) = true then ((impl_compareSizes.f k x173000 x173001 x173002 x174000 x174001 x174002).bind fun t177 => (if t177 < 0 then ((bits_Sub64.f x174002 x173002 0).bind fun bt178 => ((bits_Sub64.f x174001 x173001 bt178.2).bind fun bt180 => ((impl_wideOf.f x174000 bt180.1 bt178.1).bind fun bt182 => (some (bt182.1, bt182.2.1, bt182.2.2, true))))) else ((bits_Sub64.f x173002 x174002 0).bind fun bt185 => ((bits_Sub64.f x173001 x174001 bt185.2).bind fun bt187 => ((impl_wideOf.f x173000 bt187.1 bt185.1).bind fun bt189 => (some (bt189.1, bt189.2.1, bt189.2.2, true))))))) else ((bits_Add64.f x173002 x174002 0).bind fun bt192 => ((bits_Add64.f x173001 x174001 bt192.2).bind fun bt194 => ((impl_wideOf.f x173000 bt194.1 bt192.1).bind fun bt196 => ((impl_WideOk.f bt196.1 bt196.2.1 bt196.2.2).bind fun t200 => (if t200 = true then (some (bt196.1, bt196.2.1, bt196.2.2, true)) else (some (false, 0, 0, false))))))))
def impl_AddWide.f (k : Nat) (a0_0 : Bool) (a0_1 : Int) (a0_2 : Int) (a1_0 : Bool) (a1_1 : Int) (a1_2 : Int) : Option (Bool × Int × Int × Bool) := (impl_WideOk.f a0_0 a0_1 a0_2).bind fun t175 => (if t175 = true then ((impl_WideOk.f a1_0 a1_1 a1_2).bind fun t176 => (impl_AddWide.j0 k (!t176) a0_0 a0_1 a0_2 a1_0 a1_1 a1_2)) else (impl_AddWide.j0 k true a0_0 a0_1 a0_2 a1_0 a1_1 a1_2))
theorem impl_AddWide.mono_l : ∀ k, (∀ y0 y1 y2 y3 y4 y5 y6, LeO (impl_AddWide.j0 k y0 y1 y2 y3 y4 y5 y6) (impl_AddWide.j0 (k + 1) y0 y1 y2 y3 y4 y5 y6))
  | 0 => fun _ _ _ _ _ _ _ r h => by simp [impl_AddWide.j0] at h
  | k + 1 => by
    have ih0 := impl_AddWide.mono_l k
    · intro y0 y1 y2 y3 y4 y5 y6
      unfold impl_AddWide.j0
      repeat' first
      | (with_reducible exact ih0 _ _ _ _ _ _ _)
      | (with_reducible exact impl_compareSizes.mono _ _ _ _ _ _ _)
      | (with_reducible exact LeO.refl _)
      | (with_reducible exact LeO.none _)
      | (with_reducible refine LeO.ite ?_ ?_)
      | (with_reducible refine LeO.bind ?_ (fun _ => ?_))
      | exact ih0 _ _ _ _ _ _ _
      | exact impl_compareSizes.mono _ _ _ _ _ _ _
      | exact LeO.none _
      | refine LeO.ite ?_ ?_
      | refine LeO.bind ?_ (fun _ => ?_)
theorem impl_AddWide.mono : ∀ a0 a1 a2 a3 a4 a5 k, LeO (impl_AddWide.f k a0 a1 a2 a3 a4 a5) (impl_AddWide.f (k + 1) a0 a1 a2 a3 a4 a5) := by
  intro a0 a1 a2 a3 a4 a5 k
  have ih0 := impl_AddWide.mono_l k
  unfold impl_AddWide.f
  repeat' first
      | (with_reducible exact ih0 _ _ _ _ _ _ _)
      | (with_reducible exact impl_compareSizes.mono _ _ _ _ _ _ _)
      | (with_reducible exact LeO.refl _)
      | (with_reducible exact LeO.none _)
      | (with_reducible refine LeO.ite ?_ ?_)
      | (with_reducible refine LeO.bind ?_ (fun _ => ?_))
      | exact ih0 _ _ _ _ _ _ _
      | exact impl_compareSizes.mono _ _ _ _ _ _ _
      | exact LeO.none _
      | refine LeO.ite ?_ ?_
      | refine LeO.bind ?_ (fun _ => ?_)
set_option maxHeartbeats 8000000 in
set_option maxRecDepth 100000 in
theorem impl_AddWide.calls (k : Nat) (a0_0 : Bool) (a0_1 : Int) (a0_2 : Int) (a1_0 : Bool) (a1_1 : Int) (a1_2 : Int) (r1 : Bool) (r2 : Int) (r3 : Int) (r4 : Bool) (w : World) (h : impl_AddWide.f k a0_0 a0_1 a0_2 a1_0 a1_1 a1_2 = some (r1, r2, r3, r4)) :
    Calls Try.prog 38 #[.agg #[.bool a0_0, .int .u64 a0_1, .int .u64 a0_2], .agg #[.bool a1_0, .int .u64 a1_1, .int .u64 a1_2]] w fun e w' => e = .returned (.tuple #[.agg #[.bool r1, .int .u64 r2, .int .u64 r3], .bool r4]) ∧ Below w.heap.size w w' := by
  have hu30 := Try.underlying30
  have HB := Aside0.mk (Below.refl w.heap.size w)
  have H : ((impl_WideOk.f a0_0 a0_1 a0_2).bind fun t175 => (if t175 = true then ((impl_WideOk.f a1_0 a1_1 a1_2).bind fun t176 => (impl_AddWide.j0 k (!t176) a0_0 a0_1 a0_2 a1_0 a1_1 a1_2)) else (impl_AddWide.j0 k true a0_0 a0_1 a0_2 a1_0 a1_1 a1_2))) = some (r1, r2, r3, r4) := h
  clear h
  have HC3 := Aside0.mk H
  clear H
  go_enter Try.func38, Try.ntmps38
  go_upto_region 1 with (first | ((with_reducible refine gate_dst (N := 2) rfl ?_); refine box_event ?hg (N := 2) ?hd (cs := #[.bool a0_0, .int .u64 a0_1, .int .u64 a0_2]) (t := 30) ?hr ?_; (case hd => rfl); (case hg => rfl); (case hr => first | (go_simp; done) | (go_simp; rfl)); intro gb172 hg w4 hbox hb; have n0_ := Aside0.mk (below_step bel_ hb); have n1_ := Aside0.mk (hbox); have n2_ := Aside0.mk ((by rw [hg]; exact (below_size bel_) : w.heap.size ≤ gb172)); have n3_ := Aside0.mk ((by rw [hg]; exact (below_size bel_) : w.heap.size ≤ gb172)); clear HB; have HB := n0_; have BK172 := n1_; have GW172 := n2_; have GE172 := n3_; clear n0_ n1_ n2_ n3_; clear hb hbox hg) | ((with_reducible refine gate_dst (N := 3) rfl ?_); refine box_event ?hg (N := 3) ?hd (cs := #[.bool a1_0, .int .u64 a1_1, .int .u64 a1_2]) (t := 30) ?hr ?_; (case hd => rfl); (case hg => rfl); (case hr => first | (go_simp; done) | (go_simp; rfl)); intro gb173 hg w5 hbox hb; have n0_ := bb_ (g := gb172) (o := .cells #[.bool a0_0, .int .u64 a0_1, .int .u64 a0_2] 30 (0, 0)) hb; have n1_ := Aside0.mk (below_step bel_ hb); have n2_ := Aside0.mk (hbox); have n3_ := Aside0.mk ((by rw [hg]; exact (below_size bel_) : w.heap.size ≤ gb173)); have n4_ := Aside0.mk ((by rw [hg]; exact (below_size bel_) : w.heap.size ≤ gb173)); have n5_ := nlt_ (g := gb172) (o := .cells #[.bool a0_0, .int .u64 a0_1, .int .u64 a0_2] 30 (0, 0)) hg; have n6_ := ngt_ (g := gb172) (o := .cells #[.bool a0_0, .int .u64 a0_1, .int .u64 a0_2] 30 (0, 0)) hg; clear BK172; clear HB; have BK172 := n0_; have HB := n1_; have BK173 := n2_; have GW173 := n3_; have GE173 := n4_; have NB172_173 := n5_; have NB173_172 := n6_; clear n0_ n1_ n2_ n3_ n4_ n5_ n6_; clear hb hbox hg) | ((with_reducible refine gate_dst (N := 4) rfl ?_); refine box_event ?hg (N := 4) ?hd (cs := #[.bool false, .int .u64 0, .int .u64 0]) (t := 30) ?hr ?_; (case hd => rfl); (case hg => rfl); (case hr => first | (go_simp; done) | (go_simp; rfl)); intro gb174 hg w6 hbox hb; have n0_ := bb_ (g := gb172) (o := .cells #[.bool a0_0, .int .u64 a0_1, .int .u64 a0_2] 30 (0, 0)) hb; have n1_ := bb_ (g := gb173) (o := .cells #[.bool a1_0, .int .u64 a1_1, .int .u64 a1_2] 30 (0, 0)) hb; have n2_ := Aside0.mk (below_step bel_ hb); have n3_ := Aside0.mk (hbox); have n4_ := Aside0.mk ((by rw [hg]; exact (below_size bel_) : w.heap.size ≤ gb174)); have n5_ := Aside0.mk ((by rw [hg]; exact (below_size bel_) : w.heap.size ≤ gb174)); have n6_ := nlt_ (g := gb172) (o := .cells #[.bool a0_0, .int .u64 a0_1, .int .u64 a0_2] 30 (0, 0)) hg; have n7_ := ngt_ (g := gb172) (o := .cells #[.bool a0_0, .int .u64 a0_1, .int .u64 a0_2] 30 (0, 0)) hg; have n8_ := nlt_ (g := gb173) (o := .cells #[.bool a1_0, .int .u64 a1_1, .int .u64 a1_2] 30 (0, 0)) hg; have n9_ := ngt_ (g := gb173) (o := .cells #[.bool a1_0, .int .u64 a1_1, .int .u64 a1_2] 30 (0, 0)) hg; clear BK172; clear BK173; clear HB; have BK172 := n0_; have BK173 := n1_; have HB := n2_; have BK174 := n3_; have GW174 := n4_; have GE174 := n5_; have NB172_174 := n6_; have NB174_172 := n7_; have NB173_174 := n8_; have NB174_173 := n9_; clear n0_ n1_ n2_ n3_ n4_ n5_ n6_ n7_ n8_ n9_; clear hb hbox hg))
  (try simp only [Act.put, la_, lb_, lc_])
  go_cut [22] (fun v22 wc => ∃ (kq : Nat) (x22_2 : Bool), v22 = .bool x22_2 ∧ Aside0 (impl_AddWide.j0 kq x22_2 a0_0 a0_1 a0_2 a1_0 a1_1 a1_2 = some (r1, r2, r3, r4)) ∧ Aside0 (kq ≤ k) ∧ Aside0 (wc.heap[gb172]? = some (.cells #[.bool a0_0, .int .u64 a0_1, .int .u64 a0_2] 30 (0, 0))) ∧ Aside0 (wc.heap[gb173]? = some (.cells #[.bool a1_0, .int .u64 a1_1, .int .u64 a1_2] 30 (0, 0))) ∧ Aside0 (wc.heap[gb174]? = some (.cells #[.bool false, .int .u64 0, .int .u64 0] 30 (0, 0))) ∧ Aside0 (Below w.heap.size w wc))
  case first =>
    have H := HC3.out
    clear HC3
    replace H := Option.bind_eq_some_iff.mp H
    obtain ⟨t175, A70, H⟩ := H
    replace H : (if t175 = true then ((impl_WideOk.f a1_0 a1_1 a1_2).bind fun t176 => (impl_AddWide.j0 k (!t176) a0_0 a0_1 a0_2 a1_0 a1_1 a1_2)) else (impl_AddWide.j0 k true a0_0 a0_1 a0_2 a1_0 a1_1 a1_2)) = some (r1, r2, r3, r4) := H
    have A7 := Aside0.mk A70
    clear A70
    by_cases c8 : t175 = true
    · subst c8
      have H1 : ((impl_WideOk.f a1_0 a1_1 a1_2).bind fun t176 => (impl_AddWide.j0 k (!t176) a0_0 a0_1 a0_2 a1_0 a1_1 a1_2)) = some (r1, r2, r3, r4) := by rw [if_pos rfl] at H; exact H
      clear H
      have H := H1
      clear H1
      replace H := Option.bind_eq_some_iff.mp H
      obtain ⟨t176, A90, H⟩ := H
      replace H : (impl_AddWide.j0 k (!t176) a0_0 a0_1 a0_2 a1_0 a1_1 a1_2) = some (r1, r2, r3, r4) := H
      have A9 := Aside0.mk A90
      clear A90
      have H' := Aside0.mk H
      clear H
      have hnb10 := NB172_173.out
      have hnc10 := NB173_172.out
      have hnb11 := NB172_174.out
      have hnc11 := NB174_172.out
      have hcz12_0 : w6.cell? ⟨gb172, 0, none⟩ = some (.bool a0_0) := bc_
      have hcz12_1 : w6.cell? ⟨gb172, 1, none⟩ = some (.int .u64 a0_1) := bc_
      have hcz12_2 : w6.cell? ⟨gb172, 2, none⟩ = some (.int .u64 a0_2) := bc_
      have hfz12_0 := blk_frozen BK172.out 0
      have hfz12_1 := blk_frozen BK172.out 1
      have hfz12_2 := blk_frozen BK172.out 2
      go_wp2_with (first | ((with_reducible refine gate_callee (f := 63) rfl ?_); refine goesL_ (some 16) rfl rfl Try.func63 (by kernel_rfl) rfl #[.agg #[.bool a0_0, .int .u64 a0_1, .int .u64 a0_2]] rfl mp_ ?_; (with_reducible refine (impl_WideOk.calls a0_0 a0_1 a0_2 true _ A7.out).mono ?_); rintro e w13 ⟨rfl, hb⟩; refine ⟨_, rfl, ?_⟩; have n0_ := bb_ (g := gb172) (o := .cells #[.bool a0_0, .int .u64 a0_1, .int .u64 a0_2] 30 (0, 0)) hb; have n1_ := bb_ (g := gb173) (o := .cells #[.bool a1_0, .int .u64 a1_1, .int .u64 a1_2] 30 (0, 0)) hb; have n2_ := bb_ (g := gb174) (o := .cells #[.bool false, .int .u64 0, .int .u64 0] 30 (0, 0)) hb; have n3_ := Aside0.mk (below_step bel_ hb); clear BK172; clear BK173; clear BK174; clear HB; have BK172 := n0_; have BK173 := n1_; have BK174 := n2_; have HB := n3_; clear n0_ n1_ n2_ n3_; (try clear hb); (try clear hb2); (try clear hk); (try clear hi); have hnb14 := NB173_174.out; have hnc14 := NB174_173.out; have hcz15_0 : w13.cell? ⟨gb173, 0, none⟩ = some (.bool a1_0) := bc_; have hcz15_1 : w13.cell? ⟨gb173, 1, none⟩ = some (.int .u64 a1_1) := bc_; have hcz15_2 : w13.cell? ⟨gb173, 2, none⟩ = some (.int .u64 a1_2) := bc_; have hfz15_0 := blk_frozen BK173.out 0; have hfz15_1 := blk_frozen BK173.out 1; have hfz15_2 := blk_frozen BK173.out 2) | (go_at_call 63; (with_reducible refine (impl_WideOk.calls a1_0 a1_1 a1_2 t176 _ A9.out).mono ?_); rintro e w16 ⟨rfl, hb⟩; have n0_ := bb_ (g := gb172) (o := .cells #[.bool a0_0, .int .u64 a0_1, .int .u64 a0_2] 30 (0, 0)) hb; have n1_ := bb_ (g := gb173) (o := .cells #[.bool a1_0, .int .u64 a1_1, .int .u64 a1_2] 30 (0, 0)) hb; have n2_ := bb_ (g := gb174) (o := .cells #[.bool false, .int .u64 0, .int .u64 0] 30 (0, 0)) hb; have n3_ := Aside0.mk (below_step bel_ hb); clear BK172; clear BK173; clear BK174; clear HB; have BK172 := n0_; have BK173 := n1_; have BK174 := n2_; have HB := n3_; clear n0_ n1_ n2_ n3_; (try clear hb); (try clear hb2); (try clear hk); (try clear hi)))
      go_meet
      case rel => exact ⟨_, (!t176), (by first | rfl | (simp; done) | (simp [*]; done)), H', ⟨by first | omega | exact Nat.le_refl _⟩, ⟨by (with_reducible repeat (first | refine bN_ _ ?_ | refine bd_ ?_ | refine ba_ _ ?_)); exact BK172.out⟩, ⟨by (with_reducible repeat (first | refine bN_ _ ?_ | refine bd_ ?_ | refine ba_ _ ?_)); exact BK173.out⟩, ⟨by (with_reducible repeat (first | refine bN_ _ ?_ | refine bd_ ?_ | refine ba_ _ ?_)); exact BK174.out⟩, ⟨by repeat (first | (with_reducible first | exact HB.out | apply below_alloc | apply pw_below_drewN | apply below_drew1 | refine below_set ?_ GE172.out | refine below_set ?_ GE173.out | refine below_set ?_ GE174.out) | exact HB.out)⟩⟩
    · replace c8 := Bool.eq_false_iff.mpr c8
      subst c8
      have H1 : (impl_AddWide.j0 k true a0_0 a0_1 a0_2 a1_0 a1_1 a1_2) = some (r1, r2, r3, r4) := by rw [if_neg (show ¬ (false = true) by decide)] at H; exact H
      clear H
      have H := H1
      clear H1
      have H' := Aside0.mk H
      clear H
      have hnb17 := NB172_173.out
      have hnc17 := NB173_172.out
      have hnb18 := NB172_174.out
      have hnc18 := NB174_172.out
      have hcz19_0 : w6.cell? ⟨gb172, 0, none⟩ = some (.bool a0_0) := bc_
      have hcz19_1 : w6.cell? ⟨gb172, 1, none⟩ = some (.int .u64 a0_1) := bc_
      have hcz19_2 : w6.cell? ⟨gb172, 2, none⟩ = some (.int .u64 a0_2) := bc_
      have hfz19_0 := blk_frozen BK172.out 0
      have hfz19_1 := blk_frozen BK172.out 1
      have hfz19_2 := blk_frozen BK172.out 2
      go_wp2_with (first | ((with_reducible refine gate_callee (f := 63) rfl ?_); refine goesL_ (some 16) rfl rfl Try.func63 (by kernel_rfl) rfl #[.agg #[.bool a0_0, .int .u64 a0_1, .int .u64 a0_2]] rfl mp_ ?_; (with_reducible refine (impl_WideOk.calls a0_0 a0_1 a0_2 false _ A7.out).mono ?_); rintro e w20 ⟨rfl, hb⟩; refine ⟨_, rfl, ?_⟩; have n0_ := bb_ (g := gb172) (o := .cells #[.bool a0_0, .int .u64 a0_1, .int .u64 a0_2] 30 (0, 0)) hb; have n1_ := bb_ (g := gb173) (o := .cells #[.bool a1_0, .int .u64 a1_1, .int .u64 a1_2] 30 (0, 0)) hb; have n2_ := bb_ (g := gb174) (o := .cells #[.bool false, .int .u64 0, .int .u64 0] 30 (0, 0)) hb; have n3_ := Aside0.mk (below_step bel_ hb); clear BK172; clear BK173; clear BK174; clear HB; have BK172 := n0_; have BK173 := n1_; have BK174 := n2_; have HB := n3_; clear n0_ n1_ n2_ n3_; (try clear hb); (try clear hb2); (try clear hk); (try clear hi)))
      go_meet
      case rel => exact ⟨_, (true), (by first | rfl | (simp; done) | (simp [*]; done)), H', ⟨by first | omega | exact Nat.le_refl _⟩, ⟨by (with_reducible repeat (first | refine bN_ _ ?_ | refine bd_ ?_ | refine ba_ _ ?_)); exact BK172.out⟩, ⟨by (with_reducible repeat (first | refine bN_ _ ?_ | refine bd_ ?_ | refine ba_ _ ?_)); exact BK173.out⟩, ⟨by (with_reducible repeat (first | refine bN_ _ ?_ | refine bd_ ?_ | refine ba_ _ ?_)); exact BK174.out⟩, ⟨by repeat (first | (with_reducible first | exact HB.out | apply below_alloc | apply pw_below_drewN | apply below_drew1 | refine below_set ?_ GE172.out | refine below_set ?_ GE173.out | refine below_set ?_ GE174.out) | exact HB.out)⟩⟩
  case rest =>
    clear HC3
    try clear c1
    try clear p2
    try clear c3
    try clear c6
    try clear c8
    try clear c10
    try clear c11
    try clear c14
    try clear c17
    try clear c18
    try clear hcz12_0
    try clear hcz12_1
    try clear hcz12_2
    try clear hcz15_0
    try clear hcz15_1
    try clear hcz15_2
    try clear hcz19_0
    try clear hcz19_1
    try clear hcz19_2
    try clear hfz12_0
    try clear hfz12_1
    try clear hfz12_2
    try clear hfz15_0
    try clear hfz15_1
    try clear hfz15_2
    try clear hfz19_0
    try clear hfz19_1
    try clear hfz19_2
    obtain ⟨kq, x22_2, rfl, HA, HJ2, BK172, BK173, BK174, HB⟩ := hcut
    cases kq with
    | zero => exact absurd HA.out (by simp [impl_AddWide.j0])
    | succ kj2 =>
      have H := HA.out
      clear HA
      simp only [impl_AddWide.j0] at H
      by_cases c21 : x22_2 = true
      · subst c21
        have H1 : (some (false, 0, 0, false)) = some (r1, r2, r3, r4) := by rw [if_pos rfl] at H; exact H
        clear H
        have H := H1
        clear H1
        simp only [Option.some.injEq, Prod.mk.injEq] at H
        obtain ⟨rfl, rfl, rfl, rfl⟩ := H
        have hnb22 := NB174_172.out
        have hnc22 := NB172_174.out
        have hnb23 := NB174_173.out
        have hnc23 := NB173_174.out
        have hcz24_0 : wc.cell? ⟨gb174, 0, none⟩ = some (.bool false) := bc_
        have hcz24_1 : wc.cell? ⟨gb174, 1, none⟩ = some (.int .u64 0) := bc_
        have hcz24_2 : wc.cell? ⟨gb174, 2, none⟩ = some (.int .u64 0) := bc_
        have hfz24_0 := blk_frozen BK174.out 0
        have hfz24_1 := blk_frozen BK174.out 1
        have hfz24_2 := blk_frozen BK174.out 2
        go_wp2
        refine bodyPost_ret (results_ct rfl _ _ gb174 30 #[.bool false, .int .u64 0, .int .u64 0] (0, 0) _ rfl (by (with_reducible repeat (first | refine bN_ _ ?_ | refine bd_ ?_ | refine ba_ _ ?_)); refine blk_put (cs := #[.bool false, .int .u64 0, .int .u64 0]) ?_ 2 _ rfl; (with_reducible repeat (first | refine bN_ _ ?_ | refine bd_ ?_ | refine ba_ _ ?_)); refine blk_put (cs := #[.bool false, .int .u64 0, .int .u64 0]) ?_ 1 _ rfl; (with_reducible repeat (first | refine bN_ _ ?_ | refine bd_ ?_ | refine ba_ _ ?_)); refine blk_put (cs := #[.bool false, .int .u64 0, .int .u64 0]) ?_ 0 _ rfl; (with_reducible repeat (first | refine bN_ _ ?_ | refine bd_ ?_ | refine ba_ _ ?_)); exact BK174.out) Try.underlying30 rfl (by kernel_rfl)) rfl ?_
        exact ⟨by first | rfl | (simp [errW_none, errW_some] <;> rfl) | (simp [*, errW_none, errW_some] <;> rfl), by repeat (first | (with_reducible first | exact HB.out | apply below_alloc | apply pw_below_drewN | apply below_drew1 | refine below_set ?_ GE172.out | refine below_set ?_ GE173.out | refine below_set ?_ GE174.out) | exact HB.out)⟩
      · replace c21 := Bool.eq_false_iff.mpr c21
        subst c21
        have H1 : (if (a0_0 != a1_0) = true then ((impl_compareSizes.f kj2 a0_0 a0_1 a0_2 a1_0 a1_1 a1_2).bind fun t177 => (if t177 < 0 then ((bits_Sub64.f a1_2 a0_2 0).bind fun bt178 => ((bits_Sub64.f a1_1 a0_1 bt178.2).bind fun bt180 => ((impl_wideOf.f a1_0 bt180.1 bt178.1).bind fun bt182 => (some (bt182.1, bt182.2.1, bt182.2.2, true))))) else ((bits_Sub64.f a0_2 a1_2 0).bind fun bt185 => ((bits_Sub64.f a0_1 a1_1 bt185.2).bind fun bt187 => ((impl_wideOf.f a0_0 bt187.1 bt185.1).bind fun bt189 => (some (bt189.1, bt189.2.1, bt189.2.2, true))))))) else ((bits_Add64.f a0_2 a1_2 0).bind fun bt192 => ((bits_Add64.f a0_1 a1_1 bt192.2).bind fun bt194 => ((impl_wideOf.f a0_0 bt194.1 bt192.1).bind fun bt196 => ((impl_WideOk.f bt196.1 bt196.2.1 bt196.2.2).bind fun t200 => (if t200 = true then (some (bt196.1, bt196.2.1, bt196.2.2, true)) else (some (false, 0, 0, false)))))))) = some (r1, r2, r3, r4) := by rw [if_neg (show ¬ (false = true) by decide)] at H; exact H
        clear H
        have H := H1
        clear H1
        by_cases c25 : (a0_0 != a1_0) = true
        · rw [if_pos c25] at H
          have c25b0 : (a0_0 != a1_0) = true := c25
          (try (have c25b1 : decide (a0_0 = a1_0) = false := by simpa using c25))
          (try (have c25b2 : (a0_0 == a1_0) = false := by simpa using c25))
          (try (have c25b3 : ¬ (a0_0 = a1_0) := by simpa using c25))
          clear c25
          replace H := Option.bind_eq_some_iff.mp H
          obtain ⟨t177, A260, H⟩ := H
          replace H : (if t177 < 0 then ((bits_Sub64.f a1_2 a0_2 0).bind fun bt178 => ((bits_Sub64.f a1_1 a0_1 bt178.2).bind fun bt180 => ((impl_wideOf.f a1_0 bt180.1 bt178.1).bind fun bt182 => (some (bt182.1, bt182.2.1, bt182.2.2, true))))) else ((bits_Sub64.f a0_2 a1_2 0).bind fun bt185 => ((bits_Sub64.f a0_1 a1_1 bt185.2).bind fun bt187 => ((impl_wideOf.f a0_0 bt187.1 bt185.1).bind fun bt189 => (some (bt189.1, bt189.2.1, bt189.2.2, true)))))) = some (r1, r2, r3, r4) := H
          have A26 := Aside0.mk A260
          clear A260
          by_cases c27 : t177 < 0
          · rw [if_pos c27] at H
            have c27b0 : decide (t177 < 0) = true := decide_eq_true c27
            clear c27
            replace H := Option.bind_eq_some_iff.mp H
            obtain ⟨⟨t178, t179⟩, A280, H⟩ := H
            replace H : ((bits_Sub64.f a1_1 a0_1 t179).bind fun bt180 => ((impl_wideOf.f a1_0 bt180.1 t178).bind fun bt182 => (some (bt182.1, bt182.2.1, bt182.2.2, true)))) = some (r1, r2, r3, r4) := H
            have A28 := Aside0.mk A280
            clear A280
            replace H := Option.bind_eq_some_iff.mp H
            obtain ⟨⟨t180, t181⟩, A290, H⟩ := H
            replace H : ((impl_wideOf.f a1_0 t180 t178).bind fun bt182 => (some (bt182.1, bt182.2.1, bt182.2.2, true))) = some (r1, r2, r3, r4) := H
            have A29 := Aside0.mk A290
            clear A290
            replace H := Option.bind_eq_some_iff.mp H
            obtain ⟨⟨t182, t183, t184⟩, A300, H⟩ := H
            replace H : (some (t182, t183, t184, true)) = some (r1, r2, r3, r4) := H
            have A30 := Aside0.mk A300
            clear A300
            simp only [Option.some.injEq, Prod.mk.injEq] at H
            obtain ⟨rfl, rfl, rfl, rfl⟩ := H
            have hnb31 := NB172_173.out
            have hnc31 := NB173_172.out
            have hnb32 := NB172_174.out
            have hnc32 := NB174_172.out
            have hcz33_0 : wc.cell? ⟨gb172, 0, none⟩ = some (.bool a0_0) := bc_
            have hcz33_1 : wc.cell? ⟨gb172, 1, none⟩ = some (.int .u64 a0_1) := bc_
            have hcz33_2 : wc.cell? ⟨gb172, 2, none⟩ = some (.int .u64 a0_2) := bc_
            have hfz33_0 := blk_frozen BK172.out 0
            have hfz33_1 := blk_frozen BK172.out 1
            have hfz33_2 := blk_frozen BK172.out 2
            have hnb34 := NB173_174.out
            have hnc34 := NB174_173.out
            have hcz35_0 : wc.cell? ⟨gb173, 0, none⟩ = some (.bool a1_0) := bc_
            have hcz35_1 : wc.cell? ⟨gb173, 1, none⟩ = some (.int .u64 a1_1) := bc_
            have hcz35_2 : wc.cell? ⟨gb173, 2, none⟩ = some (.int .u64 a1_2) := bc_
            have hfz35_0 := blk_frozen BK173.out 0
            have hfz35_1 := blk_frozen BK173.out 1
            have hfz35_2 := blk_frozen BK173.out 2
            go_wp2_with (first | ((with_reducible refine gate_callee (f := 43) rfl ?_); refine goesL_ (some 31) rfl rfl Try.func43 (by kernel_rfl) rfl #[.agg #[.bool a0_0, .int .u64 a0_1, .int .u64 a0_2], .agg #[.bool a1_0, .int .u64 a1_1, .int .u64 a1_2]] rfl mp_ ?_; (with_reducible refine (impl_compareSizes.calls kj2 a0_0 a0_1 a0_2 a1_0 a1_1 a1_2 t177 _ A26.out).mono ?_); rintro e w36 ⟨rfl, hb⟩; refine ⟨_, rfl, ?_⟩; have n0_ := bb_ (g := gb172) (o := .cells #[.bool a0_0, .int .u64 a0_1, .int .u64 a0_2] 30 (0, 0)) hb; have n1_ := bb_ (g := gb173) (o := .cells #[.bool a1_0, .int .u64 a1_1, .int .u64 a1_2] 30 (0, 0)) hb; have n2_ := bb_ (g := gb174) (o := .cells #[.bool false, .int .u64 0, .int .u64 0] 30 (0, 0)) hb; have n3_ := Aside0.mk (below_step bel_ hb); clear BK172; clear BK173; clear BK174; clear HB; have BK172 := n0_; have BK173 := n1_; have BK174 := n2_; have HB := n3_; clear n0_ n1_ n2_ n3_; (try clear hb); (try clear hb2); (try clear hk); (try clear hi); have hcz37_0 : w36.cell? ⟨gb173, 0, none⟩ = some (.bool a1_0) := bc_; have hcz37_1 : w36.cell? ⟨gb173, 1, none⟩ = some (.int .u64 a1_1) := bc_; have hcz37_2 : w36.cell? ⟨gb173, 2, none⟩ = some (.int .u64 a1_2) := bc_; have hfz37_0 := blk_frozen BK173.out 0; have hfz37_1 := blk_frozen BK173.out 1; have hfz37_2 := blk_frozen BK173.out 2; have hcz38_0 : w36.cell? ⟨gb172, 0, none⟩ = some (.bool a0_0) := bc_; have hcz38_1 : w36.cell? ⟨gb172, 1, none⟩ = some (.int .u64 a0_1) := bc_; have hcz38_2 : w36.cell? ⟨gb172, 2, none⟩ = some (.int .u64 a0_2) := bc_; have hfz38_0 := blk_frozen BK172.out 0; have hfz38_1 := blk_frozen BK172.out 1; have hfz38_2 := blk_frozen BK172.out 2) | ((with_reducible refine gate_callee (f := 64) rfl ?_); refine goesX_ (some 40) rfl rfl #[.int .u64 a1_2, .int .u64 a0_2, .int .u64 0] rfl mp_ (bits_Sub64.run a1_2 a0_2 0 t178 t179 _ A28.out) ?_) | ((with_reducible refine gate_callee (f := 64) rfl ?_); refine goesX_ (some 49) rfl rfl #[.int .u64 a1_1, .int .u64 a0_1, .int .u64 t179] rfl mp_ (bits_Sub64.run a1_1 a0_1 t179 t180 t181 _ A29.out) ?_) | ((with_reducible refine gate_callee (f := 42) rfl ?_); refine goesL_ (some 56) rfl rfl Try.func42 (by kernel_rfl) rfl #[.bool a1_0, .int .u64 t180, .int .u64 t178] rfl mp_ ?_; (with_reducible refine (impl_wideOf.calls a1_0 t180 t178 t182 t183 t184 _ A30.out).mono ?_); rintro e w39 ⟨rfl, hb⟩; refine ⟨_, rfl, ?_⟩; have n0_ := Aside0.mk (blk_below (g := gb172) (o := .cells #[.bool a1_0, .int .u64 a1_1, .int .u64 a1_2] 30 (0, 0)) (by (with_reducible repeat (first | refine bN_ _ ?_ | refine bd_ ?_ | refine ba_ _ ?_)); refine blk_far ?_ NB172_173.out _; (with_reducible repeat (first | refine bN_ _ ?_ | refine bd_ ?_ | refine ba_ _ ?_)); refine blk_far ?_ NB172_173.out _; (with_reducible repeat (first | refine bN_ _ ?_ | refine bd_ ?_ | refine ba_ _ ?_)); refine blk_far ?_ NB172_173.out _; (with_reducible repeat (first | refine bN_ _ ?_ | refine bd_ ?_ | refine ba_ _ ?_)); refine blk_put (cs := #[.bool a1_0, .int .u64 a1_1, .int .u64 a0_2]) ?_ 2 _ rfl; (with_reducible repeat (first | refine bN_ _ ?_ | refine bd_ ?_ | refine ba_ _ ?_)); refine blk_put (cs := #[.bool a1_0, .int .u64 a0_1, .int .u64 a0_2]) ?_ 1 _ rfl; (with_reducible repeat (first | refine bN_ _ ?_ | refine bd_ ?_ | refine ba_ _ ?_)); refine blk_put (cs := #[.bool a0_0, .int .u64 a0_1, .int .u64 a0_2]) ?_ 0 _ rfl; (with_reducible repeat (first | refine bN_ _ ?_ | refine bd_ ?_ | refine ba_ _ ?_)); exact BK172.out) hb); have n1_ := Aside0.mk (blk_below (g := gb173) (o := .cells #[.bool a0_0, .int .u64 a0_1, .int .u64 a0_2] 30 (0, 0)) (by (with_reducible repeat (first | refine bN_ _ ?_ | refine bd_ ?_ | refine ba_ _ ?_)); refine blk_put (cs := #[.bool a0_0, .int .u64 a0_1, .int .u64 a1_2]) ?_ 2 _ rfl; (with_reducible repeat (first | refine bN_ _ ?_ | refine bd_ ?_ | refine ba_ _ ?_)); refine blk_put (cs := #[.bool a0_0, .int .u64 a1_1, .int .u64 a1_2]) ?_ 1 _ rfl; (with_reducible repeat (first | refine bN_ _ ?_ | refine bd_ ?_ | refine ba_ _ ?_)); refine blk_put (cs := #[.bool a1_0, .int .u64 a1_1, .int .u64 a1_2]) ?_ 0 _ rfl; (with_reducible repeat (first | refine bN_ _ ?_ | refine bd_ ?_ | refine ba_ _ ?_)); refine blk_far ?_ NB173_172.out _; (with_reducible repeat (first | refine bN_ _ ?_ | refine bd_ ?_ | refine ba_ _ ?_)); refine blk_far ?_ NB173_172.out _; (with_reducible repeat (first | refine bN_ _ ?_ | refine bd_ ?_ | refine ba_ _ ?_)); refine blk_far ?_ NB173_172.out _; (with_reducible repeat (first | refine bN_ _ ?_ | refine bd_ ?_ | refine ba_ _ ?_)); exact BK173.out) hb); have n2_ := Aside0.mk (blk_below (g := gb174) (o := .cells #[.bool false, .int .u64 0, .int .u64 0] 30 (0, 0)) (by (with_reducible repeat (first | refine bN_ _ ?_ | refine bd_ ?_ | refine ba_ _ ?_)); refine blk_far ?_ NB174_173.out _; (with_reducible repeat (first | refine bN_ _ ?_ | refine bd_ ?_ | refine ba_ _ ?_)); refine blk_far ?_ NB174_173.out _; (with_reducible repeat (first | refine bN_ _ ?_ | refine bd_ ?_ | refine ba_ _ ?_)); refine blk_far ?_ NB174_173.out _; (with_reducible repeat (first | refine bN_ _ ?_ | refine bd_ ?_ | refine ba_ _ ?_)); refine blk_far ?_ NB174_172.out _; (with_reducible repeat (first | refine bN_ _ ?_ | refine bd_ ?_ | refine ba_ _ ?_)); refine blk_far ?_ NB174_172.out _; (with_reducible repeat (first | refine bN_ _ ?_ | refine bd_ ?_ | refine ba_ _ ?_)); refine blk_far ?_ NB174_172.out _; (with_reducible repeat (first | refine bN_ _ ?_ | refine bd_ ?_ | refine ba_ _ ?_)); exact BK174.out) hb); have n3_ := Aside0.mk (below_step bel_ hb); clear BK172; clear BK173; clear BK174; clear HB; have BK172 := n0_; have BK173 := n1_; have BK174 := n2_; have HB := n3_; clear n0_ n1_ n2_ n3_; (try clear hb); (try clear hb2); (try clear hk); (try clear hi); have hcz40_0 : w39.cell? ⟨gb174, 0, none⟩ = some (.bool false) := bc_; have hcz40_1 : w39.cell? ⟨gb174, 1, none⟩ = some (.int .u64 0) := bc_; have hcz40_2 : w39.cell? ⟨gb174, 2, none⟩ = some (.int .u64 0) := bc_; have hfz40_0 := blk_frozen BK174.out 0; have hfz40_1 := blk_frozen BK174.out 1; have hfz40_2 := blk_frozen BK174.out 2))
            refine bodyPost_ret (results_ct rfl _ _ gb174 30 #[.bool t182, .int .u64 t183, .int .u64 t184] (0, 0) _ rfl (by (with_reducible repeat (first | refine bN_ _ ?_ | refine bd_ ?_ | refine ba_ _ ?_)); refine blk_put (cs := #[.bool t182, .int .u64 t183, .int .u64 0]) ?_ 2 _ rfl; (with_reducible repeat (first | refine bN_ _ ?_ | refine bd_ ?_ | refine ba_ _ ?_)); refine blk_put (cs := #[.bool t182, .int .u64 0, .int .u64 0]) ?_ 1 _ rfl; (with_reducible repeat (first | refine bN_ _ ?_ | refine bd_ ?_ | refine ba_ _ ?_)); refine blk_put (cs := #[.bool false, .int .u64 0, .int .u64 0]) ?_ 0 _ rfl; (with_reducible repeat (first | refine bN_ _ ?_ | refine bd_ ?_ | refine ba_ _ ?_)); exact BK174.out) Try.underlying30 rfl (by kernel_rfl)) rfl ?_
            exact ⟨by first | rfl | (simp [errW_none, errW_some] <;> rfl) | (simp [*, errW_none, errW_some] <;> rfl), by repeat (first | (with_reducible first | exact HB.out | apply below_alloc | apply pw_below_drewN | apply below_drew1 | refine below_set ?_ GE172.out | refine below_set ?_ GE173.out | refine below_set ?_ GE174.out) | exact HB.out)⟩
          · rw [if_neg c27] at H
            have c27b0 : decide (t177 < 0) = false := decide_eq_false c27
            clear c27
            replace H := Option.bind_eq_some_iff.mp H
            obtain ⟨⟨t185, t186⟩, A410, H⟩ := H
            replace H : ((bits_Sub64.f a0_1 a1_1 t186).bind fun bt187 => ((impl_wideOf.f a0_0 bt187.1 t185).bind fun bt189 => (some (bt189.1, bt189.2.1, bt189.2.2, true)))) = some (r1, r2, r3, r4) := H
            have A41 := Aside0.mk A410
            clear A410
            replace H := Option.bind_eq_some_iff.mp H
            obtain ⟨⟨t187, t188⟩, A420, H⟩ := H
            replace H : ((impl_wideOf.f a0_0 t187 t185).bind fun bt189 => (some (bt189.1, bt189.2.1, bt189.2.2, true))) = some (r1, r2, r3, r4) := H
            have A42 := Aside0.mk A420
            clear A420
            replace H := Option.bind_eq_some_iff.mp H
            obtain ⟨⟨t189, t190, t191⟩, A430, H⟩ := H
            replace H : (some (t189, t190, t191, true)) = some (r1, r2, r3, r4) := H
            have A43 := Aside0.mk A430
            clear A430
            simp only [Option.some.injEq, Prod.mk.injEq] at H
            obtain ⟨rfl, rfl, rfl, rfl⟩ := H
            have hnb44 := NB172_173.out
            have hnc44 := NB173_172.out
            have hnb45 := NB172_174.out
            have hnc45 := NB174_172.out
            have hcz46_0 : wc.cell? ⟨gb172, 0, none⟩ = some (.bool a0_0) := bc_
            have hcz46_1 : wc.cell? ⟨gb172, 1, none⟩ = some (.int .u64 a0_1) := bc_
            have hcz46_2 : wc.cell? ⟨gb172, 2, none⟩ = some (.int .u64 a0_2) := bc_
            have hfz46_0 := blk_frozen BK172.out 0
            have hfz46_1 := blk_frozen BK172.out 1
            have hfz46_2 := blk_frozen BK172.out 2
            have hnb47 := NB173_174.out
            have hnc47 := NB174_173.out
            have hcz48_0 : wc.cell? ⟨gb173, 0, none⟩ = some (.bool a1_0) := bc_
            have hcz48_1 : wc.cell? ⟨gb173, 1, none⟩ = some (.int .u64 a1_1) := bc_
            have hcz48_2 : wc.cell? ⟨gb173, 2, none⟩ = some (.int .u64 a1_2) := bc_
            have hfz48_0 := blk_frozen BK173.out 0
            have hfz48_1 := blk_frozen BK173.out 1
            have hfz48_2 := blk_frozen BK173.out 2
            go_wp2_with (first | ((with_reducible refine gate_callee (f := 43) rfl ?_); refine goesL_ (some 31) rfl rfl Try.func43 (by kernel_rfl) rfl #[.agg #[.bool a0_0, .int .u64 a0_1, .int .u64 a0_2], .agg #[.bool a1_0, .int .u64 a1_1, .int .u64 a1_2]] rfl mp_ ?_; (with_reducible refine (impl_compareSizes.calls kj2 a0_0 a0_1 a0_2 a1_0 a1_1 a1_2 t177 _ A26.out).mono ?_); rintro e w49 ⟨rfl, hb⟩; refine ⟨_, rfl, ?_⟩; have n0_ := bb_ (g := gb172) (o := .cells #[.bool a0_0, .int .u64 a0_1, .int .u64 a0_2] 30 (0, 0)) hb; have n1_ := bb_ (g := gb173) (o := .cells #[.bool a1_0, .int .u64 a1_1, .int .u64 a1_2] 30 (0, 0)) hb; have n2_ := bb_ (g := gb174) (o := .cells #[.bool false, .int .u64 0, .int .u64 0] 30 (0, 0)) hb; have n3_ := Aside0.mk (below_step bel_ hb); clear BK172; clear BK173; clear BK174; clear HB; have BK172 := n0_; have BK173 := n1_; have BK174 := n2_; have HB := n3_; clear n0_ n1_ n2_ n3_; (try clear hb); (try clear hb2); (try clear hk); (try clear hi); have hcz50_0 : w49.cell? ⟨gb172, 0, none⟩ = some (.bool a0_0) := bc_; have hcz50_1 : w49.cell? ⟨gb172, 1, none⟩ = some (.int .u64 a0_1) := bc_; have hcz50_2 : w49.cell? ⟨gb172, 2, none⟩ = some (.int .u64 a0_2) := bc_; have hfz50_0 := blk_frozen BK172.out 0; have hfz50_1 := blk_frozen BK172.out 1; have hfz50_2 := blk_frozen BK172.out 2; have hcz51_0 : w49.cell? ⟨gb173, 0, none⟩ = some (.bool a1_0) := bc_; have hcz51_1 : w49.cell? ⟨gb173, 1, none⟩ = some (.int .u64 a1_1) := bc_; have hcz51_2 : w49.cell? ⟨gb173, 2, none⟩ = some (.int .u64 a1_2) := bc_; have hfz51_0 := blk_frozen BK173.out 0; have hfz51_1 := blk_frozen BK173.out 1; have hfz51_2 := blk_frozen BK173.out 2) | ((with_reducible refine gate_callee (f := 64) rfl ?_); refine goesX_ (some 40) rfl rfl #[.int .u64 a0_2, .int .u64 a1_2, .int .u64 0] rfl mp_ (bits_Sub64.run a0_2 a1_2 0 t185 t186 _ A41.out) ?_; (try (rw [drewN_self w49]; generalize hq_ : World.drewN w49 _ = w49; have n0_ : Aside0 (w49.heap[gb172]? = some (.cells #[.bool a0_0, .int .u64 a0_1, .int .u64 a0_2] 30 (0, 0))) := ⟨by rw [← hq_]; exact (by (with_reducible repeat (first | refine bN_ _ ?_ | refine bd_ ?_ | refine ba_ _ ?_)); exact BK172.out)⟩; have n1_ : Aside0 (w49.heap[gb173]? = some (.cells #[.bool a1_0, .int .u64 a1_1, .int .u64 a1_2] 30 (0, 0))) := ⟨by rw [← hq_]; exact (by (with_reducible repeat (first | refine bN_ _ ?_ | refine bd_ ?_ | refine ba_ _ ?_)); exact BK173.out)⟩; have n2_ : Aside0 (w49.heap[gb174]? = some (.cells #[.bool false, .int .u64 0, .int .u64 0] 30 (0, 0))) := ⟨by rw [← hq_]; exact (by (with_reducible repeat (first | refine bN_ _ ?_ | refine bd_ ?_ | refine ba_ _ ?_)); exact BK174.out)⟩; have n3_ : Aside0 (Below w.heap.size w w49) := ⟨by rw [← hq_]; exact bel_⟩; clear BK172 BK173 BK174 HB hq_; have BK172 := n0_; have BK173 := n1_; have BK174 := n2_; have HB := n3_; clear n0_ n1_ n2_ n3_))) | ((with_reducible refine gate_callee (f := 64) rfl ?_); refine goesX_ (some 49) rfl rfl #[.int .u64 a0_1, .int .u64 a1_1, .int .u64 t186] rfl mp_ (bits_Sub64.run a0_1 a1_1 t186 t187 t188 _ A42.out) ?_; (try (rw [drewN_self w49]; generalize hq_ : World.drewN w49 _ = w49; have n0_ : Aside0 (w49.heap[gb172]? = some (.cells #[.bool a0_0, .int .u64 a0_1, .int .u64 a0_2] 30 (0, 0))) := ⟨by rw [← hq_]; exact (by (with_reducible repeat (first | refine bN_ _ ?_ | refine bd_ ?_ | refine ba_ _ ?_)); exact BK172.out)⟩; have n1_ : Aside0 (w49.heap[gb173]? = some (.cells #[.bool a1_0, .int .u64 a1_1, .int .u64 a1_2] 30 (0, 0))) := ⟨by rw [← hq_]; exact (by (with_reducible repeat (first | refine bN_ _ ?_ | refine bd_ ?_ | refine ba_ _ ?_)); exact BK173.out)⟩; have n2_ : Aside0 (w49.heap[gb174]? = some (.cells #[.bool false, .int .u64 0, .int .u64 0] 30 (0, 0))) := ⟨by rw [← hq_]; exact (by (with_reducible repeat (first | refine bN_ _ ?_ | refine bd_ ?_ | refine ba_ _ ?_)); exact BK174.out)⟩; have n3_ : Aside0 (Below w.heap.size w w49) := ⟨by rw [← hq_]; exact bel_⟩; clear BK172 BK173 BK174 HB hq_; have BK172 := n0_; have BK173 := n1_; have BK174 := n2_; have HB := n3_; clear n0_ n1_ n2_ n3_))) | ((with_reducible refine gate_callee (f := 42) rfl ?_); refine goesL_ (some 56) rfl rfl Try.func42 (by kernel_rfl) rfl #[.bool a0_0, .int .u64 t187, .int .u64 t185] rfl mp_ ?_; (with_reducible refine (impl_wideOf.calls a0_0 t187 t185 t189 t190 t191 _ A43.out).mono ?_); rintro e w52 ⟨rfl, hb⟩; refine ⟨_, rfl, ?_⟩; have n0_ := bb_ (g := gb172) (o := .cells #[.bool a0_0, .int .u64 a0_1, .int .u64 a0_2] 30 (0, 0)) hb; have n1_ := bb_ (g := gb173) (o := .cells #[.bool a1_0, .int .u64 a1_1, .int .u64 a1_2] 30 (0, 0)) hb; have n2_ := bb_ (g := gb174) (o := .cells #[.bool false, .int .u64 0, .int .u64 0] 30 (0, 0)) hb; have n3_ := Aside0.mk (below_step bel_ hb); clear BK172; clear BK173; clear BK174; clear HB; have BK172 := n0_; have BK173 := n1_; have BK174 := n2_; have HB := n3_; clear n0_ n1_ n2_ n3_; (try clear hb); (try clear hb2); (try clear hk); (try clear hi); have hcz53_0 : w52.cell? ⟨gb174, 0, none⟩ = some (.bool false) := bc_; have hcz53_1 : w52.cell? ⟨gb174, 1, none⟩ = some (.int .u64 0) := bc_; have hcz53_2 : w52.cell? ⟨gb174, 2, none⟩ = some (.int .u64 0) := bc_; have hfz53_0 := blk_frozen BK174.out 0; have hfz53_1 := blk_frozen BK174.out 1; have hfz53_2 := blk_frozen BK174.out 2))
            refine bodyPost_ret (results_ct rfl _ _ gb174 30 #[.bool t189, .int .u64 t190, .int .u64 t191] (0, 0) _ rfl (by (with_reducible repeat (first | refine bN_ _ ?_ | refine bd_ ?_ | refine ba_ _ ?_)); refine blk_put (cs := #[.bool t189, .int .u64 t190, .int .u64 0]) ?_ 2 _ rfl; (with_reducible repeat (first | refine bN_ _ ?_ | refine bd_ ?_ | refine ba_ _ ?_)); refine blk_put (cs := #[.bool t189, .int .u64 0, .int .u64 0]) ?_ 1 _ rfl; (with_reducible repeat (first | refine bN_ _ ?_ | refine bd_ ?_ | refine ba_ _ ?_)); refine blk_put (cs := #[.bool false, .int .u64 0, .int .u64 0]) ?_ 0 _ rfl; (with_reducible repeat (first | refine bN_ _ ?_ | refine bd_ ?_ | refine ba_ _ ?_)); exact BK174.out) Try.underlying30 rfl (by kernel_rfl)) rfl ?_
            exact ⟨by first | rfl | (simp [errW_none, errW_some] <;> rfl) | (simp [*, errW_none, errW_some] <;> rfl), by repeat (first | (with_reducible first | exact HB.out | apply below_alloc | apply pw_below_drewN | apply below_drew1 | refine below_set ?_ GE172.out | refine below_set ?_ GE173.out | refine below_set ?_ GE174.out) | exact HB.out)⟩
        · rw [if_neg c25] at H
          have c25b0 : (a0_0 != a1_0) = false := by simpa using c25
          (try (have c25b1 : decide (a0_0 = a1_0) = true := by simpa using c25))
          (try (have c25b2 : (a0_0 == a1_0) = true := by simpa using c25))
          clear c25
          replace H := Option.bind_eq_some_iff.mp H
          obtain ⟨⟨t192, t193⟩, A540, H⟩ := H
          replace H : ((bits_Add64.f a0_1 a1_1 t193).bind fun bt194 => ((impl_wideOf.f a0_0 bt194.1 t192).bind fun bt196 => ((impl_WideOk.f bt196.1 bt196.2.1 bt196.2.2).bind fun t200 => (if t200 = true then (some (bt196.1, bt196.2.1, bt196.2.2, true)) else (some (false, 0, 0, false)))))) = some (r1, r2, r3, r4) := H
          have A54 := Aside0.mk A540
          clear A540
          replace H := Option.bind_eq_some_iff.mp H
          obtain ⟨⟨t194, t195⟩, A550, H⟩ := H
          replace H : ((impl_wideOf.f a0_0 t194 t192).bind fun bt196 => ((impl_WideOk.f bt196.1 bt196.2.1 bt196.2.2).bind fun t200 => (if t200 = true then (some (bt196.1, bt196.2.1, bt196.2.2, true)) else (some (false, 0, 0, false))))) = some (r1, r2, r3, r4) := H
          have A55 := Aside0.mk A550
          clear A550
          replace H := Option.bind_eq_some_iff.mp H
          obtain ⟨⟨t196, t197, t198⟩, A560, H⟩ := H
          replace H : ((impl_WideOk.f t196 t197 t198).bind fun t200 => (if t200 = true then (some (t196, t197, t198, true)) else (some (false, 0, 0, false)))) = some (r1, r2, r3, r4) := H
          have A56 := Aside0.mk A560
          clear A560
          replace H := Option.bind_eq_some_iff.mp H
          obtain ⟨t200, A570, H⟩ := H
          replace H : (if t200 = true then (some (t196, t197, t198, true)) else (some (false, 0, 0, false))) = some (r1, r2, r3, r4) := H
          have A57 := Aside0.mk A570
          clear A570
          by_cases c58 : t200 = true
          · subst c58
            have H1 : (some (t196, t197, t198, true)) = some (r1, r2, r3, r4) := by rw [if_pos rfl] at H; exact H
            clear H
            have H := H1
            clear H1
            simp only [Option.some.injEq, Prod.mk.injEq] at H
            obtain ⟨rfl, rfl, rfl, rfl⟩ := H
            have hnb59 := NB172_173.out
            have hnc59 := NB173_172.out
            have hnb60 := NB172_174.out
            have hnc60 := NB174_172.out
            have hcz61_0 : wc.cell? ⟨gb172, 0, none⟩ = some (.bool a0_0) := bc_
            have hcz61_1 : wc.cell? ⟨gb172, 1, none⟩ = some (.int .u64 a0_1) := bc_
            have hcz61_2 : wc.cell? ⟨gb172, 2, none⟩ = some (.int .u64 a0_2) := bc_
            have hfz61_0 := blk_frozen BK172.out 0
            have hfz61_1 := blk_frozen BK172.out 1
            have hfz61_2 := blk_frozen BK172.out 2
            have hnb62 := NB173_174.out
            have hnc62 := NB174_173.out
            have hcz63_0 : wc.cell? ⟨gb173, 0, none⟩ = some (.bool a1_0) := bc_
            have hcz63_1 : wc.cell? ⟨gb173, 1, none⟩ = some (.int .u64 a1_1) := bc_
            have hcz63_2 : wc.cell? ⟨gb173, 2, none⟩ = some (.int .u64 a1_2) := bc_
            have hfz63_0 := blk_frozen BK173.out 0
            have hfz63_1 := blk_frozen BK173.out 1
            have hfz63_2 := blk_frozen BK173.out 2
            go_wp2_with (first | ((with_reducible refine gate_callee (f := 65) rfl ?_); refine goesX_ (some 62) rfl rfl #[.int .u64 a0_2, .int .u64 a1_2, .int .u64 0] rfl mp_ (bits_Add64.run a0_2 a1_2 0 t192 t193 _ A54.out) ?_; (try (rw [drewN_self wc]; generalize hq_ : World.drewN wc _ = wc; have n0_ : Aside0 (wc.heap[gb172]? = some (.cells #[.bool a0_0, .int .u64 a0_1, .int .u64 a0_2] 30 (0, 0))) := ⟨by rw [← hq_]; exact (by (with_reducible repeat (first | refine bN_ _ ?_ | refine bd_ ?_ | refine ba_ _ ?_)); exact BK172.out)⟩; have n1_ : Aside0 (wc.heap[gb173]? = some (.cells #[.bool a1_0, .int .u64 a1_1, .int .u64 a1_2] 30 (0, 0))) := ⟨by rw [← hq_]; exact (by (with_reducible repeat (first | refine bN_ _ ?_ | refine bd_ ?_ | refine ba_ _ ?_)); exact BK173.out)⟩; have n2_ : Aside0 (wc.heap[gb174]? = some (.cells #[.bool false, .int .u64 0, .int .u64 0] 30 (0, 0))) := ⟨by rw [← hq_]; exact (by (with_reducible repeat (first | refine bN_ _ ?_ | refine bd_ ?_ | refine ba_ _ ?_)); exact BK174.out)⟩; have n3_ : Aside0 (Below w.heap.size w wc) := ⟨by rw [← hq_]; exact bel_⟩; clear BK172 BK173 BK174 HB hq_; have BK172 := n0_; have BK173 := n1_; have BK174 := n2_; have HB := n3_; clear n0_ n1_ n2_ n3_))) | ((with_reducible refine gate_callee (f := 65) rfl ?_); refine goesX_ (some 71) rfl rfl #[.int .u64 a0_1, .int .u64 a1_1, .int .u64 t193] rfl mp_ (bits_Add64.run a0_1 a1_1 t193 t194 t195 _ A55.out) ?_; (try (rw [drewN_self wc]; generalize hq_ : World.drewN wc _ = wc; have n0_ : Aside0 (wc.heap[gb172]? = some (.cells #[.bool a0_0, .int .u64 a0_1, .int .u64 a0_2] 30 (0, 0))) := ⟨by rw [← hq_]; exact (by (with_reducible repeat (first | refine bN_ _ ?_ | refine bd_ ?_ | refine ba_ _ ?_)); exact BK172.out)⟩; have n1_ : Aside0 (wc.heap[gb173]? = some (.cells #[.bool a1_0, .int .u64 a1_1, .int .u64 a1_2] 30 (0, 0))) := ⟨by rw [← hq_]; exact (by (with_reducible repeat (first | refine bN_ _ ?_ | refine bd_ ?_ | refine ba_ _ ?_)); exact BK173.out)⟩; have n2_ : Aside0 (wc.heap[gb174]? = some (.cells #[.bool false, .int .u64 0, .int .u64 0] 30 (0, 0))) := ⟨by rw [← hq_]; exact (by (with_reducible repeat (first | refine bN_ _ ?_ | refine bd_ ?_ | refine ba_ _ ?_)); exact BK174.out)⟩; have n3_ : Aside0 (Below w.heap.size w wc) := ⟨by rw [← hq_]; exact bel_⟩; clear BK172 BK173 BK174 HB hq_; have BK172 := n0_; have BK173 := n1_; have BK174 := n2_; have HB := n3_; clear n0_ n1_ n2_ n3_))) | ((with_reducible refine gate_callee (f := 42) rfl ?_); refine goesL_ (some 78) rfl rfl Try.func42 (by kernel_rfl) rfl #[.bool a0_0, .int .u64 t194, .int .u64 t192] rfl mp_ ?_; (with_reducible refine (impl_wideOf.calls a0_0 t194 t192 t196 t197 t198 _ A56.out).mono ?_); rintro e w64 ⟨rfl, hb⟩; refine ⟨_, rfl, ?_⟩; have n0_ := bb_ (g := gb172) (o := .cells #[.bool a0_0, .int .u64 a0_1, .int .u64 a0_2] 30 (0, 0)) hb; have n1_ := bb_ (g := gb173) (o := .cells #[.bool a1_0, .int .u64 a1_1, .int .u64 a1_2] 30 (0, 0)) hb; have n2_ := bb_ (g := gb174) (o := .cells #[.bool false, .int .u64 0, .int .u64 0] 30 (0, 0)) hb; have n3_ := Aside0.mk (below_step bel_ hb); clear BK172; clear BK173; clear BK174; clear HB; have BK172 := n0_; have BK173 := n1_; have BK174 := n2_; have HB := n3_; clear n0_ n1_ n2_ n3_; (try clear hb); (try clear hb2); (try clear hk); (try clear hi)) | ((with_reducible refine gate_dst (N := 14) rfl ?_); refine box_event ?hg (N := 14) ?hd (cs := #[.bool false, .int .u64 0, .int .u64 0]) (t := 30) ?hr ?_; (case hd => rfl); (case hg => rfl); (case hr => first | (go_simp; done) | (go_simp; rfl)); intro gb199 hg w65 hbox hb; have n0_ := bb_ (g := gb172) (o := .cells #[.bool a0_0, .int .u64 a0_1, .int .u64 a0_2] 30 (0, 0)) hb; have n1_ := bb_ (g := gb173) (o := .cells #[.bool a1_0, .int .u64 a1_1, .int .u64 a1_2] 30 (0, 0)) hb; have n2_ := bb_ (g := gb174) (o := .cells #[.bool false, .int .u64 0, .int .u64 0] 30 (0, 0)) hb; have n3_ := Aside0.mk (below_step bel_ hb); have n4_ := Aside0.mk (hbox); have n5_ := Aside0.mk ((by rw [hg]; exact (below_size bel_) : w.heap.size ≤ gb199)); have n6_ := Aside0.mk ((by rw [hg]; exact (below_size bel_) : w.heap.size ≤ gb199)); have n7_ := nlt_ (g := gb172) (o := .cells #[.bool a0_0, .int .u64 a0_1, .int .u64 a0_2] 30 (0, 0)) hg; have n8_ := ngt_ (g := gb172) (o := .cells #[.bool a0_0, .int .u64 a0_1, .int .u64 a0_2] 30 (0, 0)) hg; have n9_ := nlt_ (g := gb173) (o := .cells #[.bool a1_0, .int .u64 a1_1, .int .u64 a1_2] 30 (0, 0)) hg; have n10_ := ngt_ (g := gb173) (o := .cells #[.bool a1_0, .int .u64 a1_1, .int .u64 a1_2] 30 (0, 0)) hg; have n11_ := nlt_ (g := gb174) (o := .cells #[.bool false, .int .u64 0, .int .u64 0] 30 (0, 0)) hg; have n12_ := ngt_ (g := gb174) (o := .cells #[.bool false, .int .u64 0, .int .u64 0] 30 (0, 0)) hg; clear BK172; clear BK173; clear BK174; clear HB; have BK172 := n0_; have BK173 := n1_; have BK174 := n2_; have HB := n3_; have BK199 := n4_; have GW199 := n5_; have GE199 := n6_; have NB172_199 := n7_; have NB199_172 := n8_; have NB173_199 := n9_; have NB199_173 := n10_; have NB174_199 := n11_; have NB199_174 := n12_; clear n0_ n1_ n2_ n3_ n4_ n5_ n6_ n7_ n8_ n9_ n10_ n11_ n12_; clear hb hbox hg; have hnb66 := NB199_172.out; have hnc66 := NB172_199.out; have hnb67 := NB199_173.out; have hnc67 := NB173_199.out; have hnb68 := NB199_174.out; have hnc68 := NB174_199.out; have hcz69_0 : w65.cell? ⟨gb199, 0, none⟩ = some (.bool false) := bc_; have hcz69_1 : w65.cell? ⟨gb199, 1, none⟩ = some (.int .u64 0) := bc_; have hcz69_2 : w65.cell? ⟨gb199, 2, none⟩ = some (.int .u64 0) := bc_; have hfz69_0 := blk_frozen BK199.out 0; have hfz69_1 := blk_frozen BK199.out 1; have hfz69_2 := blk_frozen BK199.out 2) | ((with_reducible refine gate_callee (f := 63) rfl ?_); refine goesL_ (some 80) rfl rfl Try.func63 (by kernel_rfl) rfl #[.agg #[.bool t196, .int .u64 t197, .int .u64 t198]] rfl mp_ ?_; (with_reducible refine (impl_WideOk.calls t196 t197 t198 true _ A57.out).mono ?_); rintro e w70 ⟨rfl, hb⟩; refine ⟨_, rfl, ?_⟩; have n0_ := Aside0.mk (blk_below (g := gb172) (o := .cells #[.bool a0_0, .int .u64 a0_1, .int .u64 a0_2] 30 (0, 0)) (by (with_reducible repeat (first | refine bN_ _ ?_ | refine bd_ ?_ | refine ba_ _ ?_)); refine blk_far ?_ NB172_199.out _; (with_reducible repeat (first | refine bN_ _ ?_ | refine bd_ ?_ | refine ba_ _ ?_)); refine blk_far ?_ NB172_199.out _; (with_reducible repeat (first | refine bN_ _ ?_ | refine bd_ ?_ | refine ba_ _ ?_)); refine blk_far ?_ NB172_199.out _; (with_reducible repeat (first | refine bN_ _ ?_ | refine bd_ ?_ | refine ba_ _ ?_)); exact BK172.out) hb); have n1_ := Aside0.mk (blk_below (g := gb173) (o := .cells #[.bool a1_0, .int .u64 a1_1, .int .u64 a1_2] 30 (0, 0)) (by (with_reducible repeat (first | refine bN_ _ ?_ | refine bd_ ?_ | refine ba_ _ ?_)); refine blk_far ?_ NB173_199.out _; (with_reducible repeat (first | refine bN_ _ ?_ | refine bd_ ?_ | refine ba_ _ ?_)); refine blk_far ?_ NB173_199.out _; (with_reducible repeat (first | refine bN_ _ ?_ | refine bd_ ?_ | refine ba_ _ ?_)); refine blk_far ?_ NB173_199.out _; (with_reducible repeat (first | refine bN_ _ ?_ | refine bd_ ?_ | refine ba_ _ ?_)); exact BK173.out) hb); have n2_ := Aside0.mk (blk_below (g := gb174) (o := .cells #[.bool false, .int .u64 0, .int .u64 0] 30 (0, 0)) (by (with_reducible repeat (first | refine bN_ _ ?_ | refine bd_ ?_ | refine ba_ _ ?_)); refine blk_far ?_ NB174_199.out _; (with_reducible repeat (first | refine bN_ _ ?_ | refine bd_ ?_ | refine ba_ _ ?_)); refine blk_far ?_ NB174_199.out _; (with_reducible repeat (first | refine bN_ _ ?_ | refine bd_ ?_ | refine ba_ _ ?_)); refine blk_far ?_ NB174_199.out _; (with_reducible repeat (first | refine bN_ _ ?_ | refine bd_ ?_ | refine ba_ _ ?_)); exact BK174.out) hb); have n3_ := Aside0.mk (blk_below (g := gb199) (o := .cells #[.bool t196, .int .u64 t197, .int .u64 t198] 30 (0, 0)) (by (with_reducible repeat (first | refine bN_ _ ?_ | refine bd_ ?_ | refine ba_ _ ?_)); refine blk_put (cs := #[.bool t196, .int .u64 t197, .int .u64 0]) ?_ 2 _ rfl; (with_reducible repeat (first | refine bN_ _ ?_ | refine bd_ ?_ | refine ba_ _ ?_)); refine blk_put (cs := #[.bool t196, .int .u64 0, .int .u64 0]) ?_ 1 _ rfl; (with_reducible repeat (first | refine bN_ _ ?_ | refine bd_ ?_ | refine ba_ _ ?_)); refine blk_put (cs := #[.bool false, .int .u64 0, .int .u64 0]) ?_ 0 _ rfl; (with_reducible repeat (first | refine bN_ _ ?_ | refine bd_ ?_ | refine ba_ _ ?_)); exact BK199.out) hb); have n4_ := Aside0.mk (below_step bel_ hb); clear BK172; clear BK173; clear BK174; clear BK199; clear HB; have BK172 := n0_; have BK173 := n1_; have BK174 := n2_; have BK199 := n3_; have HB := n4_; clear n0_ n1_ n2_ n3_ n4_; (try clear hb); (try clear hb2); (try clear hk); (try clear hi); have hcz71_0 : w70.cell? ⟨gb199, 0, none⟩ = some (.bool t196) := bc_; have hcz71_1 : w70.cell? ⟨gb199, 1, none⟩ = some (.int .u64 t197) := bc_; have hcz71_2 : w70.cell? ⟨gb199, 2, none⟩ = some (.int .u64 t198) := bc_; have hfz71_0 := blk_frozen BK199.out 0; have hfz71_1 := blk_frozen BK199.out 1; have hfz71_2 := blk_frozen BK199.out 2; have hcz72_0 : w70.cell? ⟨gb174, 0, none⟩ = some (.bool false) := bc_; have hcz72_1 : w70.cell? ⟨gb174, 1, none⟩ = some (.int .u64 0) := bc_; have hcz72_2 : w70.cell? ⟨gb174, 2, none⟩ = some (.int .u64 0) := bc_; have hfz72_0 := blk_frozen BK174.out 0; have hfz72_1 := blk_frozen BK174.out 1; have hfz72_2 := blk_frozen BK174.out 2))
            refine bodyPost_ret (results_ct rfl _ _ gb174 30 #[.bool t196, .int .u64 t197, .int .u64 t198] (0, 0) _ rfl (by (with_reducible repeat (first | refine bN_ _ ?_ | refine bd_ ?_ | refine ba_ _ ?_)); refine blk_put (cs := #[.bool t196, .int .u64 t197, .int .u64 0]) ?_ 2 _ rfl; (with_reducible repeat (first | refine bN_ _ ?_ | refine bd_ ?_ | refine ba_ _ ?_)); refine blk_put (cs := #[.bool t196, .int .u64 0, .int .u64 0]) ?_ 1 _ rfl; (with_reducible repeat (first | refine bN_ _ ?_ | refine bd_ ?_ | refine ba_ _ ?_)); refine blk_put (cs := #[.bool false, .int .u64 0, .int .u64 0]) ?_ 0 _ rfl; (with_reducible repeat (first | refine bN_ _ ?_ | refine bd_ ?_ | refine ba_ _ ?_)); exact BK174.out) Try.underlying30 rfl (by kernel_rfl)) rfl ?_
            exact ⟨by first | rfl | (simp [errW_none, errW_some] <;> rfl) | (simp [*, errW_none, errW_some] <;> rfl), by repeat (first | (with_reducible first | exact HB.out | apply below_alloc | apply pw_below_drewN | apply below_drew1 | refine below_set ?_ GE172.out | refine below_set ?_ GE173.out | refine below_set ?_ GE174.out | refine below_set ?_ GE199.out) | exact HB.out)⟩
          · replace c58 := Bool.eq_false_iff.mpr c58
            subst c58
            have H1 : (some (false, 0, 0, false)) = some (r1, r2, r3, r4) := by rw [if_neg (show ¬ (false = true) by decide)] at H; exact H
            clear H
            have H := H1
            clear H1
            simp only [Option.some.injEq, Prod.mk.injEq] at H
            obtain ⟨rfl, rfl, rfl, rfl⟩ := H
            have hnb73 := NB172_173.out
            have hnc73 := NB173_172.out
            have hnb74 := NB172_174.out
            have hnc74 := NB174_172.out
            have hcz75_0 : wc.cell? ⟨gb172, 0, none⟩ = some (.bool a0_0) := bc_
            have hcz75_1 : wc.cell? ⟨gb172, 1, none⟩ = some (.int .u64 a0_1) := bc_
            have hcz75_2 : wc.cell? ⟨gb172, 2, none⟩ = some (.int .u64 a0_2) := bc_
            have hfz75_0 := blk_frozen BK172.out 0
            have hfz75_1 := blk_frozen BK172.out 1
            have hfz75_2 := blk_frozen BK172.out 2
            have hnb76 := NB173_174.out
            have hnc76 := NB174_173.out
            have hcz77_0 : wc.cell? ⟨gb173, 0, none⟩ = some (.bool a1_0) := bc_
            have hcz77_1 : wc.cell? ⟨gb173, 1, none⟩ = some (.int .u64 a1_1) := bc_
            have hcz77_2 : wc.cell? ⟨gb173, 2, none⟩ = some (.int .u64 a1_2) := bc_
            have hfz77_0 := blk_frozen BK173.out 0
            have hfz77_1 := blk_frozen BK173.out 1
            have hfz77_2 := blk_frozen BK173.out 2
            go_wp2_with (first | ((with_reducible refine gate_callee (f := 65) rfl ?_); refine goesX_ (some 62) rfl rfl #[.int .u64 a0_2, .int .u64 a1_2, .int .u64 0] rfl mp_ (bits_Add64.run a0_2 a1_2 0 t192 t193 _ A54.out) ?_; (try (rw [drewN_self wc]; generalize hq_ : World.drewN wc _ = wc; have n0_ : Aside0 (wc.heap[gb172]? = some (.cells #[.bool a0_0, .int .u64 a0_1, .int .u64 a0_2] 30 (0, 0))) := ⟨by rw [← hq_]; exact (by (with_reducible repeat (first | refine bN_ _ ?_ | refine bd_ ?_ | refine ba_ _ ?_)); exact BK172.out)⟩; have n1_ : Aside0 (wc.heap[gb173]? = some (.cells #[.bool a1_0, .int .u64 a1_1, .int .u64 a1_2] 30 (0, 0))) := ⟨by rw [← hq_]; exact (by (with_reducible repeat (first | refine bN_ _ ?_ | refine bd_ ?_ | refine ba_ _ ?_)); exact BK173.out)⟩; have n2_ : Aside0 (wc.heap[gb174]? = some (.cells #[.bool false, .int .u64 0, .int .u64 0] 30 (0, 0))) := ⟨by rw [← hq_]; exact (by (with_reducible repeat (first | refine bN_ _ ?_ | refine bd_ ?_ | refine ba_ _ ?_)); exact BK174.out)⟩; have n3_ : Aside0 (Below w.heap.size w wc) := ⟨by rw [← hq_]; exact bel_⟩; clear BK172 BK173 BK174 HB hq_; have BK172 := n0_; have BK173 := n1_; have BK174 := n2_; have HB := n3_; clear n0_ n1_ n2_ n3_))) | ((with_reducible refine gate_callee (f := 65) rfl ?_); refine goesX_ (some 71) rfl rfl #[.int .u64 a0_1, .int .u64 a1_1, .int .u64 t193] rfl mp_ (bits_Add64.run a0_1 a1_1 t193 t194 t195 _ A55.out) ?_; (try (rw [drewN_self wc]; generalize hq_ : World.drewN wc _ = wc; have n0_ : Aside0 (wc.heap[gb172]? = some (.cells #[.bool a0_0, .int .u64 a0_1, .int .u64 a0_2] 30 (0, 0))) := ⟨by rw [← hq_]; exact (by (with_reducible repeat (first | refine bN_ _ ?_ | refine bd_ ?_ | refine ba_ _ ?_)); exact BK172.out)⟩; have n1_ : Aside0 (wc.heap[gb173]? = some (.cells #[.bool a1_0, .int .u64 a1_1, .int .u64 a1_2] 30 (0, 0))) := ⟨by rw [← hq_]; exact (by (with_reducible repeat (first | refine bN_ _ ?_ | refine bd_ ?_ | refine ba_ _ ?_)); exact BK173.out)⟩; have n2_ : Aside0 (wc.heap[gb174]? = some (.cells #[.bool false, .int .u64 0, .int .u64 0] 30 (0, 0))) := ⟨by rw [← hq_]; exact (by (with_reducible repeat (first | refine bN_ _ ?_ | refine bd_ ?_ | refine ba_ _ ?_)); exact BK174.out)⟩; have n3_ : Aside0 (Below w.heap.size w wc) := ⟨by rw [← hq_]; exact bel_⟩; clear BK172 BK173 BK174 HB hq_; have BK172 := n0_; have BK173 := n1_; have BK174 := n2_; have HB := n3_; clear n0_ n1_ n2_ n3_))) | ((with_reducible refine gate_callee (f := 42) rfl ?_); refine goesL_ (some 78) rfl rfl Try.func42 (by kernel_rfl) rfl #[.bool a0_0, .int .u64 t194, .int .u64 t192] rfl mp_ ?_; (with_reducible refine (impl_wideOf.calls a0_0 t194 t192 t196 t197 t198 _ A56.out).mono ?_); rintro e w78 ⟨rfl, hb⟩; refine ⟨_, rfl, ?_⟩; have n0_ := bb_ (g := gb172) (o := .cells #[.bool a0_0, .int .u64 a0_1, .int .u64 a0_2] 30 (0, 0)) hb; have n1_ := bb_ (g := gb173) (o := .cells #[.bool a1_0, .int .u64 a1_1, .int .u64 a1_2] 30 (0, 0)) hb; have n2_ := bb_ (g := gb174) (o := .cells #[.bool false, .int .u64 0, .int .u64 0] 30 (0, 0)) hb; have n3_ := Aside0.mk (below_step bel_ hb); clear BK172; clear BK173; clear BK174; clear HB; have BK172 := n0_; have BK173 := n1_; have BK174 := n2_; have HB := n3_; clear n0_ n1_ n2_ n3_; (try clear hb); (try clear hb2); (try clear hk); (try clear hi)) | ((with_reducible refine gate_dst (N := 14) rfl ?_); refine box_event ?hg (N := 14) ?hd (cs := #[.bool false, .int .u64 0, .int .u64 0]) (t := 30) ?hr ?_; (case hd => rfl); (case hg => rfl); (case hr => first | (go_simp; done) | (go_simp; rfl)); intro gb199 hg w79 hbox hb; have n0_ := bb_ (g := gb172) (o := .cells #[.bool a0_0, .int .u64 a0_1, .int .u64 a0_2] 30 (0, 0)) hb; have n1_ := bb_ (g := gb173) (o := .cells #[.bool a1_0, .int .u64 a1_1, .int .u64 a1_2] 30 (0, 0)) hb; have n2_ := bb_ (g := gb174) (o := .cells #[.bool false, .int .u64 0, .int .u64 0] 30 (0, 0)) hb; have n3_ := Aside0.mk (below_step bel_ hb); have n4_ := Aside0.mk (hbox); have n5_ := Aside0.mk ((by rw [hg]; exact (below_size bel_) : w.heap.size ≤ gb199)); have n6_ := Aside0.mk ((by rw [hg]; exact (below_size bel_) : w.heap.size ≤ gb199)); have n7_ := nlt_ (g := gb172) (o := .cells #[.bool a0_0, .int .u64 a0_1, .int .u64 a0_2] 30 (0, 0)) hg; have n8_ := ngt_ (g := gb172) (o := .cells #[.bool a0_0, .int .u64 a0_1, .int .u64 a0_2] 30 (0, 0)) hg; have n9_ := nlt_ (g := gb173) (o := .cells #[.bool a1_0, .int .u64 a1_1, .int .u64 a1_2] 30 (0, 0)) hg; have n10_ := ngt_ (g := gb173) (o := .cells #[.bool a1_0, .int .u64 a1_1, .int .u64 a1_2] 30 (0, 0)) hg; have n11_ := nlt_ (g := gb174) (o := .cells #[.bool false, .int .u64 0, .int .u64 0] 30 (0, 0)) hg; have n12_ := ngt_ (g := gb174) (o := .cells #[.bool false, .int .u64 0, .int .u64 0] 30 (0, 0)) hg; clear BK172; clear BK173; clear BK174; clear HB; have BK172 := n0_; have BK173 := n1_; have BK174 := n2_; have HB := n3_; have BK199 := n4_; have GW199 := n5_; have GE199 := n6_; have NB172_199 := n7_; have NB199_172 := n8_; have NB173_199 := n9_; have NB199_173 := n10_; have NB174_199 := n11_; have NB199_174 := n12_; clear n0_ n1_ n2_ n3_ n4_ n5_ n6_ n7_ n8_ n9_ n10_ n11_ n12_; clear hb hbox hg; have hnb80 := NB199_172.out; have hnc80 := NB172_199.out; have hnb81 := NB199_173.out; have hnc81 := NB173_199.out; have hnb82 := NB199_174.out; have hnc82 := NB174_199.out; have hcz83_0 : w79.cell? ⟨gb199, 0, none⟩ = some (.bool false) := bc_; have hcz83_1 : w79.cell? ⟨gb199, 1, none⟩ = some (.int .u64 0) := bc_; have hcz83_2 : w79.cell? ⟨gb199, 2, none⟩ = some (.int .u64 0) := bc_; have hfz83_0 := blk_frozen BK199.out 0; have hfz83_1 := blk_frozen BK199.out 1; have hfz83_2 := blk_frozen BK199.out 2) | ((with_reducible refine gate_callee (f := 63) rfl ?_); refine goesL_ (some 80) rfl rfl Try.func63 (by kernel_rfl) rfl #[.agg #[.bool t196, .int .u64 t197, .int .u64 t198]] rfl mp_ ?_; (with_reducible refine (impl_WideOk.calls t196 t197 t198 false _ A57.out).mono ?_); rintro e w84 ⟨rfl, hb⟩; refine ⟨_, rfl, ?_⟩; have n0_ := Aside0.mk (blk_below (g := gb172) (o := .cells #[.bool a0_0, .int .u64 a0_1, .int .u64 a0_2] 30 (0, 0)) (by (with_reducible repeat (first | refine bN_ _ ?_ | refine bd_ ?_ | refine ba_ _ ?_)); refine blk_far ?_ NB172_199.out _; (with_reducible repeat (first | refine bN_ _ ?_ | refine bd_ ?_ | refine ba_ _ ?_)); refine blk_far ?_ NB172_199.out _; (with_reducible repeat (first | refine bN_ _ ?_ | refine bd_ ?_ | refine ba_ _ ?_)); refine blk_far ?_ NB172_199.out _; (with_reducible repeat (first | refine bN_ _ ?_ | refine bd_ ?_ | refine ba_ _ ?_)); exact BK172.out) hb); have n1_ := Aside0.mk (blk_below (g := gb173) (o := .cells #[.bool a1_0, .int .u64 a1_1, .int .u64 a1_2] 30 (0, 0)) (by (with_reducible repeat (first | refine bN_ _ ?_ | refine bd_ ?_ | refine ba_ _ ?_)); refine blk_far ?_ NB173_199.out _; (with_reducible repeat (first | refine bN_ _ ?_ | refine bd_ ?_ | refine ba_ _ ?_)); refine blk_far ?_ NB173_199.out _; (with_reducible repeat (first | refine bN_ _ ?_ | refine bd_ ?_ | refine ba_ _ ?_)); refine blk_far ?_ NB173_199.out _; (with_reducible repeat (first | refine bN_ _ ?_ | refine bd_ ?_ | refine ba_ _ ?_)); exact BK173.out) hb); have n2_ := Aside0.mk (blk_below (g := gb174) (o := .cells #[.bool false, .int .u64 0, .int .u64 0] 30 (0, 0)) (by (with_reducible repeat (first | refine bN_ _ ?_ | refine bd_ ?_ | refine ba_ _ ?_)); refine blk_far ?_ NB174_199.out _; (with_reducible repeat (first | refine bN_ _ ?_ | refine bd_ ?_ | refine ba_ _ ?_)); refine blk_far ?_ NB174_199.out _; (with_reducible repeat (first | refine bN_ _ ?_ | refine bd_ ?_ | refine ba_ _ ?_)); refine blk_far ?_ NB174_199.out _; (with_reducible repeat (first | refine bN_ _ ?_ | refine bd_ ?_ | refine ba_ _ ?_)); exact BK174.out) hb); have n3_ := Aside0.mk (blk_below (g := gb199) (o := .cells #[.bool t196, .int .u64 t197, .int .u64 t198] 30 (0, 0)) (by (with_reducible repeat (first | refine bN_ _ ?_ | refine bd_ ?_ | refine ba_ _ ?_)); refine blk_put (cs := #[.bool t196, .int .u64 t197, .int .u64 0]) ?_ 2 _ rfl; (with_reducible repeat (first | refine bN_ _ ?_ | refine bd_ ?_ | refine ba_ _ ?_)); refine blk_put (cs := #[.bool t196, .int .u64 0, .int .u64 0]) ?_ 1 _ rfl; (with_reducible repeat (first | refine bN_ _ ?_ | refine bd_ ?_ | refine ba_ _ ?_)); refine blk_put (cs := #[.bool false, .int .u64 0, .int .u64 0]) ?_ 0 _ rfl; (with_reducible repeat (first | refine bN_ _ ?_ | refine bd_ ?_ | refine ba_ _ ?_)); exact BK199.out) hb); have n4_ := Aside0.mk (below_step bel_ hb); clear BK172; clear BK173; clear BK174; clear BK199; clear HB; have BK172 := n0_; have BK173 := n1_; have BK174 := n2_; have BK199 := n3_; have HB := n4_; clear n0_ n1_ n2_ n3_ n4_; (try clear hb); (try clear hb2); (try clear hk); (try clear hi); have hcz85_0 : w84.cell? ⟨gb174, 0, none⟩ = some (.bool false) := bc_; have hcz85_1 : w84.cell? ⟨gb174, 1, none⟩ = some (.int .u64 0) := bc_; have hcz85_2 : w84.cell? ⟨gb174, 2, none⟩ = some (.int .u64 0) := bc_; have hfz85_0 := blk_frozen BK174.out 0; have hfz85_1 := blk_frozen BK174.out 1; have hfz85_2 := blk_frozen BK174.out 2))
            refine bodyPost_ret (results_ct rfl _ _ gb174 30 #[.bool false, .int .u64 0, .int .u64 0] (0, 0) _ rfl (by (with_reducible repeat (first | refine bN_ _ ?_ | refine bd_ ?_ | refine ba_ _ ?_)); refine blk_put (cs := #[.bool false, .int .u64 0, .int .u64 0]) ?_ 2 _ rfl; (with_reducible repeat (first | refine bN_ _ ?_ | refine bd_ ?_ | refine ba_ _ ?_)); refine blk_put (cs := #[.bool false, .int .u64 0, .int .u64 0]) ?_ 1 _ rfl; (with_reducible repeat (first | refine bN_ _ ?_ | refine bd_ ?_ | refine ba_ _ ?_)); refine blk_put (cs := #[.bool false, .int .u64 0, .int .u64 0]) ?_ 0 _ rfl; (with_reducible repeat (first | refine bN_ _ ?_ | refine bd_ ?_ | refine ba_ _ ?_)); exact BK174.out) Try.underlying30 rfl (by kernel_rfl)) rfl ?_
            exact ⟨by first | rfl | (simp [errW_none, errW_some] <;> rfl) | (simp [*, errW_none, errW_some] <;> rfl), by repeat (first | (with_reducible first | exact HB.out | apply below_alloc | apply pw_below_drewN | apply below_drew1 | refine below_set ?_ GE172.out | refine below_set ?_ GE173.out | refine below_set ?_ GE174.out | refine below_set ?_ GE199.out) | exact HB.out)⟩

/-! ### impl_size: function 66 -/
def impl_size.f (a0 : Int) : Option (Int) := if a0 < 0 then (some (IntKind.u64.wrap (-(IntKind.u64.wrap (a0))))) else (some (IntKind.u64.wrap (a0)))
set_option maxHeartbeats 8000000 in
set_option maxRecDepth 100000 in
theorem impl_size.calls (a0 : Int) (r : Int) (w : World) (h : impl_size.f a0 = some r) :
    Calls Try.prog 66 #[.int .i64 a0] w fun e w' => e = .returned (.int .u64 r) ∧ Drawn0 w w' := by
  have H : (if a0 < 0 then (some (IntKind.u64.wrap (-(IntKind.u64.wrap (a0))))) else (some (IntKind.u64.wrap (a0)))) = some r := h
  clear h
  by_cases c2 : a0 < 0
  · rw [if_pos c2] at H
    have c2b0 : decide (a0 < 0) = true := decide_eq_true c2
    clear c2
    obtain rfl := Option.some.inj H
    go_enter Try.func66, Try.ntmps66
    go_wp2
    go_ret
    exact ⟨by first | rfl | (simp; done) | (simp [*]; done), by repeat (first | exact Drawn0.refl _ | apply Drawn0.step)⟩
  · rw [if_neg c2] at H
    have c2b0 : decide (a0 < 0) = false := decide_eq_false c2
    clear c2
    obtain rfl := Option.some.inj H
    go_enter Try.func66, Try.ntmps66
    go_wp2
    go_ret
    exact ⟨by first | rfl | (simp; done) | (simp [*]; done), by repeat (first | exact Drawn0.refl _ | apply Drawn0.step)⟩

/-! ### impl_WideOf: function 40 -/
def impl_WideOf.f (a0 : Int) : Option (Bool × Int × Int) := (impl_size.f a0).bind fun t202 => ((impl_wideOf.f (decide (a0 < 0)) 0 t202).bind fun bt203 => (some (bt203.1, bt203.2.1, bt203.2.2)))
set_option maxHeartbeats 8000000 in
set_option maxRecDepth 100000 in
theorem impl_WideOf.calls (a0 : Int) (r1 : Bool) (r2 : Int) (r3 : Int) (w : World) (h : impl_WideOf.f a0 = some (r1, r2, r3)) :
    Calls Try.prog 40 #[.int .i64 a0] w fun e w' => e = .returned (.agg #[.bool r1, .int .u64 r2, .int .u64 r3]) ∧ Below w.heap.size w w' := by
  have hu30 := Try.underlying30
  have HB := Aside0.mk (Below.refl w.heap.size w)
  have H : ((impl_size.f a0).bind fun t202 => ((impl_wideOf.f (decide (a0 < 0)) 0 t202).bind fun bt203 => (some (bt203.1, bt203.2.1, bt203.2.2)))) = some (r1, r2, r3) := h
  clear h
  replace H := Option.bind_eq_some_iff.mp H
  obtain ⟨t202, A20, H⟩ := H
  replace H : ((impl_wideOf.f (decide (a0 < 0)) 0 t202).bind fun bt203 => (some (bt203.1, bt203.2.1, bt203.2.2))) = some (r1, r2, r3) := H
  have A2 := Aside0.mk A20
  clear A20
  replace H := Option.bind_eq_some_iff.mp H
  obtain ⟨⟨t203, t204, t205⟩, A30, H⟩ := H
  replace H : (some (t203, t204, t205)) = some (r1, r2, r3) := H
  have A3 := Aside0.mk A30
  clear A30
  simp only [Option.some.injEq, Prod.mk.injEq] at H
  obtain ⟨rfl, rfl, rfl⟩ := H
  go_enter Try.func40, Try.ntmps40
  go_wp2_with (first | ((with_reducible refine gate_dst (N := 2) rfl ?_); refine box_event ?hg (N := 2) ?hd (cs := #[.bool false, .int .u64 0, .int .u64 0]) (t := 30) ?hr ?_; (case hd => rfl); (case hg => rfl); (case hr => first | (go_simp; done) | (go_simp; rfl)); intro gb201 hg w4 hbox hb; have n0_ := Aside0.mk (below_step bel_ hb); have n1_ := Aside0.mk (hbox); have n2_ := Aside0.mk ((by rw [hg]; exact (below_size bel_) : w.heap.size ≤ gb201)); have n3_ := Aside0.mk ((by rw [hg]; exact (below_size bel_) : w.heap.size ≤ gb201)); clear HB; have HB := n0_; have BK201 := n1_; have GW201 := n2_; have GE201 := n3_; clear n0_ n1_ n2_ n3_; clear hb hbox hg) | ((with_reducible refine gate_callee (f := 66) rfl ?_); refine goesL_ (some 6) rfl rfl Try.func66 (by kernel_rfl) rfl #[.int .i64 a0] rfl mp_ ?_; (with_reducible refine (impl_size.calls a0 t202 _ A2.out).mono ?_); rintro e w' ⟨rfl, ⟨nd, rfl⟩⟩; refine ⟨_, rfl, ?_⟩; (try (rw [drewN_self w4]; generalize hq_ : World.drewN w4 _ = w4; have n0_ : Aside0 (w4.heap[gb201]? = some (.cells #[.bool false, .int .u64 0, .int .u64 0] 30 (0, 0))) := ⟨by rw [← hq_]; exact (by (with_reducible repeat (first | refine bN_ _ ?_ | refine bd_ ?_ | refine ba_ _ ?_)); exact BK201.out)⟩; have n1_ : Aside0 (Below w.heap.size w w4) := ⟨by rw [← hq_]; exact bel_⟩; clear BK201 HB hq_; have BK201 := n0_; have HB := n1_; clear n0_ n1_))) | ((with_reducible refine gate_callee (f := 42) rfl ?_); refine goesL_ (some 7) rfl rfl Try.func42 (by kernel_rfl) rfl #[.bool (decide (a0 < 0)), .int .u64 0, .int .u64 t202] rfl mp_ ?_; (with_reducible refine (impl_wideOf.calls (decide (a0 < 0)) 0 t202 t203 t204 t205 _ A3.out).mono ?_); rintro e w5 ⟨rfl, hb⟩; refine ⟨_, rfl, ?_⟩; have n0_ := bb_ (g := gb201) (o := .cells #[.bool false, .int .u64 0, .int .u64 0] 30 (0, 0)) hb; have n1_ := Aside0.mk (below_step bel_ hb); clear BK201; clear HB; have BK201 := n0_; have HB := n1_; clear n0_ n1_; (try clear hb); (try clear hb2); (try clear hk); (try clear hi); have hcz6_0 : w5.cell? ⟨gb201, 0, none⟩ = some (.bool false) := bc_; have hcz6_1 : w5.cell? ⟨gb201, 1, none⟩ = some (.int .u64 0) := bc_; have hcz6_2 : w5.cell? ⟨gb201, 2, none⟩ = some (.int .u64 0) := bc_; have hfz6_0 := blk_frozen BK201.out 0; have hfz6_1 := blk_frozen BK201.out 1; have hfz6_2 := blk_frozen BK201.out 2))
  refine bodyPost_ret (results_cell_row rfl _ _ gb201 30 #[.bool t203, .int .u64 t204, .int .u64 t205] (0, 0) _ rfl (by (with_reducible repeat (first | refine bN_ _ ?_ | refine bd_ ?_ | refine ba_ _ ?_)); refine blk_put (cs := #[.bool t203, .int .u64 t204, .int .u64 0]) ?_ 2 _ rfl; (with_reducible repeat (first | refine bN_ _ ?_ | refine bd_ ?_ | refine ba_ _ ?_)); refine blk_put (cs := #[.bool t203, .int .u64 0, .int .u64 0]) ?_ 1 _ rfl; (with_reducible repeat (first | refine bN_ _ ?_ | refine bd_ ?_ | refine ba_ _ ?_)); refine blk_put (cs := #[.bool false, .int .u64 0, .int .u64 0]) ?_ 0 _ rfl; (with_reducible repeat (first | refine bN_ _ ?_ | refine bd_ ?_ | refine ba_ _ ?_)); exact BK201.out) Try.underlying30 rfl (by kernel_rfl)) rfl ?_
  exact ⟨by first | rfl | (simp [errW_none, errW_some] <;> rfl) | (simp [*, errW_none, errW_some] <;> rfl), by repeat (first | (with_reducible first | exact HB.out | apply below_alloc | apply pw_below_drewN | apply below_drew1 | refine below_set ?_ GE201.out) | exact HB.out)⟩

/-! ### bits_Mul64: function 71 -/
def bits_Mul64.f (a0 : Int) (a1 : Int) : Option (Int × Int) := some (IntKind.u64.wrap ((IntKind.u64.wrap ((IntKind.u64.wrap ((a0 / 4294967296) * (a1 / 4294967296))) + ((IntKind.u64.wrap ((IntKind.u64.wrap ((a0 / 4294967296) * (Go.bits .and .u64 a1 4294967295))) + ((IntKind.u64.wrap ((Go.bits .and .u64 a0 4294967295) * (Go.bits .and .u64 a1 4294967295))) / 4294967296))) / 4294967296))) + ((IntKind.u64.wrap ((Go.bits .and .u64 (IntKind.u64.wrap ((IntKind.u64.wrap ((a0 / 4294967296) * (Go.bits .and .u64 a1 4294967295))) + ((IntKind.u64.wrap ((Go.bits .and .u64 a0 4294967295) * (Go.bits .and .u64 a1 4294967295))) / 4294967296))) 4294967295) + (IntKind.u64.wrap ((Go.bits .and .u64 a0 4294967295) * (a1 / 4294967296))))) / 4294967296)), IntKind.u64.wrap (a0 * a1))
set_option maxHeartbeats 8000000 in
set_option maxRecDepth 100000 in
theorem bits_Mul64.calls (a0 : Int) (a1 : Int) (r1 : Int) (r2 : Int) (w : World) (h : bits_Mul64.f a0 a1 = some (r1, r2)) :
    Calls Try.prog 71 #[.int .u64 a0, .int .u64 a1] w fun e w' => e = .returned (.tuple #[.int .u64 r1, .int .u64 r2]) ∧ Drawn0 w w' := by
  have H : (some (IntKind.u64.wrap ((IntKind.u64.wrap ((IntKind.u64.wrap ((a0 / 4294967296) * (a1 / 4294967296))) + ((IntKind.u64.wrap ((IntKind.u64.wrap ((a0 / 4294967296) * (Go.bits .and .u64 a1 4294967295))) + ((IntKind.u64.wrap ((Go.bits .and .u64 a0 4294967295) * (Go.bits .and .u64 a1 4294967295))) / 4294967296))) / 4294967296))) + ((IntKind.u64.wrap ((Go.bits .and .u64 (IntKind.u64.wrap ((IntKind.u64.wrap ((a0 / 4294967296) * (Go.bits .and .u64 a1 4294967295))) + ((IntKind.u64.wrap ((Go.bits .and .u64 a0 4294967295) * (Go.bits .and .u64 a1 4294967295))) / 4294967296))) 4294967295) + (IntKind.u64.wrap ((Go.bits .and .u64 a0 4294967295) * (a1 / 4294967296))))) / 4294967296)), IntKind.u64.wrap (a0 * a1))) = some (r1, r2) := h
  clear h
  simp only [Option.some.injEq, Prod.mk.injEq] at H
  obtain ⟨rfl, rfl⟩ := H
  go_enter Try.func71, Try.ntmps71
  go_wp2
  go_ret2
  exact ⟨by first | rfl | (simp; done) | (simp [*]; done), by repeat (first | exact Drawn0.refl _ | apply Drawn0.step)⟩

/-! ### impl_ScaleWide: function 47 -/
def impl_ScaleWide.f (a0_0 : Bool) (a0_1 : Int) (a0_2 : Int) (a1 : Int) : Option (Bool × Int × Int × Bool) := (impl_WideOk.f a0_0 a0_1 a0_2).bind fun t208 => (if t208 = true then ((impl_size.f a1).bind fun t209 => ((bits_Mul64.f a0_1 t209).bind fun bt210 => ((bits_Mul64.f a0_2 t209).bind fun bt212 => ((bits_Add64.f bt210.2 bt212.1 0).bind fun bt214 => ((impl_wideOf.f (a0_0 != (decide (a1 < 0))) bt214.1 bt212.2).bind fun bt216 => (if bt210.1 > 0 then (some (false, 0, 0, false)) else (if bt214.2 > 0 then (some (false, 0, 0, false)) else ((impl_WideOk.f bt216.1 bt216.2.1 bt216.2.2).bind fun t220 => (if t220 = true then (some (bt216.1, bt216.2.1, bt216.2.2, true)) else (some (false, 0, 0, false))))))))))) else (some (false, 0, 0, false)))
set_option maxHeartbeats 8000000 in
set_option maxRecDepth 100000 in
theorem impl_ScaleWide.calls (a0_0 : Bool) (a0_1 : Int) (a0_2 : Int) (a1 : Int) (r1 : Bool) (r2 : Int) (r3 : Int) (r4 : Bool) (w : World) (h : impl_ScaleWide.f a0_0 a0_1 a0_2 a1 = some (r1, r2, r3, r4)) :
    Calls Try.prog 47 #[.agg #[.bool a0_0, .int .u64 a0_1, .int .u64 a0_2], .int .i64 a1] w fun e w' => e = .returned (.tuple #[.agg #[.bool r1, .int .u64 r2, .int .u64 r3], .bool r4]) ∧ Below w.heap.size w w' := by
  have hu30 := Try.underlying30
  have HB := Aside0.mk (Below.refl w.heap.size w)
  have H : ((impl_WideOk.f a0_0 a0_1 a0_2).bind fun t208 => (if t208 = true then ((impl_size.f a1).bind fun t209 => ((bits_Mul64.f a0_1 t209).bind fun bt210 => ((bits_Mul64.f a0_2 t209).bind fun bt212 => ((bits_Add64.f bt210.2 bt212.1 0).bind fun bt214 => ((impl_wideOf.f (a0_0 != (decide (a1 < 0))) bt214.1 bt212.2).bind fun bt216 => (if bt210.1 > 0 then (some (false, 0, 0, false)) else (if bt214.2 > 0 then (some (false, 0, 0, false)) else ((impl_WideOk.f bt216.1 bt216.2.1 bt216.2.2).bind fun t220 => (if t220 = true then (some (bt216.1, bt216.2.1, bt216.2.2, true)) else (some (false, 0, 0, false))))))))))) else (some (false, 0, 0, false)))) = some (r1, r2, r3, r4) := h
  clear h
  replace H := Option.bind_eq_some_iff.mp H
  obtain ⟨t208, A30, H⟩ := H
  replace H : (if t208 = true then ((impl_size.f a1).bind fun t209 => ((bits_Mul64.f a0_1 t209).bind fun bt210 => ((bits_Mul64.f a0_2 t209).bind fun bt212 => ((bits_Add64.f bt210.2 bt212.1 0).bind fun bt214 => ((impl_wideOf.f (a0_0 != (decide (a1 < 0))) bt214.1 bt212.2).bind fun bt216 => (if bt210.1 > 0 then (some (false, 0, 0, false)) else (if bt214.2 > 0 then (some (false, 0, 0, false)) else ((impl_WideOk.f bt216.1 bt216.2.1 bt216.2.2).bind fun t220 => (if t220 = true then (some (bt216.1, bt216.2.1, bt216.2.2, true)) else (some (false, 0, 0, false))))))))))) else (some (false, 0, 0, false))) = some (r1, r2, r3, r4) := H
  have A3 := Aside0.mk A30
  clear A30
  by_cases c4 : t208 = true
  · subst c4
    have H1 : ((impl_size.f a1).bind fun t209 => ((bits_Mul64.f a0_1 t209).bind fun bt210 => ((bits_Mul64.f a0_2 t209).bind fun bt212 => ((bits_Add64.f bt210.2 bt212.1 0).bind fun bt214 => ((impl_wideOf.f (a0_0 != (decide (a1 < 0))) bt214.1 bt212.2).bind fun bt216 => (if bt210.1 > 0 then (some (false, 0, 0, false)) else (if bt214.2 > 0 then (some (false, 0, 0, false)) else ((impl_WideOk.f bt216.1 bt216.2.1 bt216.2.2).bind fun t220 => (if t220 = true then (some (bt216.1, bt216.2.1, bt216.2.2, true)) else (some (false, 0, 0, false))))))))))) = some (r1, r2, r3, r4) := by rw [if_pos rfl] at H; exact H
    clear H
    have H := H1
    clear H1
    replace H := Option.bind_eq_some_iff.mp H
    obtain ⟨t209, A50, H⟩ := H
    replace H : ((bits_Mul64.f a0_1 t209).bind fun bt210 => ((bits_Mul64.f a0_2 t209).bind fun bt212 => ((bits_Add64.f bt210.2 bt212.1 0).bind fun bt214 => ((impl_wideOf.f (a0_0 != (decide (a1 < 0))) bt214.1 bt212.2).bind fun bt216 => (if bt210.1 > 0 then (some (false, 0, 0, false)) else (if bt214.2 > 0 then (some (false, 0, 0, false)) else ((impl_WideOk.f bt216.1 bt216.2.1 bt216.2.2).bind fun t220 => (if t220 = true then (some (bt216.1, bt216.2.1, bt216.2.2, true)) else (some (false, 0, 0, false)))))))))) = some (r1, r2, r3, r4) := H
    have A5 := Aside0.mk A50
    clear A50
    replace H := Option.bind_eq_some_iff.mp H
    obtain ⟨⟨t210, t211⟩, A60, H⟩ := H
    replace H : ((bits_Mul64.f a0_2 t209).bind fun bt212 => ((bits_Add64.f t211 bt212.1 0).bind fun bt214 => ((impl_wideOf.f (a0_0 != (decide (a1 < 0))) bt214.1 bt212.2).bind fun bt216 => (if t210 > 0 then (some (false, 0, 0, false)) else (if bt214.2 > 0 then (some (false, 0, 0, false)) else ((impl_WideOk.f bt216.1 bt216.2.1 bt216.2.2).bind fun t220 => (if t220 = true then (some (bt216.1, bt216.2.1, bt216.2.2, true)) else (some (false, 0, 0, false))))))))) = some (r1, r2, r3, r4) := H
    have A6 := Aside0.mk A60
    clear A60
    replace H := Option.bind_eq_some_iff.mp H
    obtain ⟨⟨t212, t213⟩, A70, H⟩ := H
    replace H : ((bits_Add64.f t211 t212 0).bind fun bt214 => ((impl_wideOf.f (a0_0 != (decide (a1 < 0))) bt214.1 t213).bind fun bt216 => (if t210 > 0 then (some (false, 0, 0, false)) else (if bt214.2 > 0 then (some (false, 0, 0, false)) else ((impl_WideOk.f bt216.1 bt216.2.1 bt216.2.2).bind fun t220 => (if t220 = true then (some (bt216.1, bt216.2.1, bt216.2.2, true)) else (some (false, 0, 0, false)))))))) = some (r1, r2, r3, r4) := H
    have A7 := Aside0.mk A70
    clear A70
    replace H := Option.bind_eq_some_iff.mp H
    obtain ⟨⟨t214, t215⟩, A80, H⟩ := H
    replace H : ((impl_wideOf.f (a0_0 != (decide (a1 < 0))) t214 t213).bind fun bt216 => (if t210 > 0 then (some (false, 0, 0, false)) else (if t215 > 0 then (some (false, 0, 0, false)) else ((impl_WideOk.f bt216.1 bt216.2.1 bt216.2.2).bind fun t220 => (if t220 = true then (some (bt216.1, bt216.2.1, bt216.2.2, true)) else (some (false, 0, 0, false))))))) = some (r1, r2, r3, r4) := H
    have A8 := Aside0.mk A80
    clear A80
    replace H := Option.bind_eq_some_iff.mp H
    obtain ⟨⟨t216, t217, t218⟩, A90, H⟩ := H
    replace H : (if t210 > 0 then (some (false, 0, 0, false)) else (if t215 > 0 then (some (false, 0, 0, false)) else ((impl_WideOk.f t216 t217 t218).bind fun t220 => (if t220 = true then (some (t216, t217, t218, true)) else (some (false, 0, 0, false)))))) = some (r1, r2, r3, r4) := H
    have A9 := Aside0.mk A90
    clear A90
    by_cases c10 : t210 > 0
    · rw [if_pos c10] at H
      have c10b0 : decide (0 < t210) = true := decide_eq_true c10
      clear c10
      simp only [Option.some.injEq, Prod.mk.injEq] at H
      obtain ⟨rfl, rfl, rfl, rfl⟩ := H
      go_enter Try.func47, Try.ntmps47
      go_wp2_with (first | ((with_reducible refine gate_dst (N := 2) rfl ?_); refine box_event ?hg (N := 2) ?hd (cs := #[.bool a0_0, .int .u64 a0_1, .int .u64 a0_2]) (t := 30) ?hr ?_; (case hd => rfl); (case hg => rfl); (case hr => first | (go_simp; done) | (go_simp; rfl)); intro gb206 hg w11 hbox hb; have n0_ := Aside0.mk (below_step bel_ hb); have n1_ := Aside0.mk (hbox); have n2_ := Aside0.mk ((by rw [hg]; exact (below_size bel_) : w.heap.size ≤ gb206)); have n3_ := Aside0.mk ((by rw [hg]; exact (below_size bel_) : w.heap.size ≤ gb206)); clear HB; have HB := n0_; have BK206 := n1_; have GW206 := n2_; have GE206 := n3_; clear n0_ n1_ n2_ n3_; clear hb hbox hg) | ((with_reducible refine gate_dst (N := 4) rfl ?_); refine box_event ?hg (N := 4) ?hd (cs := #[.bool false, .int .u64 0, .int .u64 0]) (t := 30) ?hr ?_; (case hd => rfl); (case hg => rfl); (case hr => first | (go_simp; done) | (go_simp; rfl)); intro gb207 hg w12 hbox hb; have n0_ := bb_ (g := gb206) (o := .cells #[.bool a0_0, .int .u64 a0_1, .int .u64 a0_2] 30 (0, 0)) hb; have n1_ := Aside0.mk (below_step bel_ hb); have n2_ := Aside0.mk (hbox); have n3_ := Aside0.mk ((by rw [hg]; exact (below_size bel_) : w.heap.size ≤ gb207)); have n4_ := Aside0.mk ((by rw [hg]; exact (below_size bel_) : w.heap.size ≤ gb207)); have n5_ := nlt_ (g := gb206) (o := .cells #[.bool a0_0, .int .u64 a0_1, .int .u64 a0_2] 30 (0, 0)) hg; have n6_ := ngt_ (g := gb206) (o := .cells #[.bool a0_0, .int .u64 a0_1, .int .u64 a0_2] 30 (0, 0)) hg; clear BK206; clear HB; have BK206 := n0_; have HB := n1_; have BK207 := n2_; have GW207 := n3_; have GE207 := n4_; have NB206_207 := n5_; have NB207_206 := n6_; clear n0_ n1_ n2_ n3_ n4_ n5_ n6_; clear hb hbox hg; have hnb13 := NB206_207.out; have hnc13 := NB207_206.out; have hcz14_0 : w12.cell? ⟨gb206, 0, none⟩ = some (.bool a0_0) := bc_; have hcz14_1 : w12.cell? ⟨gb206, 1, none⟩ = some (.int .u64 a0_1) := bc_; have hcz14_2 : w12.cell? ⟨gb206, 2, none⟩ = some (.int .u64 a0_2) := bc_; have hfz14_0 := blk_frozen BK206.out 0; have hfz14_1 := blk_frozen BK206.out 1; have hfz14_2 := blk_frozen BK206.out 2) | ((with_reducible refine gate_callee (f := 63) rfl ?_); refine goesL_ (some 14) rfl rfl Try.func63 (by kernel_rfl) rfl #[.agg #[.bool a0_0, .int .u64 a0_1, .int .u64 a0_2]] rfl mp_ ?_; (with_reducible refine (impl_WideOk.calls a0_0 a0_1 a0_2 true _ A3.out).mono ?_); rintro e w15 ⟨rfl, hb⟩; refine ⟨_, rfl, ?_⟩; have n0_ := bb_ (g := gb206) (o := .cells #[.bool a0_0, .int .u64 a0_1, .int .u64 a0_2] 30 (0, 0)) hb; have n1_ := bb_ (g := gb207) (o := .cells #[.bool false, .int .u64 0, .int .u64 0] 30 (0, 0)) hb; have n2_ := Aside0.mk (below_step bel_ hb); clear BK206; clear BK207; clear HB; have BK206 := n0_; have BK207 := n1_; have HB := n2_; clear n0_ n1_ n2_; (try clear hb); (try clear hb2); (try clear hk); (try clear hi)) | ((with_reducible refine gate_callee (f := 66) rfl ?_); refine goesL_ (some 18) rfl rfl Try.func66 (by kernel_rfl) rfl #[.int .i64 a1] rfl mp_ ?_; (with_reducible refine (impl_size.calls a1 t209 _ A5.out).mono ?_); rintro e w' ⟨rfl, ⟨nd, rfl⟩⟩; refine ⟨_, rfl, ?_⟩; (try (rw [drewN_self w15]; generalize hq_ : World.drewN w15 _ = w15; have n0_ : Aside0 (w15.heap[gb206]? = some (.cells #[.bool a0_0, .int .u64 a0_1, .int .u64 a0_2] 30 (0, 0))) := ⟨by rw [← hq_]; exact (by (with_reducible repeat (first | refine bN_ _ ?_ | refine bd_ ?_ | refine ba_ _ ?_)); exact BK206.out)⟩; have n1_ : Aside0 (w15.heap[gb207]? = some (.cells #[.bool false, .int .u64 0, .int .u64 0] 30 (0, 0))) := ⟨by rw [← hq_]; exact (by (with_reducible repeat (first | refine bN_ _ ?_ | refine bd_ ?_ | refine ba_ _ ?_)); exact BK207.out)⟩; have n2_ : Aside0 (Below w.heap.size w w15) := ⟨by rw [← hq_]; exact bel_⟩; clear BK206 BK207 HB hq_; have BK206 := n0_; have BK207 := n1_; have HB := n2_; clear n0_ n1_ n2_)); have hcz16_0 : w15.cell? ⟨gb206, 0, none⟩ = some (.bool a0_0) := bc_; have hcz16_1 : w15.cell? ⟨gb206, 1, none⟩ = some (.int .u64 a0_1) := bc_; have hcz16_2 : w15.cell? ⟨gb206, 2, none⟩ = some (.int .u64 a0_2) := bc_; have hfz16_0 := blk_frozen BK206.out 0; have hfz16_1 := blk_frozen BK206.out 1; have hfz16_2 := blk_frozen BK206.out 2) | ((with_reducible refine gate_callee (f := 71) rfl ?_); refine goesL_ (some 23) rfl rfl Try.func71 (by kernel_rfl) rfl #[.int .u64 a0_1, .int .u64 t209] rfl mp_ ?_; (with_reducible refine (bits_Mul64.calls a0_1 t209 t210 t211 _ A6.out).mono ?_); rintro e w' ⟨rfl, ⟨nd, rfl⟩⟩; refine ⟨_, rfl, ?_⟩; (try (rw [drewN_self w15]; generalize hq_ : World.drewN w15 _ = w15; have n0_ : Aside0 (w15.heap[gb206]? = some (.cells #[.bool a0_0, .int .u64 a0_1, .int .u64 a0_2] 30 (0, 0))) := ⟨by rw [← hq_]; exact (by (with_reducible repeat (first | refine bN_ _ ?_ | refine bd_ ?_ | refine ba_ _ ?_)); exact BK206.out)⟩; have n1_ : Aside0 (w15.heap[gb207]? = some (.cells #[.bool false, .int .u64 0, .int .u64 0] 30 (0, 0))) := ⟨by rw [← hq_]; exact (by (with_reducible repeat (first | refine bN_ _ ?_ | refine bd_ ?_ | refine ba_ _ ?_)); exact BK207.out)⟩; have n2_ : Aside0 (Below w.heap.size w w15) := ⟨by rw [← hq_]; exact bel_⟩; clear BK206 BK207 HB hq_; have BK206 := n0_; have BK207 := n1_; have HB := n2_; clear n0_ n1_ n2_)); (try (have hcz16_0 : w15.cell? ⟨gb206, 0, none⟩ = some (.bool a0_0) := bc_; have hcz16_1 : w15.cell? ⟨gb206, 1, none⟩ = some (.int .u64 a0_1) := bc_; have hcz16_2 : w15.cell? ⟨gb206, 2, none⟩ = some (.int .u64 a0_2) := bc_; have hfz16_0 := blk_frozen BK206.out 0; have hfz16_1 := blk_frozen BK206.out 1; have hfz16_2 := blk_frozen BK206.out 2))) | ((with_reducible refine gate_callee (f := 71) rfl ?_); refine goesL_ (some 30) rfl rfl Try.func71 (by kernel_rfl) rfl #[.int .u64 a0_2, .int .u64 t209] rfl mp_ ?_; (with_reducible refine (bits_Mul64.calls a0_2 t209 t212 t213 _ A7.out).mono ?_); rintro e w' ⟨rfl, ⟨nd, rfl⟩⟩; refine ⟨_, rfl, ?_⟩; (try (rw [drewN_self w15]; generalize hq_ : World.drewN w15 _ = w15; have n0_ : Aside0 (w15.heap[gb206]? = some (.cells #[.bool a0_0, .int .u64 a0_1, .int .u64 a0_2] 30 (0, 0))) := ⟨by rw [← hq_]; exact (by (with_reducible repeat (first | refine bN_ _ ?_ | refine bd_ ?_ | refine ba_ _ ?_)); exact BK206.out)⟩; have n1_ : Aside0 (w15.heap[gb207]? = some (.cells #[.bool false, .int .u64 0, .int .u64 0] 30 (0, 0))) := ⟨by rw [← hq_]; exact (by (with_reducible repeat (first | refine bN_ _ ?_ | refine bd_ ?_ | refine ba_ _ ?_)); exact BK207.out)⟩; have n2_ : Aside0 (Below w.heap.size w w15) := ⟨by rw [← hq_]; exact bel_⟩; clear BK206 BK207 HB hq_; have BK206 := n0_; have BK207 := n1_; have HB := n2_; clear n0_ n1_ n2_)); (try (have hcz16_0 : w15.cell? ⟨gb206, 0, none⟩ = some (.bool a0_0) := bc_; have hcz16_1 : w15.cell? ⟨gb206, 1, none⟩ = some (.int .u64 a0_1) := bc_; have hcz16_2 : w15.cell? ⟨gb206, 2, none⟩ = some (.int .u64 a0_2) := bc_; have hfz16_0 := blk_frozen BK206.out 0; have hfz16_1 := blk_frozen BK206.out 1; have hfz16_2 := blk_frozen BK206.out 2))) | ((with_reducible refine gate_callee (f := 65) rfl ?_); refine goesX_ (some 36) rfl rfl #[.int .u64 t211, .int .u64 t212, .int .u64 0] rfl mp_ (bits_Add64.run t211 t212 0 t214 t215 _ A8.out) ?_; (try (rw [drewN_self w15]; generalize hq_ : World.drewN w15 _ = w15; have n0_ : Aside0 (w15.heap[gb206]? = some (.cells #[.bool a0_0, .int .u64 a0_1, .int .u64 a0_2] 30 (0, 0))) := ⟨by rw [← hq_]; exact (by (with_reducible repeat (first | refine bN_ _ ?_ | refine bd_ ?_ | refine ba_ _ ?_)); exact BK206.out)⟩; have n1_ : Aside0 (w15.heap[gb207]? = some (.cells #[.bool false, .int .u64 0, .int .u64 0] 30 (0, 0))) := ⟨by rw [← hq_]; exact (by (with_reducible repeat (first | refine bN_ _ ?_ | refine bd_ ?_ | refine ba_ _ ?_)); exact BK207.out)⟩; have n2_ : Aside0 (Below w.heap.size w w15) := ⟨by rw [← hq_]; exact bel_⟩; clear BK206 BK207 HB hq_; have BK206 := n0_; have BK207 := n1_; have HB := n2_; clear n0_ n1_ n2_)); (try (have hcz16_0 : w15.cell? ⟨gb206, 0, none⟩ = some (.bool a0_0) := bc_; have hcz16_1 : w15.cell? ⟨gb206, 1, none⟩ = some (.int .u64 a0_1) := bc_; have hcz16_2 : w15.cell? ⟨gb206, 2, none⟩ = some (.int .u64 a0_2) := bc_; have hfz16_0 := blk_frozen BK206.out 0; have hfz16_1 := blk_frozen BK206.out 1; have hfz16_2 := blk_frozen BK206.out 2))) | ((with_reducible refine gate_callee (f := 42) rfl ?_); refine goesL_ (some 46) rfl rfl Try.func42 (by kernel_rfl) rfl #[.bool (a0_0 != (decide (a1 < 0))), .int .u64 t214, .int .u64 t213] rfl mp_ ?_; (with_reducible refine (impl_wideOf.calls (a0_0 != (decide (a1 < 0))) t214 t213 t216 t217 t218 _ A9.out).mono ?_); rintro e w17 ⟨rfl, hb⟩; refine ⟨_, rfl, ?_⟩; have n0_ := bb_ (g := gb206) (o := .cells #[.bool a0_0, .int .u64 a0_1, .int .u64 a0_2] 30 (0, 0)) hb; have n1_ := bb_ (g := gb207) (o := .cells #[.bool false, .int .u64 0, .int .u64 0] 30 (0, 0)) hb; have n2_ := Aside0.mk (below_step bel_ hb); clear BK206; clear BK207; clear HB; have BK206 := n0_; have BK207 := n1_; have HB := n2_; clear n0_ n1_ n2_; (try clear hb); (try clear hb2); (try clear hk); (try clear hi)) | ((with_reducible refine gate_dst (N := 12) rfl ?_); refine box_event ?hg (N := 12) ?hd (cs := #[.bool false, .int .u64 0, .int .u64 0]) (t := 30) ?hr ?_; (case hd => rfl); (case hg => rfl); (case hr => first | (go_simp; done) | (go_simp; rfl)); intro gb219 hg w18 hbox hb; have n0_ := bb_ (g := gb206) (o := .cells #[.bool a0_0, .int .u64 a0_1, .int .u64 a0_2] 30 (0, 0)) hb; have n1_ := bb_ (g := gb207) (o := .cells #[.bool false, .int .u64 0, .int .u64 0] 30 (0, 0)) hb; have n2_ := Aside0.mk (below_step bel_ hb); have n3_ := Aside0.mk (hbox); have n4_ := Aside0.mk ((by rw [hg]; exact (below_size bel_) : w.heap.size ≤ gb219)); have n5_ := Aside0.mk ((by rw [hg]; exact (below_size bel_) : w.heap.size ≤ gb219)); have n6_ := nlt_ (g := gb206) (o := .cells #[.bool a0_0, .int .u64 a0_1, .int .u64 a0_2] 30 (0, 0)) hg; have n7_ := ngt_ (g := gb206) (o := .cells #[.bool a0_0, .int .u64 a0_1, .int .u64 a0_2] 30 (0, 0)) hg; have n8_ := nlt_ (g := gb207) (o := .cells #[.bool false, .int .u64 0, .int .u64 0] 30 (0, 0)) hg; have n9_ := ngt_ (g := gb207) (o := .cells #[.bool false, .int .u64 0, .int .u64 0] 30 (0, 0)) hg; clear BK206; clear BK207; clear HB; have BK206 := n0_; have BK207 := n1_; have HB := n2_; have BK219 := n3_; have GW219 := n4_; have GE219 := n5_; have NB206_219 := n6_; have NB219_206 := n7_; have NB207_219 := n8_; have NB219_207 := n9_; clear n0_ n1_ n2_ n3_ n4_ n5_ n6_ n7_ n8_ n9_; clear hb hbox hg; have hnb19 := NB219_206.out; have hnc19 := NB206_219.out; have hnb20 := NB219_207.out; have hnc20 := NB207_219.out; have hcz21_0 : w18.cell? ⟨gb219, 0, none⟩ = some (.bool false) := bc_; have hcz21_1 : w18.cell? ⟨gb219, 1, none⟩ = some (.int .u64 0) := bc_; have hcz21_2 : w18.cell? ⟨gb219, 2, none⟩ = some (.int .u64 0) := bc_; have hfz21_0 := blk_frozen BK219.out 0; have hfz21_1 := blk_frozen BK219.out 1; have hfz21_2 := blk_frozen BK219.out 2; have hcz22_0 : w18.cell? ⟨gb207, 0, none⟩ = some (.bool false) := bc_; have hcz22_1 : w18.cell? ⟨gb207, 1, none⟩ = some (.int .u64 0) := bc_; have hcz22_2 : w18.cell? ⟨gb207, 2, none⟩ = some (.int .u64 0) := bc_; have hfz22_0 := blk_frozen BK207.out 0; have hfz22_1 := blk_frozen BK207.out 1; have hfz22_2 := blk_frozen BK207.out 2))
      refine bodyPost_ret (results_ct rfl _ _ gb207 30 #[.bool false, .int .u64 0, .int .u64 0] (0, 0) _ rfl (by (with_reducible repeat (first | refine bN_ _ ?_ | refine bd_ ?_ | refine ba_ _ ?_)); refine blk_put (cs := #[.bool false, .int .u64 0, .int .u64 0]) ?_ 2 _ rfl; (with_reducible repeat (first | refine bN_ _ ?_ | refine bd_ ?_ | refine ba_ _ ?_)); refine blk_put (cs := #[.bool false, .int .u64 0, .int .u64 0]) ?_ 1 _ rfl; (with_reducible repeat (first | refine bN_ _ ?_ | refine bd_ ?_ | refine ba_ _ ?_)); refine blk_put (cs := #[.bool false, .int .u64 0, .int .u64 0]) ?_ 0 _ rfl; (with_reducible repeat (first | refine bN_ _ ?_ | refine bd_ ?_ | refine ba_ _ ?_)); refine blk_far ?_ NB207_219.out _; (with_reducible repeat (first | refine bN_ _ ?_ | refine bd_ ?_ | refine ba_ _ ?_)); refine blk_far ?_ NB207_219.out _; (with_reducible repeat (first | refine bN_ _ ?_ | refine bd_ ?_ | refine ba_ _ ?_)); refine blk_far ?_ NB207_219.out _; (with_reducible repeat (first | refine bN_ _ ?_ | refine bd_ ?_ | refine ba_ _ ?_)); exact BK207.out) Try.underlying30 rfl (by kernel_rfl)) rfl ?_
      exact ⟨by first | rfl | (simp [errW_none, errW_some] <;> rfl) | (simp [*, errW_none, errW_some] <;> rfl), by repeat (first | (with_reducible first | exact HB.out | apply below_alloc | apply pw_below_drewN | apply below_drew1 | refine below_set ?_ GE206.out | refine below_set ?_ GE207.out | refine below_set ?_ GE219.out) | exact HB.out)⟩
    · rw [if_neg c10] at H
      have c10b0 : decide (0 < t210) = false := decide_eq_false c10
      clear c10
      by_cases c23 : t215 > 0
      · rw [if_pos c23] at H
        have c23b0 : decide (0 < t215) = true := decide_eq_true c23
        clear c23
        simp only [Option.some.injEq, Prod.mk.injEq] at H
        obtain ⟨rfl, rfl, rfl, rfl⟩ := H
        go_enter Try.func47, Try.ntmps47
        go_wp2_with (first | ((with_reducible refine gate_dst (N := 2) rfl ?_); refine box_event ?hg (N := 2) ?hd (cs := #[.bool a0_0, .int .u64 a0_1, .int .u64 a0_2]) (t := 30) ?hr ?_; (case hd => rfl); (case hg => rfl); (case hr => first | (go_simp; done) | (go_simp; rfl)); intro gb206 hg w24 hbox hb; have n0_ := Aside0.mk (below_step bel_ hb); have n1_ := Aside0.mk (hbox); have n2_ := Aside0.mk ((by rw [hg]; exact (below_size bel_) : w.heap.size ≤ gb206)); have n3_ := Aside0.mk ((by rw [hg]; exact (below_size bel_) : w.heap.size ≤ gb206)); clear HB; have HB := n0_; have BK206 := n1_; have GW206 := n2_; have GE206 := n3_; clear n0_ n1_ n2_ n3_; clear hb hbox hg) | ((with_reducible refine gate_dst (N := 4) rfl ?_); refine box_event ?hg (N := 4) ?hd (cs := #[.bool false, .int .u64 0, .int .u64 0]) (t := 30) ?hr ?_; (case hd => rfl); (case hg => rfl); (case hr => first | (go_simp; done) | (go_simp; rfl)); intro gb207 hg w25 hbox hb; have n0_ := bb_ (g := gb206) (o := .cells #[.bool a0_0, .int .u64 a0_1, .int .u64 a0_2] 30 (0, 0)) hb; have n1_ := Aside0.mk (below_step bel_ hb); have n2_ := Aside0.mk (hbox); have n3_ := Aside0.mk ((by rw [hg]; exact (below_size bel_) : w.heap.size ≤ gb207)); have n4_ := Aside0.mk ((by rw [hg]; exact (below_size bel_) : w.heap.size ≤ gb207)); have n5_ := nlt_ (g := gb206) (o := .cells #[.bool a0_0, .int .u64 a0_1, .int .u64 a0_2] 30 (0, 0)) hg; have n6_ := ngt_ (g := gb206) (o := .cells #[.bool a0_0, .int .u64 a0_1, .int .u64 a0_2] 30 (0, 0)) hg; clear BK206; clear HB; have BK206 := n0_; have HB := n1_; have BK207 := n2_; have GW207 := n3_; have GE207 := n4_; have NB206_207 := n5_; have NB207_206 := n6_; clear n0_ n1_ n2_ n3_ n4_ n5_ n6_; clear hb hbox hg; have hnb26 := NB206_207.out; have hnc26 := NB207_206.out; have hcz27_0 : w25.cell? ⟨gb206, 0, none⟩ = some (.bool a0_0) := bc_; have hcz27_1 : w25.cell? ⟨gb206, 1, none⟩ = some (.int .u64 a0_1) := bc_; have hcz27_2 : w25.cell? ⟨gb206, 2, none⟩ = some (.int .u64 a0_2) := bc_; have hfz27_0 := blk_frozen BK206.out 0; have hfz27_1 := blk_frozen BK206.out 1; have hfz27_2 := blk_frozen BK206.out 2) | ((with_reducible refine gate_callee (f := 63) rfl ?_); refine goesL_ (some 14) rfl rfl Try.func63 (by kernel_rfl) rfl #[.agg #[.bool a0_0, .int .u64 a0_1, .int .u64 a0_2]] rfl mp_ ?_; (with_reducible refine (impl_WideOk.calls a0_0 a0_1 a0_2 true _ A3.out).mono ?_); rintro e w28 ⟨rfl, hb⟩; refine ⟨_, rfl, ?_⟩; have n0_ := bb_ (g := gb206) (o := .cells #[.bool a0_0, .int .u64 a0_1, .int .u64 a0_2] 30 (0, 0)) hb; have n1_ := bb_ (g := gb207) (o := .cells #[.bool false, .int .u64 0, .int .u64 0] 30 (0, 0)) hb; have n2_ := Aside0.mk (below_step bel_ hb); clear BK206; clear BK207; clear HB; have BK206 := n0_; have BK207 := n1_; have HB := n2_; clear n0_ n1_ n2_; (try clear hb); (try clear hb2); (try clear hk); (try clear hi)) | ((with_reducible refine gate_callee (f := 66) rfl ?_); refine goesL_ (some 18) rfl rfl Try.func66 (by kernel_rfl) rfl #[.int .i64 a1] rfl mp_ ?_; (with_reducible refine (impl_size.calls a1 t209 _ A5.out).mono ?_); rintro e w' ⟨rfl, ⟨nd, rfl⟩⟩; refine ⟨_, rfl, ?_⟩; (try (rw [drewN_self w28]; generalize hq_ : World.drewN w28 _ = w28; have n0_ : Aside0 (w28.heap[gb206]? = some (.cells #[.bool a0_0, .int .u64 a0_1, .int .u64 a0_2] 30 (0, 0))) := ⟨by rw [← hq_]; exact (by (with_reducible repeat (first | refine bN_ _ ?_ | refine bd_ ?_ | refine ba_ _ ?_)); exact BK206.out)⟩; have n1_ : Aside0 (w28.heap[gb207]? = some (.cells #[.bool false, .int .u64 0, .int .u64 0] 30 (0, 0))) := ⟨by rw [← hq_]; exact (by (with_reducible repeat (first | refine bN_ _ ?_ | refine bd_ ?_ | refine ba_ _ ?_)); exact BK207.out)⟩; have n2_ : Aside0 (Below w.heap.size w w28) := ⟨by rw [← hq_]; exact bel_⟩; clear BK206 BK207 HB hq_; have BK206 := n0_; have BK207 := n1_; have HB := n2_; clear n0_ n1_ n2_)); have hcz29_0 : w28.cell? ⟨gb206, 0, none⟩ = some (.bool a0_0) := bc_; have hcz29_1 : w28.cell? ⟨gb206, 1, none⟩ = some (.int .u64 a0_1) := bc_; have hcz29_2 : w28.cell? ⟨gb206, 2, none⟩ = some (.int .u64 a0_2) := bc_; have hfz29_0 := blk_frozen BK206.out 0; have hfz29_1 := blk_frozen BK206.out 1; have hfz29_2 := blk_frozen BK206.out 2) | ((with_reducible refine gate_callee (f := 71) rfl ?_); refine goesL_ (some 23) rfl rfl Try.func71 (by kernel_rfl) rfl #[.int .u64 a0_1, .int .u64 t209] rfl mp_ ?_; (with_reducible refine (bits_Mul64.calls a0_1 t209 t210 t211 _ A6.out).mono ?_); rintro e w' ⟨rfl, ⟨nd, rfl⟩⟩; refine ⟨_, rfl, ?_⟩; (try (rw [drewN_self w28]; generalize hq_ : World.drewN w28 _ = w28; have n0_ : Aside0 (w28.heap[gb206]? = some (.cells #[.bool a0_0, .int .u64 a0_1, .int .u64 a0_2] 30 (0, 0))) := ⟨by rw [← hq_]; exact (by (with_reducible repeat (first | refine bN_ _ ?_ | refine bd_ ?_ | refine ba_ _ ?_)); exact BK206.out)⟩; have n1_ : Aside0 (w28.heap[gb207]? = some (.cells #[.bool false, .int .u64 0, .int .u64 0] 30 (0, 0))) := ⟨by rw [← hq_]; exact (by (with_reducible repeat (first | refine bN_ _ ?_ | refine bd_ ?_ | refine ba_ _ ?_)); exact BK207.out)⟩; have n2_ : Aside0 (Below w.heap.size w w28) := ⟨by rw [← hq_]; exact bel_⟩; clear BK206 BK207 HB hq_; have BK206 := n0_; have BK207 := n1_; have HB := n2_; clear n0_ n1_ n2_)); (try (have hcz29_0 : w28.cell? ⟨gb206, 0, none⟩ = some (.bool a0_0) := bc_; have hcz29_1 : w28.cell? ⟨gb206, 1, none⟩ = some (.int .u64 a0_1) := bc_; have hcz29_2 : w28.cell? ⟨gb206, 2, none⟩ = some (.int .u64 a0_2) := bc_; have hfz29_0 := blk_frozen BK206.out 0; have hfz29_1 := blk_frozen BK206.out 1; have hfz29_2 := blk_frozen BK206.out 2))) | ((with_reducible refine gate_callee (f := 71) rfl ?_); refine goesL_ (some 30) rfl rfl Try.func71 (by kernel_rfl) rfl #[.int .u64 a0_2, .int .u64 t209] rfl mp_ ?_; (with_reducible refine (bits_Mul64.calls a0_2 t209 t212 t213 _ A7.out).mono ?_); rintro e w' ⟨rfl, ⟨nd, rfl⟩⟩; refine ⟨_, rfl, ?_⟩; (try (rw [drewN_self w28]; generalize hq_ : World.drewN w28 _ = w28; have n0_ : Aside0 (w28.heap[gb206]? = some (.cells #[.bool a0_0, .int .u64 a0_1, .int .u64 a0_2] 30 (0, 0))) := ⟨by rw [← hq_]; exact (by (with_reducible repeat (first | refine bN_ _ ?_ | refine bd_ ?_ | refine ba_ _ ?_)); exact BK206.out)⟩; have n1_ : Aside0 (w28.heap[gb207]? = some (.cells #[.bool false, .int .u64 0, .int .u64 0] 30 (0, 0))) := ⟨by rw [← hq_]; exact (by (with_reducible repeat (first | refine bN_ _ ?_ | refine bd_ ?_ | refine ba_ _ ?_)); exact BK207.out)⟩; have n2_ : Aside0 (Below w.heap.size w w28) := ⟨by rw [← hq_]; exact bel_⟩; clear BK206 BK207 HB hq_; have BK206 := n0_; have BK207 := n1_; have HB := n2_; clear n0_ n1_ n2_)); (try (have hcz29_0 : w28.cell? ⟨gb206, 0, none⟩ = some (.bool a0_0) := bc_; have hcz29_1 : w28.cell? ⟨gb206, 1, none⟩ = some (.int .u64 a0_1) := bc_; have hcz29_2 : w28.cell? ⟨gb206, 2, none⟩ = some (.int .u64 a0_2) := bc_; have hfz29_0 := blk_frozen BK206.out 0; have hfz29_1 := blk_frozen BK206.out 1; have hfz29_2 := blk_frozen BK206.out 2))) | ((with_reducible refine gate_callee (f := 65) rfl ?_); refine goesX_ (some 36) rfl rfl #[.int .u64 t211, .int .u64 t212, .int .u64 0] rfl mp_ (bits_Add64.run t211 t212 0 t214 t215 _ A8.out) ?_; (try (rw [drewN_self w28]; generalize hq_ : World.drewN w28 _ = w28; have n0_ : Aside0 (w28.heap[gb206]? = some (.cells #[.bool a0_0, .int .u64 a0_1, .int .u64 a0_2] 30 (0, 0))) := ⟨by rw [← hq_]; exact (by (with_reducible repeat (first | refine bN_ _ ?_ | refine bd_ ?_ | refine ba_ _ ?_)); exact BK206.out)⟩; have n1_ : Aside0 (w28.heap[gb207]? = some (.cells #[.bool false, .int .u64 0, .int .u64 0] 30 (0, 0))) := ⟨by rw [← hq_]; exact (by (with_reducible repeat (first | refine bN_ _ ?_ | refine bd_ ?_ | refine ba_ _ ?_)); exact BK207.out)⟩; have n2_ : Aside0 (Below w.heap.size w w28) := ⟨by rw [← hq_]; exact bel_⟩; clear BK206 BK207 HB hq_; have BK206 := n0_; have BK207 := n1_; have HB := n2_; clear n0_ n1_ n2_)); (try (have hcz29_0 : w28.cell? ⟨gb206, 0, none⟩ = some (.bool a0_0) := bc_; have hcz29_1 : w28.cell? ⟨gb206, 1, none⟩ = some (.int .u64 a0_1) := bc_; have hcz29_2 : w28.cell? ⟨gb206, 2, none⟩ = some (.int .u64 a0_2) := bc_; have hfz29_0 := blk_frozen BK206.out 0; have hfz29_1 := blk_frozen BK206.out 1; have hfz29_2 := blk_frozen BK206.out 2))) | ((with_reducible refine gate_callee (f := 42) rfl ?_); refine goesL_ (some 46) rfl rfl Try.func42 (by kernel_rfl) rfl #[.bool (a0_0 != (decide (a1 < 0))), .int .u64 t214, .int .u64 t213] rfl mp_ ?_; (with_reducible refine (impl_wideOf.calls (a0_0 != (decide (a1 < 0))) t214 t213 t216 t217 t218 _ A9.out).mono ?_); rintro e w30 ⟨rfl, hb⟩; refine ⟨_, rfl, ?_⟩; have n0_ := bb_ (g := gb206) (o := .cells #[.bool a0_0, .int .u64 a0_1, .int .u64 a0_2] 30 (0, 0)) hb; have n1_ := bb_ (g := gb207) (o := .cells #[.bool false, .int .u64 0, .int .u64 0] 30 (0, 0)) hb; have n2_ := Aside0.mk (below_step bel_ hb); clear BK206; clear BK207; clear HB; have BK206 := n0_; have BK207 := n1_; have HB := n2_; clear n0_ n1_ n2_; (try clear hb); (try clear hb2); (try clear hk); (try clear hi)) | ((with_reducible refine gate_dst (N := 12) rfl ?_); refine box_event ?hg (N := 12) ?hd (cs := #[.bool false, .int .u64 0, .int .u64 0]) (t := 30) ?hr ?_; (case hd => rfl); (case hg => rfl); (case hr => first | (go_simp; done) | (go_simp; rfl)); intro gb219 hg w31 hbox hb; have n0_ := bb_ (g := gb206) (o := .cells #[.bool a0_0, .int .u64 a0_1, .int .u64 a0_2] 30 (0, 0)) hb; have n1_ := bb_ (g := gb207) (o := .cells #[.bool false, .int .u64 0, .int .u64 0] 30 (0, 0)) hb; have n2_ := Aside0.mk (below_step bel_ hb); have n3_ := Aside0.mk (hbox); have n4_ := Aside0.mk ((by rw [hg]; exact (below_size bel_) : w.heap.size ≤ gb219)); have n5_ := Aside0.mk ((by rw [hg]; exact (below_size bel_) : w.heap.size ≤ gb219)); have n6_ := nlt_ (g := gb206) (o := .cells #[.bool a0_0, .int .u64 a0_1, .int .u64 a0_2] 30 (0, 0)) hg; have n7_ := ngt_ (g := gb206) (o := .cells #[.bool a0_0, .int .u64 a0_1, .int .u64 a0_2] 30 (0, 0)) hg; have n8_ := nlt_ (g := gb207) (o := .cells #[.bool false, .int .u64 0, .int .u64 0] 30 (0, 0)) hg; have n9_ := ngt_ (g := gb207) (o := .cells #[.bool false, .int .u64 0, .int .u64 0] 30 (0, 0)) hg; clear BK206; clear BK207; clear HB; have BK206 := n0_; have BK207 := n1_; have HB := n2_; have BK219 := n3_; have GW219 := n4_; have GE219 := n5_; have NB206_219 := n6_; have NB219_206 := n7_; have NB207_219 := n8_; have NB219_207 := n9_; clear n0_ n1_ n2_ n3_ n4_ n5_ n6_ n7_ n8_ n9_; clear hb hbox hg; have hnb32 := NB219_206.out; have hnc32 := NB206_219.out; have hnb33 := NB219_207.out; have hnc33 := NB207_219.out; have hcz34_0 : w31.cell? ⟨gb219, 0, none⟩ = some (.bool false) := bc_; have hcz34_1 : w31.cell? ⟨gb219, 1, none⟩ = some (.int .u64 0) := bc_; have hcz34_2 : w31.cell? ⟨gb219, 2, none⟩ = some (.int .u64 0) := bc_; have hfz34_0 := blk_frozen BK219.out 0; have hfz34_1 := blk_frozen BK219.out 1; have hfz34_2 := blk_frozen BK219.out 2; have hcz35_0 : w31.cell? ⟨gb207, 0, none⟩ = some (.bool false) := bc_; have hcz35_1 : w31.cell? ⟨gb207, 1, none⟩ = some (.int .u64 0) := bc_; have hcz35_2 : w31.cell? ⟨gb207, 2, none⟩ = some (.int .u64 0) := bc_; have hfz35_0 := blk_frozen BK207.out 0; have hfz35_1 := blk_frozen BK207.out 1; have hfz35_2 := blk_frozen BK207.out 2))
        refine bodyPost_ret (results_ct rfl _ _ gb207 30 #[.bool false, .int .u64 0, .int .u64 0] (0, 0) _ rfl (by (with_reducible repeat (first | refine bN_ _ ?_ | refine bd_ ?_ | refine ba_ _ ?_)); refine blk_put (cs := #[.bool false, .int .u64 0, .int .u64 0]) ?_ 2 _ rfl; (with_reducible repeat (first | refine bN_ _ ?_ | refine bd_ ?_ | refine ba_ _ ?_)); refine blk_put (cs := #[.bool false, .int .u64 0, .int .u64 0]) ?_ 1 _ rfl; (with_reducible repeat (first | refine bN_ _ ?_ | refine bd_ ?_ | refine ba_ _ ?_)); refine blk_put (cs := #[.bool false, .int .u64 0, .int .u64 0]) ?_ 0 _ rfl; (with_reducible repeat (first | refine bN_ _ ?_ | refine bd_ ?_ | refine ba_ _ ?_)); refine blk_far ?_ NB207_219.out _; (with_reducible repeat (first | refine bN_ _ ?_ | refine bd_ ?_ | refine ba_ _ ?_)); refine blk_far ?_ NB207_219.out _; (with_reducible repeat (first | refine bN_ _ ?_ | refine bd_ ?_ | refine ba_ _ ?_)); refine blk_far ?_ NB207_219.out _; (with_reducible repeat (first | refine bN_ _ ?_ | refine bd_ ?_ | refine ba_ _ ?_)); exact BK207.out) Try.underlying30 rfl (by kernel_rfl)) rfl ?_
        exact ⟨by first | rfl | (simp [errW_none, errW_some] <;> rfl) | (simp [*, errW_none, errW_some] <;> rfl), by repeat (first | (with_reducible first | exact HB.out | apply below_alloc | apply pw_below_drewN | apply below_drew1 | refine below_set ?_ GE206.out | refine below_set ?_ GE207.out | refine below_set ?_ GE219.out) | exact HB.out)⟩
      · rw [if_neg c23] at H
        have c23b0 : decide (0 < t215) = false := decide_eq_false c23
        clear c23
        replace H := Option.bind_eq_some_iff.mp H
        obtain ⟨t220, A360, H⟩ := H
        replace H : (if t220 = true then (some (t216, t217, t218, true)) else (some (false, 0, 0, false))) = some (r1, r2, r3, r4) := H
        have A36 := Aside0.mk A360
        clear A360
        by_cases c37 : t220 = true
        · subst c37
          have H1 : (some (t216, t217, t218, true)) = some (r1, r2, r3, r4) := by rw [if_pos rfl] at H; exact H
          clear H
          have H := H1
          clear H1
          simp only [Option.some.injEq, Prod.mk.injEq] at H
          obtain ⟨rfl, rfl, rfl, rfl⟩ := H
          go_enter Try.func47, Try.ntmps47
          go_wp2_with (first | ((with_reducible refine gate_dst (N := 2) rfl ?_); refine box_event ?hg (N := 2) ?hd (cs := #[.bool a0_0, .int .u64 a0_1, .int .u64 a0_2]) (t := 30) ?hr ?_; (case hd => rfl); (case hg => rfl); (case hr => first | (go_simp; done) | (go_simp; rfl)); intro gb206 hg w38 hbox hb; have n0_ := Aside0.mk (below_step bel_ hb); have n1_ := Aside0.mk (hbox); have n2_ := Aside0.mk ((by rw [hg]; exact (below_size bel_) : w.heap.size ≤ gb206)); have n3_ := Aside0.mk ((by rw [hg]; exact (below_size bel_) : w.heap.size ≤ gb206)); clear HB; have HB := n0_; have BK206 := n1_; have GW206 := n2_; have GE206 := n3_; clear n0_ n1_ n2_ n3_; clear hb hbox hg) | ((with_reducible refine gate_dst (N := 4) rfl ?_); refine box_event ?hg (N := 4) ?hd (cs := #[.bool false, .int .u64 0, .int .u64 0]) (t := 30) ?hr ?_; (case hd => rfl); (case hg => rfl); (case hr => first | (go_simp; done) | (go_simp; rfl)); intro gb207 hg w39 hbox hb; have n0_ := bb_ (g := gb206) (o := .cells #[.bool a0_0, .int .u64 a0_1, .int .u64 a0_2] 30 (0, 0)) hb; have n1_ := Aside0.mk (below_step bel_ hb); have n2_ := Aside0.mk (hbox); have n3_ := Aside0.mk ((by rw [hg]; exact (below_size bel_) : w.heap.size ≤ gb207)); have n4_ := Aside0.mk ((by rw [hg]; exact (below_size bel_) : w.heap.size ≤ gb207)); have n5_ := nlt_ (g := gb206) (o := .cells #[.bool a0_0, .int .u64 a0_1, .int .u64 a0_2] 30 (0, 0)) hg; have n6_ := ngt_ (g := gb206) (o := .cells #[.bool a0_0, .int .u64 a0_1, .int .u64 a0_2] 30 (0, 0)) hg; clear BK206; clear HB; have BK206 := n0_; have HB := n1_; have BK207 := n2_; have GW207 := n3_; have GE207 := n4_; have NB206_207 := n5_; have NB207_206 := n6_; clear n0_ n1_ n2_ n3_ n4_ n5_ n6_; clear hb hbox hg; have hnb40 := NB206_207.out; have hnc40 := NB207_206.out; have hcz41_0 : w39.cell? ⟨gb206, 0, none⟩ = some (.bool a0_0) := bc_; have hcz41_1 : w39.cell? ⟨gb206, 1, none⟩ = some (.int .u64 a0_1) := bc_; have hcz41_2 : w39.cell? ⟨gb206, 2, none⟩ = some (.int .u64 a0_2) := bc_; have hfz41_0 := blk_frozen BK206.out 0; have hfz41_1 := blk_frozen BK206.out 1; have hfz41_2 := blk_frozen BK206.out 2) | ((with_reducible refine gate_callee (f := 63) rfl ?_); refine goesL_ (some 14) rfl rfl Try.func63 (by kernel_rfl) rfl #[.agg #[.bool a0_0, .int .u64 a0_1, .int .u64 a0_2]] rfl mp_ ?_; (with_reducible refine (impl_WideOk.calls a0_0 a0_1 a0_2 true _ A3.out).mono ?_); rintro e w42 ⟨rfl, hb⟩; refine ⟨_, rfl, ?_⟩; have n0_ := bb_ (g := gb206) (o := .cells #[.bool a0_0, .int .u64 a0_1, .int .u64 a0_2] 30 (0, 0)) hb; have n1_ := bb_ (g := gb207) (o := .cells #[.bool false, .int .u64 0, .int .u64 0] 30 (0, 0)) hb; have n2_ := Aside0.mk (below_step bel_ hb); clear BK206; clear BK207; clear HB; have BK206 := n0_; have BK207 := n1_; have HB := n2_; clear n0_ n1_ n2_; (try clear hb); (try clear hb2); (try clear hk); (try clear hi)) | ((with_reducible refine gate_callee (f := 66) rfl ?_); refine goesL_ (some 18) rfl rfl Try.func66 (by kernel_rfl) rfl #[.int .i64 a1] rfl mp_ ?_; (with_reducible refine (impl_size.calls a1 t209 _ A5.out).mono ?_); rintro e w' ⟨rfl, ⟨nd, rfl⟩⟩; refine ⟨_, rfl, ?_⟩; (try (rw [drewN_self w42]; generalize hq_ : World.drewN w42 _ = w42; have n0_ : Aside0 (w42.heap[gb206]? = some (.cells #[.bool a0_0, .int .u64 a0_1, .int .u64 a0_2] 30 (0, 0))) := ⟨by rw [← hq_]; exact (by (with_reducible repeat (first | refine bN_ _ ?_ | refine bd_ ?_ | refine ba_ _ ?_)); exact BK206.out)⟩; have n1_ : Aside0 (w42.heap[gb207]? = some (.cells #[.bool false, .int .u64 0, .int .u64 0] 30 (0, 0))) := ⟨by rw [← hq_]; exact (by (with_reducible repeat (first | refine bN_ _ ?_ | refine bd_ ?_ | refine ba_ _ ?_)); exact BK207.out)⟩; have n2_ : Aside0 (Below w.heap.size w w42) := ⟨by rw [← hq_]; exact bel_⟩; clear BK206 BK207 HB hq_; have BK206 := n0_; have BK207 := n1_; have HB := n2_; clear n0_ n1_ n2_)); have hcz43_0 : w42.cell? ⟨gb206, 0, none⟩ = some (.bool a0_0) := bc_; have hcz43_1 : w42.cell? ⟨gb206, 1, none⟩ = some (.int .u64 a0_1) := bc_; have hcz43_2 : w42.cell? ⟨gb206, 2, none⟩ = some (.int .u64 a0_2) := bc_; have hfz43_0 := blk_frozen BK206.out 0; have hfz43_1 := blk_frozen BK206.out 1; have hfz43_2 := blk_frozen BK206.out 2) | ((with_reducible refine gate_callee (f := 71) rfl ?_); refine goesL_ (some 23) rfl rfl Try.func71 (by kernel_rfl) rfl #[.int .u64 a0_1, .int .u64 t209] rfl mp_ ?_; (with_reducible refine (bits_Mul64.calls a0_1 t209 t210 t211 _ A6.out).mono ?_); rintro e w' ⟨rfl, ⟨nd, rfl⟩⟩; refine ⟨_, rfl, ?_⟩; (try (rw [drewN_self w42]; generalize hq_ : World.drewN w42 _ = w42; have n0_ : Aside0 (w42.heap[gb206]? = some (.cells #[.bool a0_0, .int .u64 a0_1, .int .u64 a0_2] 30 (0, 0))) := ⟨by rw [← hq_]; exact (by (with_reducible repeat (first | refine bN_ _ ?_ | refine bd_ ?_ | refine ba_ _ ?_)); exact BK206.out)⟩; have n1_ : Aside0 (w42.heap[gb207]? = some (.cells #[.bool false, .int .u64 0, .int .u64 0] 30 (0, 0))) := ⟨by rw [← hq_]; exact (by (with_reducible repeat (first | refine bN_ _ ?_ | refine bd_ ?_ | refine ba_ _ ?_)); exact BK207.out)⟩; have n2_ : Aside0 (Below w.heap.size w w42) := ⟨by rw [← hq_]; exact bel_⟩; clear BK206 BK207 HB hq_; have BK206 := n0_; have BK207 := n1_; have HB := n2_; clear n0_ n1_ n2_)); (try (have hcz43_0 : w42.cell? ⟨gb206, 0, none⟩ = some (.bool a0_0) := bc_; have hcz43_1 : w42.cell? ⟨gb206, 1, none⟩ = some (.int .u64 a0_1) := bc_; have hcz43_2 : w42.cell? ⟨gb206, 2, none⟩ = some (.int .u64 a0_2) := bc_; have hfz43_0 := blk_frozen BK206.out 0; have hfz43_1 := blk_frozen BK206.out 1; have hfz43_2 := blk_frozen BK206.out 2))) | ((with_reducible refine gate_callee (f := 71) rfl ?_); refine goesL_ (some 30) rfl rfl Try.func71 (by kernel_rfl) rfl #[.int .u64 a0_2, .int .u64 t209] rfl mp_ ?_; (with_reducible refine (bits_Mul64.calls a0_2 t209 t212 t213 _ A7.out).mono ?_); rintro e w' ⟨rfl, ⟨nd, rfl⟩⟩; refine ⟨_, rfl, ?_⟩; (try (rw [drewN_self w42]; generalize hq_ : World.drewN w42 _ = w42; have n0_ : Aside0 (w42.heap[gb206]? = some (.cells #[.bool a0_0, .int .u64 a0_1, .int .u64 a0_2] 30 (0, 0))) := ⟨by rw [← hq_]; exact (by (with_reducible repeat (first | refine bN_ _ ?_ | refine bd_ ?_ | refine ba_ _ ?_)); exact BK206.out)⟩; have n1_ : Aside0 (w42.heap[gb207]? = some (.cells #[.bool false, .int .u64 0, .int .u64 0] 30 (0, 0))) := ⟨by rw [← hq_]; exact (by (with_reducible repeat (first | refine bN_ _ ?_ | refine bd_ ?_ | refine ba_ _ ?_)); exact BK207.out)⟩; have n2_ : Aside0 (Below w.heap.size w w42) := ⟨by rw [← hq_]; exact bel_⟩; clear BK206 BK207 HB hq_; have BK206 := n0_; have BK207 := n1_; have HB := n2_; clear n0_ n1_ n2_)); (try (have hcz43_0 : w42.cell? ⟨gb206, 0, none⟩ = some (.bool a0_0) := bc_; have hcz43_1 : w42.cell? ⟨gb206, 1, none⟩ = some (.int .u64 a0_1) := bc_; have hcz43_2 : w42.cell? ⟨gb206, 2, none⟩ = some (.int .u64 a0_2) := bc_; have hfz43_0 := blk_frozen BK206.out 0; have hfz43_1 := blk_frozen BK206.out 1; have hfz43_2 := blk_frozen BK206.out 2))) | ((with_reducible refine gate_callee (f := 65) rfl ?_); refine goesX_ (some 36) rfl rfl #[.int .u64 t211, .int .u64 t212, .int .u64 0] rfl mp_ (bits_Add64.run t211 t212 0 t214 t215 _ A8.out) ?_; (try (rw [drewN_self w42]; generalize hq_ : World.drewN w42 _ = w42; have n0_ : Aside0 (w42.heap[gb206]? = some (.cells #[.bool a0_0, .int .u64 a0_1, .int .u64 a0_2] 30 (0, 0))) := ⟨by rw [← hq_]; exact (by (with_reducible repeat (first | refine bN_ _ ?_ | refine bd_ ?_ | refine ba_ _ ?_)); exact BK206.out)⟩; have n1_ : Aside0 (w42.heap[gb207]? = some (.cells #[.bool false, .int .u64 0, .int .u64 0] 30 (0, 0))) := ⟨by rw [← hq_]; exact (by (with_reducible repeat (first | refine bN_ _ ?_ | refine bd_ ?_ | refine ba_ _ ?_)); exact BK207.out)⟩; have n2_ : Aside0 (Below w.heap.size w w42) := ⟨by rw [← hq_]; exact bel_⟩; clear BK206 BK207 HB hq_; have BK206 := n0_; have BK207 := n1_; have HB := n2_; clear n0_ n1_ n2_)); (try (have hcz43_0 : w42.cell? ⟨gb206, 0, none⟩ = some (.bool a0_0) := bc_; have hcz43_1 : w42.cell? ⟨gb206, 1, none⟩ = some (.int .u64 a0_1) := bc_; have hcz43_2 : w42.cell? ⟨gb206, 2, none⟩ = some (.int .u64 a0_2) := bc_; have hfz43_0 := blk_frozen BK206.out 0; have hfz43_1 := blk_frozen BK206.out 1; have hfz43_2 := blk_frozen BK206.out 2))) | ((with_reducible refine gate_callee (f := 42) rfl ?_); refine goesL_ (some 46) rfl rfl Try.func42 (by kernel_rfl) rfl #[.bool (a0_0 != (decide (a1 < 0))), .int .u64 t214, .int .u64 t213] rfl mp_ ?_; (with_reducible refine (impl_wideOf.calls (a0_0 != (decide (a1 < 0))) t214 t213 t216 t217 t218 _ A9.out).mono ?_); rintro e w44 ⟨rfl, hb⟩; refine ⟨_, rfl, ?_⟩; have n0_ := bb_ (g := gb206) (o := .cells #[.bool a0_0, .int .u64 a0_1, .int .u64 a0_2] 30 (0, 0)) hb; have n1_ := bb_ (g := gb207) (o := .cells #[.bool false, .int .u64 0, .int .u64 0] 30 (0, 0)) hb; have n2_ := Aside0.mk (below_step bel_ hb); clear BK206; clear BK207; clear HB; have BK206 := n0_; have BK207 := n1_; have HB := n2_; clear n0_ n1_ n2_; (try clear hb); (try clear hb2); (try clear hk); (try clear hi)) | ((with_reducible refine gate_dst (N := 12) rfl ?_); refine box_event ?hg (N := 12) ?hd (cs := #[.bool false, .int .u64 0, .int .u64 0]) (t := 30) ?hr ?_; (case hd => rfl); (case hg => rfl); (case hr => first | (go_simp; done) | (go_simp; rfl)); intro gb219 hg w45 hbox hb; have n0_ := bb_ (g := gb206) (o := .cells #[.bool a0_0, .int .u64 a0_1, .int .u64 a0_2] 30 (0, 0)) hb; have n1_ := bb_ (g := gb207) (o := .cells #[.bool false, .int .u64 0, .int .u64 0] 30 (0, 0)) hb; have n2_ := Aside0.mk (below_step bel_ hb); have n3_ := Aside0.mk (hbox); have n4_ := Aside0.mk ((by rw [hg]; exact (below_size bel_) : w.heap.size ≤ gb219)); have n5_ := Aside0.mk ((by rw [hg]; exact (below_size bel_) : w.heap.size ≤ gb219)); have n6_ := nlt_ (g := gb206) (o := .cells #[.bool a0_0, .int .u64 a0_1, .int .u64 a0_2] 30 (0, 0)) hg; have n7_ := ngt_ (g := gb206) (o := .cells #[.bool a0_0, .int .u64 a0_1, .int .u64 a0_2] 30 (0, 0)) hg; have n8_ := nlt_ (g := gb207) (o := .cells #[.bool false, .int .u64 0, .int .u64 0] 30 (0, 0)) hg; have n9_ := ngt_ (g := gb207) (o := .cells #[.bool false, .int .u64 0, .int .u64 0] 30 (0, 0)) hg; clear BK206; clear BK207; clear HB; have BK206 := n0_; have BK207 := n1_; have HB := n2_; have BK219 := n3_; have GW219 := n4_; have GE219 := n5_; have NB206_219 := n6_; have NB219_206 := n7_; have NB207_219 := n8_; have NB219_207 := n9_; clear n0_ n1_ n2_ n3_ n4_ n5_ n6_ n7_ n8_ n9_; clear hb hbox hg; have hnb46 := NB219_206.out; have hnc46 := NB206_219.out; have hnb47 := NB219_207.out; have hnc47 := NB207_219.out; have hcz48_0 : w45.cell? ⟨gb219, 0, none⟩ = some (.bool false) := bc_; have hcz48_1 : w45.cell? ⟨gb219, 1, none⟩ = some (.int .u64 0) := bc_; have hcz48_2 : w45.cell? ⟨gb219, 2, none⟩ = some (.int .u64 0) := bc_; have hfz48_0 := blk_frozen BK219.out 0; have hfz48_1 := blk_frozen BK219.out 1; have hfz48_2 := blk_frozen BK219.out 2) | (go_at_call 63; (with_reducible refine (impl_WideOk.calls t216 t217 t218 true _ A36.out).mono ?_); rintro e w49 ⟨rfl, hb⟩; have n0_ := Aside0.mk (blk_below (g := gb206) (o := .cells #[.bool a0_0, .int .u64 a0_1, .int .u64 a0_2] 30 (0, 0)) (by (with_reducible repeat (first | refine bN_ _ ?_ | refine bd_ ?_ | refine ba_ _ ?_)); refine blk_far ?_ NB206_219.out _; (with_reducible repeat (first | refine bN_ _ ?_ | refine bd_ ?_ | refine ba_ _ ?_)); refine blk_far ?_ NB206_219.out _; (with_reducible repeat (first | refine bN_ _ ?_ | refine bd_ ?_ | refine ba_ _ ?_)); refine blk_far ?_ NB206_219.out _; (with_reducible repeat (first | refine bN_ _ ?_ | refine bd_ ?_ | refine ba_ _ ?_)); exact BK206.out) hb); have n1_ := Aside0.mk (blk_below (g := gb207) (o := .cells #[.bool false, .int .u64 0, .int .u64 0] 30 (0, 0)) (by (with_reducible repeat (first | refine bN_ _ ?_ | refine bd_ ?_ | refine ba_ _ ?_)); refine blk_far ?_ NB207_219.out _; (with_reducible repeat (first | refine bN_ _ ?_ | refine bd_ ?_ | refine ba_ _ ?_)); refine blk_far ?_ NB207_219.out _; (with_reducible repeat (first | refine bN_ _ ?_ | refine bd_ ?_ | refine ba_ _ ?_)); refine blk_far ?_ NB207_219.out _; (with_reducible repeat (first | refine bN_ _ ?_ | refine bd_ ?_ | refine ba_ _ ?_)); exact BK207.out) hb); have n2_ := Aside0.mk (blk_below (g := gb219) (o := .cells #[.bool t216, .int .u64 t217, .int .u64 t218] 30 (0, 0)) (by (with_reducible repeat (first | refine bN_ _ ?_ | refine bd_ ?_ | refine ba_ _ ?_)); refine blk_put (cs := #[.bool t216, .int .u64 t217, .int .u64 0]) ?_ 2 _ rfl; (with_reducible repeat (first | refine bN_ _ ?_ | refine bd_ ?_ | refine ba_ _ ?_)); refine blk_put (cs := #[.bool t216, .int .u64 0, .int .u64 0]) ?_ 1 _ rfl; (with_reducible repeat (first | refine bN_ _ ?_ | refine bd_ ?_ | refine ba_ _ ?_)); refine blk_put (cs := #[.bool false, .int .u64 0, .int .u64 0]) ?_ 0 _ rfl; (with_reducible repeat (first | refine bN_ _ ?_ | refine bd_ ?_ | refine ba_ _ ?_)); exact BK219.out) hb); have n3_ := Aside0.mk (below_step bel_ hb); clear BK206; clear BK207; clear BK219; clear HB; have BK206 := n0_; have BK207 := n1_; have BK219 := n2_; have HB := n3_; clear n0_ n1_ n2_ n3_; (try clear hb); (try clear hb2); (try clear hk); (try clear hi); have hcz50_0 : w49.cell? ⟨gb219, 0, none⟩ = some (.bool t216) := bc_; have hcz50_1 : w49.cell? ⟨gb219, 1, none⟩ = some (.int .u64 t217) := bc_; have hcz50_2 : w49.cell? ⟨gb219, 2, none⟩ = some (.int .u64 t218) := bc_; have hfz50_0 := blk_frozen BK219.out 0; have hfz50_1 := blk_frozen BK219.out 1; have hfz50_2 := blk_frozen BK219.out 2; have hcz51_0 : w49.cell? ⟨gb207, 0, none⟩ = some (.bool false) := bc_; have hcz51_1 : w49.cell? ⟨gb207, 1, none⟩ = some (.int .u64 0) := bc_; have hcz51_2 : w49.cell? ⟨gb207, 2, none⟩ = some (.int .u64 0) := bc_; have hfz51_0 := blk_frozen BK207.out 0; have hfz51_1 := blk_frozen BK207.out 1; have hfz51_2 := blk_frozen BK207.out 2))
          refine bodyPost_ret (results_ct rfl _ _ gb207 30 #[.bool t216, .int .u64 t217, .int .u64 t218] (0, 0) _ rfl (by (with_reducible repeat (first | refine bN_ _ ?_ | refine bd_ ?_ | refine ba_ _ ?_)); refine blk_put (cs := #[.bool t216, .int .u64 t217, .int .u64 0]) ?_ 2 _ rfl; (with_reducible repeat (first | refine bN_ _ ?_ | refine bd_ ?_ | refine ba_ _ ?_)); refine blk_put (cs := #[.bool t216, .int .u64 0, .int .u64 0]) ?_ 1 _ rfl; (with_reducible repeat (first | refine bN_ _ ?_ | refine bd_ ?_ | refine ba_ _ ?_)); refine blk_put (cs := #[.bool false, .int .u64 0, .int .u64 0]) ?_ 0 _ rfl; (with_reducible repeat (first | refine bN_ _ ?_ | refine bd_ ?_ | refine ba_ _ ?_)); exact BK207.out) Try.underlying30 rfl (by kernel_rfl)) rfl ?_
          exact ⟨by first | rfl | (simp [errW_none, errW_some] <;> rfl) | (simp [*, errW_none, errW_some] <;> rfl), by repeat (first | (with_reducible first | exact HB.out | apply below_alloc | apply pw_below_drewN | apply below_drew1 | refine below_set ?_ GE206.out | refine below_set ?_ GE207.out | refine below_set ?_ GE219.out) | exact HB.out)⟩
        · replace c37 := Bool.eq_false_iff.mpr c37
          subst c37
          have H1 : (some (false, 0, 0, false)) = some (r1, r2, r3, r4) := by rw [if_neg (show ¬ (false = true) by decide)] at H; exact H
          clear H
          have H := H1
          clear H1
          simp only [Option.some.injEq, Prod.mk.injEq] at H
          obtain ⟨rfl, rfl, rfl, rfl⟩ := H
          go_enter Try.func47, Try.ntmps47
          go_wp2_with (first | ((with_reducible refine gate_dst (N := 2) rfl ?_); refine box_event ?hg (N := 2) ?hd (cs := #[.bool a0_0, .int .u64 a0_1, .int .u64 a0_2]) (t := 30) ?hr ?_; (case hd => rfl); (case hg => rfl); (case hr => first | (go_simp; done) | (go_simp; rfl)); intro gb206 hg w52 hbox hb; have n0_ := Aside0.mk (below_step bel_ hb); have n1_ := Aside0.mk (hbox); have n2_ := Aside0.mk ((by rw [hg]; exact (below_size bel_) : w.heap.size ≤ gb206)); have n3_ := Aside0.mk ((by rw [hg]; exact (below_size bel_) : w.heap.size ≤ gb206)); clear HB; have HB := n0_; have BK206 := n1_; have GW206 := n2_; have GE206 := n3_; clear n0_ n1_ n2_ n3_; clear hb hbox hg) | ((with_reducible refine gate_dst (N := 4) rfl ?_); refine box_event ?hg (N := 4) ?hd (cs := #[.bool false, .int .u64 0, .int .u64 0]) (t := 30) ?hr ?_; (case hd => rfl); (case hg => rfl); (case hr => first | (go_simp; done) | (go_simp; rfl)); intro gb207 hg w53 hbox hb; have n0_ := bb_ (g := gb206) (o := .cells #[.bool a0_0, .int .u64 a0_1, .int .u64 a0_2] 30 (0, 0)) hb; have n1_ := Aside0.mk (below_step bel_ hb); have n2_ := Aside0.mk (hbox); have n3_ := Aside0.mk ((by rw [hg]; exact (below_size bel_) : w.heap.size ≤ gb207)); have n4_ := Aside0.mk ((by rw [hg]; exact (below_size bel_) : w.heap.size ≤ gb207)); have n5_ := nlt_ (g := gb206) (o := .cells #[.bool a0_0, .int .u64 a0_1, .int .u64 a0_2] 30 (0, 0)) hg; have n6_ := ngt_ (g := gb206) (o := .cells #[.bool a0_0, .int .u64 a0_1, .int .u64 a0_2] 30 (0, 0)) hg; clear BK206; clear HB; have BK206 := n0_; have HB := n1_; have BK207 := n2_; have GW207 := n3_; have GE207 := n4_; have NB206_207 := n5_; have NB207_206 := n6_; clear n0_ n1_ n2_ n3_ n4_ n5_ n6_; clear hb hbox hg; have hnb54 := NB206_207.out; have hnc54 := NB207_206.out; have hcz55_0 : w53.cell? ⟨gb206, 0, none⟩ = some (.bool a0_0) := bc_; have hcz55_1 : w53.cell? ⟨gb206, 1, none⟩ = some (.int .u64 a0_1) := bc_; have hcz55_2 : w53.cell? ⟨gb206, 2, none⟩ = some (.int .u64 a0_2) := bc_; have hfz55_0 := blk_frozen BK206.out 0; have hfz55_1 := blk_frozen BK206.out 1; have hfz55_2 := blk_frozen BK206.out 2) | ((with_reducible refine gate_callee (f := 63) rfl ?_); refine goesL_ (some 14) rfl rfl Try.func63 (by kernel_rfl) rfl #[.agg #[.bool a0_0, .int .u64 a0_1, .int .u64 a0_2]] rfl mp_ ?_; (with_reducible refine (impl_WideOk.calls a0_0 a0_1 a0_2 true _ A3.out).mono ?_); rintro e w56 ⟨rfl, hb⟩; refine ⟨_, rfl, ?_⟩; have n0_ := bb_ (g := gb206) (o := .cells #[.bool a0_0, .int .u64 a0_1, .int .u64 a0_2] 30 (0, 0)) hb; have n1_ := bb_ (g := gb207) (o := .cells #[.bool false, .int .u64 0, .int .u64 0] 30 (0, 0)) hb; have n2_ := Aside0.mk (below_step bel_ hb); clear BK206; clear BK207; clear HB; have BK206 := n0_; have BK207 := n1_; have HB := n2_; clear n0_ n1_ n2_; (try clear hb); (try clear hb2); (try clear hk); (try clear hi)) | ((with_reducible refine gate_callee (f := 66) rfl ?_); refine goesL_ (some 18) rfl rfl Try.func66 (by kernel_rfl) rfl #[.int .i64 a1] rfl mp_ ?_; (with_reducible refine (impl_size.calls a1 t209 _ A5.out).mono ?_); rintro e w' ⟨rfl, ⟨nd, rfl⟩⟩; refine ⟨_, rfl, ?_⟩; (try (rw [drewN_self w56]; generalize hq_ : World.drewN w56 _ = w56; have n0_ : Aside0 (w56.heap[gb206]? = some (.cells #[.bool a0_0, .int .u64 a0_1, .int .u64 a0_2] 30 (0, 0))) := ⟨by rw [← hq_]; exact (by (with_reducible repeat (first | refine bN_ _ ?_ | refine bd_ ?_ | refine ba_ _ ?_)); exact BK206.out)⟩; have n1_ : Aside0 (w56.heap[gb207]? = some (.cells #[.bool false, .int .u64 0, .int .u64 0] 30 (0, 0))) := ⟨by rw [← hq_]; exact (by (with_reducible repeat (first | refine bN_ _ ?_ | refine bd_ ?_ | refine ba_ _ ?_)); exact BK207.out)⟩; have n2_ : Aside0 (Below w.heap.size w w56) := ⟨by rw [← hq_]; exact bel_⟩; clear BK206 BK207 HB hq_; have BK206 := n0_; have BK207 := n1_; have HB := n2_; clear n0_ n1_ n2_)); have hcz57_0 : w56.cell? ⟨gb206, 0, none⟩ = some (.bool a0_0) := bc_; have hcz57_1 : w56.cell? ⟨gb206, 1, none⟩ = some (.int .u64 a0_1) := bc_; have hcz57_2 : w56.cell? ⟨gb206, 2, none⟩ = some (.int .u64 a0_2) := bc_; have hfz57_0 := blk_frozen BK206.out 0; have hfz57_1 := blk_frozen BK206.out 1; have hfz57_2 := blk_frozen BK206.out 2) | ((with_reducible refine gate_callee (f := 71) rfl ?_); refine goesL_ (some 23) rfl rfl Try.func71 (by kernel_rfl) rfl #[.int .u64 a0_1, .int .u64 t209] rfl mp_ ?_; (with_reducible refine (bits_Mul64.calls a0_1 t209 t210 t211 _ A6.out).mono ?_); rintro e w' ⟨rfl, ⟨nd, rfl⟩⟩; refine ⟨_, rfl, ?_⟩; (try (rw [drewN_self w56]; generalize hq_ : World.drewN w56 _ = w56; have n0_ : Aside0 (w56.heap[gb206]? = some (.cells #[.bool a0_0, .int .u64 a0_1, .int .u64 a0_2] 30 (0, 0))) := ⟨by rw [← hq_]; exact (by (with_reducible repeat (first | refine bN_ _ ?_ | refine bd_ ?_ | refine ba_ _ ?_)); exact BK206.out)⟩; have n1_ : Aside0 (w56.heap[gb207]? = some (.cells #[.bool false, .int .u64 0, .int .u64 0] 30 (0, 0))) := ⟨by rw [← hq_]; exact (by (with_reducible repeat (first | refine bN_ _ ?_ | refine bd_ ?_ | refine ba_ _ ?_)); exact BK207.out)⟩; have n2_ : Aside0 (Below w.heap.size w w56) := ⟨by rw [← hq_]; exact bel_⟩; clear BK206 BK207 HB hq_; have BK206 := n0_; have BK207 := n1_; have HB := n2_; clear n0_ n1_ n2_)); (try (have hcz57_0 : w56.cell? ⟨gb206, 0, none⟩ = some (.bool a0_0) := bc_; have hcz57_1 : w56.cell? ⟨gb206, 1, none⟩ = some (.int .u64 a0_1) := bc_; have hcz57_2 : w56.cell? ⟨gb206, 2, none⟩ = some (.int .u64 a0_2) := bc_; have hfz57_0 := blk_frozen BK206.out 0; have hfz57_1 := blk_frozen BK206.out 1; have hfz57_2 := blk_frozen BK206.out 2))) | ((with_reducible refine gate_callee (f := 71) rfl ?_); refine goesL_ (some 30) rfl rfl Try.func71 (by kernel_rfl) rfl #[.int .u64 a0_2, .int .u64 t209] rfl mp_ ?_; (with_reducible refine (bits_Mul64.calls a0_2 t209 t212 t213 _ A7.out).mono ?_); rintro e w' ⟨rfl, ⟨nd, rfl⟩⟩; refine ⟨_, rfl, ?_⟩; (try (rw [drewN_self w56]; generalize hq_ : World.drewN w56 _ = w56; have n0_ : Aside0 (w56.heap[gb206]? = some (.cells #[.bool a0_0, .int .u64 a0_1, .int .u64 a0_2] 30 (0, 0))) := ⟨by rw [← hq_]; exact (by (with_reducible repeat (first | refine bN_ _ ?_ | refine bd_ ?_ | refine ba_ _ ?_)); exact BK206.out)⟩; have n1_ : Aside0 (w56.heap[gb207]? = some (.cells #[.bool false, .int .u64 0, .int .u64 0] 30 (0, 0))) := ⟨by rw [← hq_]; exact (by (with_reducible repeat (first | refine bN_ _ ?_ | refine bd_ ?_ | refine ba_ _ ?_)); exact BK207.out)⟩; have n2_ : Aside0 (Below w.heap.size w w56) := ⟨by rw [← hq_]; exact bel_⟩; clear BK206 BK207 HB hq_; have BK206 := n0_; have BK207 := n1_; have HB := n2_; clear n0_ n1_ n2_)); (try (have hcz57_0 : w56.cell? ⟨gb206, 0, none⟩ = some (.bool a0_0) := bc_; have hcz57_1 : w56.cell? ⟨gb206, 1, none⟩ = some (.int .u64 a0_1) := bc_; have hcz57_2 : w56.cell? ⟨gb206, 2, none⟩ = some (.int .u64 a0_2) := bc_; have hfz57_0 := blk_frozen BK206.out 0; have hfz57_1 := blk_frozen BK206.out 1; have hfz57_2 := blk_frozen BK206.out 2))) | ((with_reducible refine gate_callee (f := 65) rfl ?_); refine goesX_ (some 36) rfl rfl #[.int .u64 t211, .int .u64 t212, .int .u64 0] rfl mp_ (bits_Add64.run t211 t212 0 t214 t215 _ A8.out) ?_; (try (rw [drewN_self w56]; generalize hq_ : World.drewN w56 _ = w56; have n0_ : Aside0 (w56.heap[gb206]? = some (.cells #[.bool a0_0, .int .u64 a0_1, .int .u64 a0_2] 30 (0, 0))) := ⟨by rw [← hq_]; exact (by (with_reducible repeat (first | refine bN_ _ ?_ | refine bd_ ?_ | refine ba_ _ ?_)); exact BK206.out)⟩; have n1_ : Aside0 (w56.heap[gb207]? = some (.cells #[.bool false, .int .u64 0, .int .u64 0] 30 (0, 0))) := ⟨by rw [← hq_]; exact (by (with_reducible repeat (first | refine bN_ _ ?_ | refine bd_ ?_ | refine ba_ _ ?_)); exact BK207.out)⟩; have n2_ : Aside0 (Below w.heap.size w w56) := ⟨by rw [← hq_]; exact bel_⟩; clear BK206 BK207 HB hq_; have BK206 := n0_; have BK207 := n1_; have HB := n2_; clear n0_ n1_ n2_)); (try (have hcz57_0 : w56.cell? ⟨gb206, 0, none⟩ = some (.bool a0_0) := bc_; have hcz57_1 : w56.cell? ⟨gb206, 1, none⟩ = some (.int .u64 a0_1) := bc_; have hcz57_2 : w56.cell? ⟨gb206, 2, none⟩ = some (.int .u64 a0_2) := bc_; have hfz57_0 := blk_frozen BK206.out 0; have hfz57_1 := blk_frozen BK206.out 1; have hfz57_2 := blk_frozen BK206.out 2))) | ((with_reducible refine gate_callee (f := 42) rfl ?_); refine goesL_ (some 46) rfl rfl Try.func42 (by kernel_rfl) rfl #[.bool (a0_0 != (decide (a1 < 0))), .int .u64 t214, .int .u64 t213] rfl mp_ ?_; (with_reducible refine (impl_wideOf.calls (a0_0 != (decide (a1 < 0))) t214 t213 t216 t217 t218 _ A9.out).mono ?_); rintro e w58 ⟨rfl, hb⟩; refine ⟨_, rfl, ?_⟩; have n0_ := bb_ (g := gb206) (o := .cells #[.bool a0_0, .int .u64 a0_1, .int .u64 a0_2] 30 (0, 0)) hb; have n1_ := bb_ (g := gb207) (o := .cells #[.bool false, .int .u64 0, .int .u64 0] 30 (0, 0)) hb; have n2_ := Aside0.mk (below_step bel_ hb); clear BK206; clear BK207; clear HB; have BK206 := n0_; have BK207 := n1_; have HB := n2_; clear n0_ n1_ n2_; (try clear hb); (try clear hb2); (try clear hk); (try clear hi)) | ((with_reducible refine gate_dst (N := 12) rfl ?_); refine box_event ?hg (N := 12) ?hd (cs := #[.bool false, .int .u64 0, .int .u64 0]) (t := 30) ?hr ?_; (case hd => rfl); (case hg => rfl); (case hr => first | (go_simp; done) | (go_simp; rfl)); intro gb219 hg w59 hbox hb; have n0_ := bb_ (g := gb206) (o := .cells #[.bool a0_0, .int .u64 a0_1, .int .u64 a0_2] 30 (0, 0)) hb; have n1_ := bb_ (g := gb207) (o := .cells #[.bool false, .int .u64 0, .int .u64 0] 30 (0, 0)) hb; have n2_ := Aside0.mk (below_step bel_ hb); have n3_ := Aside0.mk (hbox); have n4_ := Aside0.mk ((by rw [hg]; exact (below_size bel_) : w.heap.size ≤ gb219)); have n5_ := Aside0.mk ((by rw [hg]; exact (below_size bel_) : w.heap.size ≤ gb219)); have n6_ := nlt_ (g := gb206) (o := .cells #[.bool a0_0, .int .u64 a0_1, .int .u64 a0_2] 30 (0, 0)) hg; have n7_ := ngt_ (g := gb206) (o := .cells #[.bool a0_0, .int .u64 a0_1, .int .u64 a0_2] 30 (0, 0)) hg; have n8_ := nlt_ (g := gb207) (o := .cells #[.bool false, .int .u64 0, .int .u64 0] 30 (0, 0)) hg; have n9_ := ngt_ (g := gb207) (o := .cells #[.bool false, .int .u64 0, .int .u64 0] 30 (0, 0)) hg; clear BK206; clear BK207; clear HB; have BK206 := n0_; have BK207 := n1_; have HB := n2_; have BK219 := n3_; have GW219 := n4_; have GE219 := n5_; have NB206_219 := n6_; have NB219_206 := n7_; have NB207_219 := n8_; have NB219_207 := n9_; clear n0_ n1_ n2_ n3_ n4_ n5_ n6_ n7_ n8_ n9_; clear hb hbox hg; have hnb60 := NB219_206.out; have hnc60 := NB206_219.out; have hnb61 := NB219_207.out; have hnc61 := NB207_219.out; have hcz62_0 : w59.cell? ⟨gb219, 0, none⟩ = some (.bool false) := bc_; have hcz62_1 : w59.cell? ⟨gb219, 1, none⟩ = some (.int .u64 0) := bc_; have hcz62_2 : w59.cell? ⟨gb219, 2, none⟩ = some (.int .u64 0) := bc_; have hfz62_0 := blk_frozen BK219.out 0; have hfz62_1 := blk_frozen BK219.out 1; have hfz62_2 := blk_frozen BK219.out 2) | (go_at_call 63; (with_reducible refine (impl_WideOk.calls t216 t217 t218 false _ A36.out).mono ?_); rintro e w63 ⟨rfl, hb⟩; have n0_ := Aside0.mk (blk_below (g := gb206) (o := .cells #[.bool a0_0, .int .u64 a0_1, .int .u64 a0_2] 30 (0, 0)) (by (with_reducible repeat (first | refine bN_ _ ?_ | refine bd_ ?_ | refine ba_ _ ?_)); refine blk_far ?_ NB206_219.out _; (with_reducible repeat (first | refine bN_ _ ?_ | refine bd_ ?_ | refine ba_ _ ?_)); refine blk_far ?_ NB206_219.out _; (with_reducible repeat (first | refine bN_ _ ?_ | refine bd_ ?_ | refine ba_ _ ?_)); refine blk_far ?_ NB206_219.out _; (with_reducible repeat (first | refine bN_ _ ?_ | refine bd_ ?_ | refine ba_ _ ?_)); exact BK206.out) hb); have n1_ := Aside0.mk (blk_below (g := gb207) (o := .cells #[.bool false, .int .u64 0, .int .u64 0] 30 (0, 0)) (by (with_reducible repeat (first | refine bN_ _ ?_ | refine bd_ ?_ | refine ba_ _ ?_)); refine blk_far ?_ NB207_219.out _; (with_reducible repeat (first | refine bN_ _ ?_ | refine bd_ ?_ | refine ba_ _ ?_)); refine blk_far ?_ NB207_219.out _; (with_reducible repeat (first | refine bN_ _ ?_ | refine bd_ ?_ | refine ba_ _ ?_)); refine blk_far ?_ NB207_219.out _; (with_reducible repeat (first | refine bN_ _ ?_ | refine bd_ ?_ | refine ba_ _ ?_)); exact BK207.out) hb); have n2_ := Aside0.mk (blk_below (g := gb219) (o := .cells #[.bool t216, .int .u64 t217, .int .u64 t218] 30 (0, 0)) (by (with_reducible repeat (first | refine bN_ _ ?_ | refine bd_ ?_ | refine ba_ _ ?_)); refine blk_put (cs := #[.bool t216, .int .u64 t217, .int .u64 0]) ?_ 2 _ rfl; (with_reducible repeat (first | refine bN_ _ ?_ | refine bd_ ?_ | refine ba_ _ ?_)); refine blk_put (cs := #[.bool t216, .int .u64 0, .int .u64 0]) ?_ 1 _ rfl; (with_reducible repeat (first | refine bN_ _ ?_ | refine bd_ ?_ | refine ba_ _ ?_)); refine blk_put (cs := #[.bool false, .int .u64 0, .int .u64 0]) ?_ 0 _ rfl; (with_reducible repeat (first | refine bN_ _ ?_ | refine bd_ ?_ | refine ba_ _ ?_)); exact BK219.out) hb); have n3_ := Aside0.mk (below_step bel_ hb); clear BK206; clear BK207; clear BK219; clear HB; have BK206 := n0_; have BK207 := n1_; have BK219 := n2_; have HB := n3_; clear n0_ n1_ n2_ n3_; (try clear hb); (try clear hb2); (try clear hk); (try clear hi); have hcz64_0 : w63.cell? ⟨gb207, 0, none⟩ = some (.bool false) := bc_; have hcz64_1 : w63.cell? ⟨gb207, 1, none⟩ = some (.int .u64 0) := bc_; have hcz64_2 : w63.cell? ⟨gb207, 2, none⟩ = some (.int .u64 0) := bc_; have hfz64_0 := blk_frozen BK207.out 0; have hfz64_1 := blk_frozen BK207.out 1; have hfz64_2 := blk_frozen BK207.out 2))
          refine bodyPost_ret (results_ct rfl _ _ gb207 30 #[.bool false, .int .u64 0, .int .u64 0] (0, 0) _ rfl (by (with_reducible repeat (first | refine bN_ _ ?_ | refine bd_ ?_ | refine ba_ _ ?_)); refine blk_put (cs := #[.bool false, .int .u64 0, .int .u64 0]) ?_ 2 _ rfl; (with_reducible repeat (first | refine bN_ _ ?_ | refine bd_ ?_ | refine ba_ _ ?_)); refine blk_put (cs := #[.bool false, .int .u64 0, .int .u64 0]) ?_ 1 _ rfl; (with_reducible repeat (first | refine bN_ _ ?_ | refine bd_ ?_ | refine ba_ _ ?_)); refine blk_put (cs := #[.bool false, .int .u64 0, .int .u64 0]) ?_ 0 _ rfl; (with_reducible repeat (first | refine bN_ _ ?_ | refine bd_ ?_ | refine ba_ _ ?_)); exact BK207.out) Try.underlying30 rfl (by kernel_rfl)) rfl ?_
          exact ⟨by first | rfl | (simp [errW_none, errW_some] <;> rfl) | (simp [*, errW_none, errW_some] <;> rfl), by repeat (first | (with_reducible first | exact HB.out | apply below_alloc | apply pw_below_drewN | apply below_drew1 | refine below_set ?_ GE206.out | refine below_set ?_ GE207.out | refine below_set ?_ GE219.out) | exact HB.out)⟩
  · replace c4 := Bool.eq_false_iff.mpr c4
    subst c4
    have H1 : (some (false, 0, 0, false)) = some (r1, r2, r3, r4) := by rw [if_neg (show ¬ (false = true) by decide)] at H; exact H
    clear H
    have H := H1
    clear H1
    simp only [Option.some.injEq, Prod.mk.injEq] at H
    obtain ⟨rfl, rfl, rfl, rfl⟩ := H
    go_enter Try.func47, Try.ntmps47
    go_wp2_with (first | ((with_reducible refine gate_dst (N := 2) rfl ?_); refine box_event ?hg (N := 2) ?hd (cs := #[.bool a0_0, .int .u64 a0_1, .int .u64 a0_2]) (t := 30) ?hr ?_; (case hd => rfl); (case hg => rfl); (case hr => first | (go_simp; done) | (go_simp; rfl)); intro gb206 hg w65 hbox hb; have n0_ := Aside0.mk (below_step bel_ hb); have n1_ := Aside0.mk (hbox); have n2_ := Aside0.mk ((by rw [hg]; exact (below_size bel_) : w.heap.size ≤ gb206)); have n3_ := Aside0.mk ((by rw [hg]; exact (below_size bel_) : w.heap.size ≤ gb206)); clear HB; have HB := n0_; have BK206 := n1_; have GW206 := n2_; have GE206 := n3_; clear n0_ n1_ n2_ n3_; clear hb hbox hg) | ((with_reducible refine gate_dst (N := 4) rfl ?_); refine box_event ?hg (N := 4) ?hd (cs := #[.bool false, .int .u64 0, .int .u64 0]) (t := 30) ?hr ?_; (case hd => rfl); (case hg => rfl); (case hr => first | (go_simp; done) | (go_simp; rfl)); intro gb207 hg w66 hbox hb; have n0_ := bb_ (g := gb206) (o := .cells #[.bool a0_0, .int .u64 a0_1, .int .u64 a0_2] 30 (0, 0)) hb; have n1_ := Aside0.mk (below_step bel_ hb); have n2_ := Aside0.mk (hbox); have n3_ := Aside0.mk ((by rw [hg]; exact (below_size bel_) : w.heap.size ≤ gb207)); have n4_ := Aside0.mk ((by rw [hg]; exact (below_size bel_) : w.heap.size ≤ gb207)); have n5_ := nlt_ (g := gb206) (o := .cells #[.bool a0_0, .int .u64 a0_1, .int .u64 a0_2] 30 (0, 0)) hg; have n6_ := ngt_ (g := gb206) (o := .cells #[.bool a0_0, .int .u64 a0_1, .int .u64 a0_2] 30 (0, 0)) hg; clear BK206; clear HB; have BK206 := n0_; have HB := n1_; have BK207 := n2_; have GW207 := n3_; have GE207 := n4_; have NB206_207 := n5_; have NB207_206 := n6_; clear n0_ n1_ n2_ n3_ n4_ n5_ n6_; clear hb hbox hg; have hnb67 := NB206_207.out; have hnc67 := NB207_206.out; have hcz68_0 : w66.cell? ⟨gb206, 0, none⟩ = some (.bool a0_0) := bc_; have hcz68_1 : w66.cell? ⟨gb206, 1, none⟩ = some (.int .u64 a0_1) := bc_; have hcz68_2 : w66.cell? ⟨gb206, 2, none⟩ = some (.int .u64 a0_2) := bc_; have hfz68_0 := blk_frozen BK206.out 0; have hfz68_1 := blk_frozen BK206.out 1; have hfz68_2 := blk_frozen BK206.out 2) | ((with_reducible refine gate_callee (f := 63) rfl ?_); refine goesL_ (some 14) rfl rfl Try.func63 (by kernel_rfl) rfl #[.agg #[.bool a0_0, .int .u64 a0_1, .int .u64 a0_2]] rfl mp_ ?_; (with_reducible refine (impl_WideOk.calls a0_0 a0_1 a0_2 false _ A3.out).mono ?_); rintro e w69 ⟨rfl, hb⟩; refine ⟨_, rfl, ?_⟩; have n0_ := bb_ (g := gb206) (o := .cells #[.bool a0_0, .int .u64 a0_1, .int .u64 a0_2] 30 (0, 0)) hb; have n1_ := bb_ (g := gb207) (o := .cells #[.bool false, .int .u64 0, .int .u64 0] 30 (0, 0)) hb; have n2_ := Aside0.mk (below_step bel_ hb); clear BK206; clear BK207; clear HB; have BK206 := n0_; have BK207 := n1_; have HB := n2_; clear n0_ n1_ n2_; (try clear hb); (try clear hb2); (try clear hk); (try clear hi); have hcz70_0 : w69.cell? ⟨gb207, 0, none⟩ = some (.bool false) := bc_; have hcz70_1 : w69.cell? ⟨gb207, 1, none⟩ = some (.int .u64 0) := bc_; have hcz70_2 : w69.cell? ⟨gb207, 2, none⟩ = some (.int .u64 0) := bc_; have hfz70_0 := blk_frozen BK207.out 0; have hfz70_1 := blk_frozen BK207.out 1; have hfz70_2 := blk_frozen BK207.out 2))
    refine bodyPost_ret (results_ct rfl _ _ gb207 30 #[.bool false, .int .u64 0, .int .u64 0] (0, 0) _ rfl (by (with_reducible repeat (first | refine bN_ _ ?_ | refine bd_ ?_ | refine ba_ _ ?_)); refine blk_put (cs := #[.bool false, .int .u64 0, .int .u64 0]) ?_ 2 _ rfl; (with_reducible repeat (first | refine bN_ _ ?_ | refine bd_ ?_ | refine ba_ _ ?_)); refine blk_put (cs := #[.bool false, .int .u64 0, .int .u64 0]) ?_ 1 _ rfl; (with_reducible repeat (first | refine bN_ _ ?_ | refine bd_ ?_ | refine ba_ _ ?_)); refine blk_put (cs := #[.bool false, .int .u64 0, .int .u64 0]) ?_ 0 _ rfl; (with_reducible repeat (first | refine bN_ _ ?_ | refine bd_ ?_ | refine ba_ _ ?_)); exact BK207.out) Try.underlying30 rfl (by kernel_rfl)) rfl ?_
    exact ⟨by first | rfl | (simp [errW_none, errW_some] <;> rfl) | (simp [*, errW_none, errW_some] <;> rfl), by repeat (first | (with_reducible first | exact HB.out | apply below_alloc | apply pw_below_drewN | apply below_drew1 | refine below_set ?_ GE206.out | refine below_set ?_ GE207.out) | exact HB.out)⟩

/-! ### impl_within: function 48 -/
def impl_within.f (a0 : Int) (a1 : Int) (a2 : Int) : Option (Bool) := if a0 ≥ a1 then (some (decide (a0 ≤ a2))) else (some false)
set_option maxHeartbeats 8000000 in
set_option maxRecDepth 100000 in
theorem impl_within.calls (a0 : Int) (a1 : Int) (a2 : Int) (r : Bool) (w : World) (h : impl_within.f a0 a1 a2 = some r) :
    Calls Try.prog 48 #[.int .i64 a0, .int .i64 a1, .int .i64 a2] w fun e w' => e = .returned (.bool r) ∧ Drawn0 w w' := by
  have H : (if a0 ≥ a1 then (some (decide (a0 ≤ a2))) else (some false)) = some r := h
  clear h
  by_cases c4 : a0 ≥ a1
  · rw [if_pos c4] at H
    have c4b0 : decide (a1 ≤ a0) = true := decide_eq_true c4
    clear c4
    obtain rfl := Option.some.inj H
    go_enter Try.func48, Try.ntmps48
    go_wp2
    go_ret
    exact ⟨by first | rfl | (simp; done) | (simp [*]; done), by repeat (first | exact Drawn0.refl _ | apply Drawn0.step)⟩
  · rw [if_neg c4] at H
    have c4b0 : decide (a1 ≤ a0) = false := decide_eq_false c4
    clear c4
    obtain rfl := Option.some.inj H
    go_enter Try.func48, Try.ntmps48
    go_wp2
    go_ret
    exact ⟨by first | rfl | (simp; done) | (simp [*]; done), by repeat (first | exact Drawn0.refl _ | apply Drawn0.step)⟩

end Go.Proofs.Ytodbmgnhcglcnaa.PFnExactTenTimes
