/- Contracts of Go functions, each with the Lean function that says what it computes: begun by the print, turned by this session. No condition beyond what each theorem states. -/
import Derived.Test.YtodbmgnhcglcnaaPFnExactAddFracx0
import Derived.Test.YtodbmgnhcglcnaaPFnExactAddFracx5
import Derived.Test.YtodbmgnhcglcnaaPFnExactAddFracx8
namespace Go.Proofs.Ytodbmgnhcglcnaa.PFnExactAddFrac
open Go.RowKit Go.Proofs.YtodbmgnhcglcnaaW.PrintWords Go.Proofs.YtodbmgnhcglcnaaW.PrintLast Go.Proofs.YtodbmgnhcglcnaaW.PrintMore
attribute [local go_sem] max2_int min2_int max_two min_two max_three min_three max_four min_four   -- for this text's walks alone
set_option linter.unusedVariables false
set_option linter.unusedSimpArgs false

/-! ### laws_FnExactAddFrac: function 6 -/
def laws_FnExactAddFrac.f (k : Nat) (a0_0 : Bool) (a0_1 : Int) (a0_2 : Int) (a0_3 : Int) (a1_0 : Bool) (a1_1 : Int) (a1_2 : Int) (a1_3 : Int) : Option (Bool) := (laws_toFrac.f a0_0 a0_1 a0_2 a0_3).bind fun bt287 => ((laws_toFrac.f a1_0 a1_1 a1_2 a1_3).bind fun bt291 => ((spec_AddFrac.f k bt287.1 bt287.2.1 bt287.2.2.1 bt287.2.2.2 bt291.1 bt291.2.1 bt291.2.2.1 bt291.2.2.2).bind fun bt295 => ((laws_toFrac.f a0_0 a0_1 a0_2 a0_3).bind fun bt301 => ((laws_toFrac.f a1_0 a1_1 a1_2 a1_3).bind fun bt305 => ((impl_AddFrac.f k bt301.1 bt301.2.1 bt301.2.2.1 bt301.2.2.2 bt305.1 bt305.2.1 bt305.2.2.1 bt305.2.2.2).bind fun bt309 => ((laws_eqFrac.f bt309.1 bt309.2.1 bt309.2.2.1 bt309.2.2.2.1 bt295.1 bt295.2.1 bt295.2.2.1 bt295.2.2.2.1).bind fun t315 => (if t315 = true then (if (bt309.2.2.2.2 != bt295.2.2.2.2) = true then (some false) else (some true)) else (some false))))))))
theorem laws_FnExactAddFrac.mono : ∀ a0 a1 a2 a3 a4 a5 a6 a7 k, LeO (laws_FnExactAddFrac.f k a0 a1 a2 a3 a4 a5 a6 a7) (laws_FnExactAddFrac.f (k + 1) a0 a1 a2 a3 a4 a5 a6 a7) := by
  intro a0 a1 a2 a3 a4 a5 a6 a7 k
  unfold laws_FnExactAddFrac.f
  repeat' first
      | (with_reducible exact impl_AddFrac.mono _ _ _ _ _ _ _ _ _)
      | (with_reducible exact spec_AddFrac.mono _ _ _ _ _ _ _ _ _)
      | (with_reducible exact LeO.refl _)
      | (with_reducible exact LeO.none _)
      | (with_reducible refine LeO.ite ?_ ?_)
      | (with_reducible refine LeO.bind ?_ (fun _ => ?_))
      | exact impl_AddFrac.mono _ _ _ _ _ _ _ _ _
      | exact spec_AddFrac.mono _ _ _ _ _ _ _ _ _
      | exact LeO.none _
      | refine LeO.ite ?_ ?_
      | refine LeO.bind ?_ (fun _ => ?_)
def laws_FnExactAddFrac.T1 : Bool × List (List Nat × List Nat) := (true, [([], []), ([0], [0]), ([], []), ([2, 1], [2]), ([1, 3, 3], [1, 3]), ([4], [4]), ([5], [5]), ([5], [5]), ([], []), ([8, 6, 4, 0, 1, 2, 3, 4, 5, 6, 8], [6, 8]), ([7, 9, 0, 1, 2, 3, 4, 5, 6, 7, 8, 9], [7])])
def laws_FnExactAddFrac.B1 : List Nat := [0, 1, 0, 7, 15, 31, 63, 63, 0, 383, 1023]
theorem laws_FnExactAddFrac.tab1 : rtab .any (opsOf Try.f6 1) = laws_FnExactAddFrac.T1 := by kernel_rfl
theorem laws_FnExactAddFrac.bits1 : waitsOk laws_FnExactAddFrac.T1.2 laws_FnExactAddFrac.B1 = true := by kernel_rfl
def laws_FnExactAddFrac.T2 : Bool × List (List Nat × List Nat) := (true, [([], []), ([0], [0]), ([], []), ([2, 1], [2]), ([1, 3, 3], [1, 3]), ([4], [4]), ([5], [5]), ([5], [5]), ([], []), ([8, 6, 4, 0, 1, 2, 3, 4, 5, 6, 8], [6, 8]), ([7, 9, 0, 1, 2, 3, 4, 5, 6, 7, 8, 9], [7])])
def laws_FnExactAddFrac.B2 : List Nat := [0, 1, 0, 7, 15, 31, 63, 63, 0, 383, 1023]
theorem laws_FnExactAddFrac.tab2 : rtab .any (opsOf Try.f6 2) = laws_FnExactAddFrac.T2 := by kernel_rfl
theorem laws_FnExactAddFrac.bits2 : waitsOk laws_FnExactAddFrac.T2.2 laws_FnExactAddFrac.B2 = true := by kernel_rfl
set_option maxHeartbeats 8000000 in
set_option maxRecDepth 100000 in
theorem laws_FnExactAddFrac.calls (k : Nat) (a0_0 : Bool) (a0_1 : Int) (a0_2 : Int) (a0_3 : Int) (a1_0 : Bool) (a1_1 : Int) (a1_2 : Int) (a1_3 : Int) (r : Bool) (w : World) (h : laws_FnExactAddFrac.f k a0_0 a0_1 a0_2 a0_3 a1_0 a1_1 a1_2 a1_3 = some r) (hrt : Aside0 (r = true)) :
    Calls Try.prog 6 #[.agg #[.bool a0_0, .int .u64 a0_1, .int .u64 a0_2, .int .i64 a0_3], .agg #[.bool a1_0, .int .u64 a1_1, .int .u64 a1_2, .int .i64 a1_3]] w fun e w' => e = .returned (.bool r) ∧ Below w.heap.size w w' := by
  have hu45 := Try.underlying45
  have hu47 := Try.underlying47
  have HB := Aside0.mk (Below.refl w.heap.size w)
  have H : ((laws_toFrac.f a0_0 a0_1 a0_2 a0_3).bind fun bt287 => ((laws_toFrac.f a1_0 a1_1 a1_2 a1_3).bind fun bt291 => ((spec_AddFrac.f k bt287.1 bt287.2.1 bt287.2.2.1 bt287.2.2.2 bt291.1 bt291.2.1 bt291.2.2.1 bt291.2.2.2).bind fun bt295 => ((laws_toFrac.f a0_0 a0_1 a0_2 a0_3).bind fun bt301 => ((laws_toFrac.f a1_0 a1_1 a1_2 a1_3).bind fun bt305 => ((impl_AddFrac.f k bt301.1 bt301.2.1 bt301.2.2.1 bt301.2.2.2 bt305.1 bt305.2.1 bt305.2.2.1 bt305.2.2.2).bind fun bt309 => ((laws_eqFrac.f bt309.1 bt309.2.1 bt309.2.2.1 bt309.2.2.2.1 bt295.1 bt295.2.1 bt295.2.2.1 bt295.2.2.2.1).bind fun t315 => (if t315 = true then (if (bt309.2.2.2.2 != bt295.2.2.2.2) = true then (some false) else (some true)) else (some false))))))))) = some r := h
  clear h
  replace H := Option.bind_eq_some_iff.mp H
  obtain ⟨⟨t287, t288, t289, t290⟩, A30, H⟩ := H
  replace H : ((laws_toFrac.f a1_0 a1_1 a1_2 a1_3).bind fun bt291 => ((spec_AddFrac.f k t287 t288 t289 t290 bt291.1 bt291.2.1 bt291.2.2.1 bt291.2.2.2).bind fun bt295 => ((laws_toFrac.f a0_0 a0_1 a0_2 a0_3).bind fun bt301 => ((laws_toFrac.f a1_0 a1_1 a1_2 a1_3).bind fun bt305 => ((impl_AddFrac.f k bt301.1 bt301.2.1 bt301.2.2.1 bt301.2.2.2 bt305.1 bt305.2.1 bt305.2.2.1 bt305.2.2.2).bind fun bt309 => ((laws_eqFrac.f bt309.1 bt309.2.1 bt309.2.2.1 bt309.2.2.2.1 bt295.1 bt295.2.1 bt295.2.2.1 bt295.2.2.2.1).bind fun t315 => (if t315 = true then (if (bt309.2.2.2.2 != bt295.2.2.2.2) = true then (some false) else (some true)) else (some false)))))))) = some r := H
  have A3 := Aside0.mk A30
  clear A30
  replace H := Option.bind_eq_some_iff.mp H
  obtain ⟨⟨t291, t292, t293, t294⟩, A40, H⟩ := H
  replace H : ((spec_AddFrac.f k t287 t288 t289 t290 t291 t292 t293 t294).bind fun bt295 => ((laws_toFrac.f a0_0 a0_1 a0_2 a0_3).bind fun bt301 => ((laws_toFrac.f a1_0 a1_1 a1_2 a1_3).bind fun bt305 => ((impl_AddFrac.f k bt301.1 bt301.2.1 bt301.2.2.1 bt301.2.2.2 bt305.1 bt305.2.1 bt305.2.2.1 bt305.2.2.2).bind fun bt309 => ((laws_eqFrac.f bt309.1 bt309.2.1 bt309.2.2.1 bt309.2.2.2.1 bt295.1 bt295.2.1 bt295.2.2.1 bt295.2.2.2.1).bind fun t315 => (if t315 = true then (if (bt309.2.2.2.2 != bt295.2.2.2.2) = true then (some false) else (some true)) else (some false))))))) = some r := H
  have A4 := Aside0.mk A40
  clear A40
  replace H := Option.bind_eq_some_iff.mp H
  obtain ⟨⟨t295, t296, t297, t298, t299⟩, A50, H⟩ := H
  replace H : ((laws_toFrac.f a0_0 a0_1 a0_2 a0_3).bind fun bt301 => ((laws_toFrac.f a1_0 a1_1 a1_2 a1_3).bind fun bt305 => ((impl_AddFrac.f k bt301.1 bt301.2.1 bt301.2.2.1 bt301.2.2.2 bt305.1 bt305.2.1 bt305.2.2.1 bt305.2.2.2).bind fun bt309 => ((laws_eqFrac.f bt309.1 bt309.2.1 bt309.2.2.1 bt309.2.2.2.1 t295 t296 t297 t298).bind fun t315 => (if t315 = true then (if (bt309.2.2.2.2 != t299) = true then (some false) else (some true)) else (some false)))))) = some r := H
  have A5 := Aside0.mk A50
  clear A50
  replace H := Option.bind_eq_some_iff.mp H
  obtain ⟨⟨t301, t302, t303, t304⟩, A60, H⟩ := H
  replace H : ((laws_toFrac.f a1_0 a1_1 a1_2 a1_3).bind fun bt305 => ((impl_AddFrac.f k t301 t302 t303 t304 bt305.1 bt305.2.1 bt305.2.2.1 bt305.2.2.2).bind fun bt309 => ((laws_eqFrac.f bt309.1 bt309.2.1 bt309.2.2.1 bt309.2.2.2.1 t295 t296 t297 t298).bind fun t315 => (if t315 = true then (if (bt309.2.2.2.2 != t299) = true then (some false) else (some true)) else (some false))))) = some r := H
  have A6 := Aside0.mk A60
  clear A60
  replace H := Option.bind_eq_some_iff.mp H
  obtain ⟨⟨t305, t306, t307, t308⟩, A70, H⟩ := H
  replace H : ((impl_AddFrac.f k t301 t302 t303 t304 t305 t306 t307 t308).bind fun bt309 => ((laws_eqFrac.f bt309.1 bt309.2.1 bt309.2.2.1 bt309.2.2.2.1 t295 t296 t297 t298).bind fun t315 => (if t315 = true then (if (bt309.2.2.2.2 != t299) = true then (some false) else (some true)) else (some false)))) = some r := H
  have A7 := Aside0.mk A70
  clear A70
  replace H := Option.bind_eq_some_iff.mp H
  obtain ⟨⟨t309, t310, t311, t312, t313⟩, A80, H⟩ := H
  replace H : ((laws_eqFrac.f t309 t310 t311 t312 t295 t296 t297 t298).bind fun t315 => (if t315 = true then (if (t313 != t299) = true then (some false) else (some true)) else (some false))) = some r := H
  have A8 := Aside0.mk A80
  clear A80
  replace H := Option.bind_eq_some_iff.mp H
  obtain ⟨t315, A90, H⟩ := H
  replace H : (if t315 = true then (if (t313 != t299) = true then (some false) else (some true)) else (some false)) = some r := H
  have A9 := Aside0.mk A90
  clear A90
  by_cases c10 : t315 = true
  · subst c10
    have H1 : (if (t313 != t299) = true then (some false) else (some true)) = some r := by rw [if_pos rfl] at H; exact H
    clear H
    have H := H1
    clear H1
    by_cases c11 : (t313 != t299) = true
    · rw [if_pos c11] at H
      have c11b0 : (t313 != t299) = true := c11
      (try (have c11b1 : decide (t313 = t299) = false := by simpa using c11))
      (try (have c11b2 : (t313 == t299) = false := by simpa using c11))
      (try (have c11b3 : ¬ (t313 = t299) := by simpa using c11))
      clear c11
      exact absurd ((Option.some.inj H).trans hrt.out) (by decide)
    · rw [if_neg c11] at H
      have c11b0 : (t313 != t299) = false := by simpa using c11
      (try (have c11b1 : decide (t313 = t299) = true := by simpa using c11))
      (try (have c11b2 : (t313 == t299) = true := by simpa using c11))
      clear c11
      obtain rfl := Option.some.inj H
      go_enter Try.func6, Try.ntmps6
      try go_wp2_with (first | ((with_reducible refine gate_dst (N := 2) rfl ?_); refine box_event ?hg (N := 2) ?hd (cs := #[.bool a0_0, .int .u64 a0_1, .int .u64 a0_2, .int .i64 a0_3]) (t := 45) ?hr ?_; (case hd => rfl); (case hg => rfl); (case hr => first | (go_simp; done) | (go_simp; rfl)); intro gb285 hg w12 hbox hb; have n0_ := Aside0.mk (below_step bel_ hb); have n1_ := Aside0.mk (hbox); have n2_ := bs_ (w := w) hg; have n3_ := bs_ (w := w) hg; clear HB; have HB := n0_; have BK285 := n1_; have GW285 := n2_; have GE285 := n3_; clear n0_ n1_ n2_ n3_; clear hb hbox hg) | ((with_reducible refine gate_dst (N := 3) rfl ?_); refine box_event ?hg (N := 3) ?hd (cs := #[.bool a1_0, .int .u64 a1_1, .int .u64 a1_2, .int .i64 a1_3]) (t := 45) ?hr ?_; (case hd => rfl); (case hg => rfl); (case hr => first | (go_simp; done) | (go_simp; rfl)); intro gb286 hg w13 hbox hb; have n0_ := bb_ (g := gb285) (o := .cells #[.bool a0_0, .int .u64 a0_1, .int .u64 a0_2, .int .i64 a0_3] 45 (0, 0)) hb; have n1_ := Aside0.mk (below_step bel_ hb); have n2_ := Aside0.mk (hbox); have n3_ := bs_ (w := w) hg; have n4_ := bs_ (w := w) hg; have n5_ := nlt_ (g := gb285) (o := .cells #[.bool a0_0, .int .u64 a0_1, .int .u64 a0_2, .int .i64 a0_3] 45 (0, 0)) hg; have n6_ := ngt_ (g := gb285) (o := .cells #[.bool a0_0, .int .u64 a0_1, .int .u64 a0_2, .int .i64 a0_3] 45 (0, 0)) hg; clear BK285; clear HB; have BK285 := n0_; have HB := n1_; have BK286 := n2_; have GW286 := n3_; have GE286 := n4_; have NB285_286 := n5_; have NB286_285 := n6_; clear n0_ n1_ n2_ n3_ n4_ n5_ n6_; clear hb hbox hg))
      have n0_ := Aside0.mk (blk_drew BK285.out)
      have n1_ := Aside0.mk (blk_drew BK286.out)
      have n2_ := Aside0.mk (below_drew1 HB.out)
      clear BK285
      clear BK286
      clear HB
      have BK285 := n0_
      have BK286 := n1_
      have HB := n2_
      clear n0_ n1_ n2_
      refine start_ (n := 11) (S := fun w' => w'.cell? ⟨gb285, 0, none⟩ = some (.bool a0_0) ∧ w'.cell? ⟨gb285, 1, none⟩ = some (.int .u64 a0_1) ∧ w'.cell? ⟨gb285, 2, none⟩ = some (.int .u64 a0_2) ∧ w'.cell? ⟨gb285, 3, none⟩ = some (.int .i64 a0_3) ∧ w'.cell? ⟨gb286, 0, none⟩ = some (.bool a1_0) ∧ w'.cell? ⟨gb286, 1, none⟩ = some (.int .u64 a1_1) ∧ w'.cell? ⟨gb286, 2, none⟩ = some (.int .u64 a1_2) ∧ w'.cell? ⟨gb286, 3, none⟩ = some (.int .i64 a1_3)) (ds := []) #[false, false, false, false, false, false, false, false, false, false, false] (by kernel_rfl) rfl rfl ⟨bc_, bc_, bc_, bc_, bc_, bc_, bc_, bc_⟩ (fun hHeld => ?_); refine with_tabW laws_FnExactAddFrac.tab1 laws_FnExactAddFrac.bits1 (fun HT_ HW_ => ?_)
      generalize w13.drew = w14 at BK285 BK286 HB hHeld ⊢
      refine take_ (i := 0) (N := some 10) (v := ?_) (a' := ?_) #[true, false, false, false, false, false, false, false, false, false, false] rfl rfl (take_ofW HT_.out HW_.out (by kernel_rfl)) (fun _ _ _ h => h) (Or.inl ⟨by rfl, ?_⟩) hHeld ?_ ?_
      rotate_left
      · rintro w' ⟨s0, s1, s2, s3, s4, s5, s6, s7⟩
        go_simp
        with_reducible rfl
      rotate_left
      · simp only [Act.put, la_, lb_, lc_, i64_w, i32_w]
        rfl
      refine take_ (i := 2) (N := some 12) (v := ?_) (a' := ?_) #[true, false, true, false, false, false, false, false, false, false, false] rfl rfl (take_ofW HT_.out HW_.out (by kernel_rfl)) (fun _ _ _ h => h) (Or.inl ⟨by rfl, ?_⟩) hHeld ?_ ?_
      rotate_left
      · rintro w' ⟨s0, s1, s2, s3, s4, s5, s6, s7⟩
        go_simp
        with_reducible rfl
      rotate_left
      · simp only [Act.put, la_, lb_, lc_, i64_w, i32_w]
        rfl
      refine join_ (σ := Nat) 2 #[true, true, true, true, true, true, true, true, true, false, false] (fun s_ => [(11, .agg #[.bool t287, .int .u64 t288, .int .u64 t289, .int .i64 t290]), (13, .agg #[.bool t291, .int .u64 t292, .int .u64 t293, .int .i64 t294]), (14, .tuple #[.agg #[.bool t295, .int .u64 t296, .int .u64 t297, .int .i64 t298], .bool t299]), (5, .pointer (some ⟨s_, 0, none⟩)), (9, .tuple #[.agg #[.bool t295, .int .u64 t296, .int .u64 t297, .int .i64 t298], .bool t299]), (15, .agg #[.bool t295, .int .u64 t296, .int .u64 t297, .int .i64 t298]), (16, .bool t299)]) (fun s_ w' => (w'.cell? ⟨gb285, 0, none⟩ = some (.bool a0_0) ∧ w'.cell? ⟨gb285, 1, none⟩ = some (.int .u64 a0_1) ∧ w'.cell? ⟨gb285, 2, none⟩ = some (.int .u64 a0_2) ∧ w'.cell? ⟨gb285, 3, none⟩ = some (.int .i64 a0_3) ∧ w'.cell? ⟨gb286, 0, none⟩ = some (.bool a1_0) ∧ w'.cell? ⟨gb286, 1, none⟩ = some (.int .u64 a1_1) ∧ w'.cell? ⟨gb286, 2, none⟩ = some (.int .u64 a1_2) ∧ w'.cell? ⟨gb286, 3, none⟩ = some (.int .i64 a1_3)) ∧ (w'.heap[gb285]? = some (.cells #[.bool a0_0, .int .u64 a0_1, .int .u64 a0_2, .int .i64 a0_3] 45 (0, 0))) ∧ (w'.heap[gb286]? = some (.cells #[.bool a1_0, .int .u64 a1_1, .int .u64 a1_2, .int .i64 a1_3] 45 (0, 0))) ∧ (w'.heap[s_]? = some (.cells #[.bool false, .int .u64 0, .int .u64 0, .int .i64 0] 47 (0, 0))) ∧ (w.heap.size ≤ s_) ∧ (w.heap.size ≤ s_) ∧ (gb285 ≠ s_) ∧ (s_ ≠ gb285) ∧ (gb286 ≠ s_) ∧ (s_ ≠ gb286) ∧ (Below w.heap.size w w')) ?_ ?_
      rotate_left
      · intro hCont
        refine two_ (i := 1) (j := 8) (Ni := some 11) (Nj := some 5) #[true, true, true, false, false, false, false, false, false, false, false] #[true, false, true, false, false, false, false, false, true, false, false] rfl rfl rfl rfl (two_of HT_.out (by kernel_rfl)) (by decide) (by decide) (fun K hK => ?_) (fun K hK => ?_)
        · skip
          refine goes_ Try.func25 (by kernel_rfl) rfl #[.agg #[.bool a0_0, .int .u64 a0_1, .int .u64 a0_2, .int .i64 a0_3]] (by rfl) rfl rfl mp_ ?_
          with_reducible refine (laws_toFrac.calls a0_0 a0_1 a0_2 a0_3 t287 t288 t289 t290 _ A3.out).mono ?_
          rintro e w15 ⟨rfl, hb⟩
          refine ⟨_, rfl, ?_⟩
          have n0_ := bb_ (g := gb285) (o := .cells #[.bool a0_0, .int .u64 a0_1, .int .u64 a0_2, .int .i64 a0_3] 45 (0, 0)) hb
          have n1_ := bb_ (g := gb286) (o := .cells #[.bool a1_0, .int .u64 a1_1, .int .u64 a1_2, .int .i64 a1_3] 45 (0, 0)) hb
          have n2_ := Aside0.mk (below_step bel_ hb)
          clear BK285
          clear BK286
          clear HB
          have BK285 := n0_
          have BK286 := n1_
          have HB := n2_
          clear n0_ n1_ n2_
          (try clear hb)
          (try clear hb2)
          (try clear hk)
          (try clear hi)
          refine hK.out _ _ ⟨bc_, bc_, bc_, bc_, bc_, bc_, bc_, bc_⟩ (fun hHeld => ?_)
          clear hK K
          refine norm_ (a' := ?_) ?_ ?_
          rotate_left
          · show Act.put _ (some 11) _ = _
            simp only [Act.put, la_, lb_, lc_, i64_w, i32_w]
            rfl
          refine two_ (i := 3) (j := 8) (Ni := some 13) (Nj := some 5) #[true, true, true, true, false, false, false, false, false, false, false] #[true, true, true, false, false, false, false, false, true, false, false] rfl rfl rfl rfl (two_of HT_.out (by kernel_rfl)) (by decide) (by decide) (fun K hK => ?_) (fun K hK => ?_)
          · skip
            refine goes_ Try.func25 (by kernel_rfl) rfl #[.agg #[.bool a1_0, .int .u64 a1_1, .int .u64 a1_2, .int .i64 a1_3]] (by rfl) rfl rfl mp_ ?_
            with_reducible refine (laws_toFrac.calls a1_0 a1_1 a1_2 a1_3 t291 t292 t293 t294 _ A4.out).mono ?_
            rintro e w16 ⟨rfl, hb⟩
            refine ⟨_, rfl, ?_⟩
            have n0_ := bb_ (g := gb285) (o := .cells #[.bool a0_0, .int .u64 a0_1, .int .u64 a0_2, .int .i64 a0_3] 45 (0, 0)) hb
            have n1_ := bb_ (g := gb286) (o := .cells #[.bool a1_0, .int .u64 a1_1, .int .u64 a1_2, .int .i64 a1_3] 45 (0, 0)) hb
            have n2_ := Aside0.mk (below_step bel_ hb)
            clear BK285
            clear BK286
            clear HB
            have BK285 := n0_
            have BK286 := n1_
            have HB := n2_
            clear n0_ n1_ n2_
            (try clear hb)
            (try clear hb2)
            (try clear hk)
            (try clear hi)
            refine hK.out _ _ ⟨bc_, bc_, bc_, bc_, bc_, bc_, bc_, bc_⟩ (fun hHeld => ?_)
            clear hK K
            refine norm_ (a' := ?_) ?_ ?_
            rotate_left
            · show Act.put _ (some 13) _ = _
              simp only [Act.put, la_, lb_, lc_, i64_w, i32_w]
              rfl
            refine two_ (i := 4) (j := 8) (Ni := some 14) (Nj := some 5) #[true, true, true, true, true, false, false, false, false, false, false] #[true, true, true, true, false, false, false, false, true, false, false] rfl rfl rfl rfl (two_of HT_.out (by kernel_rfl)) (by decide) (by decide) (fun K hK => ?_) (fun K hK => ?_)
            · skip
              refine goes_ Try.func24 (by kernel_rfl) rfl #[.agg #[.bool t287, .int .u64 t288, .int .u64 t289, .int .i64 t290], .agg #[.bool t291, .int .u64 t292, .int .u64 t293, .int .i64 t294]] (by rfl) rfl rfl mp_ ?_
              with_reducible refine (spec_AddFrac.calls k t287 t288 t289 t290 t291 t292 t293 t294 t295 t296 t297 t298 t299 _ A5.out).mono ?_
              rintro e w17 ⟨rfl, hb⟩
              refine ⟨_, rfl, ?_⟩
              have n0_ := bb_ (g := gb285) (o := .cells #[.bool a0_0, .int .u64 a0_1, .int .u64 a0_2, .int .i64 a0_3] 45 (0, 0)) hb
              have n1_ := bb_ (g := gb286) (o := .cells #[.bool a1_0, .int .u64 a1_1, .int .u64 a1_2, .int .i64 a1_3] 45 (0, 0)) hb
              have n2_ := Aside0.mk (below_step bel_ hb)
              clear BK285
              clear BK286
              clear HB
              have BK285 := n0_
              have BK286 := n1_
              have HB := n2_
              clear n0_ n1_ n2_
              (try clear hb)
              (try clear hb2)
              (try clear hk)
              (try clear hi)
              refine hK.out _ _ ⟨bc_, bc_, bc_, bc_, bc_, bc_, bc_, bc_⟩ (fun hHeld => ?_)
              clear hK K
              refine norm_ (a' := ?_) ?_ ?_
              rotate_left
              · show Act.put _ (some 14) _ = _
                simp only [Act.put, la_, lb_, lc_, i64_w, i32_w]
                rfl
              refine pure_ (i := 5) (N := some 9) (v := ?_) (a' := ?_) #[true, true, true, true, true, true, false, false, false, false, false] rfl rfl (any_of HT_.out (by kernel_rfl)) (fun _ _ _ h => h) (Or.inl ⟨by rfl, ?_⟩) ?_ ?_
              rotate_left
              · intro w'
                go_simp
                with_reducible rfl
              rotate_left
              · simp only [Act.put, la_, lb_, lc_, i64_w, i32_w]
                rfl
              refine pure_ (i := 6) (N := some 15) (v := ?_) (a' := ?_) #[true, true, true, true, true, true, true, false, false, false, false] rfl rfl (any_of HT_.out (by kernel_rfl)) (fun _ _ _ h => h) (Or.inl ⟨by rfl, ?_⟩) ?_ ?_
              rotate_left
              · intro w'
                go_simp
                with_reducible rfl
              rotate_left
              · simp only [Act.put, la_, lb_, lc_, i64_w, i32_w]
                rfl
              refine pure_ (i := 7) (N := some 16) (v := ?_) (a' := ?_) #[true, true, true, true, true, true, true, true, false, false, false] rfl rfl (any_of HT_.out (by kernel_rfl)) (fun _ _ _ h => h) (Or.inl ⟨by rfl, ?_⟩) ?_ ?_
              rotate_left
              · intro w'
                go_simp
                with_reducible rfl
              rotate_left
              · simp only [Act.put, la_, lb_, lc_, i64_w, i32_w]
                rfl
              refine one_ (i := 8) (N := some 5) #[true, true, true, true, true, true, true, true, true, false, false] rfl rfl (one_of HT_.out (by kernel_rfl)) (by decide) (fun K hK => ?_)
              refine box_step ?hg (N := 5) ?hd (cs := #[.bool false, .int .u64 0, .int .u64 0, .int .i64 0]) (t := 47) ?hr ?_; (case hd => rfl); (case hg => rfl); (case hr => first | (go_simp; done) | (go_simp; rfl))
              intro gb300 hg w18 hbox hb
              have n0_ := bb_ (g := gb285) (o := .cells #[.bool a0_0, .int .u64 a0_1, .int .u64 a0_2, .int .i64 a0_3] 45 (0, 0)) hb
              have n1_ := bb_ (g := gb286) (o := .cells #[.bool a1_0, .int .u64 a1_1, .int .u64 a1_2, .int .i64 a1_3] 45 (0, 0)) hb
              have n2_ := Aside0.mk (below_step bel_ hb)
              have n3_ := Aside0.mk (hbox)
              have n4_ := bs_ (w := w) hg
              have n5_ := bs_ (w := w) hg
              have n6_ := nlt_ (g := gb285) (o := .cells #[.bool a0_0, .int .u64 a0_1, .int .u64 a0_2, .int .i64 a0_3] 45 (0, 0)) hg
              have n7_ := ngt_ (g := gb285) (o := .cells #[.bool a0_0, .int .u64 a0_1, .int .u64 a0_2, .int .i64 a0_3] 45 (0, 0)) hg
              have n8_ := nlt_ (g := gb286) (o := .cells #[.bool a1_0, .int .u64 a1_1, .int .u64 a1_2, .int .i64 a1_3] 45 (0, 0)) hg
              have n9_ := ngt_ (g := gb286) (o := .cells #[.bool a1_0, .int .u64 a1_1, .int .u64 a1_2, .int .i64 a1_3] 45 (0, 0)) hg
              clear BK285
              clear BK286
              clear HB
              have BK285 := n0_
              have BK286 := n1_
              have HB := n2_
              have BK300 := n3_
              have GW300 := n4_
              have GE300 := n5_
              have NB285_300 := n6_
              have NB300_285 := n7_
              have NB286_300 := n8_
              have NB300_286 := n9_
              clear n0_ n1_ n2_ n3_ n4_ n5_ n6_ n7_ n8_ n9_
              clear hb hbox hg
              refine hK.out _ _ ⟨bc_, bc_, bc_, bc_, bc_, bc_, bc_, bc_⟩ (fun hHeld => ?_)
              clear hK K
              refine norm_ (a' := ?_) ?_ ?_
              rotate_left
              · show Act.put _ (some 5) _ = _
                simp only [Act.put, la_, lb_, lc_, i64_w, i32_w]
                rfl
              exact norm_ (by simp only [putAll, Act.put, la_, lb_, lc_]) (hCont (gb300) _ ⟨hHeld, bk_, bk_, bk_, GW300.out, GE300.out, NB285_300.out, NB300_285.out, NB286_300.out, NB300_286.out, bel_⟩)
            · skip
              refine box_step ?hg (N := 5) ?hd (cs := #[.bool false, .int .u64 0, .int .u64 0, .int .i64 0]) (t := 47) ?hr ?_; (case hd => rfl); (case hg => rfl); (case hr => first | (go_simp; done) | (go_simp; rfl))
              intro gb300 hg w17 hbox hb
              have n0_ := bb_ (g := gb285) (o := .cells #[.bool a0_0, .int .u64 a0_1, .int .u64 a0_2, .int .i64 a0_3] 45 (0, 0)) hb
              have n1_ := bb_ (g := gb286) (o := .cells #[.bool a1_0, .int .u64 a1_1, .int .u64 a1_2, .int .i64 a1_3] 45 (0, 0)) hb
              have n2_ := Aside0.mk (below_step bel_ hb)
              have n3_ := Aside0.mk (hbox)
              have n4_ := bs_ (w := w) hg
              have n5_ := bs_ (w := w) hg
              have n6_ := nlt_ (g := gb285) (o := .cells #[.bool a0_0, .int .u64 a0_1, .int .u64 a0_2, .int .i64 a0_3] 45 (0, 0)) hg
              have n7_ := ngt_ (g := gb285) (o := .cells #[.bool a0_0, .int .u64 a0_1, .int .u64 a0_2, .int .i64 a0_3] 45 (0, 0)) hg
              have n8_ := nlt_ (g := gb286) (o := .cells #[.bool a1_0, .int .u64 a1_1, .int .u64 a1_2, .int .i64 a1_3] 45 (0, 0)) hg
              have n9_ := ngt_ (g := gb286) (o := .cells #[.bool a1_0, .int .u64 a1_1, .int .u64 a1_2, .int .i64 a1_3] 45 (0, 0)) hg
              clear BK285
              clear BK286
              clear HB
              have BK285 := n0_
              have BK286 := n1_
              have HB := n2_
              have BK300 := n3_
              have GW300 := n4_
              have GE300 := n5_
              have NB285_300 := n6_
              have NB300_285 := n7_
              have NB286_300 := n8_
              have NB300_286 := n9_
              clear n0_ n1_ n2_ n3_ n4_ n5_ n6_ n7_ n8_ n9_
              clear hb hbox hg
              refine hK.out _ _ ⟨bc_, bc_, bc_, bc_, bc_, bc_, bc_, bc_⟩ (fun hHeld => ?_)
              clear hK K
              refine norm_ (a' := ?_) ?_ ?_
              rotate_left
              · show Act.put _ (some 5) _ = _
                simp only [Act.put, la_, lb_, lc_, i64_w, i32_w]
                rfl
              refine one_ (i := 4) (N := some 14) #[true, true, true, true, true, false, false, false, true, false, false] rfl rfl (one_of HT_.out (by kernel_rfl)) (by decide) (fun K hK => ?_)
              refine goes_ Try.func24 (by kernel_rfl) rfl #[.agg #[.bool t287, .int .u64 t288, .int .u64 t289, .int .i64 t290], .agg #[.bool t291, .int .u64 t292, .int .u64 t293, .int .i64 t294]] (by rfl) rfl rfl mp_ ?_
              with_reducible refine (spec_AddFrac.calls k t287 t288 t289 t290 t291 t292 t293 t294 t295 t296 t297 t298 t299 _ A5.out).mono ?_
              rintro e w18 ⟨rfl, hb⟩
              refine ⟨_, rfl, ?_⟩
              have n0_ := bb_ (g := gb285) (o := .cells #[.bool a0_0, .int .u64 a0_1, .int .u64 a0_2, .int .i64 a0_3] 45 (0, 0)) hb
              have n1_ := bb_ (g := gb286) (o := .cells #[.bool a1_0, .int .u64 a1_1, .int .u64 a1_2, .int .i64 a1_3] 45 (0, 0)) hb
              have n2_ := bb_ (g := gb300) (o := .cells #[.bool false, .int .u64 0, .int .u64 0, .int .i64 0] 47 (0, 0)) hb
              have n3_ := Aside0.mk (below_step bel_ hb)
              clear BK285
              clear BK286
              clear BK300
              clear HB
              have BK285 := n0_
              have BK286 := n1_
              have BK300 := n2_
              have HB := n3_
              clear n0_ n1_ n2_ n3_
              (try clear hb)
              (try clear hb2)
              (try clear hk)
              (try clear hi)
              refine hK.out _ _ ⟨bc_, bc_, bc_, bc_, bc_, bc_, bc_, bc_⟩ (fun hHeld => ?_)
              clear hK K
              refine norm_ (a' := ?_) ?_ ?_
              rotate_left
              · show Act.put _ (some 14) _ = _
                simp only [Act.put, la_, lb_, lc_, i64_w, i32_w]
                rfl
              refine pure_ (i := 5) (N := some 9) (v := ?_) (a' := ?_) #[true, true, true, true, true, true, false, false, true, false, false] rfl rfl (any_of HT_.out (by kernel_rfl)) (fun _ _ _ h => h) (Or.inl ⟨by rfl, ?_⟩) ?_ ?_
              rotate_left
              · intro w'
                go_simp
                with_reducible rfl
              rotate_left
              · simp only [Act.put, la_, lb_, lc_, i64_w, i32_w]
                rfl
              refine pure_ (i := 6) (N := some 15) (v := ?_) (a' := ?_) #[true, true, true, true, true, true, true, false, true, false, false] rfl rfl (any_of HT_.out (by kernel_rfl)) (fun _ _ _ h => h) (Or.inl ⟨by rfl, ?_⟩) ?_ ?_
              rotate_left
              · intro w'
                go_simp
                with_reducible rfl
              rotate_left
              · simp only [Act.put, la_, lb_, lc_, i64_w, i32_w]
                rfl
              refine pure_ (i := 7) (N := some 16) (v := ?_) (a' := ?_) #[true, true, true, true, true, true, true, true, true, false, false] rfl rfl (any_of HT_.out (by kernel_rfl)) (fun _ _ _ h => h) (Or.inl ⟨by rfl, ?_⟩) ?_ ?_
              rotate_left
              · intro w'
                go_simp
                with_reducible rfl
              rotate_left
              · simp only [Act.put, la_, lb_, lc_, i64_w, i32_w]
                rfl
              exact norm_ (by simp only [putAll, Act.put, la_, lb_, lc_]) (hCont (gb300) _ ⟨hHeld, bk_, bk_, bk_, GW300.out, GE300.out, NB285_300.out, NB300_285.out, NB286_300.out, NB300_286.out, bel_⟩)
          · skip
            refine box_step ?hg (N := 5) ?hd (cs := #[.bool false, .int .u64 0, .int .u64 0, .int .i64 0]) (t := 47) ?hr ?_; (case hd => rfl); (case hg => rfl); (case hr => first | (go_simp; done) | (go_simp; rfl))
            intro gb300 hg w16 hbox hb
            have n0_ := bb_ (g := gb285) (o := .cells #[.bool a0_0, .int .u64 a0_1, .int .u64 a0_2, .int .i64 a0_3] 45 (0, 0)) hb
            have n1_ := bb_ (g := gb286) (o := .cells #[.bool a1_0, .int .u64 a1_1, .int .u64 a1_2, .int .i64 a1_3] 45 (0, 0)) hb
            have n2_ := Aside0.mk (below_step bel_ hb)
            have n3_ := Aside0.mk (hbox)
            have n4_ := bs_ (w := w) hg
            have n5_ := bs_ (w := w) hg
            have n6_ := nlt_ (g := gb285) (o := .cells #[.bool a0_0, .int .u64 a0_1, .int .u64 a0_2, .int .i64 a0_3] 45 (0, 0)) hg
            have n7_ := ngt_ (g := gb285) (o := .cells #[.bool a0_0, .int .u64 a0_1, .int .u64 a0_2, .int .i64 a0_3] 45 (0, 0)) hg
            have n8_ := nlt_ (g := gb286) (o := .cells #[.bool a1_0, .int .u64 a1_1, .int .u64 a1_2, .int .i64 a1_3] 45 (0, 0)) hg
            have n9_ := ngt_ (g := gb286) (o := .cells #[.bool a1_0, .int .u64 a1_1, .int .u64 a1_2, .int .i64 a1_3] 45 (0, 0)) hg
            clear BK285
            clear BK286
            clear HB
            have BK285 := n0_
            have BK286 := n1_
            have HB := n2_
            have BK300 := n3_
            have GW300 := n4_
            have GE300 := n5_
            have NB285_300 := n6_
            have NB300_285 := n7_
            have NB286_300 := n8_
            have NB300_286 := n9_
            clear n0_ n1_ n2_ n3_ n4_ n5_ n6_ n7_ n8_ n9_
            clear hb hbox hg
            refine hK.out _ _ ⟨bc_, bc_, bc_, bc_, bc_, bc_, bc_, bc_⟩ (fun hHeld => ?_)
            clear hK K
            refine norm_ (a' := ?_) ?_ ?_
            rotate_left
            · show Act.put _ (some 5) _ = _
              simp only [Act.put, la_, lb_, lc_, i64_w, i32_w]
              rfl
            refine one_ (i := 3) (N := some 13) #[true, true, true, true, false, false, false, false, true, false, false] rfl rfl (one_of HT_.out (by kernel_rfl)) (by decide) (fun K hK => ?_)
            refine goes_ Try.func25 (by kernel_rfl) rfl #[.agg #[.bool a1_0, .int .u64 a1_1, .int .u64 a1_2, .int .i64 a1_3]] (by rfl) rfl rfl mp_ ?_
            with_reducible refine (laws_toFrac.calls a1_0 a1_1 a1_2 a1_3 t291 t292 t293 t294 _ A4.out).mono ?_
            rintro e w17 ⟨rfl, hb⟩
            refine ⟨_, rfl, ?_⟩
            have n0_ := bb_ (g := gb285) (o := .cells #[.bool a0_0, .int .u64 a0_1, .int .u64 a0_2, .int .i64 a0_3] 45 (0, 0)) hb
            have n1_ := bb_ (g := gb286) (o := .cells #[.bool a1_0, .int .u64 a1_1, .int .u64 a1_2, .int .i64 a1_3] 45 (0, 0)) hb
            have n2_ := bb_ (g := gb300) (o := .cells #[.bool false, .int .u64 0, .int .u64 0, .int .i64 0] 47 (0, 0)) hb
            have n3_ := Aside0.mk (below_step bel_ hb)
            clear BK285
            clear BK286
            clear BK300
            clear HB
            have BK285 := n0_
            have BK286 := n1_
            have BK300 := n2_
            have HB := n3_
            clear n0_ n1_ n2_ n3_
            (try clear hb)
            (try clear hb2)
            (try clear hk)
            (try clear hi)
            refine hK.out _ _ ⟨bc_, bc_, bc_, bc_, bc_, bc_, bc_, bc_⟩ (fun hHeld => ?_)
            clear hK K
            refine norm_ (a' := ?_) ?_ ?_
            rotate_left
            · show Act.put _ (some 13) _ = _
              simp only [Act.put, la_, lb_, lc_, i64_w, i32_w]
              rfl
            refine one_ (i := 4) (N := some 14) #[true, true, true, true, true, false, false, false, true, false, false] rfl rfl (one_of HT_.out (by kernel_rfl)) (by decide) (fun K hK => ?_)
            refine goes_ Try.func24 (by kernel_rfl) rfl #[.agg #[.bool t287, .int .u64 t288, .int .u64 t289, .int .i64 t290], .agg #[.bool t291, .int .u64 t292, .int .u64 t293, .int .i64 t294]] (by rfl) rfl rfl mp_ ?_
            with_reducible refine (spec_AddFrac.calls k t287 t288 t289 t290 t291 t292 t293 t294 t295 t296 t297 t298 t299 _ A5.out).mono ?_
            rintro e w18 ⟨rfl, hb⟩
            refine ⟨_, rfl, ?_⟩
            have n0_ := bb_ (g := gb285) (o := .cells #[.bool a0_0, .int .u64 a0_1, .int .u64 a0_2, .int .i64 a0_3] 45 (0, 0)) hb
            have n1_ := bb_ (g := gb286) (o := .cells #[.bool a1_0, .int .u64 a1_1, .int .u64 a1_2, .int .i64 a1_3] 45 (0, 0)) hb
            have n2_ := bb_ (g := gb300) (o := .cells #[.bool false, .int .u64 0, .int .u64 0, .int .i64 0] 47 (0, 0)) hb
            have n3_ := Aside0.mk (below_step bel_ hb)
            clear BK285
            clear BK286
            clear BK300
            clear HB
            have BK285 := n0_
            have BK286 := n1_
            have BK300 := n2_
            have HB := n3_
            clear n0_ n1_ n2_ n3_
            (try clear hb)
            (try clear hb2)
            (try clear hk)
            (try clear hi)
            refine hK.out _ _ ⟨bc_, bc_, bc_, bc_, bc_, bc_, bc_, bc_⟩ (fun hHeld => ?_)
            clear hK K
            refine norm_ (a' := ?_) ?_ ?_
            rotate_left
            · show Act.put _ (some 14) _ = _
              simp only [Act.put, la_, lb_, lc_, i64_w, i32_w]
              rfl
            refine pure_ (i := 5) (N := some 9) (v := ?_) (a' := ?_) #[true, true, true, true, true, true, false, false, true, false, false] rfl rfl (any_of HT_.out (by kernel_rfl)) (fun _ _ _ h => h) (Or.inl ⟨by rfl, ?_⟩) ?_ ?_
            rotate_left
            · intro w'
              go_simp
              with_reducible rfl
            rotate_left
            · simp only [Act.put, la_, lb_, lc_, i64_w, i32_w]
              rfl
            refine pure_ (i := 6) (N := some 15) (v := ?_) (a' := ?_) #[true, true, true, true, true, true, true, false, true, false, false] rfl rfl (any_of HT_.out (by kernel_rfl)) (fun _ _ _ h => h) (Or.inl ⟨by rfl, ?_⟩) ?_ ?_
            rotate_left
            · intro w'
              go_simp
              with_reducible rfl
            rotate_left
            · simp only [Act.put, la_, lb_, lc_, i64_w, i32_w]
              rfl
            refine pure_ (i := 7) (N := some 16) (v := ?_) (a' := ?_) #[true, true, true, true, true, true, true, true, true, false, false] rfl rfl (any_of HT_.out (by kernel_rfl)) (fun _ _ _ h => h) (Or.inl ⟨by rfl, ?_⟩) ?_ ?_
            rotate_left
            · intro w'
              go_simp
              with_reducible rfl
            rotate_left
            · simp only [Act.put, la_, lb_, lc_, i64_w, i32_w]
              rfl
            exact norm_ (by simp only [putAll, Act.put, la_, lb_, lc_]) (hCont (gb300) _ ⟨hHeld, bk_, bk_, bk_, GW300.out, GE300.out, NB285_300.out, NB300_285.out, NB286_300.out, NB300_286.out, bel_⟩)
        · skip
          refine box_step ?hg (N := 5) ?hd (cs := #[.bool false, .int .u64 0, .int .u64 0, .int .i64 0]) (t := 47) ?hr ?_; (case hd => rfl); (case hg => rfl); (case hr => first | (go_simp; done) | (go_simp; rfl))
          intro gb300 hg w15 hbox hb
          have n0_ := bb_ (g := gb285) (o := .cells #[.bool a0_0, .int .u64 a0_1, .int .u64 a0_2, .int .i64 a0_3] 45 (0, 0)) hb
          have n1_ := bb_ (g := gb286) (o := .cells #[.bool a1_0, .int .u64 a1_1, .int .u64 a1_2, .int .i64 a1_3] 45 (0, 0)) hb
          have n2_ := Aside0.mk (below_step bel_ hb)
          have n3_ := Aside0.mk (hbox)
          have n4_ := bs_ (w := w) hg
          have n5_ := bs_ (w := w) hg
          have n6_ := nlt_ (g := gb285) (o := .cells #[.bool a0_0, .int .u64 a0_1, .int .u64 a0_2, .int .i64 a0_3] 45 (0, 0)) hg
          have n7_ := ngt_ (g := gb285) (o := .cells #[.bool a0_0, .int .u64 a0_1, .int .u64 a0_2, .int .i64 a0_3] 45 (0, 0)) hg
          have n8_ := nlt_ (g := gb286) (o := .cells #[.bool a1_0, .int .u64 a1_1, .int .u64 a1_2, .int .i64 a1_3] 45 (0, 0)) hg
          have n9_ := ngt_ (g := gb286) (o := .cells #[.bool a1_0, .int .u64 a1_1, .int .u64 a1_2, .int .i64 a1_3] 45 (0, 0)) hg
          clear BK285
          clear BK286
          clear HB
          have BK285 := n0_
          have BK286 := n1_
          have HB := n2_
          have BK300 := n3_
          have GW300 := n4_
          have GE300 := n5_
          have NB285_300 := n6_
          have NB300_285 := n7_
          have NB286_300 := n8_
          have NB300_286 := n9_
          clear n0_ n1_ n2_ n3_ n4_ n5_ n6_ n7_ n8_ n9_
          clear hb hbox hg
          refine hK.out _ _ ⟨bc_, bc_, bc_, bc_, bc_, bc_, bc_, bc_⟩ (fun hHeld => ?_)
          clear hK K
          refine norm_ (a' := ?_) ?_ ?_
          rotate_left
          · show Act.put _ (some 5) _ = _
            simp only [Act.put, la_, lb_, lc_, i64_w, i32_w]
            rfl
          refine one_ (i := 1) (N := some 11) #[true, true, true, false, false, false, false, false, true, false, false] rfl rfl (one_of HT_.out (by kernel_rfl)) (by decide) (fun K hK => ?_)
          refine goes_ Try.func25 (by kernel_rfl) rfl #[.agg #[.bool a0_0, .int .u64 a0_1, .int .u64 a0_2, .int .i64 a0_3]] (by rfl) rfl rfl mp_ ?_
          with_reducible refine (laws_toFrac.calls a0_0 a0_1 a0_2 a0_3 t287 t288 t289 t290 _ A3.out).mono ?_
          rintro e w16 ⟨rfl, hb⟩
          refine ⟨_, rfl, ?_⟩
          have n0_ := bb_ (g := gb285) (o := .cells #[.bool a0_0, .int .u64 a0_1, .int .u64 a0_2, .int .i64 a0_3] 45 (0, 0)) hb
          have n1_ := bb_ (g := gb286) (o := .cells #[.bool a1_0, .int .u64 a1_1, .int .u64 a1_2, .int .i64 a1_3] 45 (0, 0)) hb
          have n2_ := bb_ (g := gb300) (o := .cells #[.bool false, .int .u64 0, .int .u64 0, .int .i64 0] 47 (0, 0)) hb
          have n3_ := Aside0.mk (below_step bel_ hb)
          clear BK285
          clear BK286
          clear BK300
          clear HB
          have BK285 := n0_
          have BK286 := n1_
          have BK300 := n2_
          have HB := n3_
          clear n0_ n1_ n2_ n3_
          (try clear hb)
          (try clear hb2)
          (try clear hk)
          (try clear hi)
          refine hK.out _ _ ⟨bc_, bc_, bc_, bc_, bc_, bc_, bc_, bc_⟩ (fun hHeld => ?_)
          clear hK K
          refine norm_ (a' := ?_) ?_ ?_
          rotate_left
          · show Act.put _ (some 11) _ = _
            simp only [Act.put, la_, lb_, lc_, i64_w, i32_w]
            rfl
          refine one_ (i := 3) (N := some 13) #[true, true, true, true, false, false, false, false, true, false, false] rfl rfl (one_of HT_.out (by kernel_rfl)) (by decide) (fun K hK => ?_)
          refine goes_ Try.func25 (by kernel_rfl) rfl #[.agg #[.bool a1_0, .int .u64 a1_1, .int .u64 a1_2, .int .i64 a1_3]] (by rfl) rfl rfl mp_ ?_
          with_reducible refine (laws_toFrac.calls a1_0 a1_1 a1_2 a1_3 t291 t292 t293 t294 _ A4.out).mono ?_
          rintro e w17 ⟨rfl, hb⟩
          refine ⟨_, rfl, ?_⟩
          have n0_ := bb_ (g := gb285) (o := .cells #[.bool a0_0, .int .u64 a0_1, .int .u64 a0_2, .int .i64 a0_3] 45 (0, 0)) hb
          have n1_ := bb_ (g := gb286) (o := .cells #[.bool a1_0, .int .u64 a1_1, .int .u64 a1_2, .int .i64 a1_3] 45 (0, 0)) hb
          have n2_ := bb_ (g := gb300) (o := .cells #[.bool false, .int .u64 0, .int .u64 0, .int .i64 0] 47 (0, 0)) hb
          have n3_ := Aside0.mk (below_step bel_ hb)
          clear BK285
          clear BK286
          clear BK300
          clear HB
          have BK285 := n0_
          have BK286 := n1_
          have BK300 := n2_
          have HB := n3_
          clear n0_ n1_ n2_ n3_
          (try clear hb)
          (try clear hb2)
          (try clear hk)
          (try clear hi)
          refine hK.out _ _ ⟨bc_, bc_, bc_, bc_, bc_, bc_, bc_, bc_⟩ (fun hHeld => ?_)
          clear hK K
          refine norm_ (a' := ?_) ?_ ?_
          rotate_left
          · show Act.put _ (some 13) _ = _
            simp only [Act.put, la_, lb_, lc_, i64_w, i32_w]
            rfl
          refine one_ (i := 4) (N := some 14) #[true, true, true, true, true, false, false, false, true, false, false] rfl rfl (one_of HT_.out (by kernel_rfl)) (by decide) (fun K hK => ?_)
          refine goes_ Try.func24 (by kernel_rfl) rfl #[.agg #[.bool t287, .int .u64 t288, .int .u64 t289, .int .i64 t290], .agg #[.bool t291, .int .u64 t292, .int .u64 t293, .int .i64 t294]] (by rfl) rfl rfl mp_ ?_
          with_reducible refine (spec_AddFrac.calls k t287 t288 t289 t290 t291 t292 t293 t294 t295 t296 t297 t298 t299 _ A5.out).mono ?_
          rintro e w18 ⟨rfl, hb⟩
          refine ⟨_, rfl, ?_⟩
          have n0_ := bb_ (g := gb285) (o := .cells #[.bool a0_0, .int .u64 a0_1, .int .u64 a0_2, .int .i64 a0_3] 45 (0, 0)) hb
          have n1_ := bb_ (g := gb286) (o := .cells #[.bool a1_0, .int .u64 a1_1, .int .u64 a1_2, .int .i64 a1_3] 45 (0, 0)) hb
          have n2_ := bb_ (g := gb300) (o := .cells #[.bool false, .int .u64 0, .int .u64 0, .int .i64 0] 47 (0, 0)) hb
          have n3_ := Aside0.mk (below_step bel_ hb)
          clear BK285
          clear BK286
          clear BK300
          clear HB
          have BK285 := n0_
          have BK286 := n1_
          have BK300 := n2_
          have HB := n3_
          clear n0_ n1_ n2_ n3_
          (try clear hb)
          (try clear hb2)
          (try clear hk)
          (try clear hi)
          refine hK.out _ _ ⟨bc_, bc_, bc_, bc_, bc_, bc_, bc_, bc_⟩ (fun hHeld => ?_)
          clear hK K
          refine norm_ (a' := ?_) ?_ ?_
          rotate_left
          · show Act.put _ (some 14) _ = _
            simp only [Act.put, la_, lb_, lc_, i64_w, i32_w]
            rfl
          refine pure_ (i := 5) (N := some 9) (v := ?_) (a' := ?_) #[true, true, true, true, true, true, false, false, true, false, false] rfl rfl (any_of HT_.out (by kernel_rfl)) (fun _ _ _ h => h) (Or.inl ⟨by rfl, ?_⟩) ?_ ?_
          rotate_left
          · intro w'
            go_simp
            with_reducible rfl
          rotate_left
          · simp only [Act.put, la_, lb_, lc_, i64_w, i32_w]
            rfl
          refine pure_ (i := 6) (N := some 15) (v := ?_) (a' := ?_) #[true, true, true, true, true, true, true, false, true, false, false] rfl rfl (any_of HT_.out (by kernel_rfl)) (fun _ _ _ h => h) (Or.inl ⟨by rfl, ?_⟩) ?_ ?_
          rotate_left
          · intro w'
            go_simp
            with_reducible rfl
          rotate_left
          · simp only [Act.put, la_, lb_, lc_, i64_w, i32_w]
            rfl
          refine pure_ (i := 7) (N := some 16) (v := ?_) (a' := ?_) #[true, true, true, true, true, true, true, true, true, false, false] rfl rfl (any_of HT_.out (by kernel_rfl)) (fun _ _ _ h => h) (Or.inl ⟨by rfl, ?_⟩) ?_ ?_
          rotate_left
          · intro w'
            go_simp
            with_reducible rfl
          rotate_left
          · simp only [Act.put, la_, lb_, lc_, i64_w, i32_w]
            rfl
          exact norm_ (by simp only [putAll, Act.put, la_, lb_, lc_]) (hCont (gb300) _ ⟨hHeld, bk_, bk_, bk_, GW300.out, GE300.out, NB285_300.out, NB300_285.out, NB286_300.out, NB300_286.out, bel_⟩)
      rintro gb300 w19 ⟨hS_, h0_, h1_, h2_, h3_, h4_, h5_, h6_, h7_, h8_, h9_⟩
      have n0_ : Aside0 (w19.heap[gb285]? = some (.cells #[.bool a0_0, .int .u64 a0_1, .int .u64 a0_2, .int .i64 a0_3] 45 (0, 0))) := ⟨h0_⟩
      have n1_ : Aside0 (w19.heap[gb286]? = some (.cells #[.bool a1_0, .int .u64 a1_1, .int .u64 a1_2, .int .i64 a1_3] 45 (0, 0))) := ⟨h1_⟩
      have n2_ : Aside0 (w19.heap[gb300]? = some (.cells #[.bool false, .int .u64 0, .int .u64 0, .int .i64 0] 47 (0, 0))) := ⟨h2_⟩
      have n3_ : Aside0 (w.heap.size ≤ gb300) := ⟨h3_⟩
      have n4_ : Aside0 (w.heap.size ≤ gb300) := ⟨h4_⟩
      have n5_ : Aside0 (gb285 ≠ gb300) := ⟨h5_⟩
      have n6_ : Aside0 (gb300 ≠ gb285) := ⟨h6_⟩
      have n7_ : Aside0 (gb286 ≠ gb300) := ⟨h7_⟩
      have n8_ : Aside0 (gb300 ≠ gb286) := ⟨h8_⟩
      have n9_ : Aside0 (Below w.heap.size w w19) := ⟨h9_⟩
      clear BK285
      clear BK286
      clear HB
      clear h0_ h1_ h2_ h3_ h4_ h5_ h6_ h7_ h8_ h9_
      have BK285 := n0_
      have BK286 := n1_
      have BK300 := n2_
      have GW300 := n3_
      have GE300 := n4_
      have NB285_300 := n5_
      have NB300_285 := n6_
      have NB286_300 := n7_
      have NB300_286 := n8_
      have HB := n9_
      clear n0_ n1_ n2_ n3_ n4_ n5_ n6_ n7_ n8_ n9_
      have hHeld : w19.cell? ⟨gb285, 0, none⟩ = some (.bool a0_0) ∧ w19.cell? ⟨gb285, 1, none⟩ = some (.int .u64 a0_1) ∧ w19.cell? ⟨gb285, 2, none⟩ = some (.int .u64 a0_2) ∧ w19.cell? ⟨gb285, 3, none⟩ = some (.int .i64 a0_3) ∧ w19.cell? ⟨gb286, 0, none⟩ = some (.bool a1_0) ∧ w19.cell? ⟨gb286, 1, none⟩ = some (.int .u64 a1_1) ∧ w19.cell? ⟨gb286, 2, none⟩ = some (.int .u64 a1_2) ∧ w19.cell? ⟨gb286, 3, none⟩ = some (.int .i64 a1_3) := hS_
      refine norm_ (a' := ?_) ?_ ?_
      rotate_left
      · simp only [putAll, Act.put, la_, lb_, lc_]
        rfl
      refine one_ (i := 9) (N := none) #[true, true, true, true, true, true, true, true, true, true, false] rfl rfl (one_of HT_.out (by kernel_rfl)) (by decide) (fun K hK => ?_)
      have hs20 : w19.cell? ⟨gb300, 0, none⟩ = some (.bool false) := (blk_cell BK300.out 0).trans rfl
      have hfs20 := blk_frozen BK300.out 0
      have hns20_0 := NB285_300.out
      have hns20_1 := NB286_300.out
      have hms20_0 := NB300_285.out
      have hms20_1 := NB300_286.out
      have hs21 : w19.cell? ⟨gb300, 1, none⟩ = some (.int .u64 0) := (blk_cell BK300.out 1).trans rfl
      have hfs21 := blk_frozen BK300.out 1
      have hns21_0 := NB285_300.out
      have hns21_1 := NB286_300.out
      have hms21_0 := NB300_285.out
      have hms21_1 := NB300_286.out
      have hs22 : w19.cell? ⟨gb300, 2, none⟩ = some (.int .u64 0) := (blk_cell BK300.out 2).trans rfl
      have hfs22 := blk_frozen BK300.out 2
      have hns22_0 := NB285_300.out
      have hns22_1 := NB286_300.out
      have hms22_0 := NB300_285.out
      have hms22_1 := NB300_286.out
      have hs23 : w19.cell? ⟨gb300, 3, none⟩ = some (.int .i64 0) := (blk_cell BK300.out 3).trans rfl
      have hfs23 := blk_frozen BK300.out 3
      have hns23_0 := NB285_300.out
      have hns23_1 := NB286_300.out
      have hms23_0 := NB300_285.out
      have hms23_1 := NB300_286.out
      refine skip_ (w1 := ?_) (by rfl) rfl ?_ ?_
      rotate_left
      · go_simp
        rfl
      refine hK.out _ _ ⟨((cell_far (p := ⟨gb300, _, none⟩) NB285_300.out _).trans (((cell_far (p := ⟨gb300, _, none⟩) NB285_300.out _).trans (((cell_far (p := ⟨gb300, _, none⟩) NB285_300.out _).trans (((cell_far (p := ⟨gb300, _, none⟩) NB285_300.out _).trans (hHeld.1)))))))), ((cell_far (p := ⟨gb300, _, none⟩) NB285_300.out _).trans (((cell_far (p := ⟨gb300, _, none⟩) NB285_300.out _).trans (((cell_far (p := ⟨gb300, _, none⟩) NB285_300.out _).trans (((cell_far (p := ⟨gb300, _, none⟩) NB285_300.out _).trans (hHeld.2.1)))))))), ((cell_far (p := ⟨gb300, _, none⟩) NB285_300.out _).trans (((cell_far (p := ⟨gb300, _, none⟩) NB285_300.out _).trans (((cell_far (p := ⟨gb300, _, none⟩) NB285_300.out _).trans (((cell_far (p := ⟨gb300, _, none⟩) NB285_300.out _).trans (hHeld.2.2.1)))))))), ((cell_far (p := ⟨gb300, _, none⟩) NB285_300.out _).trans (((cell_far (p := ⟨gb300, _, none⟩) NB285_300.out _).trans (((cell_far (p := ⟨gb300, _, none⟩) NB285_300.out _).trans (((cell_far (p := ⟨gb300, _, none⟩) NB285_300.out _).trans (hHeld.2.2.2.1)))))))), ((cell_far (p := ⟨gb300, _, none⟩) NB286_300.out _).trans (((cell_far (p := ⟨gb300, _, none⟩) NB286_300.out _).trans (((cell_far (p := ⟨gb300, _, none⟩) NB286_300.out _).trans (((cell_far (p := ⟨gb300, _, none⟩) NB286_300.out _).trans (hHeld.2.2.2.2.1)))))))), ((cell_far (p := ⟨gb300, _, none⟩) NB286_300.out _).trans (((cell_far (p := ⟨gb300, _, none⟩) NB286_300.out _).trans (((cell_far (p := ⟨gb300, _, none⟩) NB286_300.out _).trans (((cell_far (p := ⟨gb300, _, none⟩) NB286_300.out _).trans (hHeld.2.2.2.2.2.1)))))))), ((cell_far (p := ⟨gb300, _, none⟩) NB286_300.out _).trans (((cell_far (p := ⟨gb300, _, none⟩) NB286_300.out _).trans (((cell_far (p := ⟨gb300, _, none⟩) NB286_300.out _).trans (((cell_far (p := ⟨gb300, _, none⟩) NB286_300.out _).trans (hHeld.2.2.2.2.2.2.1)))))))), ((cell_far (p := ⟨gb300, _, none⟩) NB286_300.out _).trans (((cell_far (p := ⟨gb300, _, none⟩) NB286_300.out _).trans (((cell_far (p := ⟨gb300, _, none⟩) NB286_300.out _).trans (((cell_far (p := ⟨gb300, _, none⟩) NB286_300.out _).trans (hHeld.2.2.2.2.2.2.2))))))))⟩ (fun hHeld => ?_)
      clear hK K
      refine pure_ (i := 10) (N := some 6) (v := ?_) (a' := ?_) #[true, true, true, true, true, true, true, true, true, true, true] rfl rfl (any_of HT_.out (by kernel_rfl)) (fun _ _ _ h => h) (Or.inl ⟨by rfl, ?_⟩) ?_ ?_
      rotate_left
      · intro w'
        go_simp
        with_reducible rfl
      rotate_left
      · simp only [Act.put, la_, lb_, lc_, i64_w, i32_w]
        rfl
      refine done_ (done_of HT_.out (by kernel_rfl)) ?_
      try go_wp2
      have n0_ : Aside0 (((((w19.setCell ⟨gb300, 0, none⟩ (.bool t295)).setCell ⟨gb300, 1, none⟩ (.int .u64 t296)).setCell ⟨gb300, 2, none⟩ (.int .u64 t297)).setCell ⟨gb300, 3, none⟩ (.int .i64 t298)).heap[gb285]? = some (.cells #[.bool a0_0, .int .u64 a0_1, .int .u64 a0_2, .int .i64 a0_3] 45 (0, 0))) := ⟨by (with_reducible repeat (first | refine bN_ _ ?_ | refine bd_ ?_ | refine ba_ _ ?_)); refine blk_far ?_ NB285_300.out _; (with_reducible repeat (first | refine bN_ _ ?_ | refine bd_ ?_ | refine ba_ _ ?_)); refine blk_far ?_ NB285_300.out _; (with_reducible repeat (first | refine bN_ _ ?_ | refine bd_ ?_ | refine ba_ _ ?_)); refine blk_far ?_ NB285_300.out _; (with_reducible repeat (first | refine bN_ _ ?_ | refine bd_ ?_ | refine ba_ _ ?_)); refine blk_far ?_ NB285_300.out _; (with_reducible repeat (first | refine bN_ _ ?_ | refine bd_ ?_ | refine ba_ _ ?_)); exact BK285.out⟩
      have n1_ : Aside0 (((((w19.setCell ⟨gb300, 0, none⟩ (.bool t295)).setCell ⟨gb300, 1, none⟩ (.int .u64 t296)).setCell ⟨gb300, 2, none⟩ (.int .u64 t297)).setCell ⟨gb300, 3, none⟩ (.int .i64 t298)).heap[gb286]? = some (.cells #[.bool a1_0, .int .u64 a1_1, .int .u64 a1_2, .int .i64 a1_3] 45 (0, 0))) := ⟨by (with_reducible repeat (first | refine bN_ _ ?_ | refine bd_ ?_ | refine ba_ _ ?_)); refine blk_far ?_ NB286_300.out _; (with_reducible repeat (first | refine bN_ _ ?_ | refine bd_ ?_ | refine ba_ _ ?_)); refine blk_far ?_ NB286_300.out _; (with_reducible repeat (first | refine bN_ _ ?_ | refine bd_ ?_ | refine ba_ _ ?_)); refine blk_far ?_ NB286_300.out _; (with_reducible repeat (first | refine bN_ _ ?_ | refine bd_ ?_ | refine ba_ _ ?_)); refine blk_far ?_ NB286_300.out _; (with_reducible repeat (first | refine bN_ _ ?_ | refine bd_ ?_ | refine ba_ _ ?_)); exact BK286.out⟩
      have n2_ : Aside0 (((((w19.setCell ⟨gb300, 0, none⟩ (.bool t295)).setCell ⟨gb300, 1, none⟩ (.int .u64 t296)).setCell ⟨gb300, 2, none⟩ (.int .u64 t297)).setCell ⟨gb300, 3, none⟩ (.int .i64 t298)).heap[gb300]? = some (.cells #[.bool t295, .int .u64 t296, .int .u64 t297, .int .i64 t298] 47 (0, 0))) := ⟨by (with_reducible repeat (first | refine bN_ _ ?_ | refine bd_ ?_ | refine ba_ _ ?_)); refine blk_put (cs := #[.bool t295, .int .u64 t296, .int .u64 t297, .int .i64 0]) ?_ 3 _ rfl; (with_reducible repeat (first | refine bN_ _ ?_ | refine bd_ ?_ | refine ba_ _ ?_)); refine blk_put (cs := #[.bool t295, .int .u64 t296, .int .u64 0, .int .i64 0]) ?_ 2 _ rfl; (with_reducible repeat (first | refine bN_ _ ?_ | refine bd_ ?_ | refine ba_ _ ?_)); refine blk_put (cs := #[.bool t295, .int .u64 0, .int .u64 0, .int .i64 0]) ?_ 1 _ rfl; (with_reducible repeat (first | refine bN_ _ ?_ | refine bd_ ?_ | refine ba_ _ ?_)); refine blk_put (cs := #[.bool false, .int .u64 0, .int .u64 0, .int .i64 0]) ?_ 0 _ rfl; (with_reducible repeat (first | refine bN_ _ ?_ | refine bd_ ?_ | refine ba_ _ ?_)); exact BK300.out⟩
      have n3_ : Aside0 (Below w.heap.size w ((((w19.setCell ⟨gb300, 0, none⟩ (.bool t295)).setCell ⟨gb300, 1, none⟩ (.int .u64 t296)).setCell ⟨gb300, 2, none⟩ (.int .u64 t297)).setCell ⟨gb300, 3, none⟩ (.int .i64 t298))) := ⟨by repeat (first | (with_reducible first | exact HB.out | apply below_alloc | apply pw_below_drewN | apply below_drew1 | refine below_set ?_ GE285.out | refine below_set ?_ GE286.out | refine below_set ?_ GE300.out) | exact HB.out)⟩
      (try clear BK285)
      (try clear BK286)
      (try clear BK300)
      (try clear HB)
      generalize ((((w19.setCell ⟨gb300, 0, none⟩ (.bool t295)).setCell ⟨gb300, 1, none⟩ (.int .u64 t296)).setCell ⟨gb300, 2, none⟩ (.int .u64 t297)).setCell ⟨gb300, 3, none⟩ (.int .i64 t298)) = w24 at n0_ n1_ n2_ n3_ ⊢
      have BK285 := n0_
      have BK286 := n1_
      have BK300 := n2_
      have HB := n3_
      clear n0_ n1_ n2_ n3_
      have n0_ := Aside0.mk (blk_drew BK285.out)
      have n1_ := Aside0.mk (blk_drew BK286.out)
      have n2_ := Aside0.mk (blk_drew BK300.out)
      have n3_ := Aside0.mk (below_drew1 HB.out)
      clear BK285
      clear BK286
      clear BK300
      clear HB
      have BK285 := n0_
      have BK286 := n1_
      have BK300 := n2_
      have HB := n3_
      clear n0_ n1_ n2_ n3_
      refine start_ (n := 11) (S := fun w' => w'.cell? ⟨gb285, 0, none⟩ = some (.bool a0_0) ∧ w'.cell? ⟨gb285, 1, none⟩ = some (.int .u64 a0_1) ∧ w'.cell? ⟨gb285, 2, none⟩ = some (.int .u64 a0_2) ∧ w'.cell? ⟨gb285, 3, none⟩ = some (.int .i64 a0_3) ∧ w'.cell? ⟨gb286, 0, none⟩ = some (.bool a1_0) ∧ w'.cell? ⟨gb286, 1, none⟩ = some (.int .u64 a1_1) ∧ w'.cell? ⟨gb286, 2, none⟩ = some (.int .u64 a1_2) ∧ w'.cell? ⟨gb286, 3, none⟩ = some (.int .i64 a1_3)) (ds := []) #[false, false, false, false, false, false, false, false, false, false, false] (by kernel_rfl) rfl rfl ⟨bc_, bc_, bc_, bc_, bc_, bc_, bc_, bc_⟩ (fun hHeld => ?_); refine with_tabW laws_FnExactAddFrac.tab2 laws_FnExactAddFrac.bits2 (fun HT_ HW_ => ?_)
      generalize w24.drew = w25 at BK285 BK286 BK300 HB hHeld ⊢
      refine take_ (i := 0) (N := some 18) (v := ?_) (a' := ?_) #[true, false, false, false, false, false, false, false, false, false, false] rfl rfl (take_ofW HT_.out HW_.out (by kernel_rfl)) (fun _ _ _ h => h) (Or.inl ⟨by rfl, ?_⟩) hHeld ?_ ?_
      rotate_left
      · rintro w' ⟨s0, s1, s2, s3, s4, s5, s6, s7⟩
        go_simp
        with_reducible rfl
      rotate_left
      · simp only [Act.put, la_, lb_, lc_, i64_w, i32_w]
        rfl
      refine take_ (i := 2) (N := some 20) (v := ?_) (a' := ?_) #[true, false, true, false, false, false, false, false, false, false, false] rfl rfl (take_ofW HT_.out HW_.out (by kernel_rfl)) (fun _ _ _ h => h) (Or.inl ⟨by rfl, ?_⟩) hHeld ?_ ?_
      rotate_left
      · rintro w' ⟨s0, s1, s2, s3, s4, s5, s6, s7⟩
        go_simp
        with_reducible rfl
      rotate_left
      · simp only [Act.put, la_, lb_, lc_, i64_w, i32_w]
        rfl
      refine join_ (σ := Nat) 2 #[true, true, true, true, true, true, true, true, true, false, false] (fun s_ => [(19, .agg #[.bool t301, .int .u64 t302, .int .u64 t303, .int .i64 t304]), (21, .agg #[.bool t305, .int .u64 t306, .int .u64 t307, .int .i64 t308]), (22, .tuple #[.agg #[.bool t309, .int .u64 t310, .int .u64 t311, .int .i64 t312], .bool t313]), (7, .pointer (some ⟨s_, 0, none⟩)), (17, .tuple #[.agg #[.bool t309, .int .u64 t310, .int .u64 t311, .int .i64 t312], .bool t313]), (23, .agg #[.bool t309, .int .u64 t310, .int .u64 t311, .int .i64 t312]), (24, .bool t313)]) (fun s_ w' => (w'.cell? ⟨gb285, 0, none⟩ = some (.bool a0_0) ∧ w'.cell? ⟨gb285, 1, none⟩ = some (.int .u64 a0_1) ∧ w'.cell? ⟨gb285, 2, none⟩ = some (.int .u64 a0_2) ∧ w'.cell? ⟨gb285, 3, none⟩ = some (.int .i64 a0_3) ∧ w'.cell? ⟨gb286, 0, none⟩ = some (.bool a1_0) ∧ w'.cell? ⟨gb286, 1, none⟩ = some (.int .u64 a1_1) ∧ w'.cell? ⟨gb286, 2, none⟩ = some (.int .u64 a1_2) ∧ w'.cell? ⟨gb286, 3, none⟩ = some (.int .i64 a1_3)) ∧ (w'.heap[gb285]? = some (.cells #[.bool a0_0, .int .u64 a0_1, .int .u64 a0_2, .int .i64 a0_3] 45 (0, 0))) ∧ (w'.heap[gb286]? = some (.cells #[.bool a1_0, .int .u64 a1_1, .int .u64 a1_2, .int .i64 a1_3] 45 (0, 0))) ∧ (w'.heap[gb300]? = some (.cells #[.bool t295, .int .u64 t296, .int .u64 t297, .int .i64 t298] 47 (0, 0))) ∧ (w'.heap[s_]? = some (.cells #[.bool false, .int .u64 0, .int .u64 0, .int .i64 0] 47 (0, 0))) ∧ (w.heap.size ≤ s_) ∧ (w.heap.size ≤ s_) ∧ (gb285 ≠ s_) ∧ (s_ ≠ gb285) ∧ (gb286 ≠ s_) ∧ (s_ ≠ gb286) ∧ (gb300 ≠ s_) ∧ (s_ ≠ gb300) ∧ (Below w.heap.size w w')) ?_ ?_
      rotate_left
      · intro hCont
        refine two_ (i := 1) (j := 8) (Ni := some 19) (Nj := some 7) #[true, true, true, false, false, false, false, false, false, false, false] #[true, false, true, false, false, false, false, false, true, false, false] rfl rfl rfl rfl (two_of HT_.out (by kernel_rfl)) (by decide) (by decide) (fun K hK => ?_) (fun K hK => ?_)
        · skip
          refine goes_ Try.func25 (by kernel_rfl) rfl #[.agg #[.bool a0_0, .int .u64 a0_1, .int .u64 a0_2, .int .i64 a0_3]] (by rfl) rfl rfl mp_ ?_
          with_reducible refine (laws_toFrac.calls a0_0 a0_1 a0_2 a0_3 t301 t302 t303 t304 _ A6.out).mono ?_
          rintro e w26 ⟨rfl, hb⟩
          refine ⟨_, rfl, ?_⟩
          have n0_ := bb_ (g := gb285) (o := .cells #[.bool a0_0, .int .u64 a0_1, .int .u64 a0_2, .int .i64 a0_3] 45 (0, 0)) hb
          have n1_ := bb_ (g := gb286) (o := .cells #[.bool a1_0, .int .u64 a1_1, .int .u64 a1_2, .int .i64 a1_3] 45 (0, 0)) hb
          have n2_ := bb_ (g := gb300) (o := .cells #[.bool t295, .int .u64 t296, .int .u64 t297, .int .i64 t298] 47 (0, 0)) hb
          have n3_ := Aside0.mk (below_step bel_ hb)
          clear BK285
          clear BK286
          clear BK300
          clear HB
          have BK285 := n0_
          have BK286 := n1_
          have BK300 := n2_
          have HB := n3_
          clear n0_ n1_ n2_ n3_
          (try clear hb)
          (try clear hb2)
          (try clear hk)
          (try clear hi)
          refine hK.out _ _ ⟨bc_, bc_, bc_, bc_, bc_, bc_, bc_, bc_⟩ (fun hHeld => ?_)
          clear hK K
          refine norm_ (a' := ?_) ?_ ?_
          rotate_left
          · show Act.put _ (some 19) _ = _
            simp only [Act.put, la_, lb_, lc_, i64_w, i32_w]
            rfl
          refine two_ (i := 3) (j := 8) (Ni := some 21) (Nj := some 7) #[true, true, true, true, false, false, false, false, false, false, false] #[true, true, true, false, false, false, false, false, true, false, false] rfl rfl rfl rfl (two_of HT_.out (by kernel_rfl)) (by decide) (by decide) (fun K hK => ?_) (fun K hK => ?_)
          · skip
            refine goes_ Try.func25 (by kernel_rfl) rfl #[.agg #[.bool a1_0, .int .u64 a1_1, .int .u64 a1_2, .int .i64 a1_3]] (by rfl) rfl rfl mp_ ?_
            with_reducible refine (laws_toFrac.calls a1_0 a1_1 a1_2 a1_3 t305 t306 t307 t308 _ A7.out).mono ?_
            rintro e w27 ⟨rfl, hb⟩
            refine ⟨_, rfl, ?_⟩
            have n0_ := bb_ (g := gb285) (o := .cells #[.bool a0_0, .int .u64 a0_1, .int .u64 a0_2, .int .i64 a0_3] 45 (0, 0)) hb
            have n1_ := bb_ (g := gb286) (o := .cells #[.bool a1_0, .int .u64 a1_1, .int .u64 a1_2, .int .i64 a1_3] 45 (0, 0)) hb
            have n2_ := bb_ (g := gb300) (o := .cells #[.bool t295, .int .u64 t296, .int .u64 t297, .int .i64 t298] 47 (0, 0)) hb
            have n3_ := Aside0.mk (below_step bel_ hb)
            clear BK285
            clear BK286
            clear BK300
            clear HB
            have BK285 := n0_
            have BK286 := n1_
            have BK300 := n2_
            have HB := n3_
            clear n0_ n1_ n2_ n3_
            (try clear hb)
            (try clear hb2)
            (try clear hk)
            (try clear hi)
            refine hK.out _ _ ⟨bc_, bc_, bc_, bc_, bc_, bc_, bc_, bc_⟩ (fun hHeld => ?_)
            clear hK K
            refine norm_ (a' := ?_) ?_ ?_
            rotate_left
            · show Act.put _ (some 21) _ = _
              simp only [Act.put, la_, lb_, lc_, i64_w, i32_w]
              rfl
            refine two_ (i := 4) (j := 8) (Ni := some 22) (Nj := some 7) #[true, true, true, true, true, false, false, false, false, false, false] #[true, true, true, true, false, false, false, false, true, false, false] rfl rfl rfl rfl (two_of HT_.out (by kernel_rfl)) (by decide) (by decide) (fun K hK => ?_) (fun K hK => ?_)
            · skip
              refine goes_ Try.func26 (by kernel_rfl) rfl #[.agg #[.bool t301, .int .u64 t302, .int .u64 t303, .int .i64 t304], .agg #[.bool t305, .int .u64 t306, .int .u64 t307, .int .i64 t308]] (by rfl) rfl rfl mp_ ?_
              with_reducible refine (impl_AddFrac.calls k t301 t302 t303 t304 t305 t306 t307 t308 t309 t310 t311 t312 t313 _ A8.out).mono ?_
              rintro e w28 ⟨rfl, hb⟩
              refine ⟨_, rfl, ?_⟩
              have n0_ := bb_ (g := gb285) (o := .cells #[.bool a0_0, .int .u64 a0_1, .int .u64 a0_2, .int .i64 a0_3] 45 (0, 0)) hb
              have n1_ := bb_ (g := gb286) (o := .cells #[.bool a1_0, .int .u64 a1_1, .int .u64 a1_2, .int .i64 a1_3] 45 (0, 0)) hb
              have n2_ := bb_ (g := gb300) (o := .cells #[.bool t295, .int .u64 t296, .int .u64 t297, .int .i64 t298] 47 (0, 0)) hb
              have n3_ := Aside0.mk (below_step bel_ hb)
              clear BK285
              clear BK286
              clear BK300
              clear HB
              have BK285 := n0_
              have BK286 := n1_
              have BK300 := n2_
              have HB := n3_
              clear n0_ n1_ n2_ n3_
              (try clear hb)
              (try clear hb2)
              (try clear hk)
              (try clear hi)
              refine hK.out _ _ ⟨bc_, bc_, bc_, bc_, bc_, bc_, bc_, bc_⟩ (fun hHeld => ?_)
              clear hK K
              refine norm_ (a' := ?_) ?_ ?_
              rotate_left
              · show Act.put _ (some 22) _ = _
                simp only [Act.put, la_, lb_, lc_, i64_w, i32_w]
                rfl
              refine pure_ (i := 5) (N := some 17) (v := ?_) (a' := ?_) #[true, true, true, true, true, true, false, false, false, false, false] rfl rfl (any_of HT_.out (by kernel_rfl)) (fun _ _ _ h => h) (Or.inl ⟨by rfl, ?_⟩) ?_ ?_
              rotate_left
              · intro w'
                go_simp
                with_reducible rfl
              rotate_left
              · simp only [Act.put, la_, lb_, lc_, i64_w, i32_w]
                rfl
              refine pure_ (i := 6) (N := some 23) (v := ?_) (a' := ?_) #[true, true, true, true, true, true, true, false, false, false, false] rfl rfl (any_of HT_.out (by kernel_rfl)) (fun _ _ _ h => h) (Or.inl ⟨by rfl, ?_⟩) ?_ ?_
              rotate_left
              · intro w'
                go_simp
                with_reducible rfl
              rotate_left
              · simp only [Act.put, la_, lb_, lc_, i64_w, i32_w]
                rfl
              refine pure_ (i := 7) (N := some 24) (v := ?_) (a' := ?_) #[true, true, true, true, true, true, true, true, false, false, false] rfl rfl (any_of HT_.out (by kernel_rfl)) (fun _ _ _ h => h) (Or.inl ⟨by rfl, ?_⟩) ?_ ?_
              rotate_left
              · intro w'
                go_simp
                with_reducible rfl
              rotate_left
              · simp only [Act.put, la_, lb_, lc_, i64_w, i32_w]
                rfl
              refine one_ (i := 8) (N := some 7) #[true, true, true, true, true, true, true, true, true, false, false] rfl rfl (one_of HT_.out (by kernel_rfl)) (by decide) (fun K hK => ?_)
              refine box_step ?hg (N := 7) ?hd (cs := #[.bool false, .int .u64 0, .int .u64 0, .int .i64 0]) (t := 47) ?hr ?_; (case hd => rfl); (case hg => rfl); (case hr => first | (go_simp; done) | (go_simp; rfl))
              intro gb314 hg w29 hbox hb
              have n0_ := bb_ (g := gb285) (o := .cells #[.bool a0_0, .int .u64 a0_1, .int .u64 a0_2, .int .i64 a0_3] 45 (0, 0)) hb
              have n1_ := bb_ (g := gb286) (o := .cells #[.bool a1_0, .int .u64 a1_1, .int .u64 a1_2, .int .i64 a1_3] 45 (0, 0)) hb
              have n2_ := bb_ (g := gb300) (o := .cells #[.bool t295, .int .u64 t296, .int .u64 t297, .int .i64 t298] 47 (0, 0)) hb
              have n3_ := Aside0.mk (below_step bel_ hb)
              have n4_ := Aside0.mk (hbox)
              have n5_ := bs_ (w := w) hg
              have n6_ := bs_ (w := w) hg
              have n7_ := nlt_ (g := gb285) (o := .cells #[.bool a0_0, .int .u64 a0_1, .int .u64 a0_2, .int .i64 a0_3] 45 (0, 0)) hg
              have n8_ := ngt_ (g := gb285) (o := .cells #[.bool a0_0, .int .u64 a0_1, .int .u64 a0_2, .int .i64 a0_3] 45 (0, 0)) hg
              have n9_ := nlt_ (g := gb286) (o := .cells #[.bool a1_0, .int .u64 a1_1, .int .u64 a1_2, .int .i64 a1_3] 45 (0, 0)) hg
              have n10_ := ngt_ (g := gb286) (o := .cells #[.bool a1_0, .int .u64 a1_1, .int .u64 a1_2, .int .i64 a1_3] 45 (0, 0)) hg
              have n11_ := nlt_ (g := gb300) (o := .cells #[.bool t295, .int .u64 t296, .int .u64 t297, .int .i64 t298] 47 (0, 0)) hg
              have n12_ := ngt_ (g := gb300) (o := .cells #[.bool t295, .int .u64 t296, .int .u64 t297, .int .i64 t298] 47 (0, 0)) hg
              clear BK285
              clear BK286
              clear BK300
              clear HB
              have BK285 := n0_
              have BK286 := n1_
              have BK300 := n2_
              have HB := n3_
              have BK314 := n4_
              have GW314 := n5_
              have GE314 := n6_
              have NB285_314 := n7_
              have NB314_285 := n8_
              have NB286_314 := n9_
              have NB314_286 := n10_
              have NB300_314 := n11_
              have NB314_300 := n12_
              clear n0_ n1_ n2_ n3_ n4_ n5_ n6_ n7_ n8_ n9_ n10_ n11_ n12_
              clear hb hbox hg
              refine hK.out _ _ ⟨bc_, bc_, bc_, bc_, bc_, bc_, bc_, bc_⟩ (fun hHeld => ?_)
              clear hK K
              refine norm_ (a' := ?_) ?_ ?_
              rotate_left
              · show Act.put _ (some 7) _ = _
                simp only [Act.put, la_, lb_, lc_, i64_w, i32_w]
                rfl
              exact norm_ (by simp only [putAll, Act.put, la_, lb_, lc_]) (hCont (gb314) _ ⟨hHeld, bk_, bk_, bk_, bk_, GW314.out, GE314.out, NB285_314.out, NB314_285.out, NB286_314.out, NB314_286.out, NB300_314.out, NB314_300.out, bel_⟩)
            · skip
              refine box_step ?hg (N := 7) ?hd (cs := #[.bool false, .int .u64 0, .int .u64 0, .int .i64 0]) (t := 47) ?hr ?_; (case hd => rfl); (case hg => rfl); (case hr => first | (go_simp; done) | (go_simp; rfl))
              intro gb314 hg w28 hbox hb
              have n0_ := bb_ (g := gb285) (o := .cells #[.bool a0_0, .int .u64 a0_1, .int .u64 a0_2, .int .i64 a0_3] 45 (0, 0)) hb
              have n1_ := bb_ (g := gb286) (o := .cells #[.bool a1_0, .int .u64 a1_1, .int .u64 a1_2, .int .i64 a1_3] 45 (0, 0)) hb
              have n2_ := bb_ (g := gb300) (o := .cells #[.bool t295, .int .u64 t296, .int .u64 t297, .int .i64 t298] 47 (0, 0)) hb
              have n3_ := Aside0.mk (below_step bel_ hb)
              have n4_ := Aside0.mk (hbox)
              have n5_ := bs_ (w := w) hg
              have n6_ := bs_ (w := w) hg
              have n7_ := nlt_ (g := gb285) (o := .cells #[.bool a0_0, .int .u64 a0_1, .int .u64 a0_2, .int .i64 a0_3] 45 (0, 0)) hg
              have n8_ := ngt_ (g := gb285) (o := .cells #[.bool a0_0, .int .u64 a0_1, .int .u64 a0_2, .int .i64 a0_3] 45 (0, 0)) hg
              have n9_ := nlt_ (g := gb286) (o := .cells #[.bool a1_0, .int .u64 a1_1, .int .u64 a1_2, .int .i64 a1_3] 45 (0, 0)) hg
              have n10_ := ngt_ (g := gb286) (o := .cells #[.bool a1_0, .int .u64 a1_1, .int .u64 a1_2, .int .i64 a1_3] 45 (0, 0)) hg
              have n11_ := nlt_ (g := gb300) (o := .cells #[.bool t295, .int .u64 t296, .int .u64 t297, .int .i64 t298] 47 (0, 0)) hg
              have n12_ := ngt_ (g := gb300) (o := .cells #[.bool t295, .int .u64 t296, .int .u64 t297, .int .i64 t298] 47 (0, 0)) hg
              clear BK285
              clear BK286
              clear BK300
              clear HB
              have BK285 := n0_
              have BK286 := n1_
              have BK300 := n2_
              have HB := n3_
              have BK314 := n4_
              have GW314 := n5_
              have GE314 := n6_
              have NB285_314 := n7_
              have NB314_285 := n8_
              have NB286_314 := n9_
              have NB314_286 := n10_
              have NB300_314 := n11_
              have NB314_300 := n12_
              clear n0_ n1_ n2_ n3_ n4_ n5_ n6_ n7_ n8_ n9_ n10_ n11_ n12_
              clear hb hbox hg
              refine hK.out _ _ ⟨bc_, bc_, bc_, bc_, bc_, bc_, bc_, bc_⟩ (fun hHeld => ?_)
              clear hK K
              refine norm_ (a' := ?_) ?_ ?_
              rotate_left
              · show Act.put _ (some 7) _ = _
                simp only [Act.put, la_, lb_, lc_, i64_w, i32_w]
                rfl
              refine one_ (i := 4) (N := some 22) #[true, true, true, true, true, false, false, false, true, false, false] rfl rfl (one_of HT_.out (by kernel_rfl)) (by decide) (fun K hK => ?_)
              refine goes_ Try.func26 (by kernel_rfl) rfl #[.agg #[.bool t301, .int .u64 t302, .int .u64 t303, .int .i64 t304], .agg #[.bool t305, .int .u64 t306, .int .u64 t307, .int .i64 t308]] (by rfl) rfl rfl mp_ ?_
              with_reducible refine (impl_AddFrac.calls k t301 t302 t303 t304 t305 t306 t307 t308 t309 t310 t311 t312 t313 _ A8.out).mono ?_
              rintro e w29 ⟨rfl, hb⟩
              refine ⟨_, rfl, ?_⟩
              have n0_ := bb_ (g := gb285) (o := .cells #[.bool a0_0, .int .u64 a0_1, .int .u64 a0_2, .int .i64 a0_3] 45 (0, 0)) hb
              have n1_ := bb_ (g := gb286) (o := .cells #[.bool a1_0, .int .u64 a1_1, .int .u64 a1_2, .int .i64 a1_3] 45 (0, 0)) hb
              have n2_ := bb_ (g := gb300) (o := .cells #[.bool t295, .int .u64 t296, .int .u64 t297, .int .i64 t298] 47 (0, 0)) hb
              have n3_ := bb_ (g := gb314) (o := .cells #[.bool false, .int .u64 0, .int .u64 0, .int .i64 0] 47 (0, 0)) hb
              have n4_ := Aside0.mk (below_step bel_ hb)
              clear BK285
              clear BK286
              clear BK300
              clear BK314
              clear HB
              have BK285 := n0_
              have BK286 := n1_
              have BK300 := n2_
              have BK314 := n3_
              have HB := n4_
              clear n0_ n1_ n2_ n3_ n4_
              (try clear hb)
              (try clear hb2)
              (try clear hk)
              (try clear hi)
              refine hK.out _ _ ⟨bc_, bc_, bc_, bc_, bc_, bc_, bc_, bc_⟩ (fun hHeld => ?_)
              clear hK K
              refine norm_ (a' := ?_) ?_ ?_
              rotate_left
              · show Act.put _ (some 22) _ = _
                simp only [Act.put, la_, lb_, lc_, i64_w, i32_w]
                rfl
              refine pure_ (i := 5) (N := some 17) (v := ?_) (a' := ?_) #[true, true, true, true, true, true, false, false, true, false, false] rfl rfl (any_of HT_.out (by kernel_rfl)) (fun _ _ _ h => h) (Or.inl ⟨by rfl, ?_⟩) ?_ ?_
              rotate_left
              · intro w'
                go_simp
                with_reducible rfl
              rotate_left
              · simp only [Act.put, la_, lb_, lc_, i64_w, i32_w]
                rfl
              refine pure_ (i := 6) (N := some 23) (v := ?_) (a' := ?_) #[true, true, true, true, true, true, true, false, true, false, false] rfl rfl (any_of HT_.out (by kernel_rfl)) (fun _ _ _ h => h) (Or.inl ⟨by rfl, ?_⟩) ?_ ?_
              rotate_left
              · intro w'
                go_simp
                with_reducible rfl
              rotate_left
              · simp only [Act.put, la_, lb_, lc_, i64_w, i32_w]
                rfl
              refine pure_ (i := 7) (N := some 24) (v := ?_) (a' := ?_) #[true, true, true, true, true, true, true, true, true, false, false] rfl rfl (any_of HT_.out (by kernel_rfl)) (fun _ _ _ h => h) (Or.inl ⟨by rfl, ?_⟩) ?_ ?_
              rotate_left
              · intro w'
                go_simp
                with_reducible rfl
              rotate_left
              · simp only [Act.put, la_, lb_, lc_, i64_w, i32_w]
                rfl
              exact norm_ (by simp only [putAll, Act.put, la_, lb_, lc_]) (hCont (gb314) _ ⟨hHeld, bk_, bk_, bk_, bk_, GW314.out, GE314.out, NB285_314.out, NB314_285.out, NB286_314.out, NB314_286.out, NB300_314.out, NB314_300.out, bel_⟩)
          · skip
            refine box_step ?hg (N := 7) ?hd (cs := #[.bool false, .int .u64 0, .int .u64 0, .int .i64 0]) (t := 47) ?hr ?_; (case hd => rfl); (case hg => rfl); (case hr => first | (go_simp; done) | (go_simp; rfl))
            intro gb314 hg w27 hbox hb
            have n0_ := bb_ (g := gb285) (o := .cells #[.bool a0_0, .int .u64 a0_1, .int .u64 a0_2, .int .i64 a0_3] 45 (0, 0)) hb
            have n1_ := bb_ (g := gb286) (o := .cells #[.bool a1_0, .int .u64 a1_1, .int .u64 a1_2, .int .i64 a1_3] 45 (0, 0)) hb
            have n2_ := bb_ (g := gb300) (o := .cells #[.bool t295, .int .u64 t296, .int .u64 t297, .int .i64 t298] 47 (0, 0)) hb
            have n3_ := Aside0.mk (below_step bel_ hb)
            have n4_ := Aside0.mk (hbox)
            have n5_ := bs_ (w := w) hg
            have n6_ := bs_ (w := w) hg
            have n7_ := nlt_ (g := gb285) (o := .cells #[.bool a0_0, .int .u64 a0_1, .int .u64 a0_2, .int .i64 a0_3] 45 (0, 0)) hg
            have n8_ := ngt_ (g := gb285) (o := .cells #[.bool a0_0, .int .u64 a0_1, .int .u64 a0_2, .int .i64 a0_3] 45 (0, 0)) hg
            have n9_ := nlt_ (g := gb286) (o := .cells #[.bool a1_0, .int .u64 a1_1, .int .u64 a1_2, .int .i64 a1_3] 45 (0, 0)) hg
            have n10_ := ngt_ (g := gb286) (o := .cells #[.bool a1_0, .int .u64 a1_1, .int .u64 a1_2, .int .i64 a1_3] 45 (0, 0)) hg
            have n11_ := nlt_ (g := gb300) (o := .cells #[.bool t295, .int .u64 t296, .int .u64 t297, .int .i64 t298] 47 (0, 0)) hg
            have n12_ := ngt_ (g := gb300) (o := .cells #[.bool t295, .int .u64 t296, .int .u64 t297, .int .i64 t298] 47 (0, 0)) hg
            clear BK285
            clear BK286
            clear BK300
            clear HB
            have BK285 := n0_
            have BK286 := n1_
            have BK300 := n2_
            have HB := n3_
            have BK314 := n4_
            have GW314 := n5_
            have GE314 := n6_
            have NB285_314 := n7_
            have NB314_285 := n8_
            have NB286_314 := n9_
            have NB314_286 := n10_
            have NB300_314 := n11_
            have NB314_300 := n12_
            clear n0_ n1_ n2_ n3_ n4_ n5_ n6_ n7_ n8_ n9_ n10_ n11_ n12_
            clear hb hbox hg
            refine hK.out _ _ ⟨bc_, bc_, bc_, bc_, bc_, bc_, bc_, bc_⟩ (fun hHeld => ?_)
            clear hK K
            refine norm_ (a' := ?_) ?_ ?_
            rotate_left
            · show Act.put _ (some 7) _ = _
              simp only [Act.put, la_, lb_, lc_, i64_w, i32_w]
              rfl
            refine one_ (i := 3) (N := some 21) #[true, true, true, true, false, false, false, false, true, false, false] rfl rfl (one_of HT_.out (by kernel_rfl)) (by decide) (fun K hK => ?_)
            refine goes_ Try.func25 (by kernel_rfl) rfl #[.agg #[.bool a1_0, .int .u64 a1_1, .int .u64 a1_2, .int .i64 a1_3]] (by rfl) rfl rfl mp_ ?_
            with_reducible refine (laws_toFrac.calls a1_0 a1_1 a1_2 a1_3 t305 t306 t307 t308 _ A7.out).mono ?_
            rintro e w28 ⟨rfl, hb⟩
            refine ⟨_, rfl, ?_⟩
            have n0_ := bb_ (g := gb285) (o := .cells #[.bool a0_0, .int .u64 a0_1, .int .u64 a0_2, .int .i64 a0_3] 45 (0, 0)) hb
            have n1_ := bb_ (g := gb286) (o := .cells #[.bool a1_0, .int .u64 a1_1, .int .u64 a1_2, .int .i64 a1_3] 45 (0, 0)) hb
            have n2_ := bb_ (g := gb300) (o := .cells #[.bool t295, .int .u64 t296, .int .u64 t297, .int .i64 t298] 47 (0, 0)) hb
            have n3_ := bb_ (g := gb314) (o := .cells #[.bool false, .int .u64 0, .int .u64 0, .int .i64 0] 47 (0, 0)) hb
            have n4_ := Aside0.mk (below_step bel_ hb)
            clear BK285
            clear BK286
            clear BK300
            clear BK314
            clear HB
            have BK285 := n0_
            have BK286 := n1_
            have BK300 := n2_
            have BK314 := n3_
            have HB := n4_
            clear n0_ n1_ n2_ n3_ n4_
            (try clear hb)
            (try clear hb2)
            (try clear hk)
            (try clear hi)
            refine hK.out _ _ ⟨bc_, bc_, bc_, bc_, bc_, bc_, bc_, bc_⟩ (fun hHeld => ?_)
            clear hK K
            refine norm_ (a' := ?_) ?_ ?_
            rotate_left
            · show Act.put _ (some 21) _ = _
              simp only [Act.put, la_, lb_, lc_, i64_w, i32_w]
              rfl
            refine one_ (i := 4) (N := some 22) #[true, true, true, true, true, false, false, false, true, false, false] rfl rfl (one_of HT_.out (by kernel_rfl)) (by decide) (fun K hK => ?_)
            refine goes_ Try.func26 (by kernel_rfl) rfl #[.agg #[.bool t301, .int .u64 t302, .int .u64 t303, .int .i64 t304], .agg #[.bool t305, .int .u64 t306, .int .u64 t307, .int .i64 t308]] (by rfl) rfl rfl mp_ ?_
            with_reducible refine (impl_AddFrac.calls k t301 t302 t303 t304 t305 t306 t307 t308 t309 t310 t311 t312 t313 _ A8.out).mono ?_
            rintro e w29 ⟨rfl, hb⟩
            refine ⟨_, rfl, ?_⟩
            have n0_ := bb_ (g := gb285) (o := .cells #[.bool a0_0, .int .u64 a0_1, .int .u64 a0_2, .int .i64 a0_3] 45 (0, 0)) hb
            have n1_ := bb_ (g := gb286) (o := .cells #[.bool a1_0, .int .u64 a1_1, .int .u64 a1_2, .int .i64 a1_3] 45 (0, 0)) hb
            have n2_ := bb_ (g := gb300) (o := .cells #[.bool t295, .int .u64 t296, .int .u64 t297, .int .i64 t298] 47 (0, 0)) hb
            have n3_ := bb_ (g := gb314) (o := .cells #[.bool false, .int .u64 0, .int .u64 0, .int .i64 0] 47 (0, 0)) hb
            have n4_ := Aside0.mk (below_step bel_ hb)
            clear BK285
            clear BK286
            clear BK300
            clear BK314
            clear HB
            have BK285 := n0_
            have BK286 := n1_
            have BK300 := n2_
            have BK314 := n3_
            have HB := n4_
            clear n0_ n1_ n2_ n3_ n4_
            (try clear hb)
            (try clear hb2)
            (try clear hk)
            (try clear hi)
            refine hK.out _ _ ⟨bc_, bc_, bc_, bc_, bc_, bc_, bc_, bc_⟩ (fun hHeld => ?_)
            clear hK K
            refine norm_ (a' := ?_) ?_ ?_
            rotate_left
            · show Act.put _ (some 22) _ = _
              simp only [Act.put, la_, lb_, lc_, i64_w, i32_w]
              rfl
            refine pure_ (i := 5) (N := some 17) (v := ?_) (a' := ?_) #[true, true, true, true, true, true, false, false, true, false, false] rfl rfl (any_of HT_.out (by kernel_rfl)) (fun _ _ _ h => h) (Or.inl ⟨by rfl, ?_⟩) ?_ ?_
            rotate_left
            · intro w'
              go_simp
              with_reducible rfl
            rotate_left
            · simp only [Act.put, la_, lb_, lc_, i64_w, i32_w]
              rfl
            refine pure_ (i := 6) (N := some 23) (v := ?_) (a' := ?_) #[true, true, true, true, true, true, true, false, true, false, false] rfl rfl (any_of HT_.out (by kernel_rfl)) (fun _ _ _ h => h) (Or.inl ⟨by rfl, ?_⟩) ?_ ?_
            rotate_left
            · intro w'
              go_simp
              with_reducible rfl
            rotate_left
            · simp only [Act.put, la_, lb_, lc_, i64_w, i32_w]
              rfl
            refine pure_ (i := 7) (N := some 24) (v := ?_) (a' := ?_) #[true, true, true, true, true, true, true, true, true, false, false] rfl rfl (any_of HT_.out (by kernel_rfl)) (fun _ _ _ h => h) (Or.inl ⟨by rfl, ?_⟩) ?_ ?_
            rotate_left
            · intro w'
              go_simp
              with_reducible rfl
            rotate_left
            · simp only [Act.put, la_, lb_, lc_, i64_w, i32_w]
              rfl
            exact norm_ (by simp only [putAll, Act.put, la_, lb_, lc_]) (hCont (gb314) _ ⟨hHeld, bk_, bk_, bk_, bk_, GW314.out, GE314.out, NB285_314.out, NB314_285.out, NB286_314.out, NB314_286.out, NB300_314.out, NB314_300.out, bel_⟩)
        · skip
          refine box_step ?hg (N := 7) ?hd (cs := #[.bool false, .int .u64 0, .int .u64 0, .int .i64 0]) (t := 47) ?hr ?_; (case hd => rfl); (case hg => rfl); (case hr => first | (go_simp; done) | (go_simp; rfl))
          intro gb314 hg w26 hbox hb
          have n0_ := bb_ (g := gb285) (o := .cells #[.bool a0_0, .int .u64 a0_1, .int .u64 a0_2, .int .i64 a0_3] 45 (0, 0)) hb
          have n1_ := bb_ (g := gb286) (o := .cells #[.bool a1_0, .int .u64 a1_1, .int .u64 a1_2, .int .i64 a1_3] 45 (0, 0)) hb
          have n2_ := bb_ (g := gb300) (o := .cells #[.bool t295, .int .u64 t296, .int .u64 t297, .int .i64 t298] 47 (0, 0)) hb
          have n3_ := Aside0.mk (below_step bel_ hb)
          have n4_ := Aside0.mk (hbox)
          have n5_ := bs_ (w := w) hg
          have n6_ := bs_ (w := w) hg
          have n7_ := nlt_ (g := gb285) (o := .cells #[.bool a0_0, .int .u64 a0_1, .int .u64 a0_2, .int .i64 a0_3] 45 (0, 0)) hg
          have n8_ := ngt_ (g := gb285) (o := .cells #[.bool a0_0, .int .u64 a0_1, .int .u64 a0_2, .int .i64 a0_3] 45 (0, 0)) hg
          have n9_ := nlt_ (g := gb286) (o := .cells #[.bool a1_0, .int .u64 a1_1, .int .u64 a1_2, .int .i64 a1_3] 45 (0, 0)) hg
          have n10_ := ngt_ (g := gb286) (o := .cells #[.bool a1_0, .int .u64 a1_1, .int .u64 a1_2, .int .i64 a1_3] 45 (0, 0)) hg
          have n11_ := nlt_ (g := gb300) (o := .cells #[.bool t295, .int .u64 t296, .int .u64 t297, .int .i64 t298] 47 (0, 0)) hg
          have n12_ := ngt_ (g := gb300) (o := .cells #[.bool t295, .int .u64 t296, .int .u64 t297, .int .i64 t298] 47 (0, 0)) hg
          clear BK285
          clear BK286
          clear BK300
          clear HB
          have BK285 := n0_
          have BK286 := n1_
          have BK300 := n2_
          have HB := n3_
          have BK314 := n4_
          have GW314 := n5_
          have GE314 := n6_
          have NB285_314 := n7_
          have NB314_285 := n8_
          have NB286_314 := n9_
          have NB314_286 := n10_
          have NB300_314 := n11_
          have NB314_300 := n12_
          clear n0_ n1_ n2_ n3_ n4_ n5_ n6_ n7_ n8_ n9_ n10_ n11_ n12_
          clear hb hbox hg
          refine hK.out _ _ ⟨bc_, bc_, bc_, bc_, bc_, bc_, bc_, bc_⟩ (fun hHeld => ?_)
          clear hK K
          refine norm_ (a' := ?_) ?_ ?_
          rotate_left
          · show Act.put _ (some 7) _ = _
            simp only [Act.put, la_, lb_, lc_, i64_w, i32_w]
            rfl
          refine one_ (i := 1) (N := some 19) #[true, true, true, false, false, false, false, false, true, false, false] rfl rfl (one_of HT_.out (by kernel_rfl)) (by decide) (fun K hK => ?_)
          refine goes_ Try.func25 (by kernel_rfl) rfl #[.agg #[.bool a0_0, .int .u64 a0_1, .int .u64 a0_2, .int .i64 a0_3]] (by rfl) rfl rfl mp_ ?_
          with_reducible refine (laws_toFrac.calls a0_0 a0_1 a0_2 a0_3 t301 t302 t303 t304 _ A6.out).mono ?_
          rintro e w27 ⟨rfl, hb⟩
          refine ⟨_, rfl, ?_⟩
          have n0_ := bb_ (g := gb285) (o := .cells #[.bool a0_0, .int .u64 a0_1, .int .u64 a0_2, .int .i64 a0_3] 45 (0, 0)) hb
          have n1_ := bb_ (g := gb286) (o := .cells #[.bool a1_0, .int .u64 a1_1, .int .u64 a1_2, .int .i64 a1_3] 45 (0, 0)) hb
          have n2_ := bb_ (g := gb300) (o := .cells #[.bool t295, .int .u64 t296, .int .u64 t297, .int .i64 t298] 47 (0, 0)) hb
          have n3_ := bb_ (g := gb314) (o := .cells #[.bool false, .int .u64 0, .int .u64 0, .int .i64 0] 47 (0, 0)) hb
          have n4_ := Aside0.mk (below_step bel_ hb)
          clear BK285
          clear BK286
          clear BK300
          clear BK314
          clear HB
          have BK285 := n0_
          have BK286 := n1_
          have BK300 := n2_
          have BK314 := n3_
          have HB := n4_
          clear n0_ n1_ n2_ n3_ n4_
          (try clear hb)
          (try clear hb2)
          (try clear hk)
          (try clear hi)
          refine hK.out _ _ ⟨bc_, bc_, bc_, bc_, bc_, bc_, bc_, bc_⟩ (fun hHeld => ?_)
          clear hK K
          refine norm_ (a' := ?_) ?_ ?_
          rotate_left
          · show Act.put _ (some 19) _ = _
            simp only [Act.put, la_, lb_, lc_, i64_w, i32_w]
            rfl
          refine one_ (i := 3) (N := some 21) #[true, true, true, true, false, false, false, false, true, false, false] rfl rfl (one_of HT_.out (by kernel_rfl)) (by decide) (fun K hK => ?_)
          refine goes_ Try.func25 (by kernel_rfl) rfl #[.agg #[.bool a1_0, .int .u64 a1_1, .int .u64 a1_2, .int .i64 a1_3]] (by rfl) rfl rfl mp_ ?_
          with_reducible refine (laws_toFrac.calls a1_0 a1_1 a1_2 a1_3 t305 t306 t307 t308 _ A7.out).mono ?_
          rintro e w28 ⟨rfl, hb⟩
          refine ⟨_, rfl, ?_⟩
          have n0_ := bb_ (g := gb285) (o := .cells #[.bool a0_0, .int .u64 a0_1, .int .u64 a0_2, .int .i64 a0_3] 45 (0, 0)) hb
          have n1_ := bb_ (g := gb286) (o := .cells #[.bool a1_0, .int .u64 a1_1, .int .u64 a1_2, .int .i64 a1_3] 45 (0, 0)) hb
          have n2_ := bb_ (g := gb300) (o := .cells #[.bool t295, .int .u64 t296, .int .u64 t297, .int .i64 t298] 47 (0, 0)) hb
          have n3_ := bb_ (g := gb314) (o := .cells #[.bool false, .int .u64 0, .int .u64 0, .int .i64 0] 47 (0, 0)) hb
          have n4_ := Aside0.mk (below_step bel_ hb)
          clear BK285
          clear BK286
          clear BK300
          clear BK314
          clear HB
          have BK285 := n0_
          have BK286 := n1_
          have BK300 := n2_
          have BK314 := n3_
          have HB := n4_
          clear n0_ n1_ n2_ n3_ n4_
          (try clear hb)
          (try clear hb2)
          (try clear hk)
          (try clear hi)
          refine hK.out _ _ ⟨bc_, bc_, bc_, bc_, bc_, bc_, bc_, bc_⟩ (fun hHeld => ?_)
          clear hK K
          refine norm_ (a' := ?_) ?_ ?_
          rotate_left
          · show Act.put _ (some 21) _ = _
            simp only [Act.put, la_, lb_, lc_, i64_w, i32_w]
            rfl
          refine one_ (i := 4) (N := some 22) #[true, true, true, true, true, false, false, false, true, false, false] rfl rfl (one_of HT_.out (by kernel_rfl)) (by decide) (fun K hK => ?_)
          refine goes_ Try.func26 (by kernel_rfl) rfl #[.agg #[.bool t301, .int .u64 t302, .int .u64 t303, .int .i64 t304], .agg #[.bool t305, .int .u64 t306, .int .u64 t307, .int .i64 t308]] (by rfl) rfl rfl mp_ ?_
          with_reducible refine (impl_AddFrac.calls k t301 t302 t303 t304 t305 t306 t307 t308 t309 t310 t311 t312 t313 _ A8.out).mono ?_
          rintro e w29 ⟨rfl, hb⟩
          refine ⟨_, rfl, ?_⟩
          have n0_ := bb_ (g := gb285) (o := .cells #[.bool a0_0, .int .u64 a0_1, .int .u64 a0_2, .int .i64 a0_3] 45 (0, 0)) hb
          have n1_ := bb_ (g := gb286) (o := .cells #[.bool a1_0, .int .u64 a1_1, .int .u64 a1_2, .int .i64 a1_3] 45 (0, 0)) hb
          have n2_ := bb_ (g := gb300) (o := .cells #[.bool t295, .int .u64 t296, .int .u64 t297, .int .i64 t298] 47 (0, 0)) hb
          have n3_ := bb_ (g := gb314) (o := .cells #[.bool false, .int .u64 0, .int .u64 0, .int .i64 0] 47 (0, 0)) hb
          have n4_ := Aside0.mk (below_step bel_ hb)
          clear BK285
          clear BK286
          clear BK300
          clear BK314
          clear HB
          have BK285 := n0_
          have BK286 := n1_
          have BK300 := n2_
          have BK314 := n3_
          have HB := n4_
          clear n0_ n1_ n2_ n3_ n4_
          (try clear hb)
          (try clear hb2)
          (try clear hk)
          (try clear hi)
          refine hK.out _ _ ⟨bc_, bc_, bc_, bc_, bc_, bc_, bc_, bc_⟩ (fun hHeld => ?_)
          clear hK K
          refine norm_ (a' := ?_) ?_ ?_
          rotate_left
          · show Act.put _ (some 22) _ = _
            simp only [Act.put, la_, lb_, lc_, i64_w, i32_w]
            rfl
          refine pure_ (i := 5) (N := some 17) (v := ?_) (a' := ?_) #[true, true, true, true, true, true, false, false, true, false, false] rfl rfl (any_of HT_.out (by kernel_rfl)) (fun _ _ _ h => h) (Or.inl ⟨by rfl, ?_⟩) ?_ ?_
          rotate_left
          · intro w'
            go_simp
            with_reducible rfl
          rotate_left
          · simp only [Act.put, la_, lb_, lc_, i64_w, i32_w]
            rfl
          refine pure_ (i := 6) (N := some 23) (v := ?_) (a' := ?_) #[true, true, true, true, true, true, true, false, true, false, false] rfl rfl (any_of HT_.out (by kernel_rfl)) (fun _ _ _ h => h) (Or.inl ⟨by rfl, ?_⟩) ?_ ?_
          rotate_left
          · intro w'
            go_simp
            with_reducible rfl
          rotate_left
          · simp only [Act.put, la_, lb_, lc_, i64_w, i32_w]
            rfl
          refine pure_ (i := 7) (N := some 24) (v := ?_) (a' := ?_) #[true, true, true, true, true, true, true, true, true, false, false] rfl rfl (any_of HT_.out (by kernel_rfl)) (fun _ _ _ h => h) (Or.inl ⟨by rfl, ?_⟩) ?_ ?_
          rotate_left
          · intro w'
            go_simp
            with_reducible rfl
          rotate_left
          · simp only [Act.put, la_, lb_, lc_, i64_w, i32_w]
            rfl
          exact norm_ (by simp only [putAll, Act.put, la_, lb_, lc_]) (hCont (gb314) _ ⟨hHeld, bk_, bk_, bk_, bk_, GW314.out, GE314.out, NB285_314.out, NB314_285.out, NB286_314.out, NB314_286.out, NB300_314.out, NB314_300.out, bel_⟩)
      rintro gb314 w30 ⟨hS_, h0_, h1_, h2_, h3_, h4_, h5_, h6_, h7_, h8_, h9_, h10_, h11_, h12_⟩
      have n0_ : Aside0 (w30.heap[gb285]? = some (.cells #[.bool a0_0, .int .u64 a0_1, .int .u64 a0_2, .int .i64 a0_3] 45 (0, 0))) := ⟨h0_⟩
      have n1_ : Aside0 (w30.heap[gb286]? = some (.cells #[.bool a1_0, .int .u64 a1_1, .int .u64 a1_2, .int .i64 a1_3] 45 (0, 0))) := ⟨h1_⟩
      have n2_ : Aside0 (w30.heap[gb300]? = some (.cells #[.bool t295, .int .u64 t296, .int .u64 t297, .int .i64 t298] 47 (0, 0))) := ⟨h2_⟩
      have n3_ : Aside0 (w30.heap[gb314]? = some (.cells #[.bool false, .int .u64 0, .int .u64 0, .int .i64 0] 47 (0, 0))) := ⟨h3_⟩
      have n4_ : Aside0 (w.heap.size ≤ gb314) := ⟨h4_⟩
      have n5_ : Aside0 (w.heap.size ≤ gb314) := ⟨h5_⟩
      have n6_ : Aside0 (gb285 ≠ gb314) := ⟨h6_⟩
      have n7_ : Aside0 (gb314 ≠ gb285) := ⟨h7_⟩
      have n8_ : Aside0 (gb286 ≠ gb314) := ⟨h8_⟩
      have n9_ : Aside0 (gb314 ≠ gb286) := ⟨h9_⟩
      have n10_ : Aside0 (gb300 ≠ gb314) := ⟨h10_⟩
      have n11_ : Aside0 (gb314 ≠ gb300) := ⟨h11_⟩
      have n12_ : Aside0 (Below w.heap.size w w30) := ⟨h12_⟩
      clear BK285
      clear BK286
      clear BK300
      clear HB
      clear h0_ h1_ h2_ h3_ h4_ h5_ h6_ h7_ h8_ h9_ h10_ h11_ h12_
      have BK285 := n0_
      have BK286 := n1_
      have BK300 := n2_
      have BK314 := n3_
      have GW314 := n4_
      have GE314 := n5_
      have NB285_314 := n6_
      have NB314_285 := n7_
      have NB286_314 := n8_
      have NB314_286 := n9_
      have NB300_314 := n10_
      have NB314_300 := n11_
      have HB := n12_
      clear n0_ n1_ n2_ n3_ n4_ n5_ n6_ n7_ n8_ n9_ n10_ n11_ n12_
      have hHeld : w30.cell? ⟨gb285, 0, none⟩ = some (.bool a0_0) ∧ w30.cell? ⟨gb285, 1, none⟩ = some (.int .u64 a0_1) ∧ w30.cell? ⟨gb285, 2, none⟩ = some (.int .u64 a0_2) ∧ w30.cell? ⟨gb285, 3, none⟩ = some (.int .i64 a0_3) ∧ w30.cell? ⟨gb286, 0, none⟩ = some (.bool a1_0) ∧ w30.cell? ⟨gb286, 1, none⟩ = some (.int .u64 a1_1) ∧ w30.cell? ⟨gb286, 2, none⟩ = some (.int .u64 a1_2) ∧ w30.cell? ⟨gb286, 3, none⟩ = some (.int .i64 a1_3) := hS_
      refine norm_ (a' := ?_) ?_ ?_
      rotate_left
      · simp only [putAll, Act.put, la_, lb_, lc_]
        rfl
      refine one_ (i := 9) (N := none) #[true, true, true, true, true, true, true, true, true, true, false] rfl rfl (one_of HT_.out (by kernel_rfl)) (by decide) (fun K hK => ?_)
      have hs31 : w30.cell? ⟨gb314, 0, none⟩ = some (.bool false) := (blk_cell BK314.out 0).trans rfl
      have hfs31 := blk_frozen BK314.out 0
      have hns31_0 := NB285_314.out
      have hns31_1 := NB286_314.out
      have hns31_2 := NB300_314.out
      have hms31_0 := NB314_285.out
      have hms31_1 := NB314_286.out
      have hms31_2 := NB314_300.out
      have hs32 : w30.cell? ⟨gb314, 1, none⟩ = some (.int .u64 0) := (blk_cell BK314.out 1).trans rfl
      have hfs32 := blk_frozen BK314.out 1
      have hns32_0 := NB285_314.out
      have hns32_1 := NB286_314.out
      have hns32_2 := NB300_314.out
      have hms32_0 := NB314_285.out
      have hms32_1 := NB314_286.out
      have hms32_2 := NB314_300.out
      have hs33 : w30.cell? ⟨gb314, 2, none⟩ = some (.int .u64 0) := (blk_cell BK314.out 2).trans rfl
      have hfs33 := blk_frozen BK314.out 2
      have hns33_0 := NB285_314.out
      have hns33_1 := NB286_314.out
      have hns33_2 := NB300_314.out
      have hms33_0 := NB314_285.out
      have hms33_1 := NB314_286.out
      have hms33_2 := NB314_300.out
      have hs34 : w30.cell? ⟨gb314, 3, none⟩ = some (.int .i64 0) := (blk_cell BK314.out 3).trans rfl
      have hfs34 := blk_frozen BK314.out 3
      have hns34_0 := NB285_314.out
      have hns34_1 := NB286_314.out
      have hns34_2 := NB300_314.out
      have hms34_0 := NB314_285.out
      have hms34_1 := NB314_286.out
      have hms34_2 := NB314_300.out
      refine skip_ (w1 := ?_) (by rfl) rfl ?_ ?_
      rotate_left
      · go_simp
        rfl
      refine hK.out _ _ ⟨((cell_far (p := ⟨gb314, _, none⟩) NB285_314.out _).trans (((cell_far (p := ⟨gb314, _, none⟩) NB285_314.out _).trans (((cell_far (p := ⟨gb314, _, none⟩) NB285_314.out _).trans (((cell_far (p := ⟨gb314, _, none⟩) NB285_314.out _).trans (hHeld.1)))))))), ((cell_far (p := ⟨gb314, _, none⟩) NB285_314.out _).trans (((cell_far (p := ⟨gb314, _, none⟩) NB285_314.out _).trans (((cell_far (p := ⟨gb314, _, none⟩) NB285_314.out _).trans (((cell_far (p := ⟨gb314, _, none⟩) NB285_314.out _).trans (hHeld.2.1)))))))), ((cell_far (p := ⟨gb314, _, none⟩) NB285_314.out _).trans (((cell_far (p := ⟨gb314, _, none⟩) NB285_314.out _).trans (((cell_far (p := ⟨gb314, _, none⟩) NB285_314.out _).trans (((cell_far (p := ⟨gb314, _, none⟩) NB285_314.out _).trans (hHeld.2.2.1)))))))), ((cell_far (p := ⟨gb314, _, none⟩) NB285_314.out _).trans (((cell_far (p := ⟨gb314, _, none⟩) NB285_314.out _).trans (((cell_far (p := ⟨gb314, _, none⟩) NB285_314.out _).trans (((cell_far (p := ⟨gb314, _, none⟩) NB285_314.out _).trans (hHeld.2.2.2.1)))))))), ((cell_far (p := ⟨gb314, _, none⟩) NB286_314.out _).trans (((cell_far (p := ⟨gb314, _, none⟩) NB286_314.out _).trans (((cell_far (p := ⟨gb314, _, none⟩) NB286_314.out _).trans (((cell_far (p := ⟨gb314, _, none⟩) NB286_314.out _).trans (hHeld.2.2.2.2.1)))))))), ((cell_far (p := ⟨gb314, _, none⟩) NB286_314.out _).trans (((cell_far (p := ⟨gb314, _, none⟩) NB286_314.out _).trans (((cell_far (p := ⟨gb314, _, none⟩) NB286_314.out _).trans (((cell_far (p := ⟨gb314, _, none⟩) NB286_314.out _).trans (hHeld.2.2.2.2.2.1)))))))), ((cell_far (p := ⟨gb314, _, none⟩) NB286_314.out _).trans (((cell_far (p := ⟨gb314, _, none⟩) NB286_314.out _).trans (((cell_far (p := ⟨gb314, _, none⟩) NB286_314.out _).trans (((cell_far (p := ⟨gb314, _, none⟩) NB286_314.out _).trans (hHeld.2.2.2.2.2.2.1)))))))), ((cell_far (p := ⟨gb314, _, none⟩) NB286_314.out _).trans (((cell_far (p := ⟨gb314, _, none⟩) NB286_314.out _).trans (((cell_far (p := ⟨gb314, _, none⟩) NB286_314.out _).trans (((cell_far (p := ⟨gb314, _, none⟩) NB286_314.out _).trans (hHeld.2.2.2.2.2.2.2))))))))⟩ (fun hHeld => ?_)
      clear hK K
      refine pure_ (i := 10) (N := some 8) (v := ?_) (a' := ?_) #[true, true, true, true, true, true, true, true, true, true, true] rfl rfl (any_of HT_.out (by kernel_rfl)) (fun _ _ _ h => h) (Or.inl ⟨by rfl, ?_⟩) ?_ ?_
      rotate_left
      · intro w'
        go_simp
        with_reducible rfl
      rotate_left
      · simp only [Act.put, la_, lb_, lc_, i64_w, i32_w]
        rfl
      refine done_ (done_of HT_.out (by kernel_rfl)) ?_
      have hnb35 := NB314_285.out
      have hnc35 := NB285_314.out
      have hnb36 := NB314_286.out
      have hnc36 := NB286_314.out
      have hnb37 := NB314_300.out
      have hnc37 := NB300_314.out
      obtain ⟨hcz38_0, hcz38_1, hcz38_2, hcz38_3, hfz38_0, hfz38_1, hfz38_2, hfz38_3⟩ := cf4_ (w := w30) BK314.out
      have hnb39 := NB300_285.out
      have hnc39 := NB285_300.out
      have hnb40 := NB300_286.out
      have hnc40 := NB286_300.out
      obtain ⟨hcz41_0, hcz41_1, hcz41_2, hcz41_3, hfz41_0, hfz41_1, hfz41_2, hfz41_3⟩ := cf4_ (w := w30) BK300.out
      try go_wp2_with (first | ((with_reducible refine gate_callee (f := 27) rfl ?_); refine goesL_ (some 27) rfl rfl Try.func27 (by kernel_rfl) rfl #[.agg #[.bool t309, .int .u64 t310, .int .u64 t311, .int .i64 t312], .agg #[.bool t295, .int .u64 t296, .int .u64 t297, .int .i64 t298]] rfl mp_ ?_; (with_reducible refine (laws_eqFrac.calls t309 t310 t311 t312 t295 t296 t297 t298 true _ A9.out).mono ?_); rintro e w42 ⟨rfl, hb⟩; refine ⟨_, rfl, ?_⟩; have n0_ := Aside0.mk (blk_below (g := gb285) (o := .cells #[.bool a0_0, .int .u64 a0_1, .int .u64 a0_2, .int .i64 a0_3] 45 (0, 0)) bk_ hb); have n1_ := Aside0.mk (blk_below (g := gb286) (o := .cells #[.bool a1_0, .int .u64 a1_1, .int .u64 a1_2, .int .i64 a1_3] 45 (0, 0)) bk_ hb); have n2_ := Aside0.mk (blk_below (g := gb300) (o := .cells #[.bool t295, .int .u64 t296, .int .u64 t297, .int .i64 t298] 47 (0, 0)) bk_ hb); have n3_ := Aside0.mk (blk_below (g := gb314) (o := .cells #[.bool t309, .int .u64 t310, .int .u64 t311, .int .i64 t312] 47 (0, 0)) (pu_ #[.bool t309, .int .u64 t310, .int .u64 t311, .int .i64 0] 3 (h := (pu_ #[.bool t309, .int .u64 t310, .int .u64 0, .int .i64 0] 2 (h := (pu_ #[.bool t309, .int .u64 0, .int .u64 0, .int .i64 0] 1 (h := (pu_ #[.bool false, .int .u64 0, .int .u64 0, .int .i64 0] 0 (h := bk_)))))))) hb); have n4_ := Aside0.mk (below_step bel_ hb); clear BK285; clear BK286; clear BK300; clear BK314; clear HB; have BK285 := n0_; have BK286 := n1_; have BK300 := n2_; have BK314 := n3_; have HB := n4_; clear n0_ n1_ n2_ n3_ n4_; (try clear hb); (try clear hb2); (try clear hk); (try clear hi)))
      go_ret
      exact ⟨by first | rfl | (simp [errW_none, errW_some] <;> rfl) | (simp [*, errW_none, errW_some] <;> rfl), by repeat (first | (with_reducible first | exact HB.out | apply below_alloc | apply pw_below_drewN | apply below_drew1 | refine below_set ?_ GE285.out | refine below_set ?_ GE286.out | refine below_set ?_ GE300.out | refine below_set ?_ GE314.out) | exact HB.out)⟩
  · replace c10 := Bool.eq_false_iff.mpr c10
    subst c10
    have H1 : (some false) = some r := by rw [if_neg (show ¬ (false = true) by decide)] at H; exact H
    clear H
    have H := H1
    clear H1
    exact absurd ((Option.some.inj H).trans hrt.out) (by decide)

end Go.Proofs.Ytodbmgnhcglcnaa.PFnExactAddFrac
