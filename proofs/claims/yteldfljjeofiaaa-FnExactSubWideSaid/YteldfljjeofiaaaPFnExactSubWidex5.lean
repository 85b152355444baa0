/- Contracts of Go functions, each with the Lean function that says what it computes: begun by the print, turned by this session. No condition beyond what each theorem states. -/
import Derived.Test.YteldfljjeofiaaaPFnExactSubWidex0
import Derived.Test.YteldfljjeofiaaaPFnExactSubWidex1
import Derived.Test.YteldfljjeofiaaaPFnExactSubWidex3
import Derived.Test.YteldfljjeofiaaaPFnExactSubWidex4
namespace Go.Proofs.Yteldfljjeofiaaa.PFnExactSubWide
open Go.RowKit Go.Proofs.YteldfljjeofiaaaW.PrintWords Go.Proofs.YteldfljjeofiaaaW.PrintLast Go.Proofs.YteldfljjeofiaaaW.PrintMore
attribute [local go_sem] max2_int min2_int max_two min_two max_three min_three max_four min_four   -- for this text's walks alone
set_option linter.unusedVariables false
set_option linter.unusedSimpArgs false

/-! ### laws_FnExactSubWide: function 12 -/
def laws_FnExactSubWide.f (k : Nat) (a0_0 : Bool) (a0_1 : Int) (a0_2 : Int) (a1_0 : Bool) (a1_1 : Int) (a1_2 : Int) : Option (Bool) := (laws_toWide.f a0_0 a0_1 a0_2).bind fun bt197 => ((laws_toWide.f a1_0 a1_1 a1_2).bind fun bt200 => ((spec_SubWide.f k bt197.1 bt197.2.1 bt197.2.2 bt200.1 bt200.2.1 bt200.2.2).bind fun bt203 => ((laws_toWide.f a0_0 a0_1 a0_2).bind fun bt208 => ((laws_toWide.f a1_0 a1_1 a1_2).bind fun bt211 => ((impl_SubWide.f k bt208.1 bt208.2.1 bt208.2.2 bt211.1 bt211.2.1 bt211.2.2).bind fun bt214 => ((laws_eqWide.f bt214.1 bt214.2.1 bt214.2.2.1 bt203.1 bt203.2.1 bt203.2.2.1).bind fun t219 => (if t219 = true then (if (bt214.2.2.2 != bt203.2.2.2) = true then (some false) else (some true)) else (some false))))))))
theorem laws_FnExactSubWide.mono : ∀ a0 a1 a2 a3 a4 a5 k, LeO (laws_FnExactSubWide.f k a0 a1 a2 a3 a4 a5) (laws_FnExactSubWide.f (k + 1) a0 a1 a2 a3 a4 a5) := by
  intro a0 a1 a2 a3 a4 a5 k
  unfold laws_FnExactSubWide.f
  repeat' first
      | (with_reducible exact impl_SubWide.mono _ _ _ _ _ _ _)
      | (with_reducible exact spec_SubWide.mono _ _ _ _ _ _ _)
      | (with_reducible exact LeO.refl _)
      | (with_reducible exact LeO.none _)
      | (with_reducible refine LeO.ite ?_ ?_)
      | (with_reducible refine LeO.bind ?_ (fun _ => ?_))
      | exact impl_SubWide.mono _ _ _ _ _ _ _
      | exact spec_SubWide.mono _ _ _ _ _ _ _
      | exact LeO.none _
      | refine LeO.ite ?_ ?_
      | refine LeO.bind ?_ (fun _ => ?_)
def laws_FnExactSubWide.T1 : Bool × List (List Nat × List Nat) := (true, [([], []), ([0], [0]), ([], []), ([2, 1], [2]), ([1, 3, 3], [1, 3]), ([4], [4]), ([5], [5]), ([5], [5]), ([], []), ([8, 6, 4, 0, 1, 2, 3, 4, 5, 6, 8], [6, 8]), ([7, 9, 0, 1, 2, 3, 4, 5, 6, 7, 8, 9], [7])])
def laws_FnExactSubWide.B1 : List Nat := [0, 1, 0, 7, 15, 31, 63, 63, 0, 383, 1023]
theorem laws_FnExactSubWide.tab1 : rtab .any (opsOf Try.f12 1) = laws_FnExactSubWide.T1 := by kernel_rfl
theorem laws_FnExactSubWide.bits1 : waitsOk laws_FnExactSubWide.T1.2 laws_FnExactSubWide.B1 = true := by kernel_rfl
def laws_FnExactSubWide.T2 : Bool × List (List Nat × List Nat) := (true, [([], []), ([0], [0]), ([], []), ([2, 1], [2]), ([1, 3, 3], [1, 3]), ([4], [4]), ([5], [5]), ([5], [5]), ([], []), ([8, 6, 4, 0, 1, 2, 3, 4, 5, 6, 8], [6, 8]), ([7, 9, 0, 1, 2, 3, 4, 5, 6, 7, 8, 9], [7])])
def laws_FnExactSubWide.B2 : List Nat := [0, 1, 0, 7, 15, 31, 63, 63, 0, 383, 1023]
theorem laws_FnExactSubWide.tab2 : rtab .any (opsOf Try.f12 2) = laws_FnExactSubWide.T2 := by kernel_rfl
theorem laws_FnExactSubWide.bits2 : waitsOk laws_FnExactSubWide.T2.2 laws_FnExactSubWide.B2 = true := by kernel_rfl
set_option maxHeartbeats 8000000 in
set_option maxRecDepth 100000 in
theorem laws_FnExactSubWide.calls (k : Nat) (a0_0 : Bool) (a0_1 : Int) (a0_2 : Int) (a1_0 : Bool) (a1_1 : Int) (a1_2 : Int) (r : Bool) (w : World) (h : laws_FnExactSubWide.f k a0_0 a0_1 a0_2 a1_0 a1_1 a1_2 = some r) (hrt : Aside0 (r = true)) :
    Calls Try.prog 12 #[.agg #[.bool a0_0, .int .u64 a0_1, .int .u64 a0_2], .agg #[.bool a1_0, .int .u64 a1_1, .int .u64 a1_2]] w fun e w' => e = .returned (.bool r) ∧ Below w.heap.size w w' := by
  have hu32 := Try.underlying32
  have hu33 := Try.underlying33
  have HB := Aside0.mk (Below.refl w.heap.size w)
  have H : ((laws_toWide.f a0_0 a0_1 a0_2).bind fun bt197 => ((laws_toWide.f a1_0 a1_1 a1_2).bind fun bt200 => ((spec_SubWide.f k bt197.1 bt197.2.1 bt197.2.2 bt200.1 bt200.2.1 bt200.2.2).bind fun bt203 => ((laws_toWide.f a0_0 a0_1 a0_2).bind fun bt208 => ((laws_toWide.f a1_0 a1_1 a1_2).bind fun bt211 => ((impl_SubWide.f k bt208.1 bt208.2.1 bt208.2.2 bt211.1 bt211.2.1 bt211.2.2).bind fun bt214 => ((laws_eqWide.f bt214.1 bt214.2.1 bt214.2.2.1 bt203.1 bt203.2.1 bt203.2.2.1).bind fun t219 => (if t219 = true then (if (bt214.2.2.2 != bt203.2.2.2) = true then (some false) else (some true)) else (some false))))))))) = some r := h
  clear h
  replace H := Option.bind_eq_some_iff.mp H
  obtain ⟨⟨t197, t198, t199⟩, A30, H⟩ := H
  replace H : ((laws_toWide.f a1_0 a1_1 a1_2).bind fun bt200 => ((spec_SubWide.f k t197 t198 t199 bt200.1 bt200.2.1 bt200.2.2).bind fun bt203 => ((laws_toWide.f a0_0 a0_1 a0_2).bind fun bt208 => ((laws_toWide.f a1_0 a1_1 a1_2).bind fun bt211 => ((impl_SubWide.f k bt208.1 bt208.2.1 bt208.2.2 bt211.1 bt211.2.1 bt211.2.2).bind fun bt214 => ((laws_eqWide.f bt214.1 bt214.2.1 bt214.2.2.1 bt203.1 bt203.2.1 bt203.2.2.1).bind fun t219 => (if t219 = true then (if (bt214.2.2.2 != bt203.2.2.2) = true then (some false) else (some true)) else (some false)))))))) = some r := H
  have A3 := Aside0.mk A30
  clear A30
  replace H := Option.bind_eq_some_iff.mp H
  obtain ⟨⟨t200, t201, t202⟩, A40, H⟩ := H
  replace H : ((spec_SubWide.f k t197 t198 t199 t200 t201 t202).bind fun bt203 => ((laws_toWide.f a0_0 a0_1 a0_2).bind fun bt208 => ((laws_toWide.f a1_0 a1_1 a1_2).bind fun bt211 => ((impl_SubWide.f k bt208.1 bt208.2.1 bt208.2.2 bt211.1 bt211.2.1 bt211.2.2).bind fun bt214 => ((laws_eqWide.f bt214.1 bt214.2.1 bt214.2.2.1 bt203.1 bt203.2.1 bt203.2.2.1).bind fun t219 => (if t219 = true then (if (bt214.2.2.2 != bt203.2.2.2) = true then (some false) else (some true)) else (some false))))))) = some r := H
  have A4 := Aside0.mk A40
  clear A40
  replace H := Option.bind_eq_some_iff.mp H
  obtain ⟨⟨t203, t204, t205, t206⟩, A50, H⟩ := H
  replace H : ((laws_toWide.f a0_0 a0_1 a0_2).bind fun bt208 => ((laws_toWide.f a1_0 a1_1 a1_2).bind fun bt211 => ((impl_SubWide.f k bt208.1 bt208.2.1 bt208.2.2 bt211.1 bt211.2.1 bt211.2.2).bind fun bt214 => ((laws_eqWide.f bt214.1 bt214.2.1 bt214.2.2.1 t203 t204 t205).bind fun t219 => (if t219 = true then (if (bt214.2.2.2 != t206) = true then (some false) else (some true)) else (some false)))))) = some r := H
  have A5 := Aside0.mk A50
  clear A50
  replace H := Option.bind_eq_some_iff.mp H
  obtain ⟨⟨t208, t209, t210⟩, A60, H⟩ := H
  replace H : ((laws_toWide.f a1_0 a1_1 a1_2).bind fun bt211 => ((impl_SubWide.f k t208 t209 t210 bt211.1 bt211.2.1 bt211.2.2).bind fun bt214 => ((laws_eqWide.f bt214.1 bt214.2.1 bt214.2.2.1 t203 t204 t205).bind fun t219 => (if t219 = true then (if (bt214.2.2.2 != t206) = true then (some false) else (some true)) else (some false))))) = some r := H
  have A6 := Aside0.mk A60
  clear A60
  replace H := Option.bind_eq_some_iff.mp H
  obtain ⟨⟨t211, t212, t213⟩, A70, H⟩ := H
  replace H : ((impl_SubWide.f k t208 t209 t210 t211 t212 t213).bind fun bt214 => ((laws_eqWide.f bt214.1 bt214.2.1 bt214.2.2.1 t203 t204 t205).bind fun t219 => (if t219 = true then (if (bt214.2.2.2 != t206) = true then (some false) else (some true)) else (some false)))) = some r := H
  have A7 := Aside0.mk A70
  clear A70
  replace H := Option.bind_eq_some_iff.mp H
  obtain ⟨⟨t214, t215, t216, t217⟩, A80, H⟩ := H
  replace H : ((laws_eqWide.f t214 t215 t216 t203 t204 t205).bind fun t219 => (if t219 = true then (if (t217 != t206) = true then (some false) else (some true)) else (some false))) = some r := H
  have A8 := Aside0.mk A80
  clear A80
  replace H := Option.bind_eq_some_iff.mp H
  obtain ⟨t219, A90, H⟩ := H
  replace H : (if t219 = true then (if (t217 != t206) = true then (some false) else (some true)) else (some false)) = some r := H
  have A9 := Aside0.mk A90
  clear A90
  by_cases c10 : t219 = true
  · subst c10
    have H1 : (if (t217 != t206) = true then (some false) else (some true)) = some r := by rw [if_pos rfl] at H; exact H
    clear H
    have H := H1
    clear H1
    by_cases c11 : (t217 != t206) = true
    · rw [if_pos c11] at H
      have c11b0 : (t217 != t206) = true := c11
      (try (have c11b1 : decide (t217 = t206) = false := by simpa using c11))
      (try (have c11b2 : (t217 == t206) = false := by simpa using c11))
      (try (have c11b3 : ¬ (t217 = t206) := by simpa using c11))
      clear c11
      exact absurd ((Option.some.inj H).trans hrt.out) (by decide)
    · rw [if_neg c11] at H
      have c11b0 : (t217 != t206) = false := by simpa using c11
      (try (have c11b1 : decide (t217 = t206) = true := by simpa using c11))
      (try (have c11b2 : (t217 == t206) = true := by simpa using c11))
      clear c11
      obtain rfl := Option.some.inj H
      go_enter Try.func12, Try.ntmps12
      try go_wp2_with (first | ((with_reducible refine gate_dst (N := 2) rfl ?_); refine box_event ?hg (N := 2) ?hd (cs := #[.bool a0_0, .int .u64 a0_1, .int .u64 a0_2]) (t := 32) ?hr ?_; (case hd => rfl); (case hg => rfl); (case hr => first | (go_simp; done) | (go_simp; rfl)); intro gb195 hg w12 hbox hb; have n0_ := Aside0.mk (below_step bel_ hb); have n1_ := Aside0.mk (hbox); have n2_ := Aside0.mk ((by rw [hg]; exact (below_size bel_) : w.heap.size ≤ gb195)); have n3_ := Aside0.mk ((by rw [hg]; exact (below_size bel_) : w.heap.size ≤ gb195)); clear HB; have HB := n0_; have BK195 := n1_; have GW195 := n2_; have GE195 := n3_; clear n0_ n1_ n2_ n3_; clear hb hbox hg) | ((with_reducible refine gate_dst (N := 3) rfl ?_); refine box_event ?hg (N := 3) ?hd (cs := #[.bool a1_0, .int .u64 a1_1, .int .u64 a1_2]) (t := 32) ?hr ?_; (case hd => rfl); (case hg => rfl); (case hr => first | (go_simp; done) | (go_simp; rfl)); intro gb196 hg w13 hbox hb; have n0_ := bb_ (g := gb195) (o := .cells #[.bool a0_0, .int .u64 a0_1, .int .u64 a0_2] 32 (0, 0)) hb; have n1_ := Aside0.mk (below_step bel_ hb); have n2_ := Aside0.mk (hbox); have n3_ := Aside0.mk ((by rw [hg]; exact (below_size bel_) : w.heap.size ≤ gb196)); have n4_ := Aside0.mk ((by rw [hg]; exact (below_size bel_) : w.heap.size ≤ gb196)); have n5_ := nlt_ (g := gb195) (o := .cells #[.bool a0_0, .int .u64 a0_1, .int .u64 a0_2] 32 (0, 0)) hg; have n6_ := ngt_ (g := gb195) (o := .cells #[.bool a0_0, .int .u64 a0_1, .int .u64 a0_2] 32 (0, 0)) hg; clear BK195; clear HB; have BK195 := n0_; have HB := n1_; have BK196 := n2_; have GW196 := n3_; have GE196 := n4_; have NB195_196 := n5_; have NB196_195 := n6_; clear n0_ n1_ n2_ n3_ n4_ n5_ n6_; clear hb hbox hg))
      have n0_ := Aside0.mk (blk_drew BK195.out)
      have n1_ := Aside0.mk (blk_drew BK196.out)
      have n2_ := Aside0.mk (below_drew1 HB.out)
      clear BK195
      clear BK196
      clear HB
      have BK195 := n0_
      have BK196 := n1_
      have HB := n2_
      clear n0_ n1_ n2_
      refine start_ (n := 11) (S := fun w' => w'.cell? ⟨gb195, 0, none⟩ = some (.bool a0_0) ∧ w'.cell? ⟨gb195, 1, none⟩ = some (.int .u64 a0_1) ∧ w'.cell? ⟨gb195, 2, none⟩ = some (.int .u64 a0_2) ∧ w'.cell? ⟨gb196, 0, none⟩ = some (.bool a1_0) ∧ w'.cell? ⟨gb196, 1, none⟩ = some (.int .u64 a1_1) ∧ w'.cell? ⟨gb196, 2, none⟩ = some (.int .u64 a1_2)) (ds := []) #[false, false, false, false, false, false, false, false, false, false, false] (by kernel_rfl) rfl rfl ⟨bc_, bc_, bc_, bc_, bc_, bc_⟩ (fun hHeld => ?_); refine with_tabW laws_FnExactSubWide.tab1 laws_FnExactSubWide.bits1 (fun HT_ HW_ => ?_)
      generalize w13.drew = w14 at BK195 BK196 HB hHeld ⊢
      refine take_ (i := 0) (N := some 10) (v := ?_) (a' := ?_) #[true, false, false, false, false, false, false, false, false, false, false] rfl rfl (take_ofW HT_.out HW_.out (by kernel_rfl)) (fun _ _ _ h => h) (Or.inl ⟨by rfl, ?_⟩) hHeld ?_ ?_
      rotate_left
      · rintro w' ⟨s0, s1, s2, s3, s4, s5⟩
        go_simp
        with_reducible rfl
      rotate_left
      · simp only [Act.put, la_, lb_, lc_, i64_w, i32_w]
        rfl
      refine take_ (i := 2) (N := some 12) (v := ?_) (a' := ?_) #[true, false, true, false, false, false, false, false, false, false, false] rfl rfl (take_ofW HT_.out HW_.out (by kernel_rfl)) (fun _ _ _ h => h) (Or.inl ⟨by rfl, ?_⟩) hHeld ?_ ?_
      rotate_left
      · rintro w' ⟨s0, s1, s2, s3, s4, s5⟩
        go_simp
        with_reducible rfl
      rotate_left
      · simp only [Act.put, la_, lb_, lc_, i64_w, i32_w]
        rfl
      refine join_ (σ := Nat) 2 #[true, true, true, true, true, true, true, true, true, false, false] (fun s_ => [(11, .agg #[.bool t197, .int .u64 t198, .int .u64 t199]), (13, .agg #[.bool t200, .int .u64 t201, .int .u64 t202]), (14, .tuple #[.agg #[.bool t203, .int .u64 t204, .int .u64 t205], .bool t206]), (5, .pointer (some ⟨s_, 0, none⟩)), (9, .tuple #[.agg #[.bool t203, .int .u64 t204, .int .u64 t205], .bool t206]), (15, .agg #[.bool t203, .int .u64 t204, .int .u64 t205]), (16, .bool t206)]) (fun s_ w' => (w'.cell? ⟨gb195, 0, none⟩ = some (.bool a0_0) ∧ w'.cell? ⟨gb195, 1, none⟩ = some (.int .u64 a0_1) ∧ w'.cell? ⟨gb195, 2, none⟩ = some (.int .u64 a0_2) ∧ w'.cell? ⟨gb196, 0, none⟩ = some (.bool a1_0) ∧ w'.cell? ⟨gb196, 1, none⟩ = some (.int .u64 a1_1) ∧ w'.cell? ⟨gb196, 2, none⟩ = some (.int .u64 a1_2)) ∧ (w'.heap[gb195]? = some (.cells #[.bool a0_0, .int .u64 a0_1, .int .u64 a0_2] 32 (0, 0))) ∧ (w'.heap[gb196]? = some (.cells #[.bool a1_0, .int .u64 a1_1, .int .u64 a1_2] 32 (0, 0))) ∧ (w'.heap[s_]? = some (.cells #[.bool false, .int .u64 0, .int .u64 0] 33 (0, 0))) ∧ (w.heap.size ≤ s_) ∧ (w.heap.size ≤ s_) ∧ (gb195 ≠ s_) ∧ (s_ ≠ gb195) ∧ (gb196 ≠ s_) ∧ (s_ ≠ gb196) ∧ (Below w.heap.size w w')) ?_ ?_
      rotate_left
      · intro hCont
        refine two_ (i := 1) (j := 8) (Ni := some 11) (Nj := some 5) #[true, true, true, false, false, false, false, false, false, false, false] #[true, false, true, false, false, false, false, false, true, false, false] rfl rfl rfl rfl (two_of HT_.out (by kernel_rfl)) (by decide) (by decide) (fun K hK => ?_) (fun K hK => ?_)
        · skip
          refine goes_ Try.func20 (by kernel_rfl) rfl #[.agg #[.bool a0_0, .int .u64 a0_1, .int .u64 a0_2]] (by rfl) rfl rfl mp_ ?_
          with_reducible refine (laws_toWide.calls a0_0 a0_1 a0_2 t197 t198 t199 _ A3.out).mono ?_
          rintro e w15 ⟨rfl, hb⟩
          refine ⟨_, rfl, ?_⟩
          have n0_ := bb_ (g := gb195) (o := .cells #[.bool a0_0, .int .u64 a0_1, .int .u64 a0_2] 32 (0, 0)) hb
          have n1_ := bb_ (g := gb196) (o := .cells #[.bool a1_0, .int .u64 a1_1, .int .u64 a1_2] 32 (0, 0)) hb
          have n2_ := Aside0.mk (below_step bel_ hb)
          clear BK195
          clear BK196
          clear HB
          have BK195 := n0_
          have BK196 := n1_
          have HB := n2_
          clear n0_ n1_ n2_
          (try clear hb)
          (try clear hb2)
          (try clear hk)
          (try clear hi)
          refine hK.out _ _ ⟨bc_, bc_, bc_, bc_, bc_, bc_⟩ (fun hHeld => ?_)
          clear hK K
          refine norm_ (a' := ?_) ?_ ?_
          rotate_left
          · show Act.put _ (some 11) _ = _
            simp only [Act.put, la_, lb_, lc_, i64_w, i32_w]
            rfl
          refine two_ (i := 3) (j := 8) (Ni := some 13) (Nj := some 5) #[true, true, true, true, false, false, false, false, false, false, false] #[true, true, true, false, false, false, false, false, true, false, false] rfl rfl rfl rfl (two_of HT_.out (by kernel_rfl)) (by decide) (by decide) (fun K hK => ?_) (fun K hK => ?_)
          · skip
            refine goes_ Try.func20 (by kernel_rfl) rfl #[.agg #[.bool a1_0, .int .u64 a1_1, .int .u64 a1_2]] (by rfl) rfl rfl mp_ ?_
            with_reducible refine (laws_toWide.calls a1_0 a1_1 a1_2 t200 t201 t202 _ A4.out).mono ?_
            rintro e w16 ⟨rfl, hb⟩
            refine ⟨_, rfl, ?_⟩
            have n0_ := bb_ (g := gb195) (o := .cells #[.bool a0_0, .int .u64 a0_1, .int .u64 a0_2] 32 (0, 0)) hb
            have n1_ := bb_ (g := gb196) (o := .cells #[.bool a1_0, .int .u64 a1_1, .int .u64 a1_2] 32 (0, 0)) hb
            have n2_ := Aside0.mk (below_step bel_ hb)
            clear BK195
            clear BK196
            clear HB
            have BK195 := n0_
            have BK196 := n1_
            have HB := n2_
            clear n0_ n1_ n2_
            (try clear hb)
            (try clear hb2)
            (try clear hk)
            (try clear hi)
            refine hK.out _ _ ⟨bc_, bc_, bc_, bc_, bc_, bc_⟩ (fun hHeld => ?_)
            clear hK K
            refine norm_ (a' := ?_) ?_ ?_
            rotate_left
            · show Act.put _ (some 13) _ = _
              simp only [Act.put, la_, lb_, lc_, i64_w, i32_w]
              rfl
            refine two_ (i := 4) (j := 8) (Ni := some 14) (Nj := some 5) #[true, true, true, true, true, false, false, false, false, false, false] #[true, true, true, true, false, false, false, false, true, false, false] rfl rfl rfl rfl (two_of HT_.out (by kernel_rfl)) (by decide) (by decide) (fun K hK => ?_) (fun K hK => ?_)
            · skip
              refine goes_ Try.func45 (by kernel_rfl) rfl #[.agg #[.bool t197, .int .u64 t198, .int .u64 t199], .agg #[.bool t200, .int .u64 t201, .int .u64 t202]] (by rfl) rfl rfl mp_ ?_
              with_reducible refine (spec_SubWide.calls k t197 t198 t199 t200 t201 t202 t203 t204 t205 t206 _ A5.out).mono ?_
              rintro e w17 ⟨rfl, hb⟩
              refine ⟨_, rfl, ?_⟩
              have n0_ := bb_ (g := gb195) (o := .cells #[.bool a0_0, .int .u64 a0_1, .int .u64 a0_2] 32 (0, 0)) hb
              have n1_ := bb_ (g := gb196) (o := .cells #[.bool a1_0, .int .u64 a1_1, .int .u64 a1_2] 32 (0, 0)) hb
              have n2_ := Aside0.mk (below_step bel_ hb)
              clear BK195
              clear BK196
              clear HB
              have BK195 := n0_
              have BK196 := n1_
              have HB := n2_
              clear n0_ n1_ n2_
              (try clear hb)
              (try clear hb2)
              (try clear hk)
              (try clear hi)
              refine hK.out _ _ ⟨bc_, bc_, bc_, bc_, bc_, bc_⟩ (fun hHeld => ?_)
              clear hK K
              refine norm_ (a' := ?_) ?_ ?_
              rotate_left
              · show Act.put _ (some 14) _ = _
                simp only [Act.put, la_, lb_, lc_, i64_w, i32_w]
                rfl
              refine pure_ (i := 5) (N := some 9) (v := ?_) (a' := ?_) #[true, true, true, true, true, true, false, false, false, false, false] rfl rfl (any_of HT_.out (by kernel_rfl)) (fun _ _ _ h => h) (Or.inl ⟨by rfl, ?_⟩) ?_ ?_
              rotate_left
              · intro w'
                go_simp
                with_reducible rfl
              rotate_left
              · simp only [Act.put, la_, lb_, lc_, i64_w, i32_w]
                rfl
              refine pure_ (i := 6) (N := some 15) (v := ?_) (a' := ?_) #[true, true, true, true, true, true, true, false, false, false, false] rfl rfl (any_of HT_.out (by kernel_rfl)) (fun _ _ _ h => h) (Or.inl ⟨by rfl, ?_⟩) ?_ ?_
              rotate_left
              · intro w'
                go_simp
                with_reducible rfl
              rotate_left
              · simp only [Act.put, la_, lb_, lc_, i64_w, i32_w]
                rfl
              refine pure_ (i := 7) (N := some 16) (v := ?_) (a' := ?_) #[true, true, true, true, true, true, true, true, false, false, false] rfl rfl (any_of HT_.out (by kernel_rfl)) (fun _ _ _ h => h) (Or.inl ⟨by rfl, ?_⟩) ?_ ?_
              rotate_left
              · intro w'
                go_simp
                with_reducible rfl
              rotate_left
              · simp only [Act.put, la_, lb_, lc_, i64_w, i32_w]
                rfl
              refine one_ (i := 8) (N := some 5) #[true, true, true, true, true, true, true, true, true, false, false] rfl rfl (one_of HT_.out (by kernel_rfl)) (by decide) (fun K hK => ?_)
              refine box_step ?hg (N := 5) ?hd (cs := #[.bool false, .int .u64 0, .int .u64 0]) (t := 33) ?hr ?_; (case hd => rfl); (case hg => rfl); (case hr => first | (go_simp; done) | (go_simp; rfl))
              intro gb207 hg w18 hbox hb
              have n0_ := bb_ (g := gb195) (o := .cells #[.bool a0_0, .int .u64 a0_1, .int .u64 a0_2] 32 (0, 0)) hb
              have n1_ := bb_ (g := gb196) (o := .cells #[.bool a1_0, .int .u64 a1_1, .int .u64 a1_2] 32 (0, 0)) hb
              have n2_ := Aside0.mk (below_step bel_ hb)
              have n3_ := Aside0.mk (hbox)
              have n4_ := Aside0.mk ((by rw [hg]; exact (below_size bel_) : w.heap.size ≤ gb207))
              have n5_ := Aside0.mk ((by rw [hg]; exact (below_size bel_) : w.heap.size ≤ gb207))
              have n6_ := nlt_ (g := gb195) (o := .cells #[.bool a0_0, .int .u64 a0_1, .int .u64 a0_2] 32 (0, 0)) hg
              have n7_ := ngt_ (g := gb195) (o := .cells #[.bool a0_0, .int .u64 a0_1, .int .u64 a0_2] 32 (0, 0)) hg
              have n8_ := nlt_ (g := gb196) (o := .cells #[.bool a1_0, .int .u64 a1_1, .int .u64 a1_2] 32 (0, 0)) hg
              have n9_ := ngt_ (g := gb196) (o := .cells #[.bool a1_0, .int .u64 a1_1, .int .u64 a1_2] 32 (0, 0)) hg
              clear BK195
              clear BK196
              clear HB
              have BK195 := n0_
              have BK196 := n1_
              have HB := n2_
              have BK207 := n3_
              have GW207 := n4_
              have GE207 := n5_
              have NB195_207 := n6_
              have NB207_195 := n7_
              have NB196_207 := n8_
              have NB207_196 := n9_
              clear n0_ n1_ n2_ n3_ n4_ n5_ n6_ n7_ n8_ n9_
              clear hb hbox hg
              refine hK.out _ _ ⟨bc_, bc_, bc_, bc_, bc_, bc_⟩ (fun hHeld => ?_)
              clear hK K
              refine norm_ (a' := ?_) ?_ ?_
              rotate_left
              · show Act.put _ (some 5) _ = _
                simp only [Act.put, la_, lb_, lc_, i64_w, i32_w]
                rfl
              exact norm_ (by simp only [putAll, Act.put, la_, lb_, lc_]) (hCont (gb207) _ ⟨hHeld, (by (with_reducible repeat (first | refine bN_ _ ?_ | refine bd_ ?_ | refine ba_ _ ?_)); exact BK195.out), (by (with_reducible repeat (first | refine bN_ _ ?_ | refine bd_ ?_ | refine ba_ _ ?_)); exact BK196.out), (by (with_reducible repeat (first | refine bN_ _ ?_ | refine bd_ ?_ | refine ba_ _ ?_)); exact BK207.out), GW207.out, GE207.out, NB195_207.out, NB207_195.out, NB196_207.out, NB207_196.out, bel_⟩)
            · skip
              refine box_step ?hg (N := 5) ?hd (cs := #[.bool false, .int .u64 0, .int .u64 0]) (t := 33) ?hr ?_; (case hd => rfl); (case hg => rfl); (case hr => first | (go_simp; done) | (go_simp; rfl))
              intro gb207 hg w17 hbox hb
              have n0_ := bb_ (g := gb195) (o := .cells #[.bool a0_0, .int .u64 a0_1, .int .u64 a0_2] 32 (0, 0)) hb
              have n1_ := bb_ (g := gb196) (o := .cells #[.bool a1_0, .int .u64 a1_1, .int .u64 a1_2] 32 (0, 0)) hb
              have n2_ := Aside0.mk (below_step bel_ hb)
              have n3_ := Aside0.mk (hbox)
              have n4_ := Aside0.mk ((by rw [hg]; exact (below_size bel_) : w.heap.size ≤ gb207))
              have n5_ := Aside0.mk ((by rw [hg]; exact (below_size bel_) : w.heap.size ≤ gb207))
              have n6_ := nlt_ (g := gb195) (o := .cells #[.bool a0_0, .int .u64 a0_1, .int .u64 a0_2] 32 (0, 0)) hg
              have n7_ := ngt_ (g := gb195) (o := .cells #[.bool a0_0, .int .u64 a0_1, .int .u64 a0_2] 32 (0, 0)) hg
              have n8_ := nlt_ (g := gb196) (o := .cells #[.bool a1_0, .int .u64 a1_1, .int .u64 a1_2] 32 (0, 0)) hg
              have n9_ := ngt_ (g := gb196) (o := .cells #[.bool a1_0, .int .u64 a1_1, .int .u64 a1_2] 32 (0, 0)) hg
              clear BK195
              clear BK196
              clear HB
              have BK195 := n0_
              have BK196 := n1_
              have HB := n2_
              have BK207 := n3_
              have GW207 := n4_
              have GE207 := n5_
              have NB195_207 := n6_
              have NB207_195 := n7_
              have NB196_207 := n8_
              have NB207_196 := n9_
              clear n0_ n1_ n2_ n3_ n4_ n5_ n6_ n7_ n8_ n9_
              clear hb hbox hg
              refine hK.out _ _ ⟨bc_, bc_, bc_, bc_, bc_, bc_⟩ (fun hHeld => ?_)
              clear hK K
              refine norm_ (a' := ?_) ?_ ?_
              rotate_left
              · show Act.put _ (some 5) _ = _
                simp only [Act.put, la_, lb_, lc_, i64_w, i32_w]
                rfl
              refine one_ (i := 4) (N := some 14) #[true, true, true, true, true, false, false, false, true, false, false] rfl rfl (one_of HT_.out (by kernel_rfl)) (by decide) (fun K hK => ?_)
              refine goes_ Try.func45 (by kernel_rfl) rfl #[.agg #[.bool t197, .int .u64 t198, .int .u64 t199], .agg #[.bool t200, .int .u64 t201, .int .u64 t202]] (by rfl) rfl rfl mp_ ?_
              with_reducible refine (spec_SubWide.calls k t197 t198 t199 t200 t201 t202 t203 t204 t205 t206 _ A5.out).mono ?_
              rintro e w18 ⟨rfl, hb⟩
              refine ⟨_, rfl, ?_⟩
              have n0_ := bb_ (g := gb195) (o := .cells #[.bool a0_0, .int .u64 a0_1, .int .u64 a0_2] 32 (0, 0)) hb
              have n1_ := bb_ (g := gb196) (o := .cells #[.bool a1_0, .int .u64 a1_1, .int .u64 a1_2] 32 (0, 0)) hb
              have n2_ := bb_ (g := gb207) (o := .cells #[.bool false, .int .u64 0, .int .u64 0] 33 (0, 0)) hb
              have n3_ := Aside0.mk (below_step bel_ hb)
              clear BK195
              clear BK196
              clear BK207
              clear HB
              have BK195 := n0_
              have BK196 := n1_
              have BK207 := n2_
              have HB := n3_
              clear n0_ n1_ n2_ n3_
              (try clear hb)
              (try clear hb2)
              (try clear hk)
              (try clear hi)
              refine hK.out _ _ ⟨bc_, bc_, bc_, bc_, bc_, bc_⟩ (fun hHeld => ?_)
              clear hK K
              refine norm_ (a' := ?_) ?_ ?_
              rotate_left
              · show Act.put _ (some 14) _ = _
                simp only [Act.put, la_, lb_, lc_, i64_w, i32_w]
                rfl
              refine pure_ (i := 5) (N := some 9) (v := ?_) (a' := ?_) #[true, true, true, true, true, true, false, false, true, false, false] rfl rfl (any_of HT_.out (by kernel_rfl)) (fun _ _ _ h => h) (Or.inl ⟨by rfl, ?_⟩) ?_ ?_
              rotate_left
              · intro w'
                go_simp
                with_reducible rfl
              rotate_left
              · simp only [Act.put, la_, lb_, lc_, i64_w, i32_w]
                rfl
              refine pure_ (i := 6) (N := some 15) (v := ?_) (a' := ?_) #[true, true, true, true, true, true, true, false, true, false, false] rfl rfl (any_of HT_.out (by kernel_rfl)) (fun _ _ _ h => h) (Or.inl ⟨by rfl, ?_⟩) ?_ ?_
              rotate_left
              · intro w'
                go_simp
                with_reducible rfl
              rotate_left
              · simp only [Act.put, la_, lb_, lc_, i64_w, i32_w]
                rfl
              refine pure_ (i := 7) (N := some 16) (v := ?_) (a' := ?_) #[true, true, true, true, true, true, true, true, true, false, false] rfl rfl (any_of HT_.out (by kernel_rfl)) (fun _ _ _ h => h) (Or.inl ⟨by rfl, ?_⟩) ?_ ?_
              rotate_left
              · intro w'
                go_simp
                with_reducible rfl
              rotate_left
              · simp only [Act.put, la_, lb_, lc_, i64_w, i32_w]
                rfl
              exact norm_ (by simp only [putAll, Act.put, la_, lb_, lc_]) (hCont (gb207) _ ⟨hHeld, (by (with_reducible repeat (first | refine bN_ _ ?_ | refine bd_ ?_ | refine ba_ _ ?_)); exact BK195.out), (by (with_reducible repeat (first | refine bN_ _ ?_ | refine bd_ ?_ | refine ba_ _ ?_)); exact BK196.out), (by (with_reducible repeat (first | refine bN_ _ ?_ | refine bd_ ?_ | refine ba_ _ ?_)); exact BK207.out), GW207.out, GE207.out, NB195_207.out, NB207_195.out, NB196_207.out, NB207_196.out, bel_⟩)
          · skip
            refine box_step ?hg (N := 5) ?hd (cs := #[.bool false, .int .u64 0, .int .u64 0]) (t := 33) ?hr ?_; (case hd => rfl); (case hg => rfl); (case hr => first | (go_simp; done) | (go_simp; rfl))
            intro gb207 hg w16 hbox hb
            have n0_ := bb_ (g := gb195) (o := .cells #[.bool a0_0, .int .u64 a0_1, .int .u64 a0_2] 32 (0, 0)) hb
            have n1_ := bb_ (g := gb196) (o := .cells #[.bool a1_0, .int .u64 a1_1, .int .u64 a1_2] 32 (0, 0)) hb
            have n2_ := Aside0.mk (below_step bel_ hb)
            have n3_ := Aside0.mk (hbox)
            have n4_ := Aside0.mk ((by rw [hg]; exact (below_size bel_) : w.heap.size ≤ gb207))
            have n5_ := Aside0.mk ((by rw [hg]; exact (below_size bel_) : w.heap.size ≤ gb207))
            have n6_ := nlt_ (g := gb195) (o := .cells #[.bool a0_0, .int .u64 a0_1, .int .u64 a0_2] 32 (0, 0)) hg
            have n7_ := ngt_ (g := gb195) (o := .cells #[.bool a0_0, .int .u64 a0_1, .int .u64 a0_2] 32 (0, 0)) hg
            have n8_ := nlt_ (g := gb196) (o := .cells #[.bool a1_0, .int .u64 a1_1, .int .u64 a1_2] 32 (0, 0)) hg
            have n9_ := ngt_ (g := gb196) (o := .cells #[.bool a1_0, .int .u64 a1_1, .int .u64 a1_2] 32 (0, 0)) hg
            clear BK195
            clear BK196
            clear HB
            have BK195 := n0_
            have BK196 := n1_
            have HB := n2_
            have BK207 := n3_
            have GW207 := n4_
            have GE207 := n5_
            have NB195_207 := n6_
            have NB207_195 := n7_
            have NB196_207 := n8_
            have NB207_196 := n9_
            clear n0_ n1_ n2_ n3_ n4_ n5_ n6_ n7_ n8_ n9_
            clear hb hbox hg
            refine hK.out _ _ ⟨bc_, bc_, bc_, bc_, bc_, bc_⟩ (fun hHeld => ?_)
            clear hK K
            refine norm_ (a' := ?_) ?_ ?_
            rotate_left
            · show Act.put _ (some 5) _ = _
              simp only [Act.put, la_, lb_, lc_, i64_w, i32_w]
              rfl
            refine one_ (i := 3) (N := some 13) #[true, true, true, true, false, false, false, false, true, false, false] rfl rfl (one_of HT_.out (by kernel_rfl)) (by decide) (fun K hK => ?_)
            refine goes_ Try.func20 (by kernel_rfl) rfl #[.agg #[.bool a1_0, .int .u64 a1_1, .int .u64 a1_2]] (by rfl) rfl rfl mp_ ?_
            with_reducible refine (laws_toWide.calls a1_0 a1_1 a1_2 t200 t201 t202 _ A4.out).mono ?_
            rintro e w17 ⟨rfl, hb⟩
            refine ⟨_, rfl, ?_⟩
            have n0_ := bb_ (g := gb195) (o := .cells #[.bool a0_0, .int .u64 a0_1, .int .u64 a0_2] 32 (0, 0)) hb
            have n1_ := bb_ (g := gb196) (o := .cells #[.bool a1_0, .int .u64 a1_1, .int .u64 a1_2] 32 (0, 0)) hb
            have n2_ := bb_ (g := gb207) (o := .cells #[.bool false, .int .u64 0, .int .u64 0] 33 (0, 0)) hb
            have n3_ := Aside0.mk (below_step bel_ hb)
            clear BK195
            clear BK196
            clear BK207
            clear HB
            have BK195 := n0_
            have BK196 := n1_
            have BK207 := n2_
            have HB := n3_
            clear n0_ n1_ n2_ n3_
            (try clear hb)
            (try clear hb2)
            (try clear hk)
            (try clear hi)
            refine hK.out _ _ ⟨bc_, bc_, bc_, bc_, bc_, bc_⟩ (fun hHeld => ?_)
            clear hK K
            refine norm_ (a' := ?_) ?_ ?_
            rotate_left
            · show Act.put _ (some 13) _ = _
              simp only [Act.put, la_, lb_, lc_, i64_w, i32_w]
              rfl
            refine one_ (i := 4) (N := some 14) #[true, true, true, true, true, false, false, false, true, false, false] rfl rfl (one_of HT_.out (by kernel_rfl)) (by decide) (fun K hK => ?_)
            refine goes_ Try.func45 (by kernel_rfl) rfl #[.agg #[.bool t197, .int .u64 t198, .int .u64 t199], .agg #[.bool t200, .int .u64 t201, .int .u64 t202]] (by rfl) rfl rfl mp_ ?_
            with_reducible refine (spec_SubWide.calls k t197 t198 t199 t200 t201 t202 t203 t204 t205 t206 _ A5.out).mono ?_
            rintro e w18 ⟨rfl, hb⟩
            refine ⟨_, rfl, ?_⟩
            have n0_ := bb_ (g := gb195) (o := .cells #[.bool a0_0, .int .u64 a0_1, .int .u64 a0_2] 32 (0, 0)) hb
            have n1_ := bb_ (g := gb196) (o := .cells #[.bool a1_0, .int .u64 a1_1, .int .u64 a1_2] 32 (0, 0)) hb
            have n2_ := bb_ (g := gb207) (o := .cells #[.bool false, .int .u64 0, .int .u64 0] 33 (0, 0)) hb
            have n3_ := Aside0.mk (below_step bel_ hb)
            clear BK195
            clear BK196
            clear BK207
            clear HB
            have BK195 := n0_
            have BK196 := n1_
            have BK207 := n2_
            have HB := n3_
            clear n0_ n1_ n2_ n3_
            (try clear hb)
            (try clear hb2)
            (try clear hk)
            (try clear hi)
            refine hK.out _ _ ⟨bc_, bc_, bc_, bc_, bc_, bc_⟩ (fun hHeld => ?_)
            clear hK K
            refine norm_ (a' := ?_) ?_ ?_
            rotate_left
            · show Act.put _ (some 14) _ = _
              simp only [Act.put, la_, lb_, lc_, i64_w, i32_w]
              rfl
            refine pure_ (i := 5) (N := some 9) (v := ?_) (a' := ?_) #[true, true, true, true, true, true, false, false, true, false, false] rfl rfl (any_of HT_.out (by kernel_rfl)) (fun _ _ _ h => h) (Or.inl ⟨by rfl, ?_⟩) ?_ ?_
            rotate_left
            · intro w'
              go_simp
              with_reducible rfl
            rotate_left
            · simp only [Act.put, la_, lb_, lc_, i64_w, i32_w]
              rfl
            refine pure_ (i := 6) (N := some 15) (v := ?_) (a' := ?_) #[true, true, true, true, true, true, true, false, true, false, false] rfl rfl (any_of HT_.out (by kernel_rfl)) (fun _ _ _ h => h) (Or.inl ⟨by rfl, ?_⟩) ?_ ?_
            rotate_left
            · intro w'
              go_simp
              with_reducible rfl
            rotate_left
            · simp only [Act.put, la_, lb_, lc_, i64_w, i32_w]
              rfl
            refine pure_ (i := 7) (N := some 16) (v := ?_) (a' := ?_) #[true, true, true, true, true, true, true, true, true, false, false] rfl rfl (any_of HT_.out (by kernel_rfl)) (fun _ _ _ h => h) (Or.inl ⟨by rfl, ?_⟩) ?_ ?_
            rotate_left
            · intro w'
              go_simp
              with_reducible rfl
            rotate_left
            · simp only [Act.put, la_, lb_, lc_, i64_w, i32_w]
              rfl
            exact norm_ (by simp only [putAll, Act.put, la_, lb_, lc_]) (hCont (gb207) _ ⟨hHeld, (by (with_reducible repeat (first | refine bN_ _ ?_ | refine bd_ ?_ | refine ba_ _ ?_)); exact BK195.out), (by (with_reducible repeat (first | refine bN_ _ ?_ | refine bd_ ?_ | refine ba_ _ ?_)); exact BK196.out), (by (with_reducible repeat (first | refine bN_ _ ?_ | refine bd_ ?_ | refine ba_ _ ?_)); exact BK207.out), GW207.out, GE207.out, NB195_207.out, NB207_195.out, NB196_207.out, NB207_196.out, bel_⟩)
        · skip
          refine box_step ?hg (N := 5) ?hd (cs := #[.bool false, .int .u64 0, .int .u64 0]) (t := 33) ?hr ?_; (case hd => rfl); (case hg => rfl); (case hr => first | (go_simp; done) | (go_simp; rfl))
          intro gb207 hg w15 hbox hb
          have n0_ := bb_ (g := gb195) (o := .cells #[.bool a0_0, .int .u64 a0_1, .int .u64 a0_2] 32 (0, 0)) hb
          have n1_ := bb_ (g := gb196) (o := .cells #[.bool a1_0, .int .u64 a1_1, .int .u64 a1_2] 32 (0, 0)) hb
          have n2_ := Aside0.mk (below_step bel_ hb)
          have n3_ := Aside0.mk (hbox)
          have n4_ := Aside0.mk ((by rw [hg]; exact (below_size bel_) : w.heap.size ≤ gb207))
          have n5_ := Aside0.mk ((by rw [hg]; exact (below_size bel_) : w.heap.size ≤ gb207))
          have n6_ := nlt_ (g := gb195) (o := .cells #[.bool a0_0, .int .u64 a0_1, .int .u64 a0_2] 32 (0, 0)) hg
          have n7_ := ngt_ (g := gb195) (o := .cells #[.bool a0_0, .int .u64 a0_1, .int .u64 a0_2] 32 (0, 0)) hg
          have n8_ := nlt_ (g := gb196) (o := .cells #[.bool a1_0, .int .u64 a1_1, .int .u64 a1_2] 32 (0, 0)) hg
          have n9_ := ngt_ (g := gb196) (o := .cells #[.bool a1_0, .int .u64 a1_1, .int .u64 a1_2] 32 (0, 0)) hg
          clear BK195
          clear BK196
          clear HB
          have BK195 := n0_
          have BK196 := n1_
          have HB := n2_
          have BK207 := n3_
          have GW207 := n4_
          have GE207 := n5_
          have NB195_207 := n6_
          have NB207_195 := n7_
          have NB196_207 := n8_
          have NB207_196 := n9_
          clear n0_ n1_ n2_ n3_ n4_ n5_ n6_ n7_ n8_ n9_
          clear hb hbox hg
          refine hK.out _ _ ⟨bc_, bc_, bc_, bc_, bc_, bc_⟩ (fun hHeld => ?_)
          clear hK K
          refine norm_ (a' := ?_) ?_ ?_
          rotate_left
          · show Act.put _ (some 5) _ = _
            simp only [Act.put, la_, lb_, lc_, i64_w, i32_w]
            rfl
          refine one_ (i := 1) (N := some 11) #[true, true, true, false, false, false, false, false, true, false, false] rfl rfl (one_of HT_.out (by kernel_rfl)) (by decide) (fun K hK => ?_)
          refine goes_ Try.func20 (by kernel_rfl) rfl #[.agg #[.bool a0_0, .int .u64 a0_1, .int .u64 a0_2]] (by rfl) rfl rfl mp_ ?_
          with_reducible refine (laws_toWide.calls a0_0 a0_1 a0_2 t197 t198 t199 _ A3.out).mono ?_
          rintro e w16 ⟨rfl, hb⟩
          refine ⟨_, rfl, ?_⟩
          have n0_ := bb_ (g := gb195) (o := .cells #[.bool a0_0, .int .u64 a0_1, .int .u64 a0_2] 32 (0, 0)) hb
          have n1_ := bb_ (g := gb196) (o := .cells #[.bool a1_0, .int .u64 a1_1, .int .u64 a1_2] 32 (0, 0)) hb
          have n2_ := bb_ (g := gb207) (o := .cells #[.bool false, .int .u64 0, .int .u64 0] 33 (0, 0)) hb
          have n3_ := Aside0.mk (below_step bel_ hb)
          clear BK195
          clear BK196
          clear BK207
          clear HB
          have BK195 := n0_
          have BK196 := n1_
          have BK207 := n2_
          have HB := n3_
          clear n0_ n1_ n2_ n3_
          (try clear hb)
          (try clear hb2)
          (try clear hk)
          (try clear hi)
          refine hK.out _ _ ⟨bc_, bc_, bc_, bc_, bc_, bc_⟩ (fun hHeld => ?_)
          clear hK K
          refine norm_ (a' := ?_) ?_ ?_
          rotate_left
          · show Act.put _ (some 11) _ = _
            simp only [Act.put, la_, lb_, lc_, i64_w, i32_w]
            rfl
          refine one_ (i := 3) (N := some 13) #[true, true, true, true, false, false, false, false, true, false, false] rfl rfl (one_of HT_.out (by kernel_rfl)) (by decide) (fun K hK => ?_)
          refine goes_ Try.func20 (by kernel_rfl) rfl #[.agg #[.bool a1_0, .int .u64 a1_1, .int .u64 a1_2]] (by rfl) rfl rfl mp_ ?_
          with_reducible refine (laws_toWide.calls a1_0 a1_1 a1_2 t200 t201 t202 _ A4.out).mono ?_
          rintro e w17 ⟨rfl, hb⟩
          refine ⟨_, rfl, ?_⟩
          have n0_ := bb_ (g := gb195) (o := .cells #[.bool a0_0, .int .u64 a0_1, .int .u64 a0_2] 32 (0, 0)) hb
          have n1_ := bb_ (g := gb196) (o := .cells #[.bool a1_0, .int .u64 a1_1, .int .u64 a1_2] 32 (0, 0)) hb
          have n2_ := bb_ (g := gb207) (o := .cells #[.bool false, .int .u64 0, .int .u64 0] 33 (0, 0)) hb
          have n3_ := Aside0.mk (below_step bel_ hb)
          clear BK195
          clear BK196
          clear BK207
          clear HB
          have BK195 := n0_
          have BK196 := n1_
          have BK207 := n2_
          have HB := n3_
          clear n0_ n1_ n2_ n3_
          (try clear hb)
          (try clear hb2)
          (try clear hk)
          (try clear hi)
          refine hK.out _ _ ⟨bc_, bc_, bc_, bc_, bc_, bc_⟩ (fun hHeld => ?_)
          clear hK K
          refine norm_ (a' := ?_) ?_ ?_
          rotate_left
          · show Act.put _ (some 13) _ = _
            simp only [Act.put, la_, lb_, lc_, i64_w, i32_w]
            rfl
          refine one_ (i := 4) (N := some 14) #[true, true, true, true, true, false, false, false, true, false, false] rfl rfl (one_of HT_.out (by kernel_rfl)) (by decide) (fun K hK => ?_)
          refine goes_ Try.func45 (by kernel_rfl) rfl #[.agg #[.bool t197, .int .u64 t198, .int .u64 t199], .agg #[.bool t200, .int .u64 t201, .int .u64 t202]] (by rfl) rfl rfl mp_ ?_
          with_reducible refine (spec_SubWide.calls k t197 t198 t199 t200 t201 t202 t203 t204 t205 t206 _ A5.out).mono ?_
          rintro e w18 ⟨rfl, hb⟩
          refine ⟨_, rfl, ?_⟩
          have n0_ := bb_ (g := gb195) (o := .cells #[.bool a0_0, .int .u64 a0_1, .int .u64 a0_2] 32 (0, 0)) hb
          have n1_ := bb_ (g := gb196) (o := .cells #[.bool a1_0, .int .u64 a1_1, .int .u64 a1_2] 32 (0, 0)) hb
          have n2_ := bb_ (g := gb207) (o := .cells #[.bool false, .int .u64 0, .int .u64 0] 33 (0, 0)) hb
          have n3_ := Aside0.mk (below_step bel_ hb)
          clear BK195
          clear BK196
          clear BK207
          clear HB
          have BK195 := n0_
          have BK196 := n1_
          have BK207 := n2_
          have HB := n3_
          clear n0_ n1_ n2_ n3_
          (try clear hb)
          (try clear hb2)
          (try clear hk)
          (try clear hi)
          refine hK.out _ _ ⟨bc_, bc_, bc_, bc_, bc_, bc_⟩ (fun hHeld => ?_)
          clear hK K
          refine norm_ (a' := ?_) ?_ ?_
          rotate_left
          · show Act.put _ (some 14) _ = _
            simp only [Act.put, la_, lb_, lc_, i64_w, i32_w]
            rfl
          refine pure_ (i := 5) (N := some 9) (v := ?_) (a' := ?_) #[true, true, true, true, true, true, false, false, true, false, false] rfl rfl (any_of HT_.out (by kernel_rfl)) (fun _ _ _ h => h) (Or.inl ⟨by rfl, ?_⟩) ?_ ?_
          rotate_left
          · intro w'
            go_simp
            with_reducible rfl
          rotate_left
          · simp only [Act.put, la_, lb_, lc_, i64_w, i32_w]
            rfl
          refine pure_ (i := 6) (N := some 15) (v := ?_) (a' := ?_) #[true, true, true, true, true, true, true, false, true, false, false] rfl rfl (any_of HT_.out (by kernel_rfl)) (fun _ _ _ h => h) (Or.inl ⟨by rfl, ?_⟩) ?_ ?_
          rotate_left
          · intro w'
            go_simp
            with_reducible rfl
          rotate_left
          · simp only [Act.put, la_, lb_, lc_, i64_w, i32_w]
            rfl
          refine pure_ (i := 7) (N := some 16) (v := ?_) (a' := ?_) #[true, true, true, true, true, true, true, true, true, false, false] rfl rfl (any_of HT_.out (by kernel_rfl)) (fun _ _ _ h => h) (Or.inl ⟨by rfl, ?_⟩) ?_ ?_
          rotate_left
          · intro w'
            go_simp
            with_reducible rfl
          rotate_left
          · simp only [Act.put, la_, lb_, lc_, i64_w, i32_w]
            rfl
          exact norm_ (by simp only [putAll, Act.put, la_, lb_, lc_]) (hCont (gb207) _ ⟨hHeld, (by (with_reducible repeat (first | refine bN_ _ ?_ | refine bd_ ?_ | refine ba_ _ ?_)); exact BK195.out), (by (with_reducible repeat (first | refine bN_ _ ?_ | refine bd_ ?_ | refine ba_ _ ?_)); exact BK196.out), (by (with_reducible repeat (first | refine bN_ _ ?_ | refine bd_ ?_ | refine ba_ _ ?_)); exact BK207.out), GW207.out, GE207.out, NB195_207.out, NB207_195.out, NB196_207.out, NB207_196.out, bel_⟩)
      rintro gb207 w19 ⟨hS_, h0_, h1_, h2_, h3_, h4_, h5_, h6_, h7_, h8_, h9_⟩
      have n0_ : Aside0 (w19.heap[gb195]? = some (.cells #[.bool a0_0, .int .u64 a0_1, .int .u64 a0_2] 32 (0, 0))) := ⟨h0_⟩
      have n1_ : Aside0 (w19.heap[gb196]? = some (.cells #[.bool a1_0, .int .u64 a1_1, .int .u64 a1_2] 32 (0, 0))) := ⟨h1_⟩
      have n2_ : Aside0 (w19.heap[gb207]? = some (.cells #[.bool false, .int .u64 0, .int .u64 0] 33 (0, 0))) := ⟨h2_⟩
      have n3_ : Aside0 (w.heap.size ≤ gb207) := ⟨h3_⟩
      have n4_ : Aside0 (w.heap.size ≤ gb207) := ⟨h4_⟩
      have n5_ : Aside0 (gb195 ≠ gb207) := ⟨h5_⟩
      have n6_ : Aside0 (gb207 ≠ gb195) := ⟨h6_⟩
      have n7_ : Aside0 (gb196 ≠ gb207) := ⟨h7_⟩
      have n8_ : Aside0 (gb207 ≠ gb196) := ⟨h8_⟩
      have n9_ : Aside0 (Below w.heap.size w w19) := ⟨h9_⟩
      clear BK195
      clear BK196
      clear HB
      clear h0_ h1_ h2_ h3_ h4_ h5_ h6_ h7_ h8_ h9_
      have BK195 := n0_
      have BK196 := n1_
      have BK207 := n2_
      have GW207 := n3_
      have GE207 := n4_
      have NB195_207 := n5_
      have NB207_195 := n6_
      have NB196_207 := n7_
      have NB207_196 := n8_
      have HB := n9_
      clear n0_ n1_ n2_ n3_ n4_ n5_ n6_ n7_ n8_ n9_
      have hHeld : w19.cell? ⟨gb195, 0, none⟩ = some (.bool a0_0) ∧ w19.cell? ⟨gb195, 1, none⟩ = some (.int .u64 a0_1) ∧ w19.cell? ⟨gb195, 2, none⟩ = some (.int .u64 a0_2) ∧ w19.cell? ⟨gb196, 0, none⟩ = some (.bool a1_0) ∧ w19.cell? ⟨gb196, 1, none⟩ = some (.int .u64 a1_1) ∧ w19.cell? ⟨gb196, 2, none⟩ = some (.int .u64 a1_2) := hS_
      refine norm_ (a' := ?_) ?_ ?_
      rotate_left
      · simp only [putAll, Act.put, la_, lb_, lc_]
        rfl
      refine one_ (i := 9) (N := none) #[true, true, true, true, true, true, true, true, true, true, false] rfl rfl (one_of HT_.out (by kernel_rfl)) (by decide) (fun K hK => ?_)
      have hs20 : w19.cell? ⟨gb207, 0, none⟩ = some (.bool false) := (blk_cell BK207.out 0).trans rfl
      have hfs20 := blk_frozen BK207.out 0
      have hns20_0 := NB195_207.out
      have hns20_1 := NB196_207.out
      have hms20_0 := NB207_195.out
      have hms20_1 := NB207_196.out
      have hs21 : w19.cell? ⟨gb207, 1, none⟩ = some (.int .u64 0) := (blk_cell BK207.out 1).trans rfl
      have hfs21 := blk_frozen BK207.out 1
      have hns21_0 := NB195_207.out
      have hns21_1 := NB196_207.out
      have hms21_0 := NB207_195.out
      have hms21_1 := NB207_196.out
      have hs22 : w19.cell? ⟨gb207, 2, none⟩ = some (.int .u64 0) := (blk_cell BK207.out 2).trans rfl
      have hfs22 := blk_frozen BK207.out 2
      have hns22_0 := NB195_207.out
      have hns22_1 := NB196_207.out
      have hms22_0 := NB207_195.out
      have hms22_1 := NB207_196.out
      refine skip_ (w1 := ?_) (by rfl) rfl ?_ ?_
      rotate_left
      · go_simp
        rfl
      refine hK.out _ _ ⟨((cell_far (p := ⟨gb207, _, none⟩) NB195_207.out _).trans (((cell_far (p := ⟨gb207, _, none⟩) NB195_207.out _).trans (((cell_far (p := ⟨gb207, _, none⟩) NB195_207.out _).trans (hHeld.1)))))), ((cell_far (p := ⟨gb207, _, none⟩) NB195_207.out _).trans (((cell_far (p := ⟨gb207, _, none⟩) NB195_207.out _).trans (((cell_far (p := ⟨gb207, _, none⟩) NB195_207.out _).trans (hHeld.2.1)))))), ((cell_far (p := ⟨gb207, _, none⟩) NB195_207.out _).trans (((cell_far (p := ⟨gb207, _, none⟩) NB195_207.out _).trans (((cell_far (p := ⟨gb207, _, none⟩) NB195_207.out _).trans (hHeld.2.2.1)))))), ((cell_far (p := ⟨gb207, _, none⟩) NB196_207.out _).trans (((cell_far (p := ⟨gb207, _, none⟩) NB196_207.out _).trans (((cell_far (p := ⟨gb207, _, none⟩) NB196_207.out _).trans (hHeld.2.2.2.1)))))), ((cell_far (p := ⟨gb207, _, none⟩) NB196_207.out _).trans (((cell_far (p := ⟨gb207, _, none⟩) NB196_207.out _).trans (((cell_far (p := ⟨gb207, _, none⟩) NB196_207.out _).trans (hHeld.2.2.2.2.1)))))), ((cell_far (p := ⟨gb207, _, none⟩) NB196_207.out _).trans (((cell_far (p := ⟨gb207, _, none⟩) NB196_207.out _).trans (((cell_far (p := ⟨gb207, _, none⟩) NB196_207.out _).trans (hHeld.2.2.2.2.2))))))⟩ (fun hHeld => ?_)
      clear hK K
      refine pure_ (i := 10) (N := some 6) (v := ?_) (a' := ?_) #[true, true, true, true, true, true, true, true, true, true, true] rfl rfl (any_of HT_.out (by kernel_rfl)) (fun _ _ _ h => h) (Or.inl ⟨by rfl, ?_⟩) ?_ ?_
      rotate_left
      · intro w'
        go_simp
        with_reducible rfl
      rotate_left
      · simp only [Act.put, la_, lb_, lc_, i64_w, i32_w]
        rfl
      refine done_ (done_of HT_.out (by kernel_rfl)) ?_
      try go_wp2
      have n0_ : Aside0 ((((w19.setCell ⟨gb207, 0, none⟩ (.bool t203)).setCell ⟨gb207, 1, none⟩ (.int .u64 t204)).setCell ⟨gb207, 2, none⟩ (.int .u64 t205)).heap[gb195]? = some (.cells #[.bool a0_0, .int .u64 a0_1, .int .u64 a0_2] 32 (0, 0))) := ⟨by (with_reducible repeat (first | refine bN_ _ ?_ | refine bd_ ?_ | refine ba_ _ ?_)); refine blk_far ?_ NB195_207.out _; (with_reducible repeat (first | refine bN_ _ ?_ | refine bd_ ?_ | refine ba_ _ ?_)); refine blk_far ?_ NB195_207.out _; (with_reducible repeat (first | refine bN_ _ ?_ | refine bd_ ?_ | refine ba_ _ ?_)); refine blk_far ?_ NB195_207.out _; (with_reducible repeat (first | refine bN_ _ ?_ | refine bd_ ?_ | refine ba_ _ ?_)); exact BK195.out⟩
      have n1_ : Aside0 ((((w19.setCell ⟨gb207, 0, none⟩ (.bool t203)).setCell ⟨gb207, 1, none⟩ (.int .u64 t204)).setCell ⟨gb207, 2, none⟩ (.int .u64 t205)).heap[gb196]? = some (.cells #[.bool a1_0, .int .u64 a1_1, .int .u64 a1_2] 32 (0, 0))) := ⟨by (with_reducible repeat (first | refine bN_ _ ?_ | refine bd_ ?_ | refine ba_ _ ?_)); refine blk_far ?_ NB196_207.out _; (with_reducible repeat (first | refine bN_ _ ?_ | refine bd_ ?_ | refine ba_ _ ?_)); refine blk_far ?_ NB196_207.out _; (with_reducible repeat (first | refine bN_ _ ?_ | refine bd_ ?_ | refine ba_ _ ?_)); refine blk_far ?_ NB196_207.out _; (with_reducible repeat (first | refine bN_ _ ?_ | refine bd_ ?_ | refine ba_ _ ?_)); exact BK196.out⟩
      have n2_ : Aside0 ((((w19.setCell ⟨gb207, 0, none⟩ (.bool t203)).setCell ⟨gb207, 1, none⟩ (.int .u64 t204)).setCell ⟨gb207, 2, none⟩ (.int .u64 t205)).heap[gb207]? = some (.cells #[.bool t203, .int .u64 t204, .int .u64 t205] 33 (0, 0))) := ⟨by (with_reducible repeat (first | refine bN_ _ ?_ | refine bd_ ?_ | refine ba_ _ ?_)); refine blk_put (cs := #[.bool t203, .int .u64 t204, .int .u64 0]) ?_ 2 _ rfl; (with_reducible repeat (first | refine bN_ _ ?_ | refine bd_ ?_ | refine ba_ _ ?_)); refine blk_put (cs := #[.bool t203, .int .u64 0, .int .u64 0]) ?_ 1 _ rfl; (with_reducible repeat (first | refine bN_ _ ?_ | refine bd_ ?_ | refine ba_ _ ?_)); refine blk_put (cs := #[.bool false, .int .u64 0, .int .u64 0]) ?_ 0 _ rfl; (with_reducible repeat (first | refine bN_ _ ?_ | refine bd_ ?_ | refine ba_ _ ?_)); exact BK207.out⟩
      have n3_ : Aside0 (Below w.heap.size w (((w19.setCell ⟨gb207, 0, none⟩ (.bool t203)).setCell ⟨gb207, 1, none⟩ (.int .u64 t204)).setCell ⟨gb207, 2, none⟩ (.int .u64 t205))) := ⟨by repeat (first | (with_reducible first | exact HB.out | apply below_alloc | apply pw_below_drewN | apply below_drew1 | refine below_set ?_ GE195.out | refine below_set ?_ GE196.out | refine below_set ?_ GE207.out) | exact HB.out)⟩
      (try clear BK195)
      (try clear BK196)
      (try clear BK207)
      (try clear HB)
      generalize (((w19.setCell ⟨gb207, 0, none⟩ (.bool t203)).setCell ⟨gb207, 1, none⟩ (.int .u64 t204)).setCell ⟨gb207, 2, none⟩ (.int .u64 t205)) = w23 at n0_ n1_ n2_ n3_ ⊢
      have BK195 := n0_
      have BK196 := n1_
      have BK207 := n2_
      have HB := n3_
      clear n0_ n1_ n2_ n3_
      have n0_ := Aside0.mk (blk_drew BK195.out)
      have n1_ := Aside0.mk (blk_drew BK196.out)
      have n2_ := Aside0.mk (blk_drew BK207.out)
      have n3_ := Aside0.mk (below_drew1 HB.out)
      clear BK195
      clear BK196
      clear BK207
      clear HB
      have BK195 := n0_
      have BK196 := n1_
      have BK207 := n2_
      have HB := n3_
      clear n0_ n1_ n2_ n3_
      refine start_ (n := 11) (S := fun w' => w'.cell? ⟨gb195, 0, none⟩ = some (.bool a0_0) ∧ w'.cell? ⟨gb195, 1, none⟩ = some (.int .u64 a0_1) ∧ w'.cell? ⟨gb195, 2, none⟩ = some (.int .u64 a0_2) ∧ w'.cell? ⟨gb196, 0, none⟩ = some (.bool a1_0) ∧ w'.cell? ⟨gb196, 1, none⟩ = some (.int .u64 a1_1) ∧ w'.cell? ⟨gb196, 2, none⟩ = some (.int .u64 a1_2)) (ds := []) #[false, false, false, false, false, false, false, false, false, false, false] (by kernel_rfl) rfl rfl ⟨bc_, bc_, bc_, bc_, bc_, bc_⟩ (fun hHeld => ?_); refine with_tabW laws_FnExactSubWide.tab2 laws_FnExactSubWide.bits2 (fun HT_ HW_ => ?_)
      generalize w23.drew = w24 at BK195 BK196 BK207 HB hHeld ⊢
      refine take_ (i := 0) (N := some 18) (v := ?_) (a' := ?_) #[true, false, false, false, false, false, false, false, false, false, false] rfl rfl (take_ofW HT_.out HW_.out (by kernel_rfl)) (fun _ _ _ h => h) (Or.inl ⟨by rfl, ?_⟩) hHeld ?_ ?_
      rotate_left
      · rintro w' ⟨s0, s1, s2, s3, s4, s5⟩
        go_simp
        with_reducible rfl
      rotate_left
      · simp only [Act.put, la_, lb_, lc_, i64_w, i32_w]
        rfl
      refine take_ (i := 2) (N := some 20) (v := ?_) (a' := ?_) #[true, false, true, false, false, false, false, false, false, false, false] rfl rfl (take_ofW HT_.out HW_.out (by kernel_rfl)) (fun _ _ _ h => h) (Or.inl ⟨by rfl, ?_⟩) hHeld ?_ ?_
      rotate_left
      · rintro w' ⟨s0, s1, s2, s3, s4, s5⟩
        go_simp
        with_reducible rfl
      rotate_left
      · simp only [Act.put, la_, lb_, lc_, i64_w, i32_w]
        rfl
      refine join_ (σ := Nat) 2 #[true, true, true, true, true, true, true, true, true, false, false] (fun s_ => [(19, .agg #[.bool t208, .int .u64 t209, .int .u64 t210]), (21, .agg #[.bool t211, .int .u64 t212, .int .u64 t213]), (22, .tuple #[.agg #[.bool t214, .int .u64 t215, .int .u64 t216], .bool t217]), (7, .pointer (some ⟨s_, 0, none⟩)), (17, .tuple #[.agg #[.bool t214, .int .u64 t215, .int .u64 t216], .bool t217]), (23, .agg #[.bool t214, .int .u64 t215, .int .u64 t216]), (24, .bool t217)]) (fun s_ w' => (w'.cell? ⟨gb195, 0, none⟩ = some (.bool a0_0) ∧ w'.cell? ⟨gb195, 1, none⟩ = some (.int .u64 a0_1) ∧ w'.cell? ⟨gb195, 2, none⟩ = some (.int .u64 a0_2) ∧ w'.cell? ⟨gb196, 0, none⟩ = some (.bool a1_0) ∧ w'.cell? ⟨gb196, 1, none⟩ = some (.int .u64 a1_1) ∧ w'.cell? ⟨gb196, 2, none⟩ = some (.int .u64 a1_2)) ∧ (w'.heap[gb195]? = some (.cells #[.bool a0_0, .int .u64 a0_1, .int .u64 a0_2] 32 (0, 0))) ∧ (w'.heap[gb196]? = some (.cells #[.bool a1_0, .int .u64 a1_1, .int .u64 a1_2] 32 (0, 0))) ∧ (w'.heap[gb207]? = some (.cells #[.bool t203, .int .u64 t204, .int .u64 t205] 33 (0, 0))) ∧ (w'.heap[s_]? = some (.cells #[.bool false, .int .u64 0, .int .u64 0] 33 (0, 0))) ∧ (w.heap.size ≤ s_) ∧ (w.heap.size ≤ s_) ∧ (gb195 ≠ s_) ∧ (s_ ≠ gb195) ∧ (gb196 ≠ s_) ∧ (s_ ≠ gb196) ∧ (gb207 ≠ s_) ∧ (s_ ≠ gb207) ∧ (Below w.heap.size w w')) ?_ ?_
      rotate_left
      · intro hCont
        refine two_ (i := 1) (j := 8) (Ni := some 19) (Nj := some 7) #[true, true, true, false, false, false, false, false, false, false, false] #[true, false, true, false, false, false, false, false, true, false, false] rfl rfl rfl rfl (two_of HT_.out (by kernel_rfl)) (by decide) (by decide) (fun K hK => ?_) (fun K hK => ?_)
        · skip
          refine goes_ Try.func20 (by kernel_rfl) rfl #[.agg #[.bool a0_0, .int .u64 a0_1, .int .u64 a0_2]] (by rfl) rfl rfl mp_ ?_
          with_reducible refine (laws_toWide.calls a0_0 a0_1 a0_2 t208 t209 t210 _ A6.out).mono ?_
          rintro e w25 ⟨rfl, hb⟩
          refine ⟨_, rfl, ?_⟩
          have n0_ := bb_ (g := gb195) (o := .cells #[.bool a0_0, .int .u64 a0_1, .int .u64 a0_2] 32 (0, 0)) hb
          have n1_ := bb_ (g := gb196) (o := .cells #[.bool a1_0, .int .u64 a1_1, .int .u64 a1_2] 32 (0, 0)) hb
          have n2_ := bb_ (g := gb207) (o := .cells #[.bool t203, .int .u64 t204, .int .u64 t205] 33 (0, 0)) hb
          have n3_ := Aside0.mk (below_step bel_ hb)
          clear BK195
          clear BK196
          clear BK207
          clear HB
          have BK195 := n0_
          have BK196 := n1_
          have BK207 := n2_
          have HB := n3_
          clear n0_ n1_ n2_ n3_
          (try clear hb)
          (try clear hb2)
          (try clear hk)
          (try clear hi)
          refine hK.out _ _ ⟨bc_, bc_, bc_, bc_, bc_, bc_⟩ (fun hHeld => ?_)
          clear hK K
          refine norm_ (a' := ?_) ?_ ?_
          rotate_left
          · show Act.put _ (some 19) _ = _
            simp only [Act.put, la_, lb_, lc_, i64_w, i32_w]
            rfl
          refine two_ (i := 3) (j := 8) (Ni := some 21) (Nj := some 7) #[true, true, true, true, false, false, false, false, false, false, false] #[true, true, true, false, false, false, false, false, true, false, false] rfl rfl rfl rfl (two_of HT_.out (by kernel_rfl)) (by decide) (by decide) (fun K hK => ?_) (fun K hK => ?_)
          · skip
            refine goes_ Try.func20 (by kernel_rfl) rfl #[.agg #[.bool a1_0, .int .u64 a1_1, .int .u64 a1_2]] (by rfl) rfl rfl mp_ ?_
            with_reducible refine (laws_toWide.calls a1_0 a1_1 a1_2 t211 t212 t213 _ A7.out).mono ?_
            rintro e w26 ⟨rfl, hb⟩
            refine ⟨_, rfl, ?_⟩
            have n0_ := bb_ (g := gb195) (o := .cells #[.bool a0_0, .int .u64 a0_1, .int .u64 a0_2] 32 (0, 0)) hb
            have n1_ := bb_ (g := gb196) (o := .cells #[.bool a1_0, .int .u64 a1_1, .int .u64 a1_2] 32 (0, 0)) hb
            have n2_ := bb_ (g := gb207) (o := .cells #[.bool t203, .int .u64 t204, .int .u64 t205] 33 (0, 0)) hb
            have n3_ := Aside0.mk (below_step bel_ hb)
            clear BK195
            clear BK196
            clear BK207
            clear HB
            have BK195 := n0_
            have BK196 := n1_
            have BK207 := n2_
            have HB := n3_
            clear n0_ n1_ n2_ n3_
            (try clear hb)
            (try clear hb2)
            (try clear hk)
            (try clear hi)
            refine hK.out _ _ ⟨bc_, bc_, bc_, bc_, bc_, bc_⟩ (fun hHeld => ?_)
            clear hK K
            refine norm_ (a' := ?_) ?_ ?_
            rotate_left
            · show Act.put _ (some 21) _ = _
              simp only [Act.put, la_, lb_, lc_, i64_w, i32_w]
              rfl
            refine two_ (i := 4) (j := 8) (Ni := some 22) (Nj := some 7) #[true, true, true, true, true, false, false, false, false, false, false] #[true, true, true, true, false, false, false, false, true, false, false] rfl rfl rfl rfl (two_of HT_.out (by kernel_rfl)) (by decide) (by decide) (fun K hK => ?_) (fun K hK => ?_)
            · skip
              refine goes_ Try.func54 (by kernel_rfl) rfl #[.agg #[.bool t208, .int .u64 t209, .int .u64 t210], .agg #[.bool t211, .int .u64 t212, .int .u64 t213]] (by rfl) rfl rfl mp_ ?_
              with_reducible refine (impl_SubWide.calls k t208 t209 t210 t211 t212 t213 t214 t215 t216 t217 _ A8.out).mono ?_
              rintro e w27 ⟨rfl, hb⟩
              refine ⟨_, rfl, ?_⟩
              have n0_ := bb_ (g := gb195) (o := .cells #[.bool a0_0, .int .u64 a0_1, .int .u64 a0_2] 32 (0, 0)) hb
              have n1_ := bb_ (g := gb196) (o := .cells #[.bool a1_0, .int .u64 a1_1, .int .u64 a1_2] 32 (0, 0)) hb
              have n2_ := bb_ (g := gb207) (o := .cells #[.bool t203, .int .u64 t204, .int .u64 t205] 33 (0, 0)) hb
              have n3_ := Aside0.mk (below_step bel_ hb)
              clear BK195
              clear BK196
              clear BK207
              clear HB
              have BK195 := n0_
              have BK196 := n1_
              have BK207 := n2_
              have HB := n3_
              clear n0_ n1_ n2_ n3_
              (try clear hb)
              (try clear hb2)
              (try clear hk)
              (try clear hi)
              refine hK.out _ _ ⟨bc_, bc_, bc_, bc_, bc_, bc_⟩ (fun hHeld => ?_)
              clear hK K
              refine norm_ (a' := ?_) ?_ ?_
              rotate_left
              · show Act.put _ (some 22) _ = _
                simp only [Act.put, la_, lb_, lc_, i64_w, i32_w]
                rfl
              refine pure_ (i := 5) (N := some 17) (v := ?_) (a' := ?_) #[true, true, true, true, true, true, false, false, false, false, false] rfl rfl (any_of HT_.out (by kernel_rfl)) (fun _ _ _ h => h) (Or.inl ⟨by rfl, ?_⟩) ?_ ?_
              rotate_left
              · intro w'
                go_simp
                with_reducible rfl
              rotate_left
              · simp only [Act.put, la_, lb_, lc_, i64_w, i32_w]
                rfl
              refine pure_ (i := 6) (N := some 23) (v := ?_) (a' := ?_) #[true, true, true, true, true, true, true, false, false, false, false] rfl rfl (any_of HT_.out (by kernel_rfl)) (fun _ _ _ h => h) (Or.inl ⟨by rfl, ?_⟩) ?_ ?_
              rotate_left
              · intro w'
                go_simp
                with_reducible rfl
              rotate_left
              · simp only [Act.put, la_, lb_, lc_, i64_w, i32_w]
                rfl
              refine pure_ (i := 7) (N := some 24) (v := ?_) (a' := ?_) #[true, true, true, true, true, true, true, true, false, false, false] rfl rfl (any_of HT_.out (by kernel_rfl)) (fun _ _ _ h => h) (Or.inl ⟨by rfl, ?_⟩) ?_ ?_
              rotate_left
              · intro w'
                go_simp
                with_reducible rfl
              rotate_left
              · simp only [Act.put, la_, lb_, lc_, i64_w, i32_w]
                rfl
              refine one_ (i := 8) (N := some 7) #[true, true, true, true, true, true, true, true, true, false, false] rfl rfl (one_of HT_.out (by kernel_rfl)) (by decide) (fun K hK => ?_)
              refine box_step ?hg (N := 7) ?hd (cs := #[.bool false, .int .u64 0, .int .u64 0]) (t := 33) ?hr ?_; (case hd => rfl); (case hg => rfl); (case hr => first | (go_simp; done) | (go_simp; rfl))
              intro gb218 hg w28 hbox hb
              have n0_ := bb_ (g := gb195) (o := .cells #[.bool a0_0, .int .u64 a0_1, .int .u64 a0_2] 32 (0, 0)) hb
              have n1_ := bb_ (g := gb196) (o := .cells #[.bool a1_0, .int .u64 a1_1, .int .u64 a1_2] 32 (0, 0)) hb
              have n2_ := bb_ (g := gb207) (o := .cells #[.bool t203, .int .u64 t204, .int .u64 t205] 33 (0, 0)) hb
              have n3_ := Aside0.mk (below_step bel_ hb)
              have n4_ := Aside0.mk (hbox)
              have n5_ := Aside0.mk ((by rw [hg]; exact (below_size bel_) : w.heap.size ≤ gb218))
              have n6_ := Aside0.mk ((by rw [hg]; exact (below_size bel_) : w.heap.size ≤ gb218))
              have n7_ := nlt_ (g := gb195) (o := .cells #[.bool a0_0, .int .u64 a0_1, .int .u64 a0_2] 32 (0, 0)) hg
              have n8_ := ngt_ (g := gb195) (o := .cells #[.bool a0_0, .int .u64 a0_1, .int .u64 a0_2] 32 (0, 0)) hg
              have n9_ := nlt_ (g := gb196) (o := .cells #[.bool a1_0, .int .u64 a1_1, .int .u64 a1_2] 32 (0, 0)) hg
              have n10_ := ngt_ (g := gb196) (o := .cells #[.bool a1_0, .int .u64 a1_1, .int .u64 a1_2] 32 (0, 0)) hg
              have n11_ := nlt_ (g := gb207) (o := .cells #[.bool t203, .int .u64 t204, .int .u64 t205] 33 (0, 0)) hg
              have n12_ := ngt_ (g := gb207) (o := .cells #[.bool t203, .int .u64 t204, .int .u64 t205] 33 (0, 0)) hg
              clear BK195
              clear BK196
              clear BK207
              clear HB
              have BK195 := n0_
              have BK196 := n1_
              have BK207 := n2_
              have HB := n3_
              have BK218 := n4_
              have GW218 := n5_
              have GE218 := n6_
              have NB195_218 := n7_
              have NB218_195 := n8_
              have NB196_218 := n9_
              have NB218_196 := n10_
              have NB207_218 := n11_
              have NB218_207 := n12_
              clear n0_ n1_ n2_ n3_ n4_ n5_ n6_ n7_ n8_ n9_ n10_ n11_ n12_
              clear hb hbox hg
              refine hK.out _ _ ⟨bc_, bc_, bc_, bc_, bc_, bc_⟩ (fun hHeld => ?_)
              clear hK K
              refine norm_ (a' := ?_) ?_ ?_
              rotate_left
              · show Act.put _ (some 7) _ = _
                simp only [Act.put, la_, lb_, lc_, i64_w, i32_w]
                rfl
              exact norm_ (by simp only [putAll, Act.put, la_, lb_, lc_]) (hCont (gb218) _ ⟨hHeld, (by (with_reducible repeat (first | refine bN_ _ ?_ | refine bd_ ?_ | refine ba_ _ ?_)); exact BK195.out), (by (with_reducible repeat (first | refine bN_ _ ?_ | refine bd_ ?_ | refine ba_ _ ?_)); exact BK196.out), (by (with_reducible repeat (first | refine bN_ _ ?_ | refine bd_ ?_ | refine ba_ _ ?_)); exact BK207.out), (by (with_reducible repeat (first | refine bN_ _ ?_ | refine bd_ ?_ | refine ba_ _ ?_)); exact BK218.out), GW218.out, GE218.out, NB195_218.out, NB218_195.out, NB196_218.out, NB218_196.out, NB207_218.out, NB218_207.out, bel_⟩)
            · skip
              refine box_step ?hg (N := 7) ?hd (cs := #[.bool false, .int .u64 0, .int .u64 0]) (t := 33) ?hr ?_; (case hd => rfl); (case hg => rfl); (case hr => first | (go_simp; done) | (go_simp; rfl))
              intro gb218 hg w27 hbox hb
              have n0_ := bb_ (g := gb195) (o := .cells #[.bool a0_0, .int .u64 a0_1, .int .u64 a0_2] 32 (0, 0)) hb
              have n1_ := bb_ (g := gb196) (o := .cells #[.bool a1_0, .int .u64 a1_1, .int .u64 a1_2] 32 (0, 0)) hb
              have n2_ := bb_ (g := gb207) (o := .cells #[.bool t203, .int .u64 t204, .int .u64 t205] 33 (0, 0)) hb
              have n3_ := Aside0.mk (below_step bel_ hb)
              have n4_ := Aside0.mk (hbox)
              have n5_ := Aside0.mk ((by rw [hg]; exact (below_size bel_) : w.heap.size ≤ gb218))
              have n6_ := Aside0.mk ((by rw [hg]; exact (below_size bel_) : w.heap.size ≤ gb218))
              have n7_ := nlt_ (g := gb195) (o := .cells #[.bool a0_0, .int .u64 a0_1, .int .u64 a0_2] 32 (0, 0)) hg
              have n8_ := ngt_ (g := gb195) (o := .cells #[.bool a0_0, .int .u64 a0_1, .int .u64 a0_2] 32 (0, 0)) hg
              have n9_ := nlt_ (g := gb196) (o := .cells #[.bool a1_0, .int .u64 a1_1, .int .u64 a1_2] 32 (0, 0)) hg
              have n10_ := ngt_ (g := gb196) (o := .cells #[.bool a1_0, .int .u64 a1_1, .int .u64 a1_2] 32 (0, 0)) hg
              have n11_ := nlt_ (g := gb207) (o := .cells #[.bool t203, .int .u64 t204, .int .u64 t205] 33 (0, 0)) hg
              have n12_ := ngt_ (g := gb207) (o := .cells #[.bool t203, .int .u64 t204, .int .u64 t205] 33 (0, 0)) hg
              clear BK195
              clear BK196
              clear BK207
              clear HB
              have BK195 := n0_
              have BK196 := n1_
              have BK207 := n2_
              have HB := n3_
              have BK218 := n4_
              have GW218 := n5_
              have GE218 := n6_
              have NB195_218 := n7_
              have NB218_195 := n8_
              have NB196_218 := n9_
              have NB218_196 := n10_
              have NB207_218 := n11_
              have NB218_207 := n12_
              clear n0_ n1_ n2_ n3_ n4_ n5_ n6_ n7_ n8_ n9_ n10_ n11_ n12_
              clear hb hbox hg
              refine hK.out _ _ ⟨bc_, bc_, bc_, bc_, bc_, bc_⟩ (fun hHeld => ?_)
              clear hK K
              refine norm_ (a' := ?_) ?_ ?_
              rotate_left
              · show Act.put _ (some 7) _ = _
                simp only [Act.put, la_, lb_, lc_, i64_w, i32_w]
                rfl
              refine one_ (i := 4) (N := some 22) #[true, true, true, true, true, false, false, false, true, false, false] rfl rfl (one_of HT_.out (by kernel_rfl)) (by decide) (fun K hK => ?_)
              refine goes_ Try.func54 (by kernel_rfl) rfl #[.agg #[.bool t208, .int .u64 t209, .int .u64 t210], .agg #[.bool t211, .int .u64 t212, .int .u64 t213]] (by rfl) rfl rfl mp_ ?_
              with_reducible refine (impl_SubWide.calls k t208 t209 t210 t211 t212 t213 t214 t215 t216 t217 _ A8.out).mono ?_
              rintro e w28 ⟨rfl, hb⟩
              refine ⟨_, rfl, ?_⟩
              have n0_ := bb_ (g := gb195) (o := .cells #[.bool a0_0, .int .u64 a0_1, .int .u64 a0_2] 32 (0, 0)) hb
              have n1_ := bb_ (g := gb196) (o := .cells #[.bool a1_0, .int .u64 a1_1, .int .u64 a1_2] 32 (0, 0)) hb
              have n2_ := bb_ (g := gb207) (o := .cells #[.bool t203, .int .u64 t204, .int .u64 t205] 33 (0, 0)) hb
              have n3_ := bb_ (g := gb218) (o := .cells #[.bool false, .int .u64 0, .int .u64 0] 33 (0, 0)) hb
              have n4_ := Aside0.mk (below_step bel_ hb)
              clear BK195
              clear BK196
              clear BK207
              clear BK218
              clear HB
              have BK195 := n0_
              have BK196 := n1_
              have BK207 := n2_
              have BK218 := n3_
              have HB := n4_
              clear n0_ n1_ n2_ n3_ n4_
              (try clear hb)
              (try clear hb2)
              (try clear hk)
              (try clear hi)
              refine hK.out _ _ ⟨bc_, bc_, bc_, bc_, bc_, bc_⟩ (fun hHeld => ?_)
              clear hK K
              refine norm_ (a' := ?_) ?_ ?_
              rotate_left
              · show Act.put _ (some 22) _ = _
                simp only [Act.put, la_, lb_, lc_, i64_w, i32_w]
                rfl
              refine pure_ (i := 5) (N := some 17) (v := ?_) (a' := ?_) #[true, true, true, true, true, true, false, false, true, false, false] rfl rfl (any_of HT_.out (by kernel_rfl)) (fun _ _ _ h => h) (Or.inl ⟨by rfl, ?_⟩) ?_ ?_
              rotate_left
              · intro w'
                go_simp
                with_reducible rfl
              rotate_left
              · simp only [Act.put, la_, lb_, lc_, i64_w, i32_w]
                rfl
              refine pure_ (i := 6) (N := some 23) (v := ?_) (a' := ?_) #[true, true, true, true, true, true, true, false, true, false, false] rfl rfl (any_of HT_.out (by kernel_rfl)) (fun _ _ _ h => h) (Or.inl ⟨by rfl, ?_⟩) ?_ ?_
              rotate_left
              · intro w'
                go_simp
                with_reducible rfl
              rotate_left
              · simp only [Act.put, la_, lb_, lc_, i64_w, i32_w]
                rfl
              refine pure_ (i := 7) (N := some 24) (v := ?_) (a' := ?_) #[true, true, true, true, true, true, true, true, true, false, false] rfl rfl (any_of HT_.out (by kernel_rfl)) (fun _ _ _ h => h) (Or.inl ⟨by rfl, ?_⟩) ?_ ?_
              rotate_left
              · intro w'
                go_simp
                with_reducible rfl
              rotate_left
              · simp only [Act.put, la_, lb_, lc_, i64_w, i32_w]
                rfl
              exact norm_ (by simp only [putAll, Act.put, la_, lb_, lc_]) (hCont (gb218) _ ⟨hHeld, (by (with_reducible repeat (first | refine bN_ _ ?_ | refine bd_ ?_ | refine ba_ _ ?_)); exact BK195.out), (by (with_reducible repeat (first | refine bN_ _ ?_ | refine bd_ ?_ | refine ba_ _ ?_)); exact BK196.out), (by (with_reducible repeat (first | refine bN_ _ ?_ | refine bd_ ?_ | refine ba_ _ ?_)); exact BK207.out), (by (with_reducible repeat (first | refine bN_ _ ?_ | refine bd_ ?_ | refine ba_ _ ?_)); exact BK218.out), GW218.out, GE218.out, NB195_218.out, NB218_195.out, NB196_218.out, NB218_196.out, NB207_218.out, NB218_207.out, bel_⟩)
          · skip
            refine box_step ?hg (N := 7) ?hd (cs := #[.bool false, .int .u64 0, .int .u64 0]) (t := 33) ?hr ?_; (case hd => rfl); (case hg => rfl); (case hr => first | (go_simp; done) | (go_simp; rfl))
            intro gb218 hg w26 hbox hb
            have n0_ := bb_ (g := gb195) (o := .cells #[.bool a0_0, .int .u64 a0_1, .int .u64 a0_2] 32 (0, 0)) hb
            have n1_ := bb_ (g := gb196) (o := .cells #[.bool a1_0, .int .u64 a1_1, .int .u64 a1_2] 32 (0, 0)) hb
            have n2_ := bb_ (g := gb207) (o := .cells #[.bool t203, .int .u64 t204, .int .u64 t205] 33 (0, 0)) hb
            have n3_ := Aside0.mk (below_step bel_ hb)
            have n4_ := Aside0.mk (hbox)
            have n5_ := Aside0.mk ((by rw [hg]; exact (below_size bel_) : w.heap.size ≤ gb218))
            have n6_ := Aside0.mk ((by rw [hg]; exact (below_size bel_) : w.heap.size ≤ gb218))
            have n7_ := nlt_ (g := gb195) (o := .cells #[.bool a0_0, .int .u64 a0_1, .int .u64 a0_2] 32 (0, 0)) hg
            have n8_ := ngt_ (g := gb195) (o := .cells #[.bool a0_0, .int .u64 a0_1, .int .u64 a0_2] 32 (0, 0)) hg
            have n9_ := nlt_ (g := gb196) (o := .cells #[.bool a1_0, .int .u64 a1_1, .int .u64 a1_2] 32 (0, 0)) hg
            have n10_ := ngt_ (g := gb196) (o := .cells #[.bool a1_0, .int .u64 a1_1, .int .u64 a1_2] 32 (0, 0)) hg
            have n11_ := nlt_ (g := gb207) (o := .cells #[.bool t203, .int .u64 t204, .int .u64 t205] 33 (0, 0)) hg
            have n12_ := ngt_ (g := gb207) (o := .cells #[.bool t203, .int .u64 t204, .int .u64 t205] 33 (0, 0)) hg
            clear BK195
            clear BK196
            clear BK207
            clear HB
            have BK195 := n0_
            have BK196 := n1_
            have BK207 := n2_
            have HB := n3_
            have BK218 := n4_
            have GW218 := n5_
            have GE218 := n6_
            have NB195_218 := n7_
            have NB218_195 := n8_
            have NB196_218 := n9_
            have NB218_196 := n10_
            have NB207_218 := n11_
            have NB218_207 := n12_
            clear n0_ n1_ n2_ n3_ n4_ n5_ n6_ n7_ n8_ n9_ n10_ n11_ n12_
            clear hb hbox hg
            refine hK.out _ _ ⟨bc_, bc_, bc_, bc_, bc_, bc_⟩ (fun hHeld => ?_)
            clear hK K
            refine norm_ (a' := ?_) ?_ ?_
            rotate_left
            · show Act.put _ (some 7) _ = _
              simp only [Act.put, la_, lb_, lc_, i64_w, i32_w]
              rfl
            refine one_ (i := 3) (N := some 21) #[true, true, true, true, false, false, false, false, true, false, false] rfl rfl (one_of HT_.out (by kernel_rfl)) (by decide) (fun K hK => ?_)
            refine goes_ Try.func20 (by kernel_rfl) rfl #[.agg #[.bool a1_0, .int .u64 a1_1, .int .u64 a1_2]] (by rfl) rfl rfl mp_ ?_
            with_reducible refine (laws_toWide.calls a1_0 a1_1 a1_2 t211 t212 t213 _ A7.out).mono ?_
            rintro e w27 ⟨rfl, hb⟩
            refine ⟨_, rfl, ?_⟩
            have n0_ := bb_ (g := gb195) (o := .cells #[.bool a0_0, .int .u64 a0_1, .int .u64 a0_2] 32 (0, 0)) hb
            have n1_ := bb_ (g := gb196) (o := .cells #[.bool a1_0, .int .u64 a1_1, .int .u64 a1_2] 32 (0, 0)) hb
            have n2_ := bb_ (g := gb207) (o := .cells #[.bool t203, .int .u64 t204, .int .u64 t205] 33 (0, 0)) hb
            have n3_ := bb_ (g := gb218) (o := .cells #[.bool false, .int .u64 0, .int .u64 0] 33 (0, 0)) hb
            have n4_ := Aside0.mk (below_step bel_ hb)
            clear BK195
            clear BK196
            clear BK207
            clear BK218
            clear HB
            have BK195 := n0_
            have BK196 := n1_
            have BK207 := n2_
            have BK218 := n3_
            have HB := n4_
            clear n0_ n1_ n2_ n3_ n4_
            (try clear hb)
            (try clear hb2)
            (try clear hk)
            (try clear hi)
            refine hK.out _ _ ⟨bc_, bc_, bc_, bc_, bc_, bc_⟩ (fun hHeld => ?_)
            clear hK K
            refine norm_ (a' := ?_) ?_ ?_
            rotate_left
            · show Act.put _ (some 21) _ = _
              simp only [Act.put, la_, lb_, lc_, i64_w, i32_w]
              rfl
            refine one_ (i := 4) (N := some 22) #[true, true, true, true, true, false, false, false, true, false, false] rfl rfl (one_of HT_.out (by kernel_rfl)) (by decide) (fun K hK => ?_)
            refine goes_ Try.func54 (by kernel_rfl) rfl #[.agg #[.bool t208, .int .u64 t209, .int .u64 t210], .agg #[.bool t211, .int .u64 t212, .int .u64 t213]] (by rfl) rfl rfl mp_ ?_
            with_reducible refine (impl_SubWide.calls k t208 t209 t210 t211 t212 t213 t214 t215 t216 t217 _ A8.out).mono ?_
            rintro e w28 ⟨rfl, hb⟩
            refine ⟨_, rfl, ?_⟩
            have n0_ := bb_ (g := gb195) (o := .cells #[.bool a0_0, .int .u64 a0_1, .int .u64 a0_2] 32 (0, 0)) hb
            have n1_ := bb_ (g := gb196) (o := .cells #[.bool a1_0, .int .u64 a1_1, .int .u64 a1_2] 32 (0, 0)) hb
            have n2_ := bb_ (g := gb207) (o := .cells #[.bool t203, .int .u64 t204, .int .u64 t205] 33 (0, 0)) hb
            have n3_ := bb_ (g := gb218) (o := .cells #[.bool false, .int .u64 0, .int .u64 0] 33 (0, 0)) hb
            have n4_ := Aside0.mk (below_step bel_ hb)
            clear BK195
            clear BK196
            clear BK207
            clear BK218
            clear HB
            have BK195 := n0_
            have BK196 := n1_
            have BK207 := n2_
            have BK218 := n3_
            have HB := n4_
            clear n0_ n1_ n2_ n3_ n4_
            (try clear hb)
            (try clear hb2)
            (try clear hk)
            (try clear hi)
            refine hK.out _ _ ⟨bc_, bc_, bc_, bc_, bc_, bc_⟩ (fun hHeld => ?_)
            clear hK K
            refine norm_ (a' := ?_) ?_ ?_
            rotate_left
            · show Act.put _ (some 22) _ = _
              simp only [Act.put, la_, lb_, lc_, i64_w, i32_w]
              rfl
            refine pure_ (i := 5) (N := some 17) (v := ?_) (a' := ?_) #[true, true, true, true, true, true, false, false, true, false, false] rfl rfl (any_of HT_.out (by kernel_rfl)) (fun _ _ _ h => h) (Or.inl ⟨by rfl, ?_⟩) ?_ ?_
            rotate_left
            · intro w'
              go_simp
              with_reducible rfl
            rotate_left
            · simp only [Act.put, la_, lb_, lc_, i64_w, i32_w]
              rfl
            refine pure_ (i := 6) (N := some 23) (v := ?_) (a' := ?_) #[true, true, true, true, true, true, true, false, true, false, false] rfl rfl (any_of HT_.out (by kernel_rfl)) (fun _ _ _ h => h) (Or.inl ⟨by rfl, ?_⟩) ?_ ?_
            rotate_left
            · intro w'
              go_simp
              with_reducible rfl
            rotate_left
            · simp only [Act.put, la_, lb_, lc_, i64_w, i32_w]
              rfl
            refine pure_ (i := 7) (N := some 24) (v := ?_) (a' := ?_) #[true, true, true, true, true, true, true, true, true, false, false] rfl rfl (any_of HT_.out (by kernel_rfl)) (fun _ _ _ h => h) (Or.inl ⟨by rfl, ?_⟩) ?_ ?_
            rotate_left
            · intro w'
              go_simp
              with_reducible rfl
            rotate_left
            · simp only [Act.put, la_, lb_, lc_, i64_w, i32_w]
              rfl
            exact norm_ (by simp only [putAll, Act.put, la_, lb_, lc_]) (hCont (gb218) _ ⟨hHeld, (by (with_reducible repeat (first | refine bN_ _ ?_ | refine bd_ ?_ | refine ba_ _ ?_)); exact BK195.out), (by (with_reducible repeat (first | refine bN_ _ ?_ | refine bd_ ?_ | refine ba_ _ ?_)); exact BK196.out), (by (with_reducible repeat (first | refine bN_ _ ?_ | refine bd_ ?_ | refine ba_ _ ?_)); exact BK207.out), (by (with_reducible repeat (first | refine bN_ _ ?_ | refine bd_ ?_ | refine ba_ _ ?_)); exact BK218.out), GW218.out, GE218.out, NB195_218.out, NB218_195.out, NB196_218.out, NB218_196.out, NB207_218.out, NB218_207.out, bel_⟩)
        · skip
          refine box_step ?hg (N := 7) ?hd (cs := #[.bool false, .int .u64 0, .int .u64 0]) (t := 33) ?hr ?_; (case hd => rfl); (case hg => rfl); (case hr => first | (go_simp; done) | (go_simp; rfl))
          intro gb218 hg w25 hbox hb
          have n0_ := bb_ (g := gb195) (o := .cells #[.bool a0_0, .int .u64 a0_1, .int .u64 a0_2] 32 (0, 0)) hb
          have n1_ := bb_ (g := gb196) (o := .cells #[.bool a1_0, .int .u64 a1_1, .int .u64 a1_2] 32 (0, 0)) hb
          have n2_ := bb_ (g := gb207) (o := .cells #[.bool t203, .int .u64 t204, .int .u64 t205] 33 (0, 0)) hb
          have n3_ := Aside0.mk (below_step bel_ hb)
          have n4_ := Aside0.mk (hbox)
          have n5_ := Aside0.mk ((by rw [hg]; exact (below_size bel_) : w.heap.size ≤ gb218))
          have n6_ := Aside0.mk ((by rw [hg]; exact (below_size bel_) : w.heap.size ≤ gb218))
          have n7_ := nlt_ (g := gb195) (o := .cells #[.bool a0_0, .int .u64 a0_1, .int .u64 a0_2] 32 (0, 0)) hg
          have n8_ := ngt_ (g := gb195) (o := .cells #[.bool a0_0, .int .u64 a0_1, .int .u64 a0_2] 32 (0, 0)) hg
          have n9_ := nlt_ (g := gb196) (o := .cells #[.bool a1_0, .int .u64 a1_1, .int .u64 a1_2] 32 (0, 0)) hg
          have n10_ := ngt_ (g := gb196) (o := .cells #[.bool a1_0, .int .u64 a1_1, .int .u64 a1_2] 32 (0, 0)) hg
          have n11_ := nlt_ (g := gb207) (o := .cells #[.bool t203, .int .u64 t204, .int .u64 t205] 33 (0, 0)) hg
          have n12_ := ngt_ (g := gb207) (o := .cells #[.bool t203, .int .u64 t204, .int .u64 t205] 33 (0, 0)) hg
          clear BK195
          clear BK196
          clear BK207
          clear HB
          have BK195 := n0_
          have BK196 := n1_
          have BK207 := n2_
          have HB := n3_
          have BK218 := n4_
          have GW218 := n5_
          have GE218 := n6_
          have NB195_218 := n7_
          have NB218_195 := n8_
          have NB196_218 := n9_
          have NB218_196 := n10_
          have NB207_218 := n11_
          have NB218_207 := n12_
          clear n0_ n1_ n2_ n3_ n4_ n5_ n6_ n7_ n8_ n9_ n10_ n11_ n12_
          clear hb hbox hg
          refine hK.out _ _ ⟨bc_, bc_, bc_, bc_, bc_, bc_⟩ (fun hHeld => ?_)
          clear hK K
          refine norm_ (a' := ?_) ?_ ?_
          rotate_left
          · show Act.put _ (some 7) _ = _
            simp only [Act.put, la_, lb_, lc_, i64_w, i32_w]
            rfl
          refine one_ (i := 1) (N := some 19) #[true, true, true, false, false, false, false, false, true, false, false] rfl rfl (one_of HT_.out (by kernel_rfl)) (by decide) (fun K hK => ?_)
          refine goes_ Try.func20 (by kernel_rfl) rfl #[.agg #[.bool a0_0, .int .u64 a0_1, .int .u64 a0_2]] (by rfl) rfl rfl mp_ ?_
          with_reducible refine (laws_toWide.calls a0_0 a0_1 a0_2 t208 t209 t210 _ A6.out).mono ?_
          rintro e w26 ⟨rfl, hb⟩
          refine ⟨_, rfl, ?_⟩
          have n0_ := bb_ (g := gb195) (o := .cells #[.bool a0_0, .int .u64 a0_1, .int .u64 a0_2] 32 (0, 0)) hb
          have n1_ := bb_ (g := gb196) (o := .cells #[.bool a1_0, .int .u64 a1_1, .int .u64 a1_2] 32 (0, 0)) hb
          have n2_ := bb_ (g := gb207) (o := .cells #[.bool t203, .int .u64 t204, .int .u64 t205] 33 (0, 0)) hb
          have n3_ := bb_ (g := gb218) (o := .cells #[.bool false, .int .u64 0, .int .u64 0] 33 (0, 0)) hb
          have n4_ := Aside0.mk (below_step bel_ hb)
          clear BK195
          clear BK196
          clear BK207
          clear BK218
          clear HB
          have BK195 := n0_
          have BK196 := n1_
          have BK207 := n2_
          have BK218 := n3_
          have HB := n4_
          clear n0_ n1_ n2_ n3_ n4_
          (try clear hb)
          (try clear hb2)
          (try clear hk)
          (try clear hi)
          refine hK.out _ _ ⟨bc_, bc_, bc_, bc_, bc_, bc_⟩ (fun hHeld => ?_)
          clear hK K
          refine norm_ (a' := ?_) ?_ ?_
          rotate_left
          · show Act.put _ (some 19) _ = _
            simp only [Act.put, la_, lb_, lc_, i64_w, i32_w]
            rfl
          refine one_ (i := 3) (N := some 21) #[true, true, true, true, false, false, false, false, true, false, false] rfl rfl (one_of HT_.out (by kernel_rfl)) (by decide) (fun K hK => ?_)
          refine goes_ Try.func20 (by kernel_rfl) rfl #[.agg #[.bool a1_0, .int .u64 a1_1, .int .u64 a1_2]] (by rfl) rfl rfl mp_ ?_
          with_reducible refine (laws_toWide.calls a1_0 a1_1 a1_2 t211 t212 t213 _ A7.out).mono ?_
          rintro e w27 ⟨rfl, hb⟩
          refine ⟨_, rfl, ?_⟩
          have n0_ := bb_ (g := gb195) (o := .cells #[.bool a0_0, .int .u64 a0_1, .int .u64 a0_2] 32 (0, 0)) hb
          have n1_ := bb_ (g := gb196) (o := .cells #[.bool a1_0, .int .u64 a1_1, .int .u64 a1_2] 32 (0, 0)) hb
          have n2_ := bb_ (g := gb207) (o := .cells #[.bool t203, .int .u64 t204, .int .u64 t205] 33 (0, 0)) hb
          have n3_ := bb_ (g := gb218) (o := .cells #[.bool false, .int .u64 0, .int .u64 0] 33 (0, 0)) hb
          have n4_ := Aside0.mk (below_step bel_ hb)
          clear BK195
          clear BK196
          clear BK207
          clear BK218
          clear HB
          have BK195 := n0_
          have BK196 := n1_
          have BK207 := n2_
          have BK218 := n3_
          have HB := n4_
          clear n0_ n1_ n2_ n3_ n4_
          (try clear hb)
          (try clear hb2)
          (try clear hk)
          (try clear hi)
          refine hK.out _ _ ⟨bc_, bc_, bc_, bc_, bc_, bc_⟩ (fun hHeld => ?_)
          clear hK K
          refine norm_ (a' := ?_) ?_ ?_
          rotate_left
          · show Act.put _ (some 21) _ = _
            simp only [Act.put, la_, lb_, lc_, i64_w, i32_w]
            rfl
          refine one_ (i := 4) (N := some 22) #[true, true, true, true, true, false, false, false, true, false, false] rfl rfl (one_of HT_.out (by kernel_rfl)) (by decide) (fun K hK => ?_)
          refine goes_ Try.func54 (by kernel_rfl) rfl #[.agg #[.bool t208, .int .u64 t209, .int .u64 t210], .agg #[.bool t211, .int .u64 t212, .int .u64 t213]] (by rfl) rfl rfl mp_ ?_
          with_reducible refine (impl_SubWide.calls k t208 t209 t210 t211 t212 t213 t214 t215 t216 t217 _ A8.out).mono ?_
          rintro e w28 ⟨rfl, hb⟩
          refine ⟨_, rfl, ?_⟩
          have n0_ := bb_ (g := gb195) (o := .cells #[.bool a0_0, .int .u64 a0_1, .int .u64 a0_2] 32 (0, 0)) hb
          have n1_ := bb_ (g := gb196) (o := .cells #[.bool a1_0, .int .u64 a1_1, .int .u64 a1_2] 32 (0, 0)) hb
          have n2_ := bb_ (g := gb207) (o := .cells #[.bool t203, .int .u64 t204, .int .u64 t205] 33 (0, 0)) hb
          have n3_ := bb_ (g := gb218) (o := .cells #[.bool false, .int .u64 0, .int .u64 0] 33 (0, 0)) hb
          have n4_ := Aside0.mk (below_step bel_ hb)
          clear BK195
          clear BK196
          clear BK207
          clear BK218
          clear HB
          have BK195 := n0_
          have BK196 := n1_
          have BK207 := n2_
          have BK218 := n3_
          have HB := n4_
          clear n0_ n1_ n2_ n3_ n4_
          (try clear hb)
          (try clear hb2)
          (try clear hk)
          (try clear hi)
          refine hK.out _ _ ⟨bc_, bc_, bc_, bc_, bc_, bc_⟩ (fun hHeld => ?_)
          clear hK K
          refine norm_ (a' := ?_) ?_ ?_
          rotate_left
          · show Act.put _ (some 22) _ = _
            simp only [Act.put, la_, lb_, lc_, i64_w, i32_w]
            rfl
          refine pure_ (i := 5) (N := some 17) (v := ?_) (a' := ?_) #[true, true, true, true, true, true, false, false, true, false, false] rfl rfl (any_of HT_.out (by kernel_rfl)) (fun _ _ _ h => h) (Or.inl ⟨by rfl, ?_⟩) ?_ ?_
          rotate_left
          · intro w'
            go_simp
            with_reducible rfl
          rotate_left
          · simp only [Act.put, la_, lb_, lc_, i64_w, i32_w]
            rfl
          refine pure_ (i := 6) (N := some 23) (v := ?_) (a' := ?_) #[true, true, true, true, true, true, true, false, true, false, false] rfl rfl (any_of HT_.out (by kernel_rfl)) (fun _ _ _ h => h) (Or.inl ⟨by rfl, ?_⟩) ?_ ?_
          rotate_left
          · intro w'
            go_simp
            with_reducible rfl
          rotate_left
          · simp only [Act.put, la_, lb_, lc_, i64_w, i32_w]
            rfl
          refine pure_ (i := 7) (N := some 24) (v := ?_) (a' := ?_) #[true, true, true, true, true, true, true, true, true, false, false] rfl rfl (any_of HT_.out (by kernel_rfl)) (fun _ _ _ h => h) (Or.inl ⟨by rfl, ?_⟩) ?_ ?_
          rotate_left
          · intro w'
            go_simp
            with_reducible rfl
          rotate_left
          · simp only [Act.put, la_, lb_, lc_, i64_w, i32_w]
            rfl
          exact norm_ (by simp only [putAll, Act.put, la_, lb_, lc_]) (hCont (gb218) _ ⟨hHeld, (by (with_reducible repeat (first | refine bN_ _ ?_ | refine bd_ ?_ | refine ba_ _ ?_)); exact BK195.out), (by (with_reducible repeat (first | refine bN_ _ ?_ | refine bd_ ?_ | refine ba_ _ ?_)); exact BK196.out), (by (with_reducible repeat (first | refine bN_ _ ?_ | refine bd_ ?_ | refine ba_ _ ?_)); exact BK207.out), (by (with_reducible repeat (first | refine bN_ _ ?_ | refine bd_ ?_ | refine ba_ _ ?_)); exact BK218.out), GW218.out, GE218.out, NB195_218.out, NB218_195.out, NB196_218.out, NB218_196.out, NB207_218.out, NB218_207.out, bel_⟩)
      rintro gb218 w29 ⟨hS_, h0_, h1_, h2_, h3_, h4_, h5_, h6_, h7_, h8_, h9_, h10_, h11_, h12_⟩
      have n0_ : Aside0 (w29.heap[gb195]? = some (.cells #[.bool a0_0, .int .u64 a0_1, .int .u64 a0_2] 32 (0, 0))) := ⟨h0_⟩
      have n1_ : Aside0 (w29.heap[gb196]? = some (.cells #[.bool a1_0, .int .u64 a1_1, .int .u64 a1_2] 32 (0, 0))) := ⟨h1_⟩
      have n2_ : Aside0 (w29.heap[gb207]? = some (.cells #[.bool t203, .int .u64 t204, .int .u64 t205] 33 (0, 0))) := ⟨h2_⟩
      have n3_ : Aside0 (w29.heap[gb218]? = some (.cells #[.bool false, .int .u64 0, .int .u64 0] 33 (0, 0))) := ⟨h3_⟩
      have n4_ : Aside0 (w.heap.size ≤ gb218) := ⟨h4_⟩
      have n5_ : Aside0 (w.heap.size ≤ gb218) := ⟨h5_⟩
      have n6_ : Aside0 (gb195 ≠ gb218) := ⟨h6_⟩
      have n7_ : Aside0 (gb218 ≠ gb195) := ⟨h7_⟩
      have n8_ : Aside0 (gb196 ≠ gb218) := ⟨h8_⟩
      have n9_ : Aside0 (gb218 ≠ gb196) := ⟨h9_⟩
      have n10_ : Aside0 (gb207 ≠ gb218) := ⟨h10_⟩
      have n11_ : Aside0 (gb218 ≠ gb207) := ⟨h11_⟩
      have n12_ : Aside0 (Below w.heap.size w w29) := ⟨h12_⟩
      clear BK195
      clear BK196
      clear BK207
      clear HB
      clear h0_ h1_ h2_ h3_ h4_ h5_ h6_ h7_ h8_ h9_ h10_ h11_ h12_
      have BK195 := n0_
      have BK196 := n1_
      have BK207 := n2_
      have BK218 := n3_
      have GW218 := n4_
      have GE218 := n5_
      have NB195_218 := n6_
      have NB218_195 := n7_
      have NB196_218 := n8_
      have NB218_196 := n9_
      have NB207_218 := n10_
      have NB218_207 := n11_
      have HB := n12_
      clear n0_ n1_ n2_ n3_ n4_ n5_ n6_ n7_ n8_ n9_ n10_ n11_ n12_
      have hHeld : w29.cell? ⟨gb195, 0, none⟩ = some (.bool a0_0) ∧ w29.cell? ⟨gb195, 1, none⟩ = some (.int .u64 a0_1) ∧ w29.cell? ⟨gb195, 2, none⟩ = some (.int .u64 a0_2) ∧ w29.cell? ⟨gb196, 0, none⟩ = some (.bool a1_0) ∧ w29.cell? ⟨gb196, 1, none⟩ = some (.int .u64 a1_1) ∧ w29.cell? ⟨gb196, 2, none⟩ = some (.int .u64 a1_2) := hS_
      refine norm_ (a' := ?_) ?_ ?_
      rotate_left
      · simp only [putAll, Act.put, la_, lb_, lc_]
        rfl
      refine one_ (i := 9) (N := none) #[true, true, true, true, true, true, true, true, true, true, false] rfl rfl (one_of HT_.out (by kernel_rfl)) (by decide) (fun K hK => ?_)
      have hs30 : w29.cell? ⟨gb218, 0, none⟩ = some (.bool false) := (blk_cell BK218.out 0).trans rfl
      have hfs30 := blk_frozen BK218.out 0
      have hns30_0 := NB195_218.out
      have hns30_1 := NB196_218.out
      have hns30_2 := NB207_218.out
      have hms30_0 := NB218_195.out
      have hms30_1 := NB218_196.out
      have hms30_2 := NB218_207.out
      have hs31 : w29.cell? ⟨gb218, 1, none⟩ = some (.int .u64 0) := (blk_cell BK218.out 1).trans rfl
      have hfs31 := blk_frozen BK218.out 1
      have hns31_0 := NB195_218.out
      have hns31_1 := NB196_218.out
      have hns31_2 := NB207_218.out
      have hms31_0 := NB218_195.out
      have hms31_1 := NB218_196.out
      have hms31_2 := NB218_207.out
      have hs32 : w29.cell? ⟨gb218, 2, none⟩ = some (.int .u64 0) := (blk_cell BK218.out 2).trans rfl
      have hfs32 := blk_frozen BK218.out 2
      have hns32_0 := NB195_218.out
      have hns32_1 := NB196_218.out
      have hns32_2 := NB207_218.out
      have hms32_0 := NB218_195.out
      have hms32_1 := NB218_196.out
      have hms32_2 := NB218_207.out
      refine skip_ (w1 := ?_) (by rfl) rfl ?_ ?_
      rotate_left
      · go_simp
        rfl
      refine hK.out _ _ ⟨((cell_far (p := ⟨gb218, _, none⟩) NB195_218.out _).trans (((cell_far (p := ⟨gb218, _, none⟩) NB195_218.out _).trans (((cell_far (p := ⟨gb218, _, none⟩) NB195_218.out _).trans (hHeld.1)))))), ((cell_far (p := ⟨gb218, _, none⟩) NB195_218.out _).trans (((cell_far (p := ⟨gb218, _, none⟩) NB195_218.out _).trans (((cell_far (p := ⟨gb218, _, none⟩) NB195_218.out _).trans (hHeld.2.1)))))), ((cell_far (p := ⟨gb218, _, none⟩) NB195_218.out _).trans (((cell_far (p := ⟨gb218, _, none⟩) NB195_218.out _).trans (((cell_far (p := ⟨gb218, _, none⟩) NB195_218.out _).trans (hHeld.2.2.1)))))), ((cell_far (p := ⟨gb218, _, none⟩) NB196_218.out _).trans (((cell_far (p := ⟨gb218, _, none⟩) NB196_218.out _).trans (((cell_far (p := ⟨gb218, _, none⟩) NB196_218.out _).trans (hHeld.2.2.2.1)))))), ((cell_far (p := ⟨gb218, _, none⟩) NB196_218.out _).trans (((cell_far (p := ⟨gb218, _, none⟩) NB196_218.out _).trans (((cell_far (p := ⟨gb218, _, none⟩) NB196_218.out _).trans (hHeld.2.2.2.2.1)))))), ((cell_far (p := ⟨gb218, _, none⟩) NB196_218.out _).trans (((cell_far (p := ⟨gb218, _, none⟩) NB196_218.out _).trans (((cell_far (p := ⟨gb218, _, none⟩) NB196_218.out _).trans (hHeld.2.2.2.2.2))))))⟩ (fun hHeld => ?_)
      clear hK K
      refine pure_ (i := 10) (N := some 8) (v := ?_) (a' := ?_) #[true, true, true, true, true, true, true, true, true, true, true] rfl rfl (any_of HT_.out (by kernel_rfl)) (fun _ _ _ h => h) (Or.inl ⟨by rfl, ?_⟩) ?_ ?_
      rotate_left
      · intro w'
        go_simp
        with_reducible rfl
      rotate_left
      · simp only [Act.put, la_, lb_, lc_, i64_w, i32_w]
        rfl
      refine done_ (done_of HT_.out (by kernel_rfl)) ?_
      have hnb33 := NB218_195.out
      have hnc33 := NB195_218.out
      have hnb34 := NB218_196.out
      have hnc34 := NB196_218.out
      have hnb35 := NB218_207.out
      have hnc35 := NB207_218.out
      have hcz36_0 : w29.cell? ⟨gb218, 0, none⟩ = some (.bool false) := bc_
      have hcz36_1 : w29.cell? ⟨gb218, 1, none⟩ = some (.int .u64 0) := bc_
      have hcz36_2 : w29.cell? ⟨gb218, 2, none⟩ = some (.int .u64 0) := bc_
      have hfz36_0 := blk_frozen BK218.out 0
      have hfz36_1 := blk_frozen BK218.out 1
      have hfz36_2 := blk_frozen BK218.out 2
      have hnb37 := NB207_195.out
      have hnc37 := NB195_207.out
      have hnb38 := NB207_196.out
      have hnc38 := NB196_207.out
      have hcz39_0 : w29.cell? ⟨gb207, 0, none⟩ = some (.bool t203) := bc_
      have hcz39_1 : w29.cell? ⟨gb207, 1, none⟩ = some (.int .u64 t204) := bc_
      have hcz39_2 : w29.cell? ⟨gb207, 2, none⟩ = some (.int .u64 t205) := bc_
      have hfz39_0 := blk_frozen BK207.out 0
      have hfz39_1 := blk_frozen BK207.out 1
      have hfz39_2 := blk_frozen BK207.out 2
      try go_wp2_with (first | ((with_reducible refine gate_callee (f := 22) rfl ?_); refine goesL_ (some 27) rfl rfl Try.func22 (by kernel_rfl) rfl #[.agg #[.bool t214, .int .u64 t215, .int .u64 t216], .agg #[.bool t203, .int .u64 t204, .int .u64 t205]] rfl mp_ ?_; (with_reducible refine (laws_eqWide.calls t214 t215 t216 t203 t204 t205 true _ A9.out).mono ?_); rintro e w40 ⟨rfl, hb⟩; refine ⟨_, rfl, ?_⟩; have n0_ := Aside0.mk (blk_below (g := gb195) (o := .cells #[.bool a0_0, .int .u64 a0_1, .int .u64 a0_2] 32 (0, 0)) (by (with_reducible repeat (first | refine bN_ _ ?_ | refine bd_ ?_ | refine ba_ _ ?_)); refine blk_far ?_ NB195_218.out _; (with_reducible repeat (first | refine bN_ _ ?_ | refine bd_ ?_ | refine ba_ _ ?_)); refine blk_far ?_ NB195_218.out _; (with_reducible repeat (first | refine bN_ _ ?_ | refine bd_ ?_ | refine ba_ _ ?_)); refine blk_far ?_ NB195_218.out _; (with_reducible repeat (first | refine bN_ _ ?_ | refine bd_ ?_ | refine ba_ _ ?_)); exact BK195.out) hb); have n1_ := Aside0.mk (blk_below (g := gb196) (o := .cells #[.bool a1_0, .int .u64 a1_1, .int .u64 a1_2] 32 (0, 0)) (by (with_reducible repeat (first | refine bN_ _ ?_ | refine bd_ ?_ | refine ba_ _ ?_)); refine blk_far ?_ NB196_218.out _; (with_reducible repeat (first | refine bN_ _ ?_ | refine bd_ ?_ | refine ba_ _ ?_)); refine blk_far ?_ NB196_218.out _; (with_reducible repeat (first | refine bN_ _ ?_ | refine bd_ ?_ | refine ba_ _ ?_)); refine blk_far ?_ NB196_218.out _; (with_reducible repeat (first | refine bN_ _ ?_ | refine bd_ ?_ | refine ba_ _ ?_)); exact BK196.out) hb); have n2_ := Aside0.mk (blk_below (g := gb207) (o := .cells #[.bool t203, .int .u64 t204, .int .u64 t205] 33 (0, 0)) (by (with_reducible repeat (first | refine bN_ _ ?_ | refine bd_ ?_ | refine ba_ _ ?_)); refine blk_far ?_ NB207_218.out _; (with_reducible repeat (first | refine bN_ _ ?_ | refine bd_ ?_ | refine ba_ _ ?_)); refine blk_far ?_ NB207_218.out _; (with_reducible repeat (first | refine bN_ _ ?_ | refine bd_ ?_ | refine ba_ _ ?_)); refine blk_far ?_ NB207_218.out _; (with_reducible repeat (first | refine bN_ _ ?_ | refine bd_ ?_ | refine ba_ _ ?_)); exact BK207.out) hb); have n3_ := Aside0.mk (blk_below (g := gb218) (o := .cells #[.bool t214, .int .u64 t215, .int .u64 t216] 33 (0, 0)) (by (with_reducible repeat (first | refine bN_ _ ?_ | refine bd_ ?_ | refine ba_ _ ?_)); refine blk_put (cs := #[.bool t214, .int .u64 t215, .int .u64 0]) ?_ 2 _ rfl; (with_reducible repeat (first | refine bN_ _ ?_ | refine bd_ ?_ | refine ba_ _ ?_)); refine blk_put (cs := #[.bool t214, .int .u64 0, .int .u64 0]) ?_ 1 _ rfl; (with_reducible repeat (first | refine bN_ _ ?_ | refine bd_ ?_ | refine ba_ _ ?_)); refine blk_put (cs := #[.bool false, .int .u64 0, .int .u64 0]) ?_ 0 _ rfl; (with_reducible repeat (first | refine bN_ _ ?_ | refine bd_ ?_ | refine ba_ _ ?_)); exact BK218.out) hb); have n4_ := Aside0.mk (below_step bel_ hb); clear BK195; clear BK196; clear BK207; clear BK218; clear HB; have BK195 := n0_; have BK196 := n1_; have BK207 := n2_; have BK218 := n3_; have HB := n4_; clear n0_ n1_ n2_ n3_ n4_; (try clear hb); (try clear hb2); (try clear hk); (try clear hi)))
      go_ret
      exact ⟨by first | rfl | (simp [errW_none, errW_some] <;> rfl) | (simp [*, errW_none, errW_some] <;> rfl), by repeat (first | (with_reducible first | exact HB.out | apply below_alloc | apply pw_below_drewN | apply below_drew1 | refine below_set ?_ GE195.out | refine below_set ?_ GE196.out | refine below_set ?_ GE207.out | refine below_set ?_ GE218.out) | exact HB.out)⟩
  · replace c10 := Bool.eq_false_iff.mpr c10
    subst c10
    have H1 : (some false) = some r := by rw [if_neg (show ¬ (false = true) by decide)] at H; exact H
    clear H
    have H := H1
    clear H1
    exact absurd ((Option.some.inj H).trans hrt.out) (by decide)

end Go.Proofs.Yteldfljjeofiaaa.PFnExactSubWide
