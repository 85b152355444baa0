/- Contracts of Go functions, each with the Lean function that says what it computes: begun by the print, turned by this session. No condition beyond what each theorem states. -/
import Derived.Test.YteldfljjeofiaaaPFnExactAddWidex0
import Derived.Test.YteldfljjeofiaaaPFnExactAddWidex1
import Derived.Test.YteldfljjeofiaaaPFnExactAddWidex2
import Derived.Test.YteldfljjeofiaaaPFnExactAddWidex4
namespace Go.Proofs.Yteldfljjeofiaaa.PFnExactAddWide
open Go.RowKit Go.Proofs.YteldfljjeofiaaaW.PrintWords Go.Proofs.YteldfljjeofiaaaW.PrintLast Go.Proofs.YteldfljjeofiaaaW.PrintMore
attribute [local go_sem] max2_int min2_int max_two min_two max_three min_three max_four min_four   -- for this text's walks alone
set_option linter.unusedVariables false
set_option linter.unusedSimpArgs false

/-! ### laws_FnExactAddWide: function 10 -/
def laws_FnExactAddWide.f (k : Nat) (a0_0 : Bool) (a0_1 : Int) (a0_2 : Int) (a1_0 : Bool) (a1_1 : Int) (a1_2 : Int) : Option (Bool) := (laws_toWide.f a0_0 a0_1 a0_2).bind fun bt168 => ((laws_toWide.f a1_0 a1_1 a1_2).bind fun bt171 => ((spec_AddWide.f k bt168.1 bt168.2.1 bt168.2.2 bt171.1 bt171.2.1 bt171.2.2).bind fun bt174 => ((laws_toWide.f a0_0 a0_1 a0_2).bind fun bt179 => ((laws_toWide.f a1_0 a1_1 a1_2).bind fun bt182 => ((impl_AddWide.f k bt179.1 bt179.2.1 bt179.2.2 bt182.1 bt182.2.1 bt182.2.2).bind fun bt185 => ((laws_eqWide.f bt185.1 bt185.2.1 bt185.2.2.1 bt174.1 bt174.2.1 bt174.2.2.1).bind fun t190 => (if t190 = true then (if (bt185.2.2.2 != bt174.2.2.2) = true then (some false) else (some true)) else (some false))))))))
theorem laws_FnExactAddWide.mono : ∀ a0 a1 a2 a3 a4 a5 k, LeO (laws_FnExactAddWide.f k a0 a1 a2 a3 a4 a5) (laws_FnExactAddWide.f (k + 1) a0 a1 a2 a3 a4 a5) := by
  intro a0 a1 a2 a3 a4 a5 k
  unfold laws_FnExactAddWide.f
  repeat' first
      | (with_reducible exact impl_AddWide.mono _ _ _ _ _ _ _)
      | (with_reducible exact spec_AddWide.mono _ _ _ _ _ _ _)
      | (with_reducible exact LeO.refl _)
      | (with_reducible exact LeO.none _)
      | (with_reducible refine LeO.ite ?_ ?_)
      | (with_reducible refine LeO.bind ?_ (fun _ => ?_))
      | exact impl_AddWide.mono _ _ _ _ _ _ _
      | exact spec_AddWide.mono _ _ _ _ _ _ _
      | exact LeO.none _
      | refine LeO.ite ?_ ?_
      | refine LeO.bind ?_ (fun _ => ?_)
def laws_FnExactAddWide.T1 : Bool × List (List Nat × List Nat) := (true, [([], []), ([0], [0]), ([], []), ([2, 1], [2]), ([1, 3, 3], [1, 3]), ([4], [4]), ([5], [5]), ([5], [5]), ([], []), ([8, 6, 4, 0, 1, 2, 3, 4, 5, 6, 8], [6, 8]), ([7, 9, 0, 1, 2, 3, 4, 5, 6, 7, 8, 9], [7])])
def laws_FnExactAddWide.B1 : List Nat := [0, 1, 0, 7, 15, 31, 63, 63, 0, 383, 1023]
theorem laws_FnExactAddWide.tab1 : rtab .any (opsOf Try.f10 1) = laws_FnExactAddWide.T1 := by kernel_rfl
theorem laws_FnExactAddWide.bits1 : waitsOk laws_FnExactAddWide.T1.2 laws_FnExactAddWide.B1 = true := by kernel_rfl
def laws_FnExactAddWide.T2 : Bool × List (List Nat × List Nat) := (true, [([], []), ([0], [0]), ([], []), ([2, 1], [2]), ([1, 3, 3], [1, 3]), ([4], [4]), ([5], [5]), ([5], [5]), ([], []), ([8, 6, 4, 0, 1, 2, 3, 4, 5, 6, 8], [6, 8]), ([7, 9, 0, 1, 2, 3, 4, 5, 6, 7, 8, 9], [7])])
def laws_FnExactAddWide.B2 : List Nat := [0, 1, 0, 7, 15, 31, 63, 63, 0, 383, 1023]
theorem laws_FnExactAddWide.tab2 : rtab .any (opsOf Try.f10 2) = laws_FnExactAddWide.T2 := by kernel_rfl
theorem laws_FnExactAddWide.bits2 : waitsOk laws_FnExactAddWide.T2.2 laws_FnExactAddWide.B2 = true := by kernel_rfl
set_option maxHeartbeats 8000000 in
set_option maxRecDepth 100000 in
theorem laws_FnExactAddWide.calls (k : Nat) (a0_0 : Bool) (a0_1 : Int) (a0_2 : Int) (a1_0 : Bool) (a1_1 : Int) (a1_2 : Int) (r : Bool) (w : World) (h : laws_FnExactAddWide.f k a0_0 a0_1 a0_2 a1_0 a1_1 a1_2 = some r) :
    Calls Try.prog 10 #[.agg #[.bool a0_0, .int .u64 a0_1, .int .u64 a0_2], .agg #[.bool a1_0, .int .u64 a1_1, .int .u64 a1_2]] w fun e w' => e = .returned (.bool r) ∧ Below w.heap.size w w' := by
  have hu32 := Try.underlying32
  have hu33 := Try.underlying33
  have HB := Aside0.mk (Below.refl w.heap.size w)
  have H : ((laws_toWide.f a0_0 a0_1 a0_2).bind fun bt168 => ((laws_toWide.f a1_0 a1_1 a1_2).bind fun bt171 => ((spec_AddWide.f k bt168.1 bt168.2.1 bt168.2.2 bt171.1 bt171.2.1 bt171.2.2).bind fun bt174 => ((laws_toWide.f a0_0 a0_1 a0_2).bind fun bt179 => ((laws_toWide.f a1_0 a1_1 a1_2).bind fun bt182 => ((impl_AddWide.f k bt179.1 bt179.2.1 bt179.2.2 bt182.1 bt182.2.1 bt182.2.2).bind fun bt185 => ((laws_eqWide.f bt185.1 bt185.2.1 bt185.2.2.1 bt174.1 bt174.2.1 bt174.2.2.1).bind fun t190 => (if t190 = true then (if (bt185.2.2.2 != bt174.2.2.2) = true then (some false) else (some true)) else (some false))))))))) = some r := h
  clear h
  replace H := Option.bind_eq_some_iff.mp H
  obtain ⟨⟨t168, t169, t170⟩, A30, H⟩ := H
  replace H : ((laws_toWide.f a1_0 a1_1 a1_2).bind fun bt171 => ((spec_AddWide.f k t168 t169 t170 bt171.1 bt171.2.1 bt171.2.2).bind fun bt174 => ((laws_toWide.f a0_0 a0_1 a0_2).bind fun bt179 => ((laws_toWide.f a1_0 a1_1 a1_2).bind fun bt182 => ((impl_AddWide.f k bt179.1 bt179.2.1 bt179.2.2 bt182.1 bt182.2.1 bt182.2.2).bind fun bt185 => ((laws_eqWide.f bt185.1 bt185.2.1 bt185.2.2.1 bt174.1 bt174.2.1 bt174.2.2.1).bind fun t190 => (if t190 = true then (if (bt185.2.2.2 != bt174.2.2.2) = true then (some false) else (some true)) else (some false)))))))) = some r := H
  have A3 := Aside0.mk A30
  clear A30
  replace H := Option.bind_eq_some_iff.mp H
  obtain ⟨⟨t171, t172, t173⟩, A40, H⟩ := H
  replace H : ((spec_AddWide.f k t168 t169 t170 t171 t172 t173).bind fun bt174 => ((laws_toWide.f a0_0 a0_1 a0_2).bind fun bt179 => ((laws_toWide.f a1_0 a1_1 a1_2).bind fun bt182 => ((impl_AddWide.f k bt179.1 bt179.2.1 bt179.2.2 bt182.1 bt182.2.1 bt182.2.2).bind fun bt185 => ((laws_eqWide.f bt185.1 bt185.2.1 bt185.2.2.1 bt174.1 bt174.2.1 bt174.2.2.1).bind fun t190 => (if t190 = true then (if (bt185.2.2.2 != bt174.2.2.2) = true then (some false) else (some true)) else (some false))))))) = some r := H
  have A4 := Aside0.mk A40
  clear A40
  replace H := Option.bind_eq_some_iff.mp H
  obtain ⟨⟨t174, t175, t176, t177⟩, A50, H⟩ := H
  replace H : ((laws_toWide.f a0_0 a0_1 a0_2).bind fun bt179 => ((laws_toWide.f a1_0 a1_1 a1_2).bind fun bt182 => ((impl_AddWide.f k bt179.1 bt179.2.1 bt179.2.2 bt182.1 bt182.2.1 bt182.2.2).bind fun bt185 => ((laws_eqWide.f bt185.1 bt185.2.1 bt185.2.2.1 t174 t175 t176).bind fun t190 => (if t190 = true then (if (bt185.2.2.2 != t177) = true then (some false) else (some true)) else (some false)))))) = some r := H
  have A5 := Aside0.mk A50
  clear A50
  replace H := Option.bind_eq_some_iff.mp H
  obtain ⟨⟨t179, t180, t181⟩, A60, H⟩ := H
  replace H : ((laws_toWide.f a1_0 a1_1 a1_2).bind fun bt182 => ((impl_AddWide.f k t179 t180 t181 bt182.1 bt182.2.1 bt182.2.2).bind fun bt185 => ((laws_eqWide.f bt185.1 bt185.2.1 bt185.2.2.1 t174 t175 t176).bind fun t190 => (if t190 = true then (if (bt185.2.2.2 != t177) = true then (some false) else (some true)) else (some false))))) = some r := H
  have A6 := Aside0.mk A60
  clear A60
  replace H := Option.bind_eq_some_iff.mp H
  obtain ⟨⟨t182, t183, t184⟩, A70, H⟩ := H
  replace H : ((impl_AddWide.f k t179 t180 t181 t182 t183 t184).bind fun bt185 => ((laws_eqWide.f bt185.1 bt185.2.1 bt185.2.2.1 t174 t175 t176).bind fun t190 => (if t190 = true then (if (bt185.2.2.2 != t177) = true then (some false) else (some true)) else (some false)))) = some r := H
  have A7 := Aside0.mk A70
  clear A70
  replace H := Option.bind_eq_some_iff.mp H
  obtain ⟨⟨t185, t186, t187, t188⟩, A80, H⟩ := H
  replace H : ((laws_eqWide.f t185 t186 t187 t174 t175 t176).bind fun t190 => (if t190 = true then (if (t188 != t177) = true then (some false) else (some true)) else (some false))) = some r := H
  have A8 := Aside0.mk A80
  clear A80
  replace H := Option.bind_eq_some_iff.mp H
  obtain ⟨t190, A90, H⟩ := H
  replace H : (if t190 = true then (if (t188 != t177) = true then (some false) else (some true)) else (some false)) = some r := H
  have A9 := Aside0.mk A90
  clear A90
  by_cases c10 : t190 = true
  · subst c10
    have H1 : (if (t188 != t177) = true then (some false) else (some true)) = some r := by rw [if_pos rfl] at H; exact H
    clear H
    have H := H1
    clear H1
    by_cases c11 : (t188 != t177) = true
    · rw [if_pos c11] at H
      have c11b0 : (t188 != t177) = true := c11
      (try (have c11b1 : decide (t188 = t177) = false := by simpa using c11))
      (try (have c11b2 : (t188 == t177) = false := by simpa using c11))
      (try (have c11b3 : ¬ (t188 = t177) := by simpa using c11))
      clear c11
      obtain rfl := Option.some.inj H
      go_enter Try.func10, Try.ntmps10
      try go_wp2_with (first | ((with_reducible refine gate_dst (N := 2) rfl ?_); refine box_event ?hg (N := 2) ?hd (cs := #[.bool a0_0, .int .u64 a0_1, .int .u64 a0_2]) (t := 32) ?hr ?_; (case hd => rfl); (case hg => rfl); (case hr => first | (go_simp; done) | (go_simp; rfl)); intro gb166 hg w12 hbox hb; have n0_ := Aside0.mk (below_step bel_ hb); have n1_ := Aside0.mk (hbox); have n2_ := Aside0.mk ((by rw [hg]; exact (below_size bel_) : w.heap.size ≤ gb166)); have n3_ := Aside0.mk ((by rw [hg]; exact (below_size bel_) : w.heap.size ≤ gb166)); clear HB; have HB := n0_; have BK166 := n1_; have GW166 := n2_; have GE166 := n3_; clear n0_ n1_ n2_ n3_; clear hb hbox hg) | ((with_reducible refine gate_dst (N := 3) rfl ?_); refine box_event ?hg (N := 3) ?hd (cs := #[.bool a1_0, .int .u64 a1_1, .int .u64 a1_2]) (t := 32) ?hr ?_; (case hd => rfl); (case hg => rfl); (case hr => first | (go_simp; done) | (go_simp; rfl)); intro gb167 hg w13 hbox hb; have n0_ := bb_ (g := gb166) (o := .cells #[.bool a0_0, .int .u64 a0_1, .int .u64 a0_2] 32 (0, 0)) hb; have n1_ := Aside0.mk (below_step bel_ hb); have n2_ := Aside0.mk (hbox); have n3_ := Aside0.mk ((by rw [hg]; exact (below_size bel_) : w.heap.size ≤ gb167)); have n4_ := Aside0.mk ((by rw [hg]; exact (below_size bel_) : w.heap.size ≤ gb167)); have n5_ := nlt_ (g := gb166) (o := .cells #[.bool a0_0, .int .u64 a0_1, .int .u64 a0_2] 32 (0, 0)) hg; have n6_ := ngt_ (g := gb166) (o := .cells #[.bool a0_0, .int .u64 a0_1, .int .u64 a0_2] 32 (0, 0)) hg; clear BK166; clear HB; have BK166 := n0_; have HB := n1_; have BK167 := n2_; have GW167 := n3_; have GE167 := n4_; have NB166_167 := n5_; have NB167_166 := n6_; clear n0_ n1_ n2_ n3_ n4_ n5_ n6_; clear hb hbox hg))
      have n0_ := Aside0.mk (blk_drew BK166.out)
      have n1_ := Aside0.mk (blk_drew BK167.out)
      have n2_ := Aside0.mk (below_drew1 HB.out)
      clear BK166
      clear BK167
      clear HB
      have BK166 := n0_
      have BK167 := n1_
      have HB := n2_
      clear n0_ n1_ n2_
      refine start_ (n := 11) (S := fun w' => w'.cell? ⟨gb166, 0, none⟩ = some (.bool a0_0) ∧ w'.cell? ⟨gb166, 1, none⟩ = some (.int .u64 a0_1) ∧ w'.cell? ⟨gb166, 2, none⟩ = some (.int .u64 a0_2) ∧ w'.cell? ⟨gb167, 0, none⟩ = some (.bool a1_0) ∧ w'.cell? ⟨gb167, 1, none⟩ = some (.int .u64 a1_1) ∧ w'.cell? ⟨gb167, 2, none⟩ = some (.int .u64 a1_2)) (ds := []) #[false, false, false, false, false, false, false, false, false, false, false] (by kernel_rfl) rfl rfl ⟨bc_, bc_, bc_, bc_, bc_, bc_⟩ (fun hHeld => ?_); refine with_tabW laws_FnExactAddWide.tab1 laws_FnExactAddWide.bits1 (fun HT_ HW_ => ?_)
      generalize w13.drew = w14 at BK166 BK167 HB hHeld ⊢
      refine take_ (i := 0) (N := some 10) (v := ?_) (a' := ?_) #[true, false, false, false, false, false, false, false, false, false, false] rfl rfl (take_ofW HT_.out HW_.out (by kernel_rfl)) (fun _ _ _ h => h) (Or.inl ⟨by rfl, ?_⟩) hHeld ?_ ?_
      rotate_left
      · rintro w' ⟨s0, s1, s2, s3, s4, s5⟩
        go_simp
        with_reducible rfl
      rotate_left
      · simp only [Act.put, la_, lb_, lc_, i64_w, i32_w]
        rfl
      refine take_ (i := 2) (N := some 12) (v := ?_) (a' := ?_) #[true, false, true, false, false, false, false, false, false, false, false] rfl rfl (take_ofW HT_.out HW_.out (by kernel_rfl)) (fun _ _ _ h => h) (Or.inl ⟨by rfl, ?_⟩) hHeld ?_ ?_
      rotate_left
      · rintro w' ⟨s0, s1, s2, s3, s4, s5⟩
        go_simp
        with_reducible rfl
      rotate_left
      · simp only [Act.put, la_, lb_, lc_, i64_w, i32_w]
        rfl
      refine join_ (σ := Nat) 2 #[true, true, true, true, true, true, true, true, true, false, false] (fun s_ => [(11, .agg #[.bool t168, .int .u64 t169, .int .u64 t170]), (13, .agg #[.bool t171, .int .u64 t172, .int .u64 t173]), (14, .tuple #[.agg #[.bool t174, .int .u64 t175, .int .u64 t176], .bool t177]), (5, .pointer (some ⟨s_, 0, none⟩)), (9, .tuple #[.agg #[.bool t174, .int .u64 t175, .int .u64 t176], .bool t177]), (15, .agg #[.bool t174, .int .u64 t175, .int .u64 t176]), (16, .bool t177)]) (fun s_ w' => (w'.cell? ⟨gb166, 0, none⟩ = some (.bool a0_0) ∧ w'.cell? ⟨gb166, 1, none⟩ = some (.int .u64 a0_1) ∧ w'.cell? ⟨gb166, 2, none⟩ = some (.int .u64 a0_2) ∧ w'.cell? ⟨gb167, 0, none⟩ = some (.bool a1_0) ∧ w'.cell? ⟨gb167, 1, none⟩ = some (.int .u64 a1_1) ∧ w'.cell? ⟨gb167, 2, none⟩ = some (.int .u64 a1_2)) ∧ (w'.heap[gb166]? = some (.cells #[.bool a0_0, .int .u64 a0_1, .int .u64 a0_2] 32 (0, 0))) ∧ (w'.heap[gb167]? = some (.cells #[.bool a1_0, .int .u64 a1_1, .int .u64 a1_2] 32 (0, 0))) ∧ (w'.heap[s_]? = some (.cells #[.bool false, .int .u64 0, .int .u64 0] 33 (0, 0))) ∧ (w.heap.size ≤ s_) ∧ (w.heap.size ≤ s_) ∧ (gb166 ≠ s_) ∧ (s_ ≠ gb166) ∧ (gb167 ≠ s_) ∧ (s_ ≠ gb167) ∧ (Below w.heap.size w w')) ?_ ?_
      rotate_left
      · intro hCont
        refine two_ (i := 1) (j := 8) (Ni := some 11) (Nj := some 5) #[true, true, true, false, false, false, false, false, false, false, false] #[true, false, true, false, false, false, false, false, true, false, false] rfl rfl rfl rfl (two_of HT_.out (by kernel_rfl)) (by decide) (by decide) (fun K hK => ?_) (fun K hK => ?_)
        · skip
          refine goes_ Try.func20 (by kernel_rfl) rfl #[.agg #[.bool a0_0, .int .u64 a0_1, .int .u64 a0_2]] (by rfl) rfl rfl mp_ ?_
          with_reducible refine (laws_toWide.calls a0_0 a0_1 a0_2 t168 t169 t170 _ A3.out).mono ?_
          rintro e w15 ⟨rfl, hb⟩
          refine ⟨_, rfl, ?_⟩
          have n0_ := bb_ (g := gb166) (o := .cells #[.bool a0_0, .int .u64 a0_1, .int .u64 a0_2] 32 (0, 0)) hb
          have n1_ := bb_ (g := gb167) (o := .cells #[.bool a1_0, .int .u64 a1_1, .int .u64 a1_2] 32 (0, 0)) hb
          have n2_ := Aside0.mk (below_step bel_ hb)
          clear BK166
          clear BK167
          clear HB
          have BK166 := n0_
          have BK167 := n1_
          have HB := n2_
          clear n0_ n1_ n2_
          (try clear hb)
          (try clear hb2)
          (try clear hk)
          (try clear hi)
          refine hK.out _ _ ⟨bc_, bc_, bc_, bc_, bc_, bc_⟩ (fun hHeld => ?_)
          clear hK K
          refine norm_ (a' := ?_) ?_ ?_
          rotate_left
          · show Act.put _ (some 11) _ = _
            simp only [Act.put, la_, lb_, lc_, i64_w, i32_w]
            rfl
          refine two_ (i := 3) (j := 8) (Ni := some 13) (Nj := some 5) #[true, true, true, true, false, false, false, false, false, false, false] #[true, true, true, false, false, false, false, false, true, false, false] rfl rfl rfl rfl (two_of HT_.out (by kernel_rfl)) (by decide) (by decide) (fun K hK => ?_) (fun K hK => ?_)
          · skip
            refine goes_ Try.func20 (by kernel_rfl) rfl #[.agg #[.bool a1_0, .int .u64 a1_1, .int .u64 a1_2]] (by rfl) rfl rfl mp_ ?_
            with_reducible refine (laws_toWide.calls a1_0 a1_1 a1_2 t171 t172 t173 _ A4.out).mono ?_
            rintro e w16 ⟨rfl, hb⟩
            refine ⟨_, rfl, ?_⟩
            have n0_ := bb_ (g := gb166) (o := .cells #[.bool a0_0, .int .u64 a0_1, .int .u64 a0_2] 32 (0, 0)) hb
            have n1_ := bb_ (g := gb167) (o := .cells #[.bool a1_0, .int .u64 a1_1, .int .u64 a1_2] 32 (0, 0)) hb
            have n2_ := Aside0.mk (below_step bel_ hb)
            clear BK166
            clear BK167
            clear HB
            have BK166 := n0_
            have BK167 := n1_
            have HB := n2_
            clear n0_ n1_ n2_
            (try clear hb)
            (try clear hb2)
            (try clear hk)
            (try clear hi)
            refine hK.out _ _ ⟨bc_, bc_, bc_, bc_, bc_, bc_⟩ (fun hHeld => ?_)
            clear hK K
            refine norm_ (a' := ?_) ?_ ?_
            rotate_left
            · show Act.put _ (some 13) _ = _
              simp only [Act.put, la_, lb_, lc_, i64_w, i32_w]
              rfl
            refine two_ (i := 4) (j := 8) (Ni := some 14) (Nj := some 5) #[true, true, true, true, true, false, false, false, false, false, false] #[true, true, true, true, false, false, false, false, true, false, false] rfl rfl rfl rfl (two_of HT_.out (by kernel_rfl)) (by decide) (by decide) (fun K hK => ?_) (fun K hK => ?_)
            · skip
              refine goes_ Try.func47 (by kernel_rfl) rfl #[.agg #[.bool t168, .int .u64 t169, .int .u64 t170], .agg #[.bool t171, .int .u64 t172, .int .u64 t173]] (by rfl) rfl rfl mp_ ?_
              with_reducible refine (spec_AddWide.calls k t168 t169 t170 t171 t172 t173 t174 t175 t176 t177 _ A5.out).mono ?_
              rintro e w17 ⟨rfl, hb⟩
              refine ⟨_, rfl, ?_⟩
              have n0_ := bb_ (g := gb166) (o := .cells #[.bool a0_0, .int .u64 a0_1, .int .u64 a0_2] 32 (0, 0)) hb
              have n1_ := bb_ (g := gb167) (o := .cells #[.bool a1_0, .int .u64 a1_1, .int .u64 a1_2] 32 (0, 0)) hb
              have n2_ := Aside0.mk (below_step bel_ hb)
              clear BK166
              clear BK167
              clear HB
              have BK166 := n0_
              have BK167 := n1_
              have HB := n2_
              clear n0_ n1_ n2_
              (try clear hb)
              (try clear hb2)
              (try clear hk)
              (try clear hi)
              refine hK.out _ _ ⟨bc_, bc_, bc_, bc_, bc_, bc_⟩ (fun hHeld => ?_)
              clear hK K
              refine norm_ (a' := ?_) ?_ ?_
              rotate_left
              · show Act.put _ (some 14) _ = _
                simp only [Act.put, la_, lb_, lc_, i64_w, i32_w]
                rfl
              refine pure_ (i := 5) (N := some 9) (v := ?_) (a' := ?_) #[true, true, true, true, true, true, false, false, false, false, false] rfl rfl (any_of HT_.out (by kernel_rfl)) (fun _ _ _ h => h) (Or.inl ⟨by rfl, ?_⟩) ?_ ?_
              rotate_left
              · intro w'
                go_simp
                with_reducible rfl
              rotate_left
              · simp only [Act.put, la_, lb_, lc_, i64_w, i32_w]
                rfl
              refine pure_ (i := 6) (N := some 15) (v := ?_) (a' := ?_) #[true, true, true, true, true, true, true, false, false, false, false] rfl rfl (any_of HT_.out (by kernel_rfl)) (fun _ _ _ h => h) (Or.inl ⟨by rfl, ?_⟩) ?_ ?_
              rotate_left
              · intro w'
                go_simp
                with_reducible rfl
              rotate_left
              · simp only [Act.put, la_, lb_, lc_, i64_w, i32_w]
                rfl
              refine pure_ (i := 7) (N := some 16) (v := ?_) (a' := ?_) #[true, true, true, true, true, true, true, true, false, false, false] rfl rfl (any_of HT_.out (by kernel_rfl)) (fun _ _ _ h => h) (Or.inl ⟨by rfl, ?_⟩) ?_ ?_
              rotate_left
              · intro w'
                go_simp
                with_reducible rfl
              rotate_left
              · simp only [Act.put, la_, lb_, lc_, i64_w, i32_w]
                rfl
              refine one_ (i := 8) (N := some 5) #[true, true, true, true, true, true, true, true, true, false, false] rfl rfl (one_of HT_.out (by kernel_rfl)) (by decide) (fun K hK => ?_)
              refine box_step ?hg (N := 5) ?hd (cs := #[.bool false, .int .u64 0, .int .u64 0]) (t := 33) ?hr ?_; (case hd => rfl); (case hg => rfl); (case hr => first | (go_simp; done) | (go_simp; rfl))
              intro gb178 hg w18 hbox hb
              have n0_ := bb_ (g := gb166) (o := .cells #[.bool a0_0, .int .u64 a0_1, .int .u64 a0_2] 32 (0, 0)) hb
              have n1_ := bb_ (g := gb167) (o := .cells #[.bool a1_0, .int .u64 a1_1, .int .u64 a1_2] 32 (0, 0)) hb
              have n2_ := Aside0.mk (below_step bel_ hb)
              have n3_ := Aside0.mk (hbox)
              have n4_ := Aside0.mk ((by rw [hg]; exact (below_size bel_) : w.heap.size ≤ gb178))
              have n5_ := Aside0.mk ((by rw [hg]; exact (below_size bel_) : w.heap.size ≤ gb178))
              have n6_ := nlt_ (g := gb166) (o := .cells #[.bool a0_0, .int .u64 a0_1, .int .u64 a0_2] 32 (0, 0)) hg
              have n7_ := ngt_ (g := gb166) (o := .cells #[.bool a0_0, .int .u64 a0_1, .int .u64 a0_2] 32 (0, 0)) hg
              have n8_ := nlt_ (g := gb167) (o := .cells #[.bool a1_0, .int .u64 a1_1, .int .u64 a1_2] 32 (0, 0)) hg
              have n9_ := ngt_ (g := gb167) (o := .cells #[.bool a1_0, .int .u64 a1_1, .int .u64 a1_2] 32 (0, 0)) hg
              clear BK166
              clear BK167
              clear HB
              have BK166 := n0_
              have BK167 := n1_
              have HB := n2_
              have BK178 := n3_
              have GW178 := n4_
              have GE178 := n5_
              have NB166_178 := n6_
              have NB178_166 := n7_
              have NB167_178 := n8_
              have NB178_167 := n9_
              clear n0_ n1_ n2_ n3_ n4_ n5_ n6_ n7_ n8_ n9_
              clear hb hbox hg
              refine hK.out _ _ ⟨bc_, bc_, bc_, bc_, bc_, bc_⟩ (fun hHeld => ?_)
              clear hK K
              refine norm_ (a' := ?_) ?_ ?_
              rotate_left
              · show Act.put _ (some 5) _ = _
                simp only [Act.put, la_, lb_, lc_, i64_w, i32_w]
                rfl
              exact norm_ (by simp only [putAll, Act.put, la_, lb_, lc_]) (hCont (gb178) _ ⟨hHeld, (by (with_reducible repeat (first | refine bN_ _ ?_ | refine bd_ ?_ | refine ba_ _ ?_)); exact BK166.out), (by (with_reducible repeat (first | refine bN_ _ ?_ | refine bd_ ?_ | refine ba_ _ ?_)); exact BK167.out), (by (with_reducible repeat (first | refine bN_ _ ?_ | refine bd_ ?_ | refine ba_ _ ?_)); exact BK178.out), GW178.out, GE178.out, NB166_178.out, NB178_166.out, NB167_178.out, NB178_167.out, bel_⟩)
            · skip
              refine box_step ?hg (N := 5) ?hd (cs := #[.bool false, .int .u64 0, .int .u64 0]) (t := 33) ?hr ?_; (case hd => rfl); (case hg => rfl); (case hr => first | (go_simp; done) | (go_simp; rfl))
              intro gb178 hg w17 hbox hb
              have n0_ := bb_ (g := gb166) (o := .cells #[.bool a0_0, .int .u64 a0_1, .int .u64 a0_2] 32 (0, 0)) hb
              have n1_ := bb_ (g := gb167) (o := .cells #[.bool a1_0, .int .u64 a1_1, .int .u64 a1_2] 32 (0, 0)) hb
              have n2_ := Aside0.mk (below_step bel_ hb)
              have n3_ := Aside0.mk (hbox)
              have n4_ := Aside0.mk ((by rw [hg]; exact (below_size bel_) : w.heap.size ≤ gb178))
              have n5_ := Aside0.mk ((by rw [hg]; exact (below_size bel_) : w.heap.size ≤ gb178))
              have n6_ := nlt_ (g := gb166) (o := .cells #[.bool a0_0, .int .u64 a0_1, .int .u64 a0_2] 32 (0, 0)) hg
              have n7_ := ngt_ (g := gb166) (o := .cells #[.bool a0_0, .int .u64 a0_1, .int .u64 a0_2] 32 (0, 0)) hg
              have n8_ := nlt_ (g := gb167) (o := .cells #[.bool a1_0, .int .u64 a1_1, .int .u64 a1_2] 32 (0, 0)) hg
              have n9_ := ngt_ (g := gb167) (o := .cells #[.bool a1_0, .int .u64 a1_1, .int .u64 a1_2] 32 (0, 0)) hg
              clear BK166
              clear BK167
              clear HB
              have BK166 := n0_
              have BK167 := n1_
              have HB := n2_
              have BK178 := n3_
              have GW178 := n4_
              have GE178 := n5_
              have NB166_178 := n6_
              have NB178_166 := n7_
              have NB167_178 := n8_
              have NB178_167 := n9_
              clear n0_ n1_ n2_ n3_ n4_ n5_ n6_ n7_ n8_ n9_
              clear hb hbox hg
              refine hK.out _ _ ⟨bc_, bc_, bc_, bc_, bc_, bc_⟩ (fun hHeld => ?_)
              clear hK K
              refine norm_ (a' := ?_) ?_ ?_
              rotate_left
              · show Act.put _ (some 5) _ = _
                simp only [Act.put, la_, lb_, lc_, i64_w, i32_w]
                rfl
              refine one_ (i := 4) (N := some 14) #[true, true, true, true, true, false, false, false, true, false, false] rfl rfl (one_of HT_.out (by kernel_rfl)) (by decide) (fun K hK => ?_)
              refine goes_ Try.func47 (by kernel_rfl) rfl #[.agg #[.bool t168, .int .u64 t169, .int .u64 t170], .agg #[.bool t171, .int .u64 t172, .int .u64 t173]] (by rfl) rfl rfl mp_ ?_
              with_reducible refine (spec_AddWide.calls k t168 t169 t170 t171 t172 t173 t174 t175 t176 t177 _ A5.out).mono ?_
              rintro e w18 ⟨rfl, hb⟩
              refine ⟨_, rfl, ?_⟩
              have n0_ := bb_ (g := gb166) (o := .cells #[.bool a0_0, .int .u64 a0_1, .int .u64 a0_2] 32 (0, 0)) hb
              have n1_ := bb_ (g := gb167) (o := .cells #[.bool a1_0, .int .u64 a1_1, .int .u64 a1_2] 32 (0, 0)) hb
              have n2_ := bb_ (g := gb178) (o := .cells #[.bool false, .int .u64 0, .int .u64 0] 33 (0, 0)) hb
              have n3_ := Aside0.mk (below_step bel_ hb)
              clear BK166
              clear BK167
              clear BK178
              clear HB
              have BK166 := n0_
              have BK167 := n1_
              have BK178 := n2_
              have HB := n3_
              clear n0_ n1_ n2_ n3_
              (try clear hb)
              (try clear hb2)
              (try clear hk)
              (try clear hi)
              refine hK.out _ _ ⟨bc_, bc_, bc_, bc_, bc_, bc_⟩ (fun hHeld => ?_)
              clear hK K
              refine norm_ (a' := ?_) ?_ ?_
              rotate_left
              · show Act.put _ (some 14) _ = _
                simp only [Act.put, la_, lb_, lc_, i64_w, i32_w]
                rfl
              refine pure_ (i := 5) (N := some 9) (v := ?_) (a' := ?_) #[true, true, true, true, true, true, false, false, true, false, false] rfl rfl (any_of HT_.out (by kernel_rfl)) (fun _ _ _ h => h) (Or.inl ⟨by rfl, ?_⟩) ?_ ?_
              rotate_left
              · intro w'
                go_simp
                with_reducible rfl
              rotate_left
              · simp only [Act.put, la_, lb_, lc_, i64_w, i32_w]
                rfl
              refine pure_ (i := 6) (N := some 15) (v := ?_) (a' := ?_) #[true, true, true, true, true, true, true, false, true, false, false] rfl rfl (any_of HT_.out (by kernel_rfl)) (fun _ _ _ h => h) (Or.inl ⟨by rfl, ?_⟩) ?_ ?_
              rotate_left
              · intro w'
                go_simp
                with_reducible rfl
              rotate_left
              · simp only [Act.put, la_, lb_, lc_, i64_w, i32_w]
                rfl
              refine pure_ (i := 7) (N := some 16) (v := ?_) (a' := ?_) #[true, true, true, true, true, true, true, true, true, false, false] rfl rfl (any_of HT_.out (by kernel_rfl)) (fun _ _ _ h => h) (Or.inl ⟨by rfl, ?_⟩) ?_ ?_
              rotate_left
              · intro w'
                go_simp
                with_reducible rfl
              rotate_left
              · simp only [Act.put, la_, lb_, lc_, i64_w, i32_w]
                rfl
              exact norm_ (by simp only [putAll, Act.put, la_, lb_, lc_]) (hCont (gb178) _ ⟨hHeld, (by (with_reducible repeat (first | refine bN_ _ ?_ | refine bd_ ?_ | refine ba_ _ ?_)); exact BK166.out), (by (with_reducible repeat (first | refine bN_ _ ?_ | refine bd_ ?_ | refine ba_ _ ?_)); exact BK167.out), (by (with_reducible repeat (first | refine bN_ _ ?_ | refine bd_ ?_ | refine ba_ _ ?_)); exact BK178.out), GW178.out, GE178.out, NB166_178.out, NB178_166.out, NB167_178.out, NB178_167.out, bel_⟩)
          · skip
            refine box_step ?hg (N := 5) ?hd (cs := #[.bool false, .int .u64 0, .int .u64 0]) (t := 33) ?hr ?_; (case hd => rfl); (case hg => rfl); (case hr => first | (go_simp; done) | (go_simp; rfl))
            intro gb178 hg w16 hbox hb
            have n0_ := bb_ (g := gb166) (o := .cells #[.bool a0_0, .int .u64 a0_1, .int .u64 a0_2] 32 (0, 0)) hb
            have n1_ := bb_ (g := gb167) (o := .cells #[.bool a1_0, .int .u64 a1_1, .int .u64 a1_2] 32 (0, 0)) hb
            have n2_ := Aside0.mk (below_step bel_ hb)
            have n3_ := Aside0.mk (hbox)
            have n4_ := Aside0.mk ((by rw [hg]; exact (below_size bel_) : w.heap.size ≤ gb178))
            have n5_ := Aside0.mk ((by rw [hg]; exact (below_size bel_) : w.heap.size ≤ gb178))
            have n6_ := nlt_ (g := gb166) (o := .cells #[.bool a0_0, .int .u64 a0_1, .int .u64 a0_2] 32 (0, 0)) hg
            have n7_ := ngt_ (g := gb166) (o := .cells #[.bool a0_0, .int .u64 a0_1, .int .u64 a0_2] 32 (0, 0)) hg
            have n8_ := nlt_ (g := gb167) (o := .cells #[.bool a1_0, .int .u64 a1_1, .int .u64 a1_2] 32 (0, 0)) hg
            have n9_ := ngt_ (g := gb167) (o := .cells #[.bool a1_0, .int .u64 a1_1, .int .u64 a1_2] 32 (0, 0)) hg
            clear BK166
            clear BK167
            clear HB
            have BK166 := n0_
            have BK167 := n1_
            have HB := n2_
            have BK178 := n3_
            have GW178 := n4_
            have GE178 := n5_
            have NB166_178 := n6_
            have NB178_166 := n7_
            have NB167_178 := n8_
            have NB178_167 := n9_
            clear n0_ n1_ n2_ n3_ n4_ n5_ n6_ n7_ n8_ n9_
            clear hb hbox hg
            refine hK.out _ _ ⟨bc_, bc_, bc_, bc_, bc_, bc_⟩ (fun hHeld => ?_)
            clear hK K
            refine norm_ (a' := ?_) ?_ ?_
            rotate_left
            · show Act.put _ (some 5) _ = _
              simp only [Act.put, la_, lb_, lc_, i64_w, i32_w]
              rfl
            refine one_ (i := 3) (N := some 13) #[true, true, true, true, false, false, false, false, true, false, false] rfl rfl (one_of HT_.out (by kernel_rfl)) (by decide) (fun K hK => ?_)
            refine goes_ Try.func20 (by kernel_rfl) rfl #[.agg #[.bool a1_0, .int .u64 a1_1, .int .u64 a1_2]] (by rfl) rfl rfl mp_ ?_
            with_reducible refine (laws_toWide.calls a1_0 a1_1 a1_2 t171 t172 t173 _ A4.out).mono ?_
            rintro e w17 ⟨rfl, hb⟩
            refine ⟨_, rfl, ?_⟩
            have n0_ := bb_ (g := gb166) (o := .cells #[.bool a0_0, .int .u64 a0_1, .int .u64 a0_2] 32 (0, 0)) hb
            have n1_ := bb_ (g := gb167) (o := .cells #[.bool a1_0, .int .u64 a1_1, .int .u64 a1_2] 32 (0, 0)) hb
            have n2_ := bb_ (g := gb178) (o := .cells #[.bool false, .int .u64 0, .int .u64 0] 33 (0, 0)) hb
            have n3_ := Aside0.mk (below_step bel_ hb)
            clear BK166
            clear BK167
            clear BK178
            clear HB
            have BK166 := n0_
            have BK167 := n1_
            have BK178 := n2_
            have HB := n3_
            clear n0_ n1_ n2_ n3_
            (try clear hb)
            (try clear hb2)
            (try clear hk)
            (try clear hi)
            refine hK.out _ _ ⟨bc_, bc_, bc_, bc_, bc_, bc_⟩ (fun hHeld => ?_)
            clear hK K
            refine norm_ (a' := ?_) ?_ ?_
            rotate_left
            · show Act.put _ (some 13) _ = _
              simp only [Act.put, la_, lb_, lc_, i64_w, i32_w]
              rfl
            refine one_ (i := 4) (N := some 14) #[true, true, true, true, true, false, false, false, true, false, false] rfl rfl (one_of HT_.out (by kernel_rfl)) (by decide) (fun K hK => ?_)
            refine goes_ Try.func47 (by kernel_rfl) rfl #[.agg #[.bool t168, .int .u64 t169, .int .u64 t170], .agg #[.bool t171, .int .u64 t172, .int .u64 t173]] (by rfl) rfl rfl mp_ ?_
            with_reducible refine (spec_AddWide.calls k t168 t169 t170 t171 t172 t173 t174 t175 t176 t177 _ A5.out).mono ?_
            rintro e w18 ⟨rfl, hb⟩
            refine ⟨_, rfl, ?_⟩
            have n0_ := bb_ (g := gb166) (o := .cells #[.bool a0_0, .int .u64 a0_1, .int .u64 a0_2] 32 (0, 0)) hb
            have n1_ := bb_ (g := gb167) (o := .cells #[.bool a1_0, .int .u64 a1_1, .int .u64 a1_2] 32 (0, 0)) hb
            have n2_ := bb_ (g := gb178) (o := .cells #[.bool false, .int .u64 0, .int .u64 0] 33 (0, 0)) hb
            have n3_ := Aside0.mk (below_step bel_ hb)
            clear BK166
            clear BK167
            clear BK178
            clear HB
            have BK166 := n0_
            have BK167 := n1_
            have BK178 := n2_
            have HB := n3_
            clear n0_ n1_ n2_ n3_
            (try clear hb)
            (try clear hb2)
            (try clear hk)
            (try clear hi)
            refine hK.out _ _ ⟨bc_, bc_, bc_, bc_, bc_, bc_⟩ (fun hHeld => ?_)
            clear hK K
            refine norm_ (a' := ?_) ?_ ?_
            rotate_left
            · show Act.put _ (some 14) _ = _
              simp only [Act.put, la_, lb_, lc_, i64_w, i32_w]
              rfl
            refine pure_ (i := 5) (N := some 9) (v := ?_) (a' := ?_) #[true, true, true, true, true, true, false, false, true, false, false] rfl rfl (any_of HT_.out (by kernel_rfl)) (fun _ _ _ h => h) (Or.inl ⟨by rfl, ?_⟩) ?_ ?_
            rotate_left
            · intro w'
              go_simp
              with_reducible rfl
            rotate_left
            · simp only [Act.put, la_, lb_, lc_, i64_w, i32_w]
              rfl
            refine pure_ (i := 6) (N := some 15) (v := ?_) (a' := ?_) #[true, true, true, true, true, true, true, false, true, false, false] rfl rfl (any_of HT_.out (by kernel_rfl)) (fun _ _ _ h => h) (Or.inl ⟨by rfl, ?_⟩) ?_ ?_
            rotate_left
            · intro w'
              go_simp
              with_reducible rfl
            rotate_left
            · simp only [Act.put, la_, lb_, lc_, i64_w, i32_w]
              rfl
            refine pure_ (i := 7) (N := some 16) (v := ?_) (a' := ?_) #[true, true, true, true, true, true, true, true, true, false, false] rfl rfl (any_of HT_.out (by kernel_rfl)) (fun _ _ _ h => h) (Or.inl ⟨by rfl, ?_⟩) ?_ ?_
            rotate_left
            · intro w'
              go_simp
              with_reducible rfl
            rotate_left
            · simp only [Act.put, la_, lb_, lc_, i64_w, i32_w]
              rfl
            exact norm_ (by simp only [putAll, Act.put, la_, lb_, lc_]) (hCont (gb178) _ ⟨hHeld, (by (with_reducible repeat (first | refine bN_ _ ?_ | refine bd_ ?_ | refine ba_ _ ?_)); exact BK166.out), (by (with_reducible repeat (first | refine bN_ _ ?_ | refine bd_ ?_ | refine ba_ _ ?_)); exact BK167.out), (by (with_reducible repeat (first | refine bN_ _ ?_ | refine bd_ ?_ | refine ba_ _ ?_)); exact BK178.out), GW178.out, GE178.out, NB166_178.out, NB178_166.out, NB167_178.out, NB178_167.out, bel_⟩)
        · skip
          refine box_step ?hg (N := 5) ?hd (cs := #[.bool false, .int .u64 0, .int .u64 0]) (t := 33) ?hr ?_; (case hd => rfl); (case hg => rfl); (case hr => first | (go_simp; done) | (go_simp; rfl))
          intro gb178 hg w15 hbox hb
          have n0_ := bb_ (g := gb166) (o := .cells #[.bool a0_0, .int .u64 a0_1, .int .u64 a0_2] 32 (0, 0)) hb
          have n1_ := bb_ (g := gb167) (o := .cells #[.bool a1_0, .int .u64 a1_1, .int .u64 a1_2] 32 (0, 0)) hb
          have n2_ := Aside0.mk (below_step bel_ hb)
          have n3_ := Aside0.mk (hbox)
          have n4_ := Aside0.mk ((by rw [hg]; exact (below_size bel_) : w.heap.size ≤ gb178))
          have n5_ := Aside0.mk ((by rw [hg]; exact (below_size bel_) : w.heap.size ≤ gb178))
          have n6_ := nlt_ (g := gb166) (o := .cells #[.bool a0_0, .int .u64 a0_1, .int .u64 a0_2] 32 (0, 0)) hg
          have n7_ := ngt_ (g := gb166) (o := .cells #[.bool a0_0, .int .u64 a0_1, .int .u64 a0_2] 32 (0, 0)) hg
          have n8_ := nlt_ (g := gb167) (o := .cells #[.bool a1_0, .int .u64 a1_1, .int .u64 a1_2] 32 (0, 0)) hg
          have n9_ := ngt_ (g := gb167) (o := .cells #[.bool a1_0, .int .u64 a1_1, .int .u64 a1_2] 32 (0, 0)) hg
          clear BK166
          clear BK167
          clear HB
          have BK166 := n0_
          have BK167 := n1_
          have HB := n2_
          have BK178 := n3_
          have GW178 := n4_
          have GE178 := n5_
          have NB166_178 := n6_
          have NB178_166 := n7_
          have NB167_178 := n8_
          have NB178_167 := n9_
          clear n0_ n1_ n2_ n3_ n4_ n5_ n6_ n7_ n8_ n9_
          clear hb hbox hg
          refine hK.out _ _ ⟨bc_, bc_, bc_, bc_, bc_, bc_⟩ (fun hHeld => ?_)
          clear hK K
          refine norm_ (a' := ?_) ?_ ?_
          rotate_left
          · show Act.put _ (some 5) _ = _
            simp only [Act.put, la_, lb_, lc_, i64_w, i32_w]
            rfl
          refine one_ (i := 1) (N := some 11) #[true, true, true, false, false, false, false, false, true, false, false] rfl rfl (one_of HT_.out (by kernel_rfl)) (by decide) (fun K hK => ?_)
          refine goes_ Try.func20 (by kernel_rfl) rfl #[.agg #[.bool a0_0, .int .u64 a0_1, .int .u64 a0_2]] (by rfl) rfl rfl mp_ ?_
          with_reducible refine (laws_toWide.calls a0_0 a0_1 a0_2 t168 t169 t170 _ A3.out).mono ?_
          rintro e w16 ⟨rfl, hb⟩
          refine ⟨_, rfl, ?_⟩
          have n0_ := bb_ (g := gb166) (o := .cells #[.bool a0_0, .int .u64 a0_1, .int .u64 a0_2] 32 (0, 0)) hb
          have n1_ := bb_ (g := gb167) (o := .cells #[.bool a1_0, .int .u64 a1_1, .int .u64 a1_2] 32 (0, 0)) hb
          have n2_ := bb_ (g := gb178) (o := .cells #[.bool false, .int .u64 0, .int .u64 0] 33 (0, 0)) hb
          have n3_ := Aside0.mk (below_step bel_ hb)
          clear BK166
          clear BK167
          clear BK178
          clear HB
          have BK166 := n0_
          have BK167 := n1_
          have BK178 := n2_
          have HB := n3_
          clear n0_ n1_ n2_ n3_
          (try clear hb)
          (try clear hb2)
          (try clear hk)
          (try clear hi)
          refine hK.out _ _ ⟨bc_, bc_, bc_, bc_, bc_, bc_⟩ (fun hHeld => ?_)
          clear hK K
          refine norm_ (a' := ?_) ?_ ?_
          rotate_left
          · show Act.put _ (some 11) _ = _
            simp only [Act.put, la_, lb_, lc_, i64_w, i32_w]
            rfl
          refine one_ (i := 3) (N := some 13) #[true, true, true, true, false, false, false, false, true, false, false] rfl rfl (one_of HT_.out (by kernel_rfl)) (by decide) (fun K hK => ?_)
          refine goes_ Try.func20 (by kernel_rfl) rfl #[.agg #[.bool a1_0, .int .u64 a1_1, .int .u64 a1_2]] (by rfl) rfl rfl mp_ ?_
          with_reducible refine (laws_toWide.calls a1_0 a1_1 a1_2 t171 t172 t173 _ A4.out).mono ?_
          rintro e w17 ⟨rfl, hb⟩
          refine ⟨_, rfl, ?_⟩
          have n0_ := bb_ (g := gb166) (o := .cells #[.bool a0_0, .int .u64 a0_1, .int .u64 a0_2] 32 (0, 0)) hb
          have n1_ := bb_ (g := gb167) (o := .cells #[.bool a1_0, .int .u64 a1_1, .int .u64 a1_2] 32 (0, 0)) hb
          have n2_ := bb_ (g := gb178) (o := .cells #[.bool false, .int .u64 0, .int .u64 0] 33 (0, 0)) hb
          have n3_ := Aside0.mk (below_step bel_ hb)
          clear BK166
          clear BK167
          clear BK178
          clear HB
          have BK166 := n0_
          have BK167 := n1_
          have BK178 := n2_
          have HB := n3_
          clear n0_ n1_ n2_ n3_
          (try clear hb)
          (try clear hb2)
          (try clear hk)
          (try clear hi)
          refine hK.out _ _ ⟨bc_, bc_, bc_, bc_, bc_, bc_⟩ (fun hHeld => ?_)
          clear hK K
          refine norm_ (a' := ?_) ?_ ?_
          rotate_left
          · show Act.put _ (some 13) _ = _
            simp only [Act.put, la_, lb_, lc_, i64_w, i32_w]
            rfl
          refine one_ (i := 4) (N := some 14) #[true, true, true, true, true, false, false, false, true, false, false] rfl rfl (one_of HT_.out (by kernel_rfl)) (by decide) (fun K hK => ?_)
          refine goes_ Try.func47 (by kernel_rfl) rfl #[.agg #[.bool t168, .int .u64 t169, .int .u64 t170], .agg #[.bool t171, .int .u64 t172, .int .u64 t173]] (by rfl) rfl rfl mp_ ?_
          with_reducible refine (spec_AddWide.calls k t168 t169 t170 t171 t172 t173 t174 t175 t176 t177 _ A5.out).mono ?_
          rintro e w18 ⟨rfl, hb⟩
          refine ⟨_, rfl, ?_⟩
          have n0_ := bb_ (g := gb166) (o := .cells #[.bool a0_0, .int .u64 a0_1, .int .u64 a0_2] 32 (0, 0)) hb
          have n1_ := bb_ (g := gb167) (o := .cells #[.bool a1_0, .int .u64 a1_1, .int .u64 a1_2] 32 (0, 0)) hb
          have n2_ := bb_ (g := gb178) (o := .cells #[.bool false, .int .u64 0, .int .u64 0] 33 (0, 0)) hb
          have n3_ := Aside0.mk (below_step bel_ hb)
          clear BK166
          clear BK167
          clear BK178
          clear HB
          have BK166 := n0_
          have BK167 := n1_
          have BK178 := n2_
          have HB := n3_
          clear n0_ n1_ n2_ n3_
          (try clear hb)
          (try clear hb2)
          (try clear hk)
          (try clear hi)
          refine hK.out _ _ ⟨bc_, bc_, bc_, bc_, bc_, bc_⟩ (fun hHeld => ?_)
          clear hK K
          refine norm_ (a' := ?_) ?_ ?_
          rotate_left
          · show Act.put _ (some 14) _ = _
            simp only [Act.put, la_, lb_, lc_, i64_w, i32_w]
            rfl
          refine pure_ (i := 5) (N := some 9) (v := ?_) (a' := ?_) #[true, true, true, true, true, true, false, false, true, false, false] rfl rfl (any_of HT_.out (by kernel_rfl)) (fun _ _ _ h => h) (Or.inl ⟨by rfl, ?_⟩) ?_ ?_
          rotate_left
          · intro w'
            go_simp
            with_reducible rfl
          rotate_left
          · simp only [Act.put, la_, lb_, lc_, i64_w, i32_w]
            rfl
          refine pure_ (i := 6) (N := some 15) (v := ?_) (a' := ?_) #[true, true, true, true, true, true, true, false, true, false, false] rfl rfl (any_of HT_.out (by kernel_rfl)) (fun _ _ _ h => h) (Or.inl ⟨by rfl, ?_⟩) ?_ ?_
          rotate_left
          · intro w'
            go_simp
            with_reducible rfl
          rotate_left
          · simp only [Act.put, la_, lb_, lc_, i64_w, i32_w]
            rfl
          refine pure_ (i := 7) (N := some 16) (v := ?_) (a' := ?_) #[true, true, true, true, true, true, true, true, true, false, false] rfl rfl (any_of HT_.out (by kernel_rfl)) (fun _ _ _ h => h) (Or.inl ⟨by rfl, ?_⟩) ?_ ?_
          rotate_left
          · intro w'
            go_simp
            with_reducible rfl
          rotate_left
          · simp only [Act.put, la_, lb_, lc_, i64_w, i32_w]
            rfl
          exact norm_ (by simp only [putAll, Act.put, la_, lb_, lc_]) (hCont (gb178) _ ⟨hHeld, (by (with_reducible repeat (first | refine bN_ _ ?_ | refine bd_ ?_ | refine ba_ _ ?_)); exact BK166.out), (by (with_reducible repeat (first | refine bN_ _ ?_ | refine bd_ ?_ | refine ba_ _ ?_)); exact BK167.out), (by (with_reducible repeat (first | refine bN_ _ ?_ | refine bd_ ?_ | refine ba_ _ ?_)); exact BK178.out), GW178.out, GE178.out, NB166_178.out, NB178_166.out, NB167_178.out, NB178_167.out, bel_⟩)
      rintro gb178 w19 ⟨hS_, h0_, h1_, h2_, h3_, h4_, h5_, h6_, h7_, h8_, h9_⟩
      have n0_ : Aside0 (w19.heap[gb166]? = some (.cells #[.bool a0_0, .int .u64 a0_1, .int .u64 a0_2] 32 (0, 0))) := ⟨h0_⟩
      have n1_ : Aside0 (w19.heap[gb167]? = some (.cells #[.bool a1_0, .int .u64 a1_1, .int .u64 a1_2] 32 (0, 0))) := ⟨h1_⟩
      have n2_ : Aside0 (w19.heap[gb178]? = some (.cells #[.bool false, .int .u64 0, .int .u64 0] 33 (0, 0))) := ⟨h2_⟩
      have n3_ : Aside0 (w.heap.size ≤ gb178) := ⟨h3_⟩
      have n4_ : Aside0 (w.heap.size ≤ gb178) := ⟨h4_⟩
      have n5_ : Aside0 (gb166 ≠ gb178) := ⟨h5_⟩
      have n6_ : Aside0 (gb178 ≠ gb166) := ⟨h6_⟩
      have n7_ : Aside0 (gb167 ≠ gb178) := ⟨h7_⟩
      have n8_ : Aside0 (gb178 ≠ gb167) := ⟨h8_⟩
      have n9_ : Aside0 (Below w.heap.size w w19) := ⟨h9_⟩
      clear BK166
      clear BK167
      clear HB
      clear h0_ h1_ h2_ h3_ h4_ h5_ h6_ h7_ h8_ h9_
      have BK166 := n0_
      have BK167 := n1_
      have BK178 := n2_
      have GW178 := n3_
      have GE178 := n4_
      have NB166_178 := n5_
      have NB178_166 := n6_
      have NB167_178 := n7_
      have NB178_167 := n8_
      have HB := n9_
      clear n0_ n1_ n2_ n3_ n4_ n5_ n6_ n7_ n8_ n9_
      have hHeld : w19.cell? ⟨gb166, 0, none⟩ = some (.bool a0_0) ∧ w19.cell? ⟨gb166, 1, none⟩ = some (.int .u64 a0_1) ∧ w19.cell? ⟨gb166, 2, none⟩ = some (.int .u64 a0_2) ∧ w19.cell? ⟨gb167, 0, none⟩ = some (.bool a1_0) ∧ w19.cell? ⟨gb167, 1, none⟩ = some (.int .u64 a1_1) ∧ w19.cell? ⟨gb167, 2, none⟩ = some (.int .u64 a1_2) := hS_
      refine norm_ (a' := ?_) ?_ ?_
      rotate_left
      · simp only [putAll, Act.put, la_, lb_, lc_]
        rfl
      refine one_ (i := 9) (N := none) #[true, true, true, true, true, true, true, true, true, true, false] rfl rfl (one_of HT_.out (by kernel_rfl)) (by decide) (fun K hK => ?_)
      have hs20 : w19.cell? ⟨gb178, 0, none⟩ = some (.bool false) := (blk_cell BK178.out 0).trans rfl
      have hfs20 := blk_frozen BK178.out 0
      have hns20_0 := NB166_178.out
      have hns20_1 := NB167_178.out
      have hms20_0 := NB178_166.out
      have hms20_1 := NB178_167.out
      have hs21 : w19.cell? ⟨gb178, 1, none⟩ = some (.int .u64 0) := (blk_cell BK178.out 1).trans rfl
      have hfs21 := blk_frozen BK178.out 1
      have hns21_0 := NB166_178.out
      have hns21_1 := NB167_178.out
      have hms21_0 := NB178_166.out
      have hms21_1 := NB178_167.out
      have hs22 : w19.cell? ⟨gb178, 2, none⟩ = some (.int .u64 0) := (blk_cell BK178.out 2).trans rfl
      have hfs22 := blk_frozen BK178.out 2
      have hns22_0 := NB166_178.out
      have hns22_1 := NB167_178.out
      have hms22_0 := NB178_166.out
      have hms22_1 := NB178_167.out
      refine skip_ (w1 := ?_) (by rfl) rfl ?_ ?_
      rotate_left
      · go_simp
        rfl
      refine hK.out _ _ ⟨((cell_far (p := ⟨gb178, _, none⟩) NB166_178.out _).trans (((cell_far (p := ⟨gb178, _, none⟩) NB166_178.out _).trans (((cell_far (p := ⟨gb178, _, none⟩) NB166_178.out _).trans (hHeld.1)))))), ((cell_far (p := ⟨gb178, _, none⟩) NB166_178.out _).trans (((cell_far (p := ⟨gb178, _, none⟩) NB166_178.out _).trans (((cell_far (p := ⟨gb178, _, none⟩) NB166_178.out _).trans (hHeld.2.1)))))), ((cell_far (p := ⟨gb178, _, none⟩) NB166_178.out _).trans (((cell_far (p := ⟨gb178, _, none⟩) NB166_178.out _).trans (((cell_far (p := ⟨gb178, _, none⟩) NB166_178.out _).trans (hHeld.2.2.1)))))), ((cell_far (p := ⟨gb178, _, none⟩) NB167_178.out _).trans (((cell_far (p := ⟨gb178, _, none⟩) NB167_178.out _).trans (((cell_far (p := ⟨gb178, _, none⟩) NB167_178.out _).trans (hHeld.2.2.2.1)))))), ((cell_far (p := ⟨gb178, _, none⟩) NB167_178.out _).trans (((cell_far (p := ⟨gb178, _, none⟩) NB167_178.out _).trans (((cell_far (p := ⟨gb178, _, none⟩) NB167_178.out _).trans (hHeld.2.2.2.2.1)))))), ((cell_far (p := ⟨gb178, _, none⟩) NB167_178.out _).trans (((cell_far (p := ⟨gb178, _, none⟩) NB167_178.out _).trans (((cell_far (p := ⟨gb178, _, none⟩) NB167_178.out _).trans (hHeld.2.2.2.2.2))))))⟩ (fun hHeld => ?_)
      clear hK K
      refine pure_ (i := 10) (N := some 6) (v := ?_) (a' := ?_) #[true, true, true, true, true, true, true, true, true, true, true] rfl rfl (any_of HT_.out (by kernel_rfl)) (fun _ _ _ h => h) (Or.inl ⟨by rfl, ?_⟩) ?_ ?_
      rotate_left
      · intro w'
        go_simp
        with_reducible rfl
      rotate_left
      · simp only [Act.put, la_, lb_, lc_, i64_w, i32_w]
        rfl
      refine done_ (done_of HT_.out (by kernel_rfl)) ?_
      try go_wp2
      have n0_ : Aside0 ((((w19.setCell ⟨gb178, 0, none⟩ (.bool t174)).setCell ⟨gb178, 1, none⟩ (.int .u64 t175)).setCell ⟨gb178, 2, none⟩ (.int .u64 t176)).heap[gb166]? = some (.cells #[.bool a0_0, .int .u64 a0_1, .int .u64 a0_2] 32 (0, 0))) := ⟨by (with_reducible repeat (first | refine bN_ _ ?_ | refine bd_ ?_ | refine ba_ _ ?_)); refine blk_far ?_ NB166_178.out _; (with_reducible repeat (first | refine bN_ _ ?_ | refine bd_ ?_ | refine ba_ _ ?_)); refine blk_far ?_ NB166_178.out _; (with_reducible repeat (first | refine bN_ _ ?_ | refine bd_ ?_ | refine ba_ _ ?_)); refine blk_far ?_ NB166_178.out _; (with_reducible repeat (first | refine bN_ _ ?_ | refine bd_ ?_ | refine ba_ _ ?_)); exact BK166.out⟩
      have n1_ : Aside0 ((((w19.setCell ⟨gb178, 0, none⟩ (.bool t174)).setCell ⟨gb178, 1, none⟩ (.int .u64 t175)).setCell ⟨gb178, 2, none⟩ (.int .u64 t176)).heap[gb167]? = some (.cells #[.bool a1_0, .int .u64 a1_1, .int .u64 a1_2] 32 (0, 0))) := ⟨by (with_reducible repeat (first | refine bN_ _ ?_ | refine bd_ ?_ | refine ba_ _ ?_)); refine blk_far ?_ NB167_178.out _; (with_reducible repeat (first | refine bN_ _ ?_ | refine bd_ ?_ | refine ba_ _ ?_)); refine blk_far ?_ NB167_178.out _; (with_reducible repeat (first | refine bN_ _ ?_ | refine bd_ ?_ | refine ba_ _ ?_)); refine blk_far ?_ NB167_178.out _; (with_reducible repeat (first | refine bN_ _ ?_ | refine bd_ ?_ | refine ba_ _ ?_)); exact BK167.out⟩
      have n2_ : Aside0 ((((w19.setCell ⟨gb178, 0, none⟩ (.bool t174)).setCell ⟨gb178, 1, none⟩ (.int .u64 t175)).setCell ⟨gb178, 2, none⟩ (.int .u64 t176)).heap[gb178]? = some (.cells #[.bool t174, .int .u64 t175, .int .u64 t176] 33 (0, 0))) := ⟨by (with_reducible repeat (first | refine bN_ _ ?_ | refine bd_ ?_ | refine ba_ _ ?_)); refine blk_put (cs := #[.bool t174, .int .u64 t175, .int .u64 0]) ?_ 2 _ rfl; (with_reducible repeat (first | refine bN_ _ ?_ | refine bd_ ?_ | refine ba_ _ ?_)); refine blk_put (cs := #[.bool t174, .int .u64 0, .int .u64 0]) ?_ 1 _ rfl; (with_reducible repeat (first | refine bN_ _ ?_ | refine bd_ ?_ | refine ba_ _ ?_)); refine blk_put (cs := #[.bool false, .int .u64 0, .int .u64 0]) ?_ 0 _ rfl; (with_reducible repeat (first | refine bN_ _ ?_ | refine bd_ ?_ | refine ba_ _ ?_)); exact BK178.out⟩
      have n3_ : Aside0 (Below w.heap.size w (((w19.setCell ⟨gb178, 0, none⟩ (.bool t174)).setCell ⟨gb178, 1, none⟩ (.int .u64 t175)).setCell ⟨gb178, 2, none⟩ (.int .u64 t176))) := ⟨by repeat (first | (with_reducible first | exact HB.out | apply below_alloc | apply pw_below_drewN | apply below_drew1 | refine below_set ?_ GE166.out | refine below_set ?_ GE167.out | refine below_set ?_ GE178.out) | exact HB.out)⟩
      (try clear BK166)
      (try clear BK167)
      (try clear BK178)
      (try clear HB)
      generalize (((w19.setCell ⟨gb178, 0, none⟩ (.bool t174)).setCell ⟨gb178, 1, none⟩ (.int .u64 t175)).setCell ⟨gb178, 2, none⟩ (.int .u64 t176)) = w23 at n0_ n1_ n2_ n3_ ⊢
      have BK166 := n0_
      have BK167 := n1_
      have BK178 := n2_
      have HB := n3_
      clear n0_ n1_ n2_ n3_
      have n0_ := Aside0.mk (blk_drew BK166.out)
      have n1_ := Aside0.mk (blk_drew BK167.out)
      have n2_ := Aside0.mk (blk_drew BK178.out)
      have n3_ := Aside0.mk (below_drew1 HB.out)
      clear BK166
      clear BK167
      clear BK178
      clear HB
      have BK166 := n0_
      have BK167 := n1_
      have BK178 := n2_
      have HB := n3_
      clear n0_ n1_ n2_ n3_
      refine start_ (n := 11) (S := fun w' => w'.cell? ⟨gb166, 0, none⟩ = some (.bool a0_0) ∧ w'.cell? ⟨gb166, 1, none⟩ = some (.int .u64 a0_1) ∧ w'.cell? ⟨gb166, 2, none⟩ = some (.int .u64 a0_2) ∧ w'.cell? ⟨gb167, 0, none⟩ = some (.bool a1_0) ∧ w'.cell? ⟨gb167, 1, none⟩ = some (.int .u64 a1_1) ∧ w'.cell? ⟨gb167, 2, none⟩ = some (.int .u64 a1_2)) (ds := []) #[false, false, false, false, false, false, false, false, false, false, false] (by kernel_rfl) rfl rfl ⟨bc_, bc_, bc_, bc_, bc_, bc_⟩ (fun hHeld => ?_); refine with_tabW laws_FnExactAddWide.tab2 laws_FnExactAddWide.bits2 (fun HT_ HW_ => ?_)
      generalize w23.drew = w24 at BK166 BK167 BK178 HB hHeld ⊢
      refine take_ (i := 0) (N := some 18) (v := ?_) (a' := ?_) #[true, false, false, false, false, false, false, false, false, false, false] rfl rfl (take_ofW HT_.out HW_.out (by kernel_rfl)) (fun _ _ _ h => h) (Or.inl ⟨by rfl, ?_⟩) hHeld ?_ ?_
      rotate_left
      · rintro w' ⟨s0, s1, s2, s3, s4, s5⟩
        go_simp
        with_reducible rfl
      rotate_left
      · simp only [Act.put, la_, lb_, lc_, i64_w, i32_w]
        rfl
      refine take_ (i := 2) (N := some 20) (v := ?_) (a' := ?_) #[true, false, true, false, false, false, false, false, false, false, false] rfl rfl (take_ofW HT_.out HW_.out (by kernel_rfl)) (fun _ _ _ h => h) (Or.inl ⟨by rfl, ?_⟩) hHeld ?_ ?_
      rotate_left
      · rintro w' ⟨s0, s1, s2, s3, s4, s5⟩
        go_simp
        with_reducible rfl
      rotate_left
      · simp only [Act.put, la_, lb_, lc_, i64_w, i32_w]
        rfl
      refine join_ (σ := Nat) 2 #[true, true, true, true, true, true, true, true, true, false, false] (fun s_ => [(19, .agg #[.bool t179, .int .u64 t180, .int .u64 t181]), (21, .agg #[.bool t182, .int .u64 t183, .int .u64 t184]), (22, .tuple #[.agg #[.bool t185, .int .u64 t186, .int .u64 t187], .bool t188]), (7, .pointer (some ⟨s_, 0, none⟩)), (17, .tuple #[.agg #[.bool t185, .int .u64 t186, .int .u64 t187], .bool t188]), (23, .agg #[.bool t185, .int .u64 t186, .int .u64 t187]), (24, .bool t188)]) (fun s_ w' => (w'.cell? ⟨gb166, 0, none⟩ = some (.bool a0_0) ∧ w'.cell? ⟨gb166, 1, none⟩ = some (.int .u64 a0_1) ∧ w'.cell? ⟨gb166, 2, none⟩ = some (.int .u64 a0_2) ∧ w'.cell? ⟨gb167, 0, none⟩ = some (.bool a1_0) ∧ w'.cell? ⟨gb167, 1, none⟩ = some (.int .u64 a1_1) ∧ w'.cell? ⟨gb167, 2, none⟩ = some (.int .u64 a1_2)) ∧ (w'.heap[gb166]? = some (.cells #[.bool a0_0, .int .u64 a0_1, .int .u64 a0_2] 32 (0, 0))) ∧ (w'.heap[gb167]? = some (.cells #[.bool a1_0, .int .u64 a1_1, .int .u64 a1_2] 32 (0, 0))) ∧ (w'.heap[gb178]? = some (.cells #[.bool t174, .int .u64 t175, .int .u64 t176] 33 (0, 0))) ∧ (w'.heap[s_]? = some (.cells #[.bool false, .int .u64 0, .int .u64 0] 33 (0, 0))) ∧ (w.heap.size ≤ s_) ∧ (w.heap.size ≤ s_) ∧ (gb166 ≠ s_) ∧ (s_ ≠ gb166) ∧ (gb167 ≠ s_) ∧ (s_ ≠ gb167) ∧ (gb178 ≠ s_) ∧ (s_ ≠ gb178) ∧ (Below w.heap.size w w')) ?_ ?_
      rotate_left
      · intro hCont
        refine two_ (i := 1) (j := 8) (Ni := some 19) (Nj := some 7) #[true, true, true, false, false, false, false, false, false, false, false] #[true, false, true, false, false, false, false, false, true, false, false] rfl rfl rfl rfl (two_of HT_.out (by kernel_rfl)) (by decide) (by decide) (fun K hK => ?_) (fun K hK => ?_)
        · skip
          refine goes_ Try.func20 (by kernel_rfl) rfl #[.agg #[.bool a0_0, .int .u64 a0_1, .int .u64 a0_2]] (by rfl) rfl rfl mp_ ?_
          with_reducible refine (laws_toWide.calls a0_0 a0_1 a0_2 t179 t180 t181 _ A6.out).mono ?_
          rintro e w25 ⟨rfl, hb⟩
          refine ⟨_, rfl, ?_⟩
          have n0_ := bb_ (g := gb166) (o := .cells #[.bool a0_0, .int .u64 a0_1, .int .u64 a0_2] 32 (0, 0)) hb
          have n1_ := bb_ (g := gb167) (o := .cells #[.bool a1_0, .int .u64 a1_1, .int .u64 a1_2] 32 (0, 0)) hb
          have n2_ := bb_ (g := gb178) (o := .cells #[.bool t174, .int .u64 t175, .int .u64 t176] 33 (0, 0)) hb
          have n3_ := Aside0.mk (below_step bel_ hb)
          clear BK166
          clear BK167
          clear BK178
          clear HB
          have BK166 := n0_
          have BK167 := n1_
          have BK178 := n2_
          have HB := n3_
          clear n0_ n1_ n2_ n3_
          (try clear hb)
          (try clear hb2)
          (try clear hk)
          (try clear hi)
          refine hK.out _ _ ⟨bc_, bc_, bc_, bc_, bc_, bc_⟩ (fun hHeld => ?_)
          clear hK K
          refine norm_ (a' := ?_) ?_ ?_
          rotate_left
          · show Act.put _ (some 19) _ = _
            simp only [Act.put, la_, lb_, lc_, i64_w, i32_w]
            rfl
          refine two_ (i := 3) (j := 8) (Ni := some 21) (Nj := some 7) #[true, true, true, true, false, false, false, false, false, false, false] #[true, true, true, false, false, false, false, false, true, false, false] rfl rfl rfl rfl (two_of HT_.out (by kernel_rfl)) (by decide) (by decide) (fun K hK => ?_) (fun K hK => ?_)
          · skip
            refine goes_ Try.func20 (by kernel_rfl) rfl #[.agg #[.bool a1_0, .int .u64 a1_1, .int .u64 a1_2]] (by rfl) rfl rfl mp_ ?_
            with_reducible refine (laws_toWide.calls a1_0 a1_1 a1_2 t182 t183 t184 _ A7.out).mono ?_
            rintro e w26 ⟨rfl, hb⟩
            refine ⟨_, rfl, ?_⟩
            have n0_ := bb_ (g := gb166) (o := .cells #[.bool a0_0, .int .u64 a0_1, .int .u64 a0_2] 32 (0, 0)) hb
            have n1_ := bb_ (g := gb167) (o := .cells #[.bool a1_0, .int .u64 a1_1, .int .u64 a1_2] 32 (0, 0)) hb
            have n2_ := bb_ (g := gb178) (o := .cells #[.bool t174, .int .u64 t175, .int .u64 t176] 33 (0, 0)) hb
            have n3_ := Aside0.mk (below_step bel_ hb)
            clear BK166
            clear BK167
            clear BK178
            clear HB
            have BK166 := n0_
            have BK167 := n1_
            have BK178 := n2_
            have HB := n3_
            clear n0_ n1_ n2_ n3_
            (try clear hb)
            (try clear hb2)
            (try clear hk)
            (try clear hi)
            refine hK.out _ _ ⟨bc_, bc_, bc_, bc_, bc_, bc_⟩ (fun hHeld => ?_)
            clear hK K
            refine norm_ (a' := ?_) ?_ ?_
            rotate_left
            · show Act.put _ (some 21) _ = _
              simp only [Act.put, la_, lb_, lc_, i64_w, i32_w]
              rfl
            refine two_ (i := 4) (j := 8) (Ni := some 22) (Nj := some 7) #[true, true, true, true, true, false, false, false, false, false, false] #[true, true, true, true, false, false, false, false, true, false, false] rfl rfl rfl rfl (two_of HT_.out (by kernel_rfl)) (by decide) (by decide) (fun K hK => ?_) (fun K hK => ?_)
            · skip
              refine goes_ Try.func48 (by kernel_rfl) rfl #[.agg #[.bool t179, .int .u64 t180, .int .u64 t181], .agg #[.bool t182, .int .u64 t183, .int .u64 t184]] (by rfl) rfl rfl mp_ ?_
              with_reducible refine (impl_AddWide.calls k t179 t180 t181 t182 t183 t184 t185 t186 t187 t188 _ A8.out).mono ?_
              rintro e w27 ⟨rfl, hb⟩
              refine ⟨_, rfl, ?_⟩
              have n0_ := bb_ (g := gb166) (o := .cells #[.bool a0_0, .int .u64 a0_1, .int .u64 a0_2] 32 (0, 0)) hb
              have n1_ := bb_ (g := gb167) (o := .cells #[.bool a1_0, .int .u64 a1_1, .int .u64 a1_2] 32 (0, 0)) hb
              have n2_ := bb_ (g := gb178) (o := .cells #[.bool t174, .int .u64 t175, .int .u64 t176] 33 (0, 0)) hb
              have n3_ := Aside0.mk (below_step bel_ hb)
              clear BK166
              clear BK167
              clear BK178
              clear HB
              have BK166 := n0_
              have BK167 := n1_
              have BK178 := n2_
              have HB := n3_
              clear n0_ n1_ n2_ n3_
              (try clear hb)
              (try clear hb2)
              (try clear hk)
              (try clear hi)
              refine hK.out _ _ ⟨bc_, bc_, bc_, bc_, bc_, bc_⟩ (fun hHeld => ?_)
              clear hK K
              refine norm_ (a' := ?_) ?_ ?_
              rotate_left
              · show Act.put _ (some 22) _ = _
                simp only [Act.put, la_, lb_, lc_, i64_w, i32_w]
                rfl
              refine pure_ (i := 5) (N := some 17) (v := ?_) (a' := ?_) #[true, true, true, true, true, true, false, false, false, false, false] rfl rfl (any_of HT_.out (by kernel_rfl)) (fun _ _ _ h => h) (Or.inl ⟨by rfl, ?_⟩) ?_ ?_
              rotate_left
              · intro w'
                go_simp
                with_reducible rfl
              rotate_left
              · simp only [Act.put, la_, lb_, lc_, i64_w, i32_w]
                rfl
              refine pure_ (i := 6) (N := some 23) (v := ?_) (a' := ?_) #[true, true, true, true, true, true, true, false, false, false, false] rfl rfl (any_of HT_.out (by kernel_rfl)) (fun _ _ _ h => h) (Or.inl ⟨by rfl, ?_⟩) ?_ ?_
              rotate_left
              · intro w'
                go_simp
                with_reducible rfl
              rotate_left
              · simp only [Act.put, la_, lb_, lc_, i64_w, i32_w]
                rfl
              refine pure_ (i := 7) (N := some 24) (v := ?_) (a' := ?_) #[true, true, true, true, true, true, true, true, false, false, false] rfl rfl (any_of HT_.out (by kernel_rfl)) (fun _ _ _ h => h) (Or.inl ⟨by rfl, ?_⟩) ?_ ?_
              rotate_left
              · intro w'
                go_simp
                with_reducible rfl
              rotate_left
              · simp only [Act.put, la_, lb_, lc_, i64_w, i32_w]
                rfl
              refine one_ (i := 8) (N := some 7) #[true, true, true, true, true, true, true, true, true, false, false] rfl rfl (one_of HT_.out (by kernel_rfl)) (by decide) (fun K hK => ?_)
              refine box_step ?hg (N := 7) ?hd (cs := #[.bool false, .int .u64 0, .int .u64 0]) (t := 33) ?hr ?_; (case hd => rfl); (case hg => rfl); (case hr => first | (go_simp; done) | (go_simp; rfl))
              intro gb189 hg w28 hbox hb
              have n0_ := bb_ (g := gb166) (o := .cells #[.bool a0_0, .int .u64 a0_1, .int .u64 a0_2] 32 (0, 0)) hb
              have n1_ := bb_ (g := gb167) (o := .cells #[.bool a1_0, .int .u64 a1_1, .int .u64 a1_2] 32 (0, 0)) hb
              have n2_ := bb_ (g := gb178) (o := .cells #[.bool t174, .int .u64 t175, .int .u64 t176] 33 (0, 0)) hb
              have n3_ := Aside0.mk (below_step bel_ hb)
              have n4_ := Aside0.mk (hbox)
              have n5_ := Aside0.mk ((by rw [hg]; exact (below_size bel_) : w.heap.size ≤ gb189))
              have n6_ := Aside0.mk ((by rw [hg]; exact (below_size bel_) : w.heap.size ≤ gb189))
              have n7_ := nlt_ (g := gb166) (o := .cells #[.bool a0_0, .int .u64 a0_1, .int .u64 a0_2] 32 (0, 0)) hg
              have n8_ := ngt_ (g := gb166) (o := .cells #[.bool a0_0, .int .u64 a0_1, .int .u64 a0_2] 32 (0, 0)) hg
              have n9_ := nlt_ (g := gb167) (o := .cells #[.bool a1_0, .int .u64 a1_1, .int .u64 a1_2] 32 (0, 0)) hg
              have n10_ := ngt_ (g := gb167) (o := .cells #[.bool a1_0, .int .u64 a1_1, .int .u64 a1_2] 32 (0, 0)) hg
              have n11_ := nlt_ (g := gb178) (o := .cells #[.bool t174, .int .u64 t175, .int .u64 t176] 33 (0, 0)) hg
              have n12_ := ngt_ (g := gb178) (o := .cells #[.bool t174, .int .u64 t175, .int .u64 t176] 33 (0, 0)) hg
              clear BK166
              clear BK167
              clear BK178
              clear HB
              have BK166 := n0_
              have BK167 := n1_
              have BK178 := n2_
              have HB := n3_
              have BK189 := n4_
              have GW189 := n5_
              have GE189 := n6_
              have NB166_189 := n7_
              have NB189_166 := n8_
              have NB167_189 := n9_
              have NB189_167 := n10_
              have NB178_189 := n11_
              have NB189_178 := n12_
              clear n0_ n1_ n2_ n3_ n4_ n5_ n6_ n7_ n8_ n9_ n10_ n11_ n12_
              clear hb hbox hg
              refine hK.out _ _ ⟨bc_, bc_, bc_, bc_, bc_, bc_⟩ (fun hHeld => ?_)
              clear hK K
              refine norm_ (a' := ?_) ?_ ?_
              rotate_left
              · show Act.put _ (some 7) _ = _
                simp only [Act.put, la_, lb_, lc_, i64_w, i32_w]
                rfl
              exact norm_ (by simp only [putAll, Act.put, la_, lb_, lc_]) (hCont (gb189) _ ⟨hHeld, (by (with_reducible repeat (first | refine bN_ _ ?_ | refine bd_ ?_ | refine ba_ _ ?_)); exact BK166.out), (by (with_reducible repeat (first | refine bN_ _ ?_ | refine bd_ ?_ | refine ba_ _ ?_)); exact BK167.out), (by (with_reducible repeat (first | refine bN_ _ ?_ | refine bd_ ?_ | refine ba_ _ ?_)); exact BK178.out), (by (with_reducible repeat (first | refine bN_ _ ?_ | refine bd_ ?_ | refine ba_ _ ?_)); exact BK189.out), GW189.out, GE189.out, NB166_189.out, NB189_166.out, NB167_189.out, NB189_167.out, NB178_189.out, NB189_178.out, bel_⟩)
            · skip
              refine box_step ?hg (N := 7) ?hd (cs := #[.bool false, .int .u64 0, .int .u64 0]) (t := 33) ?hr ?_; (case hd => rfl); (case hg => rfl); (case hr => first | (go_simp; done) | (go_simp; rfl))
              intro gb189 hg w27 hbox hb
              have n0_ := bb_ (g := gb166) (o := .cells #[.bool a0_0, .int .u64 a0_1, .int .u64 a0_2] 32 (0, 0)) hb
              have n1_ := bb_ (g := gb167) (o := .cells #[.bool a1_0, .int .u64 a1_1, .int .u64 a1_2] 32 (0, 0)) hb
              have n2_ := bb_ (g := gb178) (o := .cells #[.bool t174, .int .u64 t175, .int .u64 t176] 33 (0, 0)) hb
              have n3_ := Aside0.mk (below_step bel_ hb)
              have n4_ := Aside0.mk (hbox)
              have n5_ := Aside0.mk ((by rw [hg]; exact (below_size bel_) : w.heap.size ≤ gb189))
              have n6_ := Aside0.mk ((by rw [hg]; exact (below_size bel_) : w.heap.size ≤ gb189))
              have n7_ := nlt_ (g := gb166) (o := .cells #[.bool a0_0, .int .u64 a0_1, .int .u64 a0_2] 32 (0, 0)) hg
              have n8_ := ngt_ (g := gb166) (o := .cells #[.bool a0_0, .int .u64 a0_1, .int .u64 a0_2] 32 (0, 0)) hg
              have n9_ := nlt_ (g := gb167) (o := .cells #[.bool a1_0, .int .u64 a1_1, .int .u64 a1_2] 32 (0, 0)) hg
              have n10_ := ngt_ (g := gb167) (o := .cells #[.bool a1_0, .int .u64 a1_1, .int .u64 a1_2] 32 (0, 0)) hg
              have n11_ := nlt_ (g := gb178) (o := .cells #[.bool t174, .int .u64 t175, .int .u64 t176] 33 (0, 0)) hg
              have n12_ := ngt_ (g := gb178) (o := .cells #[.bool t174, .int .u64 t175, .int .u64 t176] 33 (0, 0)) hg
              clear BK166
              clear BK167
              clear BK178
              clear HB
              have BK166 := n0_
              have BK167 := n1_
              have BK178 := n2_
              have HB := n3_
              have BK189 := n4_
              have GW189 := n5_
              have GE189 := n6_
              have NB166_189 := n7_
              have NB189_166 := n8_
              have NB167_189 := n9_
              have NB189_167 := n10_
              have NB178_189 := n11_
              have NB189_178 := n12_
              clear n0_ n1_ n2_ n3_ n4_ n5_ n6_ n7_ n8_ n9_ n10_ n11_ n12_
              clear hb hbox hg
              refine hK.out _ _ ⟨bc_, bc_, bc_, bc_, bc_, bc_⟩ (fun hHeld => ?_)
              clear hK K
              refine norm_ (a' := ?_) ?_ ?_
              rotate_left
              · show Act.put _ (some 7) _ = _
                simp only [Act.put, la_, lb_, lc_, i64_w, i32_w]
                rfl
              refine one_ (i := 4) (N := some 22) #[true, true, true, true, true, false, false, false, true, false, false] rfl rfl (one_of HT_.out (by kernel_rfl)) (by decide) (fun K hK => ?_)
              refine goes_ Try.func48 (by kernel_rfl) rfl #[.agg #[.bool t179, .int .u64 t180, .int .u64 t181], .agg #[.bool t182, .int .u64 t183, .int .u64 t184]] (by rfl) rfl rfl mp_ ?_
              with_reducible refine (impl_AddWide.calls k t179 t180 t181 t182 t183 t184 t185 t186 t187 t188 _ A8.out).mono ?_
              rintro e w28 ⟨rfl, hb⟩
              refine ⟨_, rfl, ?_⟩
              have n0_ := bb_ (g := gb166) (o := .cells #[.bool a0_0, .int .u64 a0_1, .int .u64 a0_2] 32 (0, 0)) hb
              have n1_ := bb_ (g := gb167) (o := .cells #[.bool a1_0, .int .u64 a1_1, .int .u64 a1_2] 32 (0, 0)) hb
              have n2_ := bb_ (g := gb178) (o := .cells #[.bool t174, .int .u64 t175, .int .u64 t176] 33 (0, 0)) hb
              have n3_ := bb_ (g := gb189) (o := .cells #[.bool false, .int .u64 0, .int .u64 0] 33 (0, 0)) hb
              have n4_ := Aside0.mk (below_step bel_ hb)
              clear BK166
              clear BK167
              clear BK178
              clear BK189
              clear HB
              have BK166 := n0_
              have BK167 := n1_
              have BK178 := n2_
              have BK189 := n3_
              have HB := n4_
              clear n0_ n1_ n2_ n3_ n4_
              (try clear hb)
              (try clear hb2)
              (try clear hk)
              (try clear hi)
              refine hK.out _ _ ⟨bc_, bc_, bc_, bc_, bc_, bc_⟩ (fun hHeld => ?_)
              clear hK K
              refine norm_ (a' := ?_) ?_ ?_
              rotate_left
              · show Act.put _ (some 22) _ = _
                simp only [Act.put, la_, lb_, lc_, i64_w, i32_w]
                rfl
              refine pure_ (i := 5) (N := some 17) (v := ?_) (a' := ?_) #[true, true, true, true, true, true, false, false, true, false, false] rfl rfl (any_of HT_.out (by kernel_rfl)) (fun _ _ _ h => h) (Or.inl ⟨by rfl, ?_⟩) ?_ ?_
              rotate_left
              · intro w'
                go_simp
                with_reducible rfl
              rotate_left
              · simp only [Act.put, la_, lb_, lc_, i64_w, i32_w]
                rfl
              refine pure_ (i := 6) (N := some 23) (v := ?_) (a' := ?_) #[true, true, true, true, true, true, true, false, true, false, false] rfl rfl (any_of HT_.out (by kernel_rfl)) (fun _ _ _ h => h) (Or.inl ⟨by rfl, ?_⟩) ?_ ?_
              rotate_left
              · intro w'
                go_simp
                with_reducible rfl
              rotate_left
              · simp only [Act.put, la_, lb_, lc_, i64_w, i32_w]
                rfl
              refine pure_ (i := 7) (N := some 24) (v := ?_) (a' := ?_) #[true, true, true, true, true, true, true, true, true, false, false] rfl rfl (any_of HT_.out (by kernel_rfl)) (fun _ _ _ h => h) (Or.inl ⟨by rfl, ?_⟩) ?_ ?_
              rotate_left
              · intro w'
                go_simp
                with_reducible rfl
              rotate_left
              · simp only [Act.put, la_, lb_, lc_, i64_w, i32_w]
                rfl
              exact norm_ (by simp only [putAll, Act.put, la_, lb_, lc_]) (hCont (gb189) _ ⟨hHeld, (by (with_reducible repeat (first | refine bN_ _ ?_ | refine bd_ ?_ | refine ba_ _ ?_)); exact BK166.out), (by (with_reducible repeat (first | refine bN_ _ ?_ | refine bd_ ?_ | refine ba_ _ ?_)); exact BK167.out), (by (with_reducible repeat (first | refine bN_ _ ?_ | refine bd_ ?_ | refine ba_ _ ?_)); exact BK178.out), (by (with_reducible repeat (first | refine bN_ _ ?_ | refine bd_ ?_ | refine ba_ _ ?_)); exact BK189.out), GW189.out, GE189.out, NB166_189.out, NB189_166.out, NB167_189.out, NB189_167.out, NB178_189.out, NB189_178.out, bel_⟩)
          · skip
            refine box_step ?hg (N := 7) ?hd (cs := #[.bool false, .int .u64 0, .int .u64 0]) (t := 33) ?hr ?_; (case hd => rfl); (case hg => rfl); (case hr => first | (go_simp; done) | (go_simp; rfl))
            intro gb189 hg w26 hbox hb
            have n0_ := bb_ (g := gb166) (o := .cells #[.bool a0_0, .int .u64 a0_1, .int .u64 a0_2] 32 (0, 0)) hb
            have n1_ := bb_ (g := gb167) (o := .cells #[.bool a1_0, .int .u64 a1_1, .int .u64 a1_2] 32 (0, 0)) hb
            have n2_ := bb_ (g := gb178) (o := .cells #[.bool t174, .int .u64 t175, .int .u64 t176] 33 (0, 0)) hb
            have n3_ := Aside0.mk (below_step bel_ hb)
            have n4_ := Aside0.mk (hbox)
            have n5_ := Aside0.mk ((by rw [hg]; exact (below_size bel_) : w.heap.size ≤ gb189))
            have n6_ := Aside0.mk ((by rw [hg]; exact (below_size bel_) : w.heap.size ≤ gb189))
            have n7_ := nlt_ (g := gb166) (o := .cells #[.bool a0_0, .int .u64 a0_1, .int .u64 a0_2] 32 (0, 0)) hg
            have n8_ := ngt_ (g := gb166) (o := .cells #[.bool a0_0, .int .u64 a0_1, .int .u64 a0_2] 32 (0, 0)) hg
            have n9_ := nlt_ (g := gb167) (o := .cells #[.bool a1_0, .int .u64 a1_1, .int .u64 a1_2] 32 (0, 0)) hg
            have n10_ := ngt_ (g := gb167) (o := .cells #[.bool a1_0, .int .u64 a1_1, .int .u64 a1_2] 32 (0, 0)) hg
            have n11_ := nlt_ (g := gb178) (o := .cells #[.bool t174, .int .u64 t175, .int .u64 t176] 33 (0, 0)) hg
            have n12_ := ngt_ (g := gb178) (o := .cells #[.bool t174, .int .u64 t175, .int .u64 t176] 33 (0, 0)) hg
            clear BK166
            clear BK167
            clear BK178
            clear HB
            have BK166 := n0_
            have BK167 := n1_
            have BK178 := n2_
            have HB := n3_
            have BK189 := n4_
            have GW189 := n5_
            have GE189 := n6_
            have NB166_189 := n7_
            have NB189_166 := n8_
            have NB167_189 := n9_
            have NB189_167 := n10_
            have NB178_189 := n11_
            have NB189_178 := n12_
            clear n0_ n1_ n2_ n3_ n4_ n5_ n6_ n7_ n8_ n9_ n10_ n11_ n12_
            clear hb hbox hg
            refine hK.out _ _ ⟨bc_, bc_, bc_, bc_, bc_, bc_⟩ (fun hHeld => ?_)
            clear hK K
            refine norm_ (a' := ?_) ?_ ?_
            rotate_left
            · show Act.put _ (some 7) _ = _
              simp only [Act.put, la_, lb_, lc_, i64_w, i32_w]
              rfl
            refine one_ (i := 3) (N := some 21) #[true, true, true, true, false, false, false, false, true, false, false] rfl rfl (one_of HT_.out (by kernel_rfl)) (by decide) (fun K hK => ?_)
            refine goes_ Try.func20 (by kernel_rfl) rfl #[.agg #[.bool a1_0, .int .u64 a1_1, .int .u64 a1_2]] (by rfl) rfl rfl mp_ ?_
            with_reducible refine (laws_toWide.calls a1_0 a1_1 a1_2 t182 t183 t184 _ A7.out).mono ?_
            rintro e w27 ⟨rfl, hb⟩
            refine ⟨_, rfl, ?_⟩
            have n0_ := bb_ (g := gb166) (o := .cells #[.bool a0_0, .int .u64 a0_1, .int .u64 a0_2] 32 (0, 0)) hb
            have n1_ := bb_ (g := gb167) (o := .cells #[.bool a1_0, .int .u64 a1_1, .int .u64 a1_2] 32 (0, 0)) hb
            have n2_ := bb_ (g := gb178) (o := .cells #[.bool t174, .int .u64 t175, .int .u64 t176] 33 (0, 0)) hb
            have n3_ := bb_ (g := gb189) (o := .cells #[.bool false, .int .u64 0, .int .u64 0] 33 (0, 0)) hb
            have n4_ := Aside0.mk (below_step bel_ hb)
            clear BK166
            clear BK167
            clear BK178
            clear BK189
            clear HB
            have BK166 := n0_
            have BK167 := n1_
            have BK178 := n2_
            have BK189 := n3_
            have HB := n4_
            clear n0_ n1_ n2_ n3_ n4_
            (try clear hb)
            (try clear hb2)
            (try clear hk)
            (try clear hi)
            refine hK.out _ _ ⟨bc_, bc_, bc_, bc_, bc_, bc_⟩ (fun hHeld => ?_)
            clear hK K
            refine norm_ (a' := ?_) ?_ ?_
            rotate_left
            · show Act.put _ (some 21) _ = _
              simp only [Act.put, la_, lb_, lc_, i64_w, i32_w]
              rfl
            refine one_ (i := 4) (N := some 22) #[true, true, true, true, true, false, false, false, true, false, false] rfl rfl (one_of HT_.out (by kernel_rfl)) (by decide) (fun K hK => ?_)
            refine goes_ Try.func48 (by kernel_rfl) rfl #[.agg #[.bool t179, .int .u64 t180, .int .u64 t181], .agg #[.bool t182, .int .u64 t183, .int .u64 t184]] (by rfl) rfl rfl mp_ ?_
            with_reducible refine (impl_AddWide.calls k t179 t180 t181 t182 t183 t184 t185 t186 t187 t188 _ A8.out).mono ?_
            rintro e w28 ⟨rfl, hb⟩
            refine ⟨_, rfl, ?_⟩
            have n0_ := bb_ (g := gb166) (o := .cells #[.bool a0_0, .int .u64 a0_1, .int .u64 a0_2] 32 (0, 0)) hb
            have n1_ := bb_ (g := gb167) (o := .cells #[.bool a1_0, .int .u64 a1_1, .int .u64 a1_2] 32 (0, 0)) hb
            have n2_ := bb_ (g := gb178) (o := .cells #[.bool t174, .int .u64 t175, .int .u64 t176] 33 (0, 0)) hb
            have n3_ := bb_ (g := gb189) (o := .cells #[.bool false, .int .u64 0, .int .u64 0] 33 (0, 0)) hb
            have n4_ := Aside0.mk (below_step bel_ hb)
            clear BK166
            clear BK167
            clear BK178
            clear BK189
            clear HB
            have BK166 := n0_
            have BK167 := n1_
            have BK178 := n2_
            have BK189 := n3_
            have HB := n4_
            clear n0_ n1_ n2_ n3_ n4_
            (try clear hb)
            (try clear hb2)
            (try clear hk)
            (try clear hi)
            refine hK.out _ _ ⟨bc_, bc_, bc_, bc_, bc_, bc_⟩ (fun hHeld => ?_)
            clear hK K
            refine norm_ (a' := ?_) ?_ ?_
            rotate_left
            · show Act.put _ (some 22) _ = _
              simp only [Act.put, la_, lb_, lc_, i64_w, i32_w]
              rfl
            refine pure_ (i := 5) (N := some 17) (v := ?_) (a' := ?_) #[true, true, true, true, true, true, false, false, true, false, false] rfl rfl (any_of HT_.out (by kernel_rfl)) (fun _ _ _ h => h) (Or.inl ⟨by rfl, ?_⟩) ?_ ?_
            rotate_left
            · intro w'
              go_simp
              with_reducible rfl
            rotate_left
            · simp only [Act.put, la_, lb_, lc_, i64_w, i32_w]
              rfl
            refine pure_ (i := 6) (N := some 23) (v := ?_) (a' := ?_) #[true, true, true, true, true, true, true, false, true, false, false] rfl rfl (any_of HT_.out (by kernel_rfl)) (fun _ _ _ h => h) (Or.inl ⟨by rfl, ?_⟩) ?_ ?_
            rotate_left
            · intro w'
              go_simp
              with_reducible rfl
            rotate_left
            · simp only [Act.put, la_, lb_, lc_, i64_w, i32_w]
              rfl
            refine pure_ (i := 7) (N := some 24) (v := ?_) (a' := ?_) #[true, true, true, true, true, true, true, true, true, false, false] rfl rfl (any_of HT_.out (by kernel_rfl)) (fun _ _ _ h => h) (Or.inl ⟨by rfl, ?_⟩) ?_ ?_
            rotate_left
            · intro w'
              go_simp
              with_reducible rfl
            rotate_left
            · simp only [Act.put, la_, lb_, lc_, i64_w, i32_w]
              rfl
            exact norm_ (by simp only [putAll, Act.put, la_, lb_, lc_]) (hCont (gb189) _ ⟨hHeld, (by (with_reducible repeat (first | refine bN_ _ ?_ | refine bd_ ?_ | refine ba_ _ ?_)); exact BK166.out), (by (with_reducible repeat (first | refine bN_ _ ?_ | refine bd_ ?_ | refine ba_ _ ?_)); exact BK167.out), (by (with_reducible repeat (first | refine bN_ _ ?_ | refine bd_ ?_ | refine ba_ _ ?_)); exact BK178.out), (by (with_reducible repeat (first | refine bN_ _ ?_ | refine bd_ ?_ | refine ba_ _ ?_)); exact BK189.out), GW189.out, GE189.out, NB166_189.out, NB189_166.out, NB167_189.out, NB189_167.out, NB178_189.out, NB189_178.out, bel_⟩)
        · skip
          refine box_step ?hg (N := 7) ?hd (cs := #[.bool false, .int .u64 0, .int .u64 0]) (t := 33) ?hr ?_; (case hd => rfl); (case hg => rfl); (case hr => first | (go_simp; done) | (go_simp; rfl))
          intro gb189 hg w25 hbox hb
          have n0_ := bb_ (g := gb166) (o := .cells #[.bool a0_0, .int .u64 a0_1, .int .u64 a0_2] 32 (0, 0)) hb
          have n1_ := bb_ (g := gb167) (o := .cells #[.bool a1_0, .int .u64 a1_1, .int .u64 a1_2] 32 (0, 0)) hb
          have n2_ := bb_ (g := gb178) (o := .cells #[.bool t174, .int .u64 t175, .int .u64 t176] 33 (0, 0)) hb
          have n3_ := Aside0.mk (below_step bel_ hb)
          have n4_ := Aside0.mk (hbox)
          have n5_ := Aside0.mk ((by rw [hg]; exact (below_size bel_) : w.heap.size ≤ gb189))
          have n6_ := Aside0.mk ((by rw [hg]; exact (below_size bel_) : w.heap.size ≤ gb189))
          have n7_ := nlt_ (g := gb166) (o := .cells #[.bool a0_0, .int .u64 a0_1, .int .u64 a0_2] 32 (0, 0)) hg
          have n8_ := ngt_ (g := gb166) (o := .cells #[.bool a0_0, .int .u64 a0_1, .int .u64 a0_2] 32 (0, 0)) hg
          have n9_ := nlt_ (g := gb167) (o := .cells #[.bool a1_0, .int .u64 a1_1, .int .u64 a1_2] 32 (0, 0)) hg
          have n10_ := ngt_ (g := gb167) (o := .cells #[.bool a1_0, .int .u64 a1_1, .int .u64 a1_2] 32 (0, 0)) hg
          have n11_ := nlt_ (g := gb178) (o := .cells #[.bool t174, .int .u64 t175, .int .u64 t176] 33 (0, 0)) hg
          have n12_ := ngt_ (g := gb178) (o := .cells #[.bool t174, .int .u64 t175, .int .u64 t176] 33 (0, 0)) hg
          clear BK166
          clear BK167
          clear BK178
          clear HB
          have BK166 := n0_
          have BK167 := n1_
          have BK178 := n2_
          have HB := n3_
          have BK189 := n4_
          have GW189 := n5_
          have GE189 := n6_
          have NB166_189 := n7_
          have NB189_166 := n8_
          have NB167_189 := n9_
          have NB189_167 := n10_
          have NB178_189 := n11_
          have NB189_178 := n12_
          clear n0_ n1_ n2_ n3_ n4_ n5_ n6_ n7_ n8_ n9_ n10_ n11_ n12_
          clear hb hbox hg
          refine hK.out _ _ ⟨bc_, bc_, bc_, bc_, bc_, bc_⟩ (fun hHeld => ?_)
          clear hK K
          refine norm_ (a' := ?_) ?_ ?_
          rotate_left
          · show Act.put _ (some 7) _ = _
            simp only [Act.put, la_, lb_, lc_, i64_w, i32_w]
            rfl
          refine one_ (i := 1) (N := some 19) #[true, true, true, false, false, false, false, false, true, false, false] rfl rfl (one_of HT_.out (by kernel_rfl)) (by decide) (fun K hK => ?_)
          refine goes_ Try.func20 (by kernel_rfl) rfl #[.agg #[.bool a0_0, .int .u64 a0_1, .int .u64 a0_2]] (by rfl) rfl rfl mp_ ?_
          with_reducible refine (laws_toWide.calls a0_0 a0_1 a0_2 t179 t180 t181 _ A6.out).mono ?_
          rintro e w26 ⟨rfl, hb⟩
          refine ⟨_, rfl, ?_⟩
          have n0_ := bb_ (g := gb166) (o := .cells #[.bool a0_0, .int .u64 a0_1, .int .u64 a0_2] 32 (0, 0)) hb
          have n1_ := bb_ (g := gb167) (o := .cells #[.bool a1_0, .int .u64 a1_1, .int .u64 a1_2] 32 (0, 0)) hb
          have n2_ := bb_ (g := gb178) (o := .cells #[.bool t174, .int .u64 t175, .int .u64 t176] 33 (0, 0)) hb
          have n3_ := bb_ (g := gb189) (o := .cells #[.bool false, .int .u64 0, .int .u64 0] 33 (0, 0)) hb
          have n4_ := Aside0.mk (below_step bel_ hb)
          clear BK166
          clear BK167
          clear BK178
          clear BK189
          clear HB
          have BK166 := n0_
          have BK167 := n1_
          have BK178 := n2_
          have BK189 := n3_
          have HB := n4_
          clear n0_ n1_ n2_ n3_ n4_
          (try clear hb)
          (try clear hb2)
          (try clear hk)
          (try clear hi)
          refine hK.out _ _ ⟨bc_, bc_, bc_, bc_, bc_, bc_⟩ (fun hHeld => ?_)
          clear hK K
          refine norm_ (a' := ?_) ?_ ?_
          rotate_left
          · show Act.put _ (some 19) _ = _
            simp only [Act.put, la_, lb_, lc_, i64_w, i32_w]
            rfl
          refine one_ (i := 3) (N := some 21) #[true, true, true, true, false, false, false, false, true, false, false] rfl rfl (one_of HT_.out (by kernel_rfl)) (by decide) (fun K hK => ?_)
          refine goes_ Try.func20 (by kernel_rfl) rfl #[.agg #[.bool a1_0, .int .u64 a1_1, .int .u64 a1_2]] (by rfl) rfl rfl mp_ ?_
          with_reducible refine (laws_toWide.calls a1_0 a1_1 a1_2 t182 t183 t184 _ A7.out).mono ?_
          rintro e w27 ⟨rfl, hb⟩
          refine ⟨_, rfl, ?_⟩
          have n0_ := bb_ (g := gb166) (o := .cells #[.bool a0_0, .int .u64 a0_1, .int .u64 a0_2] 32 (0, 0)) hb
          have n1_ := bb_ (g := gb167) (o := .cells #[.bool a1_0, .int .u64 a1_1, .int .u64 a1_2] 32 (0, 0)) hb
          have n2_ := bb_ (g := gb178) (o := .cells #[.bool t174, .int .u64 t175, .int .u64 t176] 33 (0, 0)) hb
          have n3_ := bb_ (g := gb189) (o := .cells #[.bool false, .int .u64 0, .int .u64 0] 33 (0, 0)) hb
          have n4_ := Aside0.mk (below_step bel_ hb)
          clear BK166
          clear BK167
          clear BK178
          clear BK189
          clear HB
          have BK166 := n0_
          have BK167 := n1_
          have BK178 := n2_
          have BK189 := n3_
          have HB := n4_
          clear n0_ n1_ n2_ n3_ n4_
          (try clear hb)
          (try clear hb2)
          (try clear hk)
          (try clear hi)
          refine hK.out _ _ ⟨bc_, bc_, bc_, bc_, bc_, bc_⟩ (fun hHeld => ?_)
          clear hK K
          refine norm_ (a' := ?_) ?_ ?_
          rotate_left
          · show Act.put _ (some 21) _ = _
            simp only [Act.put, la_, lb_, lc_, i64_w, i32_w]
            rfl
          refine one_ (i := 4) (N := some 22) #[true, true, true, true, true, false, false, false, true, false, false] rfl rfl (one_of HT_.out (by kernel_rfl)) (by decide) (fun K hK => ?_)
          refine goes_ Try.func48 (by kernel_rfl) rfl #[.agg #[.bool t179, .int .u64 t180, .int .u64 t181], .agg #[.bool t182, .int .u64 t183, .int .u64 t184]] (by rfl) rfl rfl mp_ ?_
          with_reducible refine (impl_AddWide.calls k t179 t180 t181 t182 t183 t184 t185 t186 t187 t188 _ A8.out).mono ?_
          rintro e w28 ⟨rfl, hb⟩
          refine ⟨_, rfl, ?_⟩
          have n0_ := bb_ (g := gb166) (o := .cells #[.bool a0_0, .int .u64 a0_1, .int .u64 a0_2] 32 (0, 0)) hb
          have n1_ := bb_ (g := gb167) (o := .cells #[.bool a1_0, .int .u64 a1_1, .int .u64 a1_2] 32 (0, 0)) hb
          have n2_ := bb_ (g := gb178) (o := .cells #[.bool t174, .int .u64 t175, .int .u64 t176] 33 (0, 0)) hb
          have n3_ := bb_ (g := gb189) (o := .cells #[.bool false, .int .u64 0, .int .u64 0] 33 (0, 0)) hb
          have n4_ := Aside0.mk (below_step bel_ hb)
          clear BK166
          clear BK167
          clear BK178
          clear BK189
          clear HB
          have BK166 := n0_
          have BK167 := n1_
          have BK178 := n2_
          have BK189 := n3_
          have HB := n4_
          clear n0_ n1_ n2_ n3_ n4_
          (try clear hb)
          (try clear hb2)
          (try clear hk)
          (try clear hi)
          refine hK.out _ _ ⟨bc_, bc_, bc_, bc_, bc_, bc_⟩ (fun hHeld => ?_)
          clear hK K
          refine norm_ (a' := ?_) ?_ ?_
          rotate_left
          · show Act.put _ (some 22) _ = _
            simp only [Act.put, la_, lb_, lc_, i64_w, i32_w]
            rfl
          refine pure_ (i := 5) (N := some 17) (v := ?_) (a' := ?_) #[true, true, true, true, true, true, false, false, true, false, false] rfl rfl (any_of HT_.out (by kernel_rfl)) (fun _ _ _ h => h) (Or.inl ⟨by rfl, ?_⟩) ?_ ?_
          rotate_left
          · intro w'
            go_simp
            with_reducible rfl
          rotate_left
          · simp only [Act.put, la_, lb_, lc_, i64_w, i32_w]
            rfl
          refine pure_ (i := 6) (N := some 23) (v := ?_) (a' := ?_) #[true, true, true, true, true, true, true, false, true, false, false] rfl rfl (any_of HT_.out (by kernel_rfl)) (fun _ _ _ h => h) (Or.inl ⟨by rfl, ?_⟩) ?_ ?_
          rotate_left
          · intro w'
            go_simp
            with_reducible rfl
          rotate_left
          · simp only [Act.put, la_, lb_, lc_, i64_w, i32_w]
            rfl
          refine pure_ (i := 7) (N := some 24) (v := ?_) (a' := ?_) #[true, true, true, true, true, true, true, true, true, false, false] rfl rfl (any_of HT_.out (by kernel_rfl)) (fun _ _ _ h => h) (Or.inl ⟨by rfl, ?_⟩) ?_ ?_
          rotate_left
          · intro w'
            go_simp
            with_reducible rfl
          rotate_left
          · simp only [Act.put, la_, lb_, lc_, i64_w, i32_w]
            rfl
          exact norm_ (by simp only [putAll, Act.put, la_, lb_, lc_]) (hCont (gb189) _ ⟨hHeld, (by (with_reducible repeat (first | refine bN_ _ ?_ | refine bd_ ?_ | refine ba_ _ ?_)); exact BK166.out), (by (with_reducible repeat (first | refine bN_ _ ?_ | refine bd_ ?_ | refine ba_ _ ?_)); exact BK167.out), (by (with_reducible repeat (first | refine bN_ _ ?_ | refine bd_ ?_ | refine ba_ _ ?_)); exact BK178.out), (by (with_reducible repeat (first | refine bN_ _ ?_ | refine bd_ ?_ | refine ba_ _ ?_)); exact BK189.out), GW189.out, GE189.out, NB166_189.out, NB189_166.out, NB167_189.out, NB189_167.out, NB178_189.out, NB189_178.out, bel_⟩)
      rintro gb189 w29 ⟨hS_, h0_, h1_, h2_, h3_, h4_, h5_, h6_, h7_, h8_, h9_, h10_, h11_, h12_⟩
      have n0_ : Aside0 (w29.heap[gb166]? = some (.cells #[.bool a0_0, .int .u64 a0_1, .int .u64 a0_2] 32 (0, 0))) := ⟨h0_⟩
      have n1_ : Aside0 (w29.heap[gb167]? = some (.cells #[.bool a1_0, .int .u64 a1_1, .int .u64 a1_2] 32 (0, 0))) := ⟨h1_⟩
      have n2_ : Aside0 (w29.heap[gb178]? = some (.cells #[.bool t174, .int .u64 t175, .int .u64 t176] 33 (0, 0))) := ⟨h2_⟩
      have n3_ : Aside0 (w29.heap[gb189]? = some (.cells #[.bool false, .int .u64 0, .int .u64 0] 33 (0, 0))) := ⟨h3_⟩
      have n4_ : Aside0 (w.heap.size ≤ gb189) := ⟨h4_⟩
      have n5_ : Aside0 (w.heap.size ≤ gb189) := ⟨h5_⟩
      have n6_ : Aside0 (gb166 ≠ gb189) := ⟨h6_⟩
      have n7_ : Aside0 (gb189 ≠ gb166) := ⟨h7_⟩
      have n8_ : Aside0 (gb167 ≠ gb189) := ⟨h8_⟩
      have n9_ : Aside0 (gb189 ≠ gb167) := ⟨h9_⟩
      have n10_ : Aside0 (gb178 ≠ gb189) := ⟨h10_⟩
      have n11_ : Aside0 (gb189 ≠ gb178) := ⟨h11_⟩
      have n12_ : Aside0 (Below w.heap.size w w29) := ⟨h12_⟩
      clear BK166
      clear BK167
      clear BK178
      clear HB
      clear h0_ h1_ h2_ h3_ h4_ h5_ h6_ h7_ h8_ h9_ h10_ h11_ h12_
      have BK166 := n0_
      have BK167 := n1_
      have BK178 := n2_
      have BK189 := n3_
      have GW189 := n4_
      have GE189 := n5_
      have NB166_189 := n6_
      have NB189_166 := n7_
      have NB167_189 := n8_
      have NB189_167 := n9_
      have NB178_189 := n10_
      have NB189_178 := n11_
      have HB := n12_
      clear n0_ n1_ n2_ n3_ n4_ n5_ n6_ n7_ n8_ n9_ n10_ n11_ n12_
      have hHeld : w29.cell? ⟨gb166, 0, none⟩ = some (.bool a0_0) ∧ w29.cell? ⟨gb166, 1, none⟩ = some (.int .u64 a0_1) ∧ w29.cell? ⟨gb166, 2, none⟩ = some (.int .u64 a0_2) ∧ w29.cell? ⟨gb167, 0, none⟩ = some (.bool a1_0) ∧ w29.cell? ⟨gb167, 1, none⟩ = some (.int .u64 a1_1) ∧ w29.cell? ⟨gb167, 2, none⟩ = some (.int .u64 a1_2) := hS_
      refine norm_ (a' := ?_) ?_ ?_
      rotate_left
      · simp only [putAll, Act.put, la_, lb_, lc_]
        rfl
      refine one_ (i := 9) (N := none) #[true, true, true, true, true, true, true, true, true, true, false] rfl rfl (one_of HT_.out (by kernel_rfl)) (by decide) (fun K hK => ?_)
      have hs30 : w29.cell? ⟨gb189, 0, none⟩ = some (.bool false) := (blk_cell BK189.out 0).trans rfl
      have hfs30 := blk_frozen BK189.out 0
      have hns30_0 := NB166_189.out
      have hns30_1 := NB167_189.out
      have hns30_2 := NB178_189.out
      have hms30_0 := NB189_166.out
      have hms30_1 := NB189_167.out
      have hms30_2 := NB189_178.out
      have hs31 : w29.cell? ⟨gb189, 1, none⟩ = some (.int .u64 0) := (blk_cell BK189.out 1).trans rfl
      have hfs31 := blk_frozen BK189.out 1
      have hns31_0 := NB166_189.out
      have hns31_1 := NB167_189.out
      have hns31_2 := NB178_189.out
      have hms31_0 := NB189_166.out
      have hms31_1 := NB189_167.out
      have hms31_2 := NB189_178.out
      have hs32 : w29.cell? ⟨gb189, 2, none⟩ = some (.int .u64 0) := (blk_cell BK189.out 2).trans rfl
      have hfs32 := blk_frozen BK189.out 2
      have hns32_0 := NB166_189.out
      have hns32_1 := NB167_189.out
      have hns32_2 := NB178_189.out
      have hms32_0 := NB189_166.out
      have hms32_1 := NB189_167.out
      have hms32_2 := NB189_178.out
      refine skip_ (w1 := ?_) (by rfl) rfl ?_ ?_
      rotate_left
      · go_simp
        rfl
      refine hK.out _ _ ⟨((cell_far (p := ⟨gb189, _, none⟩) NB166_189.out _).trans (((cell_far (p := ⟨gb189, _, none⟩) NB166_189.out _).trans (((cell_far (p := ⟨gb189, _, none⟩) NB166_189.out _).trans (hHeld.1)))))), ((cell_far (p := ⟨gb189, _, none⟩) NB166_189.out _).trans (((cell_far (p := ⟨gb189, _, none⟩) NB166_189.out _).trans (((cell_far (p := ⟨gb189, _, none⟩) NB166_189.out _).trans (hHeld.2.1)))))), ((cell_far (p := ⟨gb189, _, none⟩) NB166_189.out _).trans (((cell_far (p := ⟨gb189, _, none⟩) NB166_189.out _).trans (((cell_far (p := ⟨gb189, _, none⟩) NB166_189.out _).trans (hHeld.2.2.1)))))), ((cell_far (p := ⟨gb189, _, none⟩) NB167_189.out _).trans (((cell_far (p := ⟨gb189, _, none⟩) NB167_189.out _).trans (((cell_far (p := ⟨gb189, _, none⟩) NB167_189.out _).trans (hHeld.2.2.2.1)))))), ((cell_far (p := ⟨gb189, _, none⟩) NB167_189.out _).trans (((cell_far (p := ⟨gb189, _, none⟩) NB167_189.out _).trans (((cell_far (p := ⟨gb189, _, none⟩) NB167_189.out _).trans (hHeld.2.2.2.2.1)))))), ((cell_far (p := ⟨gb189, _, none⟩) NB167_189.out _).trans (((cell_far (p := ⟨gb189, _, none⟩) NB167_189.out _).trans (((cell_far (p := ⟨gb189, _, none⟩) NB167_189.out _).trans (hHeld.2.2.2.2.2))))))⟩ (fun hHeld => ?_)
      clear hK K
      refine pure_ (i := 10) (N := some 8) (v := ?_) (a' := ?_) #[true, true, true, true, true, true, true, true, true, true, true] rfl rfl (any_of HT_.out (by kernel_rfl)) (fun _ _ _ h => h) (Or.inl ⟨by rfl, ?_⟩) ?_ ?_
      rotate_left
      · intro w'
        go_simp
        with_reducible rfl
      rotate_left
      · simp only [Act.put, la_, lb_, lc_, i64_w, i32_w]
        rfl
      refine done_ (done_of HT_.out (by kernel_rfl)) ?_
      have hnb33 := NB189_166.out
      have hnc33 := NB166_189.out
      have hnb34 := NB189_167.out
      have hnc34 := NB167_189.out
      have hnb35 := NB189_178.out
      have hnc35 := NB178_189.out
      have hcz36_0 : w29.cell? ⟨gb189, 0, none⟩ = some (.bool false) := bc_
      have hcz36_1 : w29.cell? ⟨gb189, 1, none⟩ = some (.int .u64 0) := bc_
      have hcz36_2 : w29.cell? ⟨gb189, 2, none⟩ = some (.int .u64 0) := bc_
      have hfz36_0 := blk_frozen BK189.out 0
      have hfz36_1 := blk_frozen BK189.out 1
      have hfz36_2 := blk_frozen BK189.out 2
      have hnb37 := NB178_166.out
      have hnc37 := NB166_178.out
      have hnb38 := NB178_167.out
      have hnc38 := NB167_178.out
      have hcz39_0 : w29.cell? ⟨gb178, 0, none⟩ = some (.bool t174) := bc_
      have hcz39_1 : w29.cell? ⟨gb178, 1, none⟩ = some (.int .u64 t175) := bc_
      have hcz39_2 : w29.cell? ⟨gb178, 2, none⟩ = some (.int .u64 t176) := bc_
      have hfz39_0 := blk_frozen BK178.out 0
      have hfz39_1 := blk_frozen BK178.out 1
      have hfz39_2 := blk_frozen BK178.out 2
      try go_wp2_with (first | ((with_reducible refine gate_callee (f := 22) rfl ?_); refine goesL_ (some 27) rfl rfl Try.func22 (by kernel_rfl) rfl #[.agg #[.bool t185, .int .u64 t186, .int .u64 t187], .agg #[.bool t174, .int .u64 t175, .int .u64 t176]] rfl mp_ ?_; (with_reducible refine (laws_eqWide.calls t185 t186 t187 t174 t175 t176 true _ A9.out).mono ?_); rintro e w40 ⟨rfl, hb⟩; refine ⟨_, rfl, ?_⟩; have n0_ := Aside0.mk (blk_below (g := gb166) (o := .cells #[.bool a0_0, .int .u64 a0_1, .int .u64 a0_2] 32 (0, 0)) (by (with_reducible repeat (first | refine bN_ _ ?_ | refine bd_ ?_ | refine ba_ _ ?_)); refine blk_far ?_ NB166_189.out _; (with_reducible repeat (first | refine bN_ _ ?_ | refine bd_ ?_ | refine ba_ _ ?_)); refine blk_far ?_ NB166_189.out _; (with_reducible repeat (first | refine bN_ _ ?_ | refine bd_ ?_ | refine ba_ _ ?_)); refine blk_far ?_ NB166_189.out _; (with_reducible repeat (first | refine bN_ _ ?_ | refine bd_ ?_ | refine ba_ _ ?_)); exact BK166.out) hb); have n1_ := Aside0.mk (blk_below (g := gb167) (o := .cells #[.bool a1_0, .int .u64 a1_1, .int .u64 a1_2] 32 (0, 0)) (by (with_reducible repeat (first | refine bN_ _ ?_ | refine bd_ ?_ | refine ba_ _ ?_)); refine blk_far ?_ NB167_189.out _; (with_reducible repeat (first | refine bN_ _ ?_ | refine bd_ ?_ | refine ba_ _ ?_)); refine blk_far ?_ NB167_189.out _; (with_reducible repeat (first | refine bN_ _ ?_ | refine bd_ ?_ | refine ba_ _ ?_)); refine blk_far ?_ NB167_189.out _; (with_reducible repeat (first | refine bN_ _ ?_ | refine bd_ ?_ | refine ba_ _ ?_)); exact BK167.out) hb); have n2_ := Aside0.mk (blk_below (g := gb178) (o := .cells #[.bool t174, .int .u64 t175, .int .u64 t176] 33 (0, 0)) (by (with_reducible repeat (first | refine bN_ _ ?_ | refine bd_ ?_ | refine ba_ _ ?_)); refine blk_far ?_ NB178_189.out _; (with_reducible repeat (first | refine bN_ _ ?_ | refine bd_ ?_ | refine ba_ _ ?_)); refine blk_far ?_ NB178_189.out _; (with_reducible repeat (first | refine bN_ _ ?_ | refine bd_ ?_ | refine ba_ _ ?_)); refine blk_far ?_ NB178_189.out _; (with_reducible repeat (first | refine bN_ _ ?_ | refine bd_ ?_ | refine ba_ _ ?_)); exact BK178.out) hb); have n3_ := Aside0.mk (blk_below (g := gb189) (o := .cells #[.bool t185, .int .u64 t186, .int .u64 t187] 33 (0, 0)) (by (with_reducible repeat (first | refine bN_ _ ?_ | refine bd_ ?_ | refine ba_ _ ?_)); refine blk_put (cs := #[.bool t185, .int .u64 t186, .int .u64 0]) ?_ 2 _ rfl; (with_reducible repeat (first | refine bN_ _ ?_ | refine bd_ ?_ | refine ba_ _ ?_)); refine blk_put (cs := #[.bool t185, .int .u64 0, .int .u64 0]) ?_ 1 _ rfl; (with_reducible repeat (first | refine bN_ _ ?_ | refine bd_ ?_ | refine ba_ _ ?_)); refine blk_put (cs := #[.bool false, .int .u64 0, .int .u64 0]) ?_ 0 _ rfl; (with_reducible repeat (first | refine bN_ _ ?_ | refine bd_ ?_ | refine ba_ _ ?_)); exact BK189.out) hb); have n4_ := Aside0.mk (below_step bel_ hb); clear BK166; clear BK167; clear BK178; clear BK189; clear HB; have BK166 := n0_; have BK167 := n1_; have BK178 := n2_; have BK189 := n3_; have HB := n4_; clear n0_ n1_ n2_ n3_ n4_; (try clear hb); (try clear hb2); (try clear hk); (try clear hi)))
      go_ret
      exact ⟨by first | rfl | (simp [errW_none, errW_some] <;> rfl) | (simp [*, errW_none, errW_some] <;> rfl), by repeat (first | (with_reducible first | exact HB.out | apply below_alloc | apply pw_below_drewN | apply below_drew1 | refine below_set ?_ GE166.out | refine below_set ?_ GE167.out | refine below_set ?_ GE178.out | refine below_set ?_ GE189.out) | exact HB.out)⟩
    · rw [if_neg c11] at H
      have c11b0 : (t188 != t177) = false := by simpa using c11
      (try (have c11b1 : decide (t188 = t177) = true := by simpa using c11))
      (try (have c11b2 : (t188 == t177) = true := by simpa using c11))
      clear c11
      obtain rfl := Option.some.inj H
      go_enter Try.func10, Try.ntmps10
      try go_wp2_with (first | ((with_reducible refine gate_dst (N := 2) rfl ?_); refine box_event ?hg (N := 2) ?hd (cs := #[.bool a0_0, .int .u64 a0_1, .int .u64 a0_2]) (t := 32) ?hr ?_; (case hd => rfl); (case hg => rfl); (case hr => first | (go_simp; done) | (go_simp; rfl)); intro gb166 hg w41 hbox hb; have n0_ := Aside0.mk (below_step bel_ hb); have n1_ := Aside0.mk (hbox); have n2_ := Aside0.mk ((by rw [hg]; exact (below_size bel_) : w.heap.size ≤ gb166)); have n3_ := Aside0.mk ((by rw [hg]; exact (below_size bel_) : w.heap.size ≤ gb166)); clear HB; have HB := n0_; have BK166 := n1_; have GW166 := n2_; have GE166 := n3_; clear n0_ n1_ n2_ n3_; clear hb hbox hg) | ((with_reducible refine gate_dst (N := 3) rfl ?_); refine box_event ?hg (N := 3) ?hd (cs := #[.bool a1_0, .int .u64 a1_1, .int .u64 a1_2]) (t := 32) ?hr ?_; (case hd => rfl); (case hg => rfl); (case hr => first | (go_simp; done) | (go_simp; rfl)); intro gb167 hg w42 hbox hb; have n0_ := bb_ (g := gb166) (o := .cells #[.bool a0_0, .int .u64 a0_1, .int .u64 a0_2] 32 (0, 0)) hb; have n1_ := Aside0.mk (below_step bel_ hb); have n2_ := Aside0.mk (hbox); have n3_ := Aside0.mk ((by rw [hg]; exact (below_size bel_) : w.heap.size ≤ gb167)); have n4_ := Aside0.mk ((by rw [hg]; exact (below_size bel_) : w.heap.size ≤ gb167)); have n5_ := nlt_ (g := gb166) (o := .cells #[.bool a0_0, .int .u64 a0_1, .int .u64 a0_2] 32 (0, 0)) hg; have n6_ := ngt_ (g := gb166) (o := .cells #[.bool a0_0, .int .u64 a0_1, .int .u64 a0_2] 32 (0, 0)) hg; clear BK166; clear HB; have BK166 := n0_; have HB := n1_; have BK167 := n2_; have GW167 := n3_; have GE167 := n4_; have NB166_167 := n5_; have NB167_166 := n6_; clear n0_ n1_ n2_ n3_ n4_ n5_ n6_; clear hb hbox hg))
      have n0_ := Aside0.mk (blk_drew BK166.out)
      have n1_ := Aside0.mk (blk_drew BK167.out)
      have n2_ := Aside0.mk (below_drew1 HB.out)
      clear BK166
      clear BK167
      clear HB
      have BK166 := n0_
      have BK167 := n1_
      have HB := n2_
      clear n0_ n1_ n2_
      refine start_ (n := 11) (S := fun w' => w'.cell? ⟨gb166, 0, none⟩ = some (.bool a0_0) ∧ w'.cell? ⟨gb166, 1, none⟩ = some (.int .u64 a0_1) ∧ w'.cell? ⟨gb166, 2, none⟩ = some (.int .u64 a0_2) ∧ w'.cell? ⟨gb167, 0, none⟩ = some (.bool a1_0) ∧ w'.cell? ⟨gb167, 1, none⟩ = some (.int .u64 a1_1) ∧ w'.cell? ⟨gb167, 2, none⟩ = some (.int .u64 a1_2)) (ds := []) #[false, false, false, false, false, false, false, false, false, false, false] (by kernel_rfl) rfl rfl ⟨bc_, bc_, bc_, bc_, bc_, bc_⟩ (fun hHeld => ?_); refine with_tabW laws_FnExactAddWide.tab1 laws_FnExactAddWide.bits1 (fun HT_ HW_ => ?_)
      generalize w42.drew = w43 at BK166 BK167 HB hHeld ⊢
      refine take_ (i := 0) (N := some 10) (v := ?_) (a' := ?_) #[true, false, false, false, false, false, false, false, false, false, false] rfl rfl (take_ofW HT_.out HW_.out (by kernel_rfl)) (fun _ _ _ h => h) (Or.inl ⟨by rfl, ?_⟩) hHeld ?_ ?_
      rotate_left
      · rintro w' ⟨s0, s1, s2, s3, s4, s5⟩
        go_simp
        with_reducible rfl
      rotate_left
      · simp only [Act.put, la_, lb_, lc_, i64_w, i32_w]
        rfl
      refine take_ (i := 2) (N := some 12) (v := ?_) (a' := ?_) #[true, false, true, false, false, false, false, false, false, false, false] rfl rfl (take_ofW HT_.out HW_.out (by kernel_rfl)) (fun _ _ _ h => h) (Or.inl ⟨by rfl, ?_⟩) hHeld ?_ ?_
      rotate_left
      · rintro w' ⟨s0, s1, s2, s3, s4, s5⟩
        go_simp
        with_reducible rfl
      rotate_left
      · simp only [Act.put, la_, lb_, lc_, i64_w, i32_w]
        rfl
      refine join_ (σ := Nat) 2 #[true, true, true, true, true, true, true, true, true, false, false] (fun s_ => [(11, .agg #[.bool t168, .int .u64 t169, .int .u64 t170]), (13, .agg #[.bool t171, .int .u64 t172, .int .u64 t173]), (14, .tuple #[.agg #[.bool t174, .int .u64 t175, .int .u64 t176], .bool t177]), (5, .pointer (some ⟨s_, 0, none⟩)), (9, .tuple #[.agg #[.bool t174, .int .u64 t175, .int .u64 t176], .bool t177]), (15, .agg #[.bool t174, .int .u64 t175, .int .u64 t176]), (16, .bool t177)]) (fun s_ w' => (w'.cell? ⟨gb166, 0, none⟩ = some (.bool a0_0) ∧ w'.cell? ⟨gb166, 1, none⟩ = some (.int .u64 a0_1) ∧ w'.cell? ⟨gb166, 2, none⟩ = some (.int .u64 a0_2) ∧ w'.cell? ⟨gb167, 0, none⟩ = some (.bool a1_0) ∧ w'.cell? ⟨gb167, 1, none⟩ = some (.int .u64 a1_1) ∧ w'.cell? ⟨gb167, 2, none⟩ = some (.int .u64 a1_2)) ∧ (w'.heap[gb166]? = some (.cells #[.bool a0_0, .int .u64 a0_1, .int .u64 a0_2] 32 (0, 0))) ∧ (w'.heap[gb167]? = some (.cells #[.bool a1_0, .int .u64 a1_1, .int .u64 a1_2] 32 (0, 0))) ∧ (w'.heap[s_]? = some (.cells #[.bool false, .int .u64 0, .int .u64 0] 33 (0, 0))) ∧ (w.heap.size ≤ s_) ∧ (w.heap.size ≤ s_) ∧ (gb166 ≠ s_) ∧ (s_ ≠ gb166) ∧ (gb167 ≠ s_) ∧ (s_ ≠ gb167) ∧ (Below w.heap.size w w')) ?_ ?_
      rotate_left
      · intro hCont
        refine two_ (i := 1) (j := 8) (Ni := some 11) (Nj := some 5) #[true, true, true, false, false, false, false, false, false, false, false] #[true, false, true, false, false, false, false, false, true, false, false] rfl rfl rfl rfl (two_of HT_.out (by kernel_rfl)) (by decide) (by decide) (fun K hK => ?_) (fun K hK => ?_)
        · skip
          refine goes_ Try.func20 (by kernel_rfl) rfl #[.agg #[.bool a0_0, .int .u64 a0_1, .int .u64 a0_2]] (by rfl) rfl rfl mp_ ?_
          with_reducible refine (laws_toWide.calls a0_0 a0_1 a0_2 t168 t169 t170 _ A3.out).mono ?_
          rintro e w44 ⟨rfl, hb⟩
          refine ⟨_, rfl, ?_⟩
          have n0_ := bb_ (g := gb166) (o := .cells #[.bool a0_0, .int .u64 a0_1, .int .u64 a0_2] 32 (0, 0)) hb
          have n1_ := bb_ (g := gb167) (o := .cells #[.bool a1_0, .int .u64 a1_1, .int .u64 a1_2] 32 (0, 0)) hb
          have n2_ := Aside0.mk (below_step bel_ hb)
          clear BK166
          clear BK167
          clear HB
          have BK166 := n0_
          have BK167 := n1_
          have HB := n2_
          clear n0_ n1_ n2_
          (try clear hb)
          (try clear hb2)
          (try clear hk)
          (try clear hi)
          refine hK.out _ _ ⟨bc_, bc_, bc_, bc_, bc_, bc_⟩ (fun hHeld => ?_)
          clear hK K
          refine norm_ (a' := ?_) ?_ ?_
          rotate_left
          · show Act.put _ (some 11) _ = _
            simp only [Act.put, la_, lb_, lc_, i64_w, i32_w]
            rfl
          refine two_ (i := 3) (j := 8) (Ni := some 13) (Nj := some 5) #[true, true, true, true, false, false, false, false, false, false, false] #[true, true, true, false, false, false, false, false, true, false, false] rfl rfl rfl rfl (two_of HT_.out (by kernel_rfl)) (by decide) (by decide) (fun K hK => ?_) (fun K hK => ?_)
          · skip
            refine goes_ Try.func20 (by kernel_rfl) rfl #[.agg #[.bool a1_0, .int .u64 a1_1, .int .u64 a1_2]] (by rfl) rfl rfl mp_ ?_
            with_reducible refine (laws_toWide.calls a1_0 a1_1 a1_2 t171 t172 t173 _ A4.out).mono ?_
            rintro e w45 ⟨rfl, hb⟩
            refine ⟨_, rfl, ?_⟩
            have n0_ := bb_ (g := gb166) (o := .cells #[.bool a0_0, .int .u64 a0_1, .int .u64 a0_2] 32 (0, 0)) hb
            have n1_ := bb_ (g := gb167) (o := .cells #[.bool a1_0, .int .u64 a1_1, .int .u64 a1_2] 32 (0, 0)) hb
            have n2_ := Aside0.mk (below_step bel_ hb)
            clear BK166
            clear BK167
            clear HB
            have BK166 := n0_
            have BK167 := n1_
            have HB := n2_
            clear n0_ n1_ n2_
            (try clear hb)
            (try clear hb2)
            (try clear hk)
            (try clear hi)
            refine hK.out _ _ ⟨bc_, bc_, bc_, bc_, bc_, bc_⟩ (fun hHeld => ?_)
            clear hK K
            refine norm_ (a' := ?_) ?_ ?_
            rotate_left
            · show Act.put _ (some 13) _ = _
              simp only [Act.put, la_, lb_, lc_, i64_w, i32_w]
              rfl
            refine two_ (i := 4) (j := 8) (Ni := some 14) (Nj := some 5) #[true, true, true, true, true, false, false, false, false, false, false] #[true, true, true, true, false, false, false, false, true, false, false] rfl rfl rfl rfl (two_of HT_.out (by kernel_rfl)) (by decide) (by decide) (fun K hK => ?_) (fun K hK => ?_)
            · skip
              refine goes_ Try.func47 (by kernel_rfl) rfl #[.agg #[.bool t168, .int .u64 t169, .int .u64 t170], .agg #[.bool t171, .int .u64 t172, .int .u64 t173]] (by rfl) rfl rfl mp_ ?_
              with_reducible refine (spec_AddWide.calls k t168 t169 t170 t171 t172 t173 t174 t175 t176 t177 _ A5.out).mono ?_
              rintro e w46 ⟨rfl, hb⟩
              refine ⟨_, rfl, ?_⟩
              have n0_ := bb_ (g := gb166) (o := .cells #[.bool a0_0, .int .u64 a0_1, .int .u64 a0_2] 32 (0, 0)) hb
              have n1_ := bb_ (g := gb167) (o := .cells #[.bool a1_0, .int .u64 a1_1, .int .u64 a1_2] 32 (0, 0)) hb
              have n2_ := Aside0.mk (below_step bel_ hb)
              clear BK166
              clear BK167
              clear HB
              have BK166 := n0_
              have BK167 := n1_
              have HB := n2_
              clear n0_ n1_ n2_
              (try clear hb)
              (try clear hb2)
              (try clear hk)
              (try clear hi)
              refine hK.out _ _ ⟨bc_, bc_, bc_, bc_, bc_, bc_⟩ (fun hHeld => ?_)
              clear hK K
              refine norm_ (a' := ?_) ?_ ?_
              rotate_left
              · show Act.put _ (some 14) _ = _
                simp only [Act.put, la_, lb_, lc_, i64_w, i32_w]
                rfl
              refine pure_ (i := 5) (N := some 9) (v := ?_) (a' := ?_) #[true, true, true, true, true, true, false, false, false, false, false] rfl rfl (any_of HT_.out (by kernel_rfl)) (fun _ _ _ h => h) (Or.inl ⟨by rfl, ?_⟩) ?_ ?_
              rotate_left
              · intro w'
                go_simp
                with_reducible rfl
              rotate_left
              · simp only [Act.put, la_, lb_, lc_, i64_w, i32_w]
                rfl
              refine pure_ (i := 6) (N := some 15) (v := ?_) (a' := ?_) #[true, true, true, true, true, true, true, false, false, false, false] rfl rfl (any_of HT_.out (by kernel_rfl)) (fun _ _ _ h => h) (Or.inl ⟨by rfl, ?_⟩) ?_ ?_
              rotate_left
              · intro w'
                go_simp
                with_reducible rfl
              rotate_left
              · simp only [Act.put, la_, lb_, lc_, i64_w, i32_w]
                rfl
              refine pure_ (i := 7) (N := some 16) (v := ?_) (a' := ?_) #[true, true, true, true, true, true, true, true, false, false, false] rfl rfl (any_of HT_.out (by kernel_rfl)) (fun _ _ _ h => h) (Or.inl ⟨by rfl, ?_⟩) ?_ ?_
              rotate_left
              · intro w'
                go_simp
                with_reducible rfl
              rotate_left
              · simp only [Act.put, la_, lb_, lc_, i64_w, i32_w]
                rfl
              refine one_ (i := 8) (N := some 5) #[true, true, true, true, true, true, true, true, true, false, false] rfl rfl (one_of HT_.out (by kernel_rfl)) (by decide) (fun K hK => ?_)
              refine box_step ?hg (N := 5) ?hd (cs := #[.bool false, .int .u64 0, .int .u64 0]) (t := 33) ?hr ?_; (case hd => rfl); (case hg => rfl); (case hr => first | (go_simp; done) | (go_simp; rfl))
              intro gb178 hg w47 hbox hb
              have n0_ := bb_ (g := gb166) (o := .cells #[.bool a0_0, .int .u64 a0_1, .int .u64 a0_2] 32 (0, 0)) hb
              have n1_ := bb_ (g := gb167) (o := .cells #[.bool a1_0, .int .u64 a1_1, .int .u64 a1_2] 32 (0, 0)) hb
              have n2_ := Aside0.mk (below_step bel_ hb)
              have n3_ := Aside0.mk (hbox)
              have n4_ := Aside0.mk ((by rw [hg]; exact (below_size bel_) : w.heap.size ≤ gb178))
              have n5_ := Aside0.mk ((by rw [hg]; exact (below_size bel_) : w.heap.size ≤ gb178))
              have n6_ := nlt_ (g := gb166) (o := .cells #[.bool a0_0, .int .u64 a0_1, .int .u64 a0_2] 32 (0, 0)) hg
              have n7_ := ngt_ (g := gb166) (o := .cells #[.bool a0_0, .int .u64 a0_1, .int .u64 a0_2] 32 (0, 0)) hg
              have n8_ := nlt_ (g := gb167) (o := .cells #[.bool a1_0, .int .u64 a1_1, .int .u64 a1_2] 32 (0, 0)) hg
              have n9_ := ngt_ (g := gb167) (o := .cells #[.bool a1_0, .int .u64 a1_1, .int .u64 a1_2] 32 (0, 0)) hg
              clear BK166
              clear BK167
              clear HB
              have BK166 := n0_
              have BK167 := n1_
              have HB := n2_
              have BK178 := n3_
              have GW178 := n4_
              have GE178 := n5_
              have NB166_178 := n6_
              have NB178_166 := n7_
              have NB167_178 := n8_
              have NB178_167 := n9_
              clear n0_ n1_ n2_ n3_ n4_ n5_ n6_ n7_ n8_ n9_
              clear hb hbox hg
              refine hK.out _ _ ⟨bc_, bc_, bc_, bc_, bc_, bc_⟩ (fun hHeld => ?_)
              clear hK K
              refine norm_ (a' := ?_) ?_ ?_
              rotate_left
              · show Act.put _ (some 5) _ = _
                simp only [Act.put, la_, lb_, lc_, i64_w, i32_w]
                rfl
              exact norm_ (by simp only [putAll, Act.put, la_, lb_, lc_]) (hCont (gb178) _ ⟨hHeld, (by (with_reducible repeat (first | refine bN_ _ ?_ | refine bd_ ?_ | refine ba_ _ ?_)); exact BK166.out), (by (with_reducible repeat (first | refine bN_ _ ?_ | refine bd_ ?_ | refine ba_ _ ?_)); exact BK167.out), (by (with_reducible repeat (first | refine bN_ _ ?_ | refine bd_ ?_ | refine ba_ _ ?_)); exact BK178.out), GW178.out, GE178.out, NB166_178.out, NB178_166.out, NB167_178.out, NB178_167.out, bel_⟩)
            · skip
              refine box_step ?hg (N := 5) ?hd (cs := #[.bool false, .int .u64 0, .int .u64 0]) (t := 33) ?hr ?_; (case hd => rfl); (case hg => rfl); (case hr => first | (go_simp; done) | (go_simp; rfl))
              intro gb178 hg w46 hbox hb
              have n0_ := bb_ (g := gb166) (o := .cells #[.bool a0_0, .int .u64 a0_1, .int .u64 a0_2] 32 (0, 0)) hb
              have n1_ := bb_ (g := gb167) (o := .cells #[.bool a1_0, .int .u64 a1_1, .int .u64 a1_2] 32 (0, 0)) hb
              have n2_ := Aside0.mk (below_step bel_ hb)
              have n3_ := Aside0.mk (hbox)
              have n4_ := Aside0.mk ((by rw [hg]; exact (below_size bel_) : w.heap.size ≤ gb178))
              have n5_ := Aside0.mk ((by rw [hg]; exact (below_size bel_) : w.heap.size ≤ gb178))
              have n6_ := nlt_ (g := gb166) (o := .cells #[.bool a0_0, .int .u64 a0_1, .int .u64 a0_2] 32 (0, 0)) hg
              have n7_ := ngt_ (g := gb166) (o := .cells #[.bool a0_0, .int .u64 a0_1, .int .u64 a0_2] 32 (0, 0)) hg
              have n8_ := nlt_ (g := gb167) (o := .cells #[.bool a1_0, .int .u64 a1_1, .int .u64 a1_2] 32 (0, 0)) hg
              have n9_ := ngt_ (g := gb167) (o := .cells #[.bool a1_0, .int .u64 a1_1, .int .u64 a1_2] 32 (0, 0)) hg
              clear BK166
              clear BK167
              clear HB
              have BK166 := n0_
              have BK167 := n1_
              have HB := n2_
              have BK178 := n3_
              have GW178 := n4_
              have GE178 := n5_
              have NB166_178 := n6_
              have NB178_166 := n7_
              have NB167_178 := n8_
              have NB178_167 := n9_
              clear n0_ n1_ n2_ n3_ n4_ n5_ n6_ n7_ n8_ n9_
              clear hb hbox hg
              refine hK.out _ _ ⟨bc_, bc_, bc_, bc_, bc_, bc_⟩ (fun hHeld => ?_)
              clear hK K
              refine norm_ (a' := ?_) ?_ ?_
              rotate_left
              · show Act.put _ (some 5) _ = _
                simp only [Act.put, la_, lb_, lc_, i64_w, i32_w]
                rfl
              refine one_ (i := 4) (N := some 14) #[true, true, true, true, true, false, false, false, true, false, false] rfl rfl (one_of HT_.out (by kernel_rfl)) (by decide) (fun K hK => ?_)
              refine goes_ Try.func47 (by kernel_rfl) rfl #[.agg #[.bool t168, .int .u64 t169, .int .u64 t170], .agg #[.bool t171, .int .u64 t172, .int .u64 t173]] (by rfl) rfl rfl mp_ ?_
              with_reducible refine (spec_AddWide.calls k t168 t169 t170 t171 t172 t173 t174 t175 t176 t177 _ A5.out).mono ?_
              rintro e w47 ⟨rfl, hb⟩
              refine ⟨_, rfl, ?_⟩
              have n0_ := bb_ (g := gb166) (o := .cells #[.bool a0_0, .int .u64 a0_1, .int .u64 a0_2] 32 (0, 0)) hb
              have n1_ := bb_ (g := gb167) (o := .cells #[.bool a1_0, .int .u64 a1_1, .int .u64 a1_2] 32 (0, 0)) hb
              have n2_ := bb_ (g := gb178) (o := .cells #[.bool false, .int .u64 0, .int .u64 0] 33 (0, 0)) hb
              have n3_ := Aside0.mk (below_step bel_ hb)
              clear BK166
              clear BK167
              clear BK178
              clear HB
              have BK166 := n0_
              have BK167 := n1_
              have BK178 := n2_
              have HB := n3_
              clear n0_ n1_ n2_ n3_
              (try clear hb)
              (try clear hb2)
              (try clear hk)
              (try clear hi)
              refine hK.out _ _ ⟨bc_, bc_, bc_, bc_, bc_, bc_⟩ (fun hHeld => ?_)
              clear hK K
              refine norm_ (a' := ?_) ?_ ?_
              rotate_left
              · show Act.put _ (some 14) _ = _
                simp only [Act.put, la_, lb_, lc_, i64_w, i32_w]
                rfl
              refine pure_ (i := 5) (N := some 9) (v := ?_) (a' := ?_) #[true, true, true, true, true, true, false, false, true, false, false] rfl rfl (any_of HT_.out (by kernel_rfl)) (fun _ _ _ h => h) (Or.inl ⟨by rfl, ?_⟩) ?_ ?_
              rotate_left
              · intro w'
                go_simp
                with_reducible rfl
              rotate_left
              · simp only [Act.put, la_, lb_, lc_, i64_w, i32_w]
                rfl
              refine pure_ (i := 6) (N := some 15) (v := ?_) (a' := ?_) #[true, true, true, true, true, true, true, false, true, false, false] rfl rfl (any_of HT_.out (by kernel_rfl)) (fun _ _ _ h => h) (Or.inl ⟨by rfl, ?_⟩) ?_ ?_
              rotate_left
              · intro w'
                go_simp
                with_reducible rfl
              rotate_left
              · simp only [Act.put, la_, lb_, lc_, i64_w, i32_w]
                rfl
              refine pure_ (i := 7) (N := some 16) (v := ?_) (a' := ?_) #[true, true, true, true, true, true, true, true, true, false, false] rfl rfl (any_of HT_.out (by kernel_rfl)) (fun _ _ _ h => h) (Or.inl ⟨by rfl, ?_⟩) ?_ ?_
              rotate_left
              · intro w'
                go_simp
                with_reducible rfl
              rotate_left
              · simp only [Act.put, la_, lb_, lc_, i64_w, i32_w]
                rfl
              exact norm_ (by simp only [putAll, Act.put, la_, lb_, lc_]) (hCont (gb178) _ ⟨hHeld, (by (with_reducible repeat (first | refine bN_ _ ?_ | refine bd_ ?_ | refine ba_ _ ?_)); exact BK166.out), (by (with_reducible repeat (first | refine bN_ _ ?_ | refine bd_ ?_ | refine ba_ _ ?_)); exact BK167.out), (by (with_reducible repeat (first | refine bN_ _ ?_ | refine bd_ ?_ | refine ba_ _ ?_)); exact BK178.out), GW178.out, GE178.out, NB166_178.out, NB178_166.out, NB167_178.out, NB178_167.out, bel_⟩)
          · skip
            refine box_step ?hg (N := 5) ?hd (cs := #[.bool false, .int .u64 0, .int .u64 0]) (t := 33) ?hr ?_; (case hd => rfl); (case hg => rfl); (case hr => first | (go_simp; done) | (go_simp; rfl))
            intro gb178 hg w45 hbox hb
            have n0_ := bb_ (g := gb166) (o := .cells #[.bool a0_0, .int .u64 a0_1, .int .u64 a0_2] 32 (0, 0)) hb
            have n1_ := bb_ (g := gb167) (o := .cells #[.bool a1_0, .int .u64 a1_1, .int .u64 a1_2] 32 (0, 0)) hb
            have n2_ := Aside0.mk (below_step bel_ hb)
            have n3_ := Aside0.mk (hbox)
            have n4_ := Aside0.mk ((by rw [hg]; exact (below_size bel_) : w.heap.size ≤ gb178))
            have n5_ := Aside0.mk ((by rw [hg]; exact (below_size bel_) : w.heap.size ≤ gb178))
            have n6_ := nlt_ (g := gb166) (o := .cells #[.bool a0_0, .int .u64 a0_1, .int .u64 a0_2] 32 (0, 0)) hg
            have n7_ := ngt_ (g := gb166) (o := .cells #[.bool a0_0, .int .u64 a0_1, .int .u64 a0_2] 32 (0, 0)) hg
            have n8_ := nlt_ (g := gb167) (o := .cells #[.bool a1_0, .int .u64 a1_1, .int .u64 a1_2] 32 (0, 0)) hg
            have n9_ := ngt_ (g := gb167) (o := .cells #[.bool a1_0, .int .u64 a1_1, .int .u64 a1_2] 32 (0, 0)) hg
            clear BK166
            clear BK167
            clear HB
            have BK166 := n0_
            have BK167 := n1_
            have HB := n2_
            have BK178 := n3_
            have GW178 := n4_
            have GE178 := n5_
            have NB166_178 := n6_
            have NB178_166 := n7_
            have NB167_178 := n8_
            have NB178_167 := n9_
            clear n0_ n1_ n2_ n3_ n4_ n5_ n6_ n7_ n8_ n9_
            clear hb hbox hg
            refine hK.out _ _ ⟨bc_, bc_, bc_, bc_, bc_, bc_⟩ (fun hHeld => ?_)
            clear hK K
            refine norm_ (a' := ?_) ?_ ?_
            rotate_left
            · show Act.put _ (some 5) _ = _
              simp only [Act.put, la_, lb_, lc_, i64_w, i32_w]
              rfl
            refine one_ (i := 3) (N := some 13) #[true, true, true, true, false, false, false, false, true, false, false] rfl rfl (one_of HT_.out (by kernel_rfl)) (by decide) (fun K hK => ?_)
            refine goes_ Try.func20 (by kernel_rfl) rfl #[.agg #[.bool a1_0, .int .u64 a1_1, .int .u64 a1_2]] (by rfl) rfl rfl mp_ ?_
            with_reducible refine (laws_toWide.calls a1_0 a1_1 a1_2 t171 t172 t173 _ A4.out).mono ?_
            rintro e w46 ⟨rfl, hb⟩
            refine ⟨_, rfl, ?_⟩
            have n0_ := bb_ (g := gb166) (o := .cells #[.bool a0_0, .int .u64 a0_1, .int .u64 a0_2] 32 (0, 0)) hb
            have n1_ := bb_ (g := gb167) (o := .cells #[.bool a1_0, .int .u64 a1_1, .int .u64 a1_2] 32 (0, 0)) hb
            have n2_ := bb_ (g := gb178) (o := .cells #[.bool false, .int .u64 0, .int .u64 0] 33 (0, 0)) hb
            have n3_ := Aside0.mk (below_step bel_ hb)
            clear BK166
            clear BK167
            clear BK178
            clear HB
            have BK166 := n0_
            have BK167 := n1_
            have BK178 := n2_
            have HB := n3_
            clear n0_ n1_ n2_ n3_
            (try clear hb)
            (try clear hb2)
            (try clear hk)
            (try clear hi)
            refine hK.out _ _ ⟨bc_, bc_, bc_, bc_, bc_, bc_⟩ (fun hHeld => ?_)
            clear hK K
            refine norm_ (a' := ?_) ?_ ?_
            rotate_left
            · show Act.put _ (some 13) _ = _
              simp only [Act.put, la_, lb_, lc_, i64_w, i32_w]
              rfl
            refine one_ (i := 4) (N := some 14) #[true, true, true, true, true, false, false, false, true, false, false] rfl rfl (one_of HT_.out (by kernel_rfl)) (by decide) (fun K hK => ?_)
            refine goes_ Try.func47 (by kernel_rfl) rfl #[.agg #[.bool t168, .int .u64 t169, .int .u64 t170], .agg #[.bool t171, .int .u64 t172, .int .u64 t173]] (by rfl) rfl rfl mp_ ?_
            with_reducible refine (spec_AddWide.calls k t168 t169 t170 t171 t172 t173 t174 t175 t176 t177 _ A5.out).mono ?_
            rintro e w47 ⟨rfl, hb⟩
            refine ⟨_, rfl, ?_⟩
            have n0_ := bb_ (g := gb166) (o := .cells #[.bool a0_0, .int .u64 a0_1, .int .u64 a0_2] 32 (0, 0)) hb
            have n1_ := bb_ (g := gb167) (o := .cells #[.bool a1_0, .int .u64 a1_1, .int .u64 a1_2] 32 (0, 0)) hb
            have n2_ := bb_ (g := gb178) (o := .cells #[.bool false, .int .u64 0, .int .u64 0] 33 (0, 0)) hb
            have n3_ := Aside0.mk (below_step bel_ hb)
            clear BK166
            clear BK167
            clear BK178
            clear HB
            have BK166 := n0_
            have BK167 := n1_
            have BK178 := n2_
            have HB := n3_
            clear n0_ n1_ n2_ n3_
            (try clear hb)
            (try clear hb2)
            (try clear hk)
            (try clear hi)
            refine hK.out _ _ ⟨bc_, bc_, bc_, bc_, bc_, bc_⟩ (fun hHeld => ?_)
            clear hK K
            refine norm_ (a' := ?_) ?_ ?_
            rotate_left
            · show Act.put _ (some 14) _ = _
              simp only [Act.put, la_, lb_, lc_, i64_w, i32_w]
              rfl
            refine pure_ (i := 5) (N := some 9) (v := ?_) (a' := ?_) #[true, true, true, true, true, true, false, false, true, false, false] rfl rfl (any_of HT_.out (by kernel_rfl)) (fun _ _ _ h => h) (Or.inl ⟨by rfl, ?_⟩) ?_ ?_
            rotate_left
            · intro w'
              go_simp
              with_reducible rfl
            rotate_left
            · simp only [Act.put, la_, lb_, lc_, i64_w, i32_w]
              rfl
            refine pure_ (i := 6) (N := some 15) (v := ?_) (a' := ?_) #[true, true, true, true, true, true, true, false, true, false, false] rfl rfl (any_of HT_.out (by kernel_rfl)) (fun _ _ _ h => h) (Or.inl ⟨by rfl, ?_⟩) ?_ ?_
            rotate_left
            · intro w'
              go_simp
              with_reducible rfl
            rotate_left
            · simp only [Act.put, la_, lb_, lc_, i64_w, i32_w]
              rfl
            refine pure_ (i := 7) (N := some 16) (v := ?_) (a' := ?_) #[true, true, true, true, true, true, true, true, true, false, false] rfl rfl (any_of HT_.out (by kernel_rfl)) (fun _ _ _ h => h) (Or.inl ⟨by rfl, ?_⟩) ?_ ?_
            rotate_left
            · intro w'
              go_simp
              with_reducible rfl
            rotate_left
            · simp only [Act.put, la_, lb_, lc_, i64_w, i32_w]
              rfl
            exact norm_ (by simp only [putAll, Act.put, la_, lb_, lc_]) (hCont (gb178) _ ⟨hHeld, (by (with_reducible repeat (first | refine bN_ _ ?_ | refine bd_ ?_ | refine ba_ _ ?_)); exact BK166.out), (by (with_reducible repeat (first | refine bN_ _ ?_ | refine bd_ ?_ | refine ba_ _ ?_)); exact BK167.out), (by (with_reducible repeat (first | refine bN_ _ ?_ | refine bd_ ?_ | refine ba_ _ ?_)); exact BK178.out), GW178.out, GE178.out, NB166_178.out, NB178_166.out, NB167_178.out, NB178_167.out, bel_⟩)
        · skip
          refine box_step ?hg (N := 5) ?hd (cs := #[.bool false, .int .u64 0, .int .u64 0]) (t := 33) ?hr ?_; (case hd => rfl); (case hg => rfl); (case hr => first | (go_simp; done) | (go_simp; rfl))
          intro gb178 hg w44 hbox hb
          have n0_ := bb_ (g := gb166) (o := .cells #[.bool a0_0, .int .u64 a0_1, .int .u64 a0_2] 32 (0, 0)) hb
          have n1_ := bb_ (g := gb167) (o := .cells #[.bool a1_0, .int .u64 a1_1, .int .u64 a1_2] 32 (0, 0)) hb
          have n2_ := Aside0.mk (below_step bel_ hb)
          have n3_ := Aside0.mk (hbox)
          have n4_ := Aside0.mk ((by rw [hg]; exact (below_size bel_) : w.heap.size ≤ gb178))
          have n5_ := Aside0.mk ((by rw [hg]; exact (below_size bel_) : w.heap.size ≤ gb178))
          have n6_ := nlt_ (g := gb166) (o := .cells #[.bool a0_0, .int .u64 a0_1, .int .u64 a0_2] 32 (0, 0)) hg
          have n7_ := ngt_ (g := gb166) (o := .cells #[.bool a0_0, .int .u64 a0_1, .int .u64 a0_2] 32 (0, 0)) hg
          have n8_ := nlt_ (g := gb167) (o := .cells #[.bool a1_0, .int .u64 a1_1, .int .u64 a1_2] 32 (0, 0)) hg
          have n9_ := ngt_ (g := gb167) (o := .cells #[.bool a1_0, .int .u64 a1_1, .int .u64 a1_2] 32 (0, 0)) hg
          clear BK166
          clear BK167
          clear HB
          have BK166 := n0_
          have BK167 := n1_
          have HB := n2_
          have BK178 := n3_
          have GW178 := n4_
          have GE178 := n5_
          have NB166_178 := n6_
          have NB178_166 := n7_
          have NB167_178 := n8_
          have NB178_167 := n9_
          clear n0_ n1_ n2_ n3_ n4_ n5_ n6_ n7_ n8_ n9_
          clear hb hbox hg
          refine hK.out _ _ ⟨bc_, bc_, bc_, bc_, bc_, bc_⟩ (fun hHeld => ?_)
          clear hK K
          refine norm_ (a' := ?_) ?_ ?_
          rotate_left
          · show Act.put _ (some 5) _ = _
            simp only [Act.put, la_, lb_, lc_, i64_w, i32_w]
            rfl
          refine one_ (i := 1) (N := some 11) #[true, true, true, false, false, false, false, false, true, false, false] rfl rfl (one_of HT_.out (by kernel_rfl)) (by decide) (fun K hK => ?_)
          refine goes_ Try.func20 (by kernel_rfl) rfl #[.agg #[.bool a0_0, .int .u64 a0_1, .int .u64 a0_2]] (by rfl) rfl rfl mp_ ?_
          with_reducible refine (laws_toWide.calls a0_0 a0_1 a0_2 t168 t169 t170 _ A3.out).mono ?_
          rintro e w45 ⟨rfl, hb⟩
          refine ⟨_, rfl, ?_⟩
          have n0_ := bb_ (g := gb166) (o := .cells #[.bool a0_0, .int .u64 a0_1, .int .u64 a0_2] 32 (0, 0)) hb
          have n1_ := bb_ (g := gb167) (o := .cells #[.bool a1_0, .int .u64 a1_1, .int .u64 a1_2] 32 (0, 0)) hb
          have n2_ := bb_ (g := gb178) (o := .cells #[.bool false, .int .u64 0, .int .u64 0] 33 (0, 0)) hb
          have n3_ := Aside0.mk (below_step bel_ hb)
          clear BK166
          clear BK167
          clear BK178
          clear HB
          have BK166 := n0_
          have BK167 := n1_
          have BK178 := n2_
          have HB := n3_
          clear n0_ n1_ n2_ n3_
          (try clear hb)
          (try clear hb2)
          (try clear hk)
          (try clear hi)
          refine hK.out _ _ ⟨bc_, bc_, bc_, bc_, bc_, bc_⟩ (fun hHeld => ?_)
          clear hK K
          refine norm_ (a' := ?_) ?_ ?_
          rotate_left
          · show Act.put _ (some 11) _ = _
            simp only [Act.put, la_, lb_, lc_, i64_w, i32_w]
            rfl
          refine one_ (i := 3) (N := some 13) #[true, true, true, true, false, false, false, false, true, false, false] rfl rfl (one_of HT_.out (by kernel_rfl)) (by decide) (fun K hK => ?_)
          refine goes_ Try.func20 (by kernel_rfl) rfl #[.agg #[.bool a1_0, .int .u64 a1_1, .int .u64 a1_2]] (by rfl) rfl rfl mp_ ?_
          with_reducible refine (laws_toWide.calls a1_0 a1_1 a1_2 t171 t172 t173 _ A4.out).mono ?_
          rintro e w46 ⟨rfl, hb⟩
          refine ⟨_, rfl, ?_⟩
          have n0_ := bb_ (g := gb166) (o := .cells #[.bool a0_0, .int .u64 a0_1, .int .u64 a0_2] 32 (0, 0)) hb
          have n1_ := bb_ (g := gb167) (o := .cells #[.bool a1_0, .int .u64 a1_1, .int .u64 a1_2] 32 (0, 0)) hb
          have n2_ := bb_ (g := gb178) (o := .cells #[.bool false, .int .u64 0, .int .u64 0] 33 (0, 0)) hb
          have n3_ := Aside0.mk (below_step bel_ hb)
          clear BK166
          clear BK167
          clear BK178
          clear HB
          have BK166 := n0_
          have BK167 := n1_
          have BK178 := n2_
          have HB := n3_
          clear n0_ n1_ n2_ n3_
          (try clear hb)
          (try clear hb2)
          (try clear hk)
          (try clear hi)
          refine hK.out _ _ ⟨bc_, bc_, bc_, bc_, bc_, bc_⟩ (fun hHeld => ?_)
          clear hK K
          refine norm_ (a' := ?_) ?_ ?_
          rotate_left
          · show Act.put _ (some 13) _ = _
            simp only [Act.put, la_, lb_, lc_, i64_w, i32_w]
            rfl
          refine one_ (i := 4) (N := some 14) #[true, true, true, true, true, false, false, false, true, false, false] rfl rfl (one_of HT_.out (by kernel_rfl)) (by decide) (fun K hK => ?_)
          refine goes_ Try.func47 (by kernel_rfl) rfl #[.agg #[.bool t168, .int .u64 t169, .int .u64 t170], .agg #[.bool t171, .int .u64 t172, .int .u64 t173]] (by rfl) rfl rfl mp_ ?_
          with_reducible refine (spec_AddWide.calls k t168 t169 t170 t171 t172 t173 t174 t175 t176 t177 _ A5.out).mono ?_
          rintro e w47 ⟨rfl, hb⟩
          refine ⟨_, rfl, ?_⟩
          have n0_ := bb_ (g := gb166) (o := .cells #[.bool a0_0, .int .u64 a0_1, .int .u64 a0_2] 32 (0, 0)) hb
          have n1_ := bb_ (g := gb167) (o := .cells #[.bool a1_0, .int .u64 a1_1, .int .u64 a1_2] 32 (0, 0)) hb
          have n2_ := bb_ (g := gb178) (o := .cells #[.bool false, .int .u64 0, .int .u64 0] 33 (0, 0)) hb
          have n3_ := Aside0.mk (below_step bel_ hb)
          clear BK166
          clear BK167
          clear BK178
          clear HB
          have BK166 := n0_
          have BK167 := n1_
          have BK178 := n2_
          have HB := n3_
          clear n0_ n1_ n2_ n3_
          (try clear hb)
          (try clear hb2)
          (try clear hk)
          (try clear hi)
          refine hK.out _ _ ⟨bc_, bc_, bc_, bc_, bc_, bc_⟩ (fun hHeld => ?_)
          clear hK K
          refine norm_ (a' := ?_) ?_ ?_
          rotate_left
          · show Act.put _ (some 14) _ = _
            simp only [Act.put, la_, lb_, lc_, i64_w, i32_w]
            rfl
          refine pure_ (i := 5) (N := some 9) (v := ?_) (a' := ?_) #[true, true, true, true, true, true, false, false, true, false, false] rfl rfl (any_of HT_.out (by kernel_rfl)) (fun _ _ _ h => h) (Or.inl ⟨by rfl, ?_⟩) ?_ ?_
          rotate_left
          · intro w'
            go_simp
            with_reducible rfl
          rotate_left
          · simp only [Act.put, la_, lb_, lc_, i64_w, i32_w]
            rfl
          refine pure_ (i := 6) (N := some 15) (v := ?_) (a' := ?_) #[true, true, true, true, true, true, true, false, true, false, false] rfl rfl (any_of HT_.out (by kernel_rfl)) (fun _ _ _ h => h) (Or.inl ⟨by rfl, ?_⟩) ?_ ?_
          rotate_left
          · intro w'
            go_simp
            with_reducible rfl
          rotate_left
          · simp only [Act.put, la_, lb_, lc_, i64_w, i32_w]
            rfl
          refine pure_ (i := 7) (N := some 16) (v := ?_) (a' := ?_) #[true, true, true, true, true, true, true, true, true, false, false] rfl rfl (any_of HT_.out (by kernel_rfl)) (fun _ _ _ h => h) (Or.inl ⟨by rfl, ?_⟩) ?_ ?_
          rotate_left
          · intro w'
            go_simp
            with_reducible rfl
          rotate_left
          · simp only [Act.put, la_, lb_, lc_, i64_w, i32_w]
            rfl
          exact norm_ (by simp only [putAll, Act.put, la_, lb_, lc_]) (hCont (gb178) _ ⟨hHeld, (by (with_reducible repeat (first | refine bN_ _ ?_ | refine bd_ ?_ | refine ba_ _ ?_)); exact BK166.out), (by (with_reducible repeat (first | refine bN_ _ ?_ | refine bd_ ?_ | refine ba_ _ ?_)); exact BK167.out), (by (with_reducible repeat (first | refine bN_ _ ?_ | refine bd_ ?_ | refine ba_ _ ?_)); exact BK178.out), GW178.out, GE178.out, NB166_178.out, NB178_166.out, NB167_178.out, NB178_167.out, bel_⟩)
      rintro gb178 w48 ⟨hS_, h0_, h1_, h2_, h3_, h4_, h5_, h6_, h7_, h8_, h9_⟩
      have n0_ : Aside0 (w48.heap[gb166]? = some (.cells #[.bool a0_0, .int .u64 a0_1, .int .u64 a0_2] 32 (0, 0))) := ⟨h0_⟩
      have n1_ : Aside0 (w48.heap[gb167]? = some (.cells #[.bool a1_0, .int .u64 a1_1, .int .u64 a1_2] 32 (0, 0))) := ⟨h1_⟩
      have n2_ : Aside0 (w48.heap[gb178]? = some (.cells #[.bool false, .int .u64 0, .int .u64 0] 33 (0, 0))) := ⟨h2_⟩
      have n3_ : Aside0 (w.heap.size ≤ gb178) := ⟨h3_⟩
      have n4_ : Aside0 (w.heap.size ≤ gb178) := ⟨h4_⟩
      have n5_ : Aside0 (gb166 ≠ gb178) := ⟨h5_⟩
      have n6_ : Aside0 (gb178 ≠ gb166) := ⟨h6_⟩
      have n7_ : Aside0 (gb167 ≠ gb178) := ⟨h7_⟩
      have n8_ : Aside0 (gb178 ≠ gb167) := ⟨h8_⟩
      have n9_ : Aside0 (Below w.heap.size w w48) := ⟨h9_⟩
      clear BK166
      clear BK167
      clear HB
      clear h0_ h1_ h2_ h3_ h4_ h5_ h6_ h7_ h8_ h9_
      have BK166 := n0_
      have BK167 := n1_
      have BK178 := n2_
      have GW178 := n3_
      have GE178 := n4_
      have NB166_178 := n5_
      have NB178_166 := n6_
      have NB167_178 := n7_
      have NB178_167 := n8_
      have HB := n9_
      clear n0_ n1_ n2_ n3_ n4_ n5_ n6_ n7_ n8_ n9_
      have hHeld : w48.cell? ⟨gb166, 0, none⟩ = some (.bool a0_0) ∧ w48.cell? ⟨gb166, 1, none⟩ = some (.int .u64 a0_1) ∧ w48.cell? ⟨gb166, 2, none⟩ = some (.int .u64 a0_2) ∧ w48.cell? ⟨gb167, 0, none⟩ = some (.bool a1_0) ∧ w48.cell? ⟨gb167, 1, none⟩ = some (.int .u64 a1_1) ∧ w48.cell? ⟨gb167, 2, none⟩ = some (.int .u64 a1_2) := hS_
      refine norm_ (a' := ?_) ?_ ?_
      rotate_left
      · simp only [putAll, Act.put, la_, lb_, lc_]
        rfl
      refine one_ (i := 9) (N := none) #[true, true, true, true, true, true, true, true, true, true, false] rfl rfl (one_of HT_.out (by kernel_rfl)) (by decide) (fun K hK => ?_)
      have hs49 : w48.cell? ⟨gb178, 0, none⟩ = some (.bool false) := (blk_cell BK178.out 0).trans rfl
      have hfs49 := blk_frozen BK178.out 0
      have hns49_0 := NB166_178.out
      have hns49_1 := NB167_178.out
      have hms49_0 := NB178_166.out
      have hms49_1 := NB178_167.out
      have hs50 : w48.cell? ⟨gb178, 1, none⟩ = some (.int .u64 0) := (blk_cell BK178.out 1).trans rfl
      have hfs50 := blk_frozen BK178.out 1
      have hns50_0 := NB166_178.out
      have hns50_1 := NB167_178.out
      have hms50_0 := NB178_166.out
      have hms50_1 := NB178_167.out
      have hs51 : w48.cell? ⟨gb178, 2, none⟩ = some (.int .u64 0) := (blk_cell BK178.out 2).trans rfl
      have hfs51 := blk_frozen BK178.out 2
      have hns51_0 := NB166_178.out
      have hns51_1 := NB167_178.out
      have hms51_0 := NB178_166.out
      have hms51_1 := NB178_167.out
      refine skip_ (w1 := ?_) (by rfl) rfl ?_ ?_
      rotate_left
      · go_simp
        rfl
      refine hK.out _ _ ⟨((cell_far (p := ⟨gb178, _, none⟩) NB166_178.out _).trans (((cell_far (p := ⟨gb178, _, none⟩) NB166_178.out _).trans (((cell_far (p := ⟨gb178, _, none⟩) NB166_178.out _).trans (hHeld.1)))))), ((cell_far (p := ⟨gb178, _, none⟩) NB166_178.out _).trans (((cell_far (p := ⟨gb178, _, none⟩) NB166_178.out _).trans (((cell_far (p := ⟨gb178, _, none⟩) NB166_178.out _).trans (hHeld.2.1)))))), ((cell_far (p := ⟨gb178, _, none⟩) NB166_178.out _).trans (((cell_far (p := ⟨gb178, _, none⟩) NB166_178.out _).trans (((cell_far (p := ⟨gb178, _, none⟩) NB166_178.out _).trans (hHeld.2.2.1)))))), ((cell_far (p := ⟨gb178, _, none⟩) NB167_178.out _).trans (((cell_far (p := ⟨gb178, _, none⟩) NB167_178.out _).trans (((cell_far (p := ⟨gb178, _, none⟩) NB167_178.out _).trans (hHeld.2.2.2.1)))))), ((cell_far (p := ⟨gb178, _, none⟩) NB167_178.out _).trans (((cell_far (p := ⟨gb178, _, none⟩) NB167_178.out _).trans (((cell_far (p := ⟨gb178, _, none⟩) NB167_178.out _).trans (hHeld.2.2.2.2.1)))))), ((cell_far (p := ⟨gb178, _, none⟩) NB167_178.out _).trans (((cell_far (p := ⟨gb178, _, none⟩) NB167_178.out _).trans (((cell_far (p := ⟨gb178, _, none⟩) NB167_178.out _).trans (hHeld.2.2.2.2.2))))))⟩ (fun hHeld => ?_)
      clear hK K
      refine pure_ (i := 10) (N := some 6) (v := ?_) (a' := ?_) #[true, true, true, true, true, true, true, true, true, true, true] rfl rfl (any_of HT_.out (by kernel_rfl)) (fun _ _ _ h => h) (Or.inl ⟨by rfl, ?_⟩) ?_ ?_
      rotate_left
      · intro w'
        go_simp
        with_reducible rfl
      rotate_left
      · simp only [Act.put, la_, lb_, lc_, i64_w, i32_w]
        rfl
      refine done_ (done_of HT_.out (by kernel_rfl)) ?_
      try go_wp2
      have n0_ : Aside0 ((((w48.setCell ⟨gb178, 0, none⟩ (.bool t174)).setCell ⟨gb178, 1, none⟩ (.int .u64 t175)).setCell ⟨gb178, 2, none⟩ (.int .u64 t176)).heap[gb166]? = some (.cells #[.bool a0_0, .int .u64 a0_1, .int .u64 a0_2] 32 (0, 0))) := ⟨by (with_reducible repeat (first | refine bN_ _ ?_ | refine bd_ ?_ | refine ba_ _ ?_)); refine blk_far ?_ NB166_178.out _; (with_reducible repeat (first | refine bN_ _ ?_ | refine bd_ ?_ | refine ba_ _ ?_)); refine blk_far ?_ NB166_178.out _; (with_reducible repeat (first | refine bN_ _ ?_ | refine bd_ ?_ | refine ba_ _ ?_)); refine blk_far ?_ NB166_178.out _; (with_reducible repeat (first | refine bN_ _ ?_ | refine bd_ ?_ | refine ba_ _ ?_)); exact BK166.out⟩
      have n1_ : Aside0 ((((w48.setCell ⟨gb178, 0, none⟩ (.bool t174)).setCell ⟨gb178, 1, none⟩ (.int .u64 t175)).setCell ⟨gb178, 2, none⟩ (.int .u64 t176)).heap[gb167]? = some (.cells #[.bool a1_0, .int .u64 a1_1, .int .u64 a1_2] 32 (0, 0))) := ⟨by (with_reducible repeat (first | refine bN_ _ ?_ | refine bd_ ?_ | refine ba_ _ ?_)); refine blk_far ?_ NB167_178.out _; (with_reducible repeat (first | refine bN_ _ ?_ | refine bd_ ?_ | refine ba_ _ ?_)); refine blk_far ?_ NB167_178.out _; (with_reducible repeat (first | refine bN_ _ ?_ | refine bd_ ?_ | refine ba_ _ ?_)); refine blk_far ?_ NB167_178.out _; (with_reducible repeat (first | refine bN_ _ ?_ | refine bd_ ?_ | refine ba_ _ ?_)); exact BK167.out⟩
      have n2_ : Aside0 ((((w48.setCell ⟨gb178, 0, none⟩ (.bool t174)).setCell ⟨gb178, 1, none⟩ (.int .u64 t175)).setCell ⟨gb178, 2, none⟩ (.int .u64 t176)).heap[gb178]? = some (.cells #[.bool t174, .int .u64 t175, .int .u64 t176] 33 (0, 0))) := ⟨by (with_reducible repeat (first | refine bN_ _ ?_ | refine bd_ ?_ | refine ba_ _ ?_)); refine blk_put (cs := #[.bool t174, .int .u64 t175, .int .u64 0]) ?_ 2 _ rfl; (with_reducible repeat (first | refine bN_ _ ?_ | refine bd_ ?_ | refine ba_ _ ?_)); refine blk_put (cs := #[.bool t174, .int .u64 0, .int .u64 0]) ?_ 1 _ rfl; (with_reducible repeat (first | refine bN_ _ ?_ | refine bd_ ?_ | refine ba_ _ ?_)); refine blk_put (cs := #[.bool false, .int .u64 0, .int .u64 0]) ?_ 0 _ rfl; (with_reducible repeat (first | refine bN_ _ ?_ | refine bd_ ?_ | refine ba_ _ ?_)); exact BK178.out⟩
      have n3_ : Aside0 (Below w.heap.size w (((w48.setCell ⟨gb178, 0, none⟩ (.bool t174)).setCell ⟨gb178, 1, none⟩ (.int .u64 t175)).setCell ⟨gb178, 2, none⟩ (.int .u64 t176))) := ⟨by repeat (first | (with_reducible first | exact HB.out | apply below_alloc | apply pw_below_drewN | apply below_drew1 | refine below_set ?_ GE166.out | refine below_set ?_ GE167.out | refine below_set ?_ GE178.out) | exact HB.out)⟩
      (try clear BK166)
      (try clear BK167)
      (try clear BK178)
      (try clear HB)
      generalize (((w48.setCell ⟨gb178, 0, none⟩ (.bool t174)).setCell ⟨gb178, 1, none⟩ (.int .u64 t175)).setCell ⟨gb178, 2, none⟩ (.int .u64 t176)) = w52 at n0_ n1_ n2_ n3_ ⊢
      have BK166 := n0_
      have BK167 := n1_
      have BK178 := n2_
      have HB := n3_
      clear n0_ n1_ n2_ n3_
      have n0_ := Aside0.mk (blk_drew BK166.out)
      have n1_ := Aside0.mk (blk_drew BK167.out)
      have n2_ := Aside0.mk (blk_drew BK178.out)
      have n3_ := Aside0.mk (below_drew1 HB.out)
      clear BK166
      clear BK167
      clear BK178
      clear HB
      have BK166 := n0_
      have BK167 := n1_
      have BK178 := n2_
      have HB := n3_
      clear n0_ n1_ n2_ n3_
      refine start_ (n := 11) (S := fun w' => w'.cell? ⟨gb166, 0, none⟩ = some (.bool a0_0) ∧ w'.cell? ⟨gb166, 1, none⟩ = some (.int .u64 a0_1) ∧ w'.cell? ⟨gb166, 2, none⟩ = some (.int .u64 a0_2) ∧ w'.cell? ⟨gb167, 0, none⟩ = some (.bool a1_0) ∧ w'.cell? ⟨gb167, 1, none⟩ = some (.int .u64 a1_1) ∧ w'.cell? ⟨gb167, 2, none⟩ = some (.int .u64 a1_2)) (ds := []) #[false, false, false, false, false, false, false, false, false, false, false] (by kernel_rfl) rfl rfl ⟨bc_, bc_, bc_, bc_, bc_, bc_⟩ (fun hHeld => ?_); refine with_tabW laws_FnExactAddWide.tab2 laws_FnExactAddWide.bits2 (fun HT_ HW_ => ?_)
      generalize w52.drew = w53 at BK166 BK167 BK178 HB hHeld ⊢
      refine take_ (i := 0) (N := some 18) (v := ?_) (a' := ?_) #[true, false, false, false, false, false, false, false, false, false, false] rfl rfl (take_ofW HT_.out HW_.out (by kernel_rfl)) (fun _ _ _ h => h) (Or.inl ⟨by rfl, ?_⟩) hHeld ?_ ?_
      rotate_left
      · rintro w' ⟨s0, s1, s2, s3, s4, s5⟩
        go_simp
        with_reducible rfl
      rotate_left
      · simp only [Act.put, la_, lb_, lc_, i64_w, i32_w]
        rfl
      refine take_ (i := 2) (N := some 20) (v := ?_) (a' := ?_) #[true, false, true, false, false, false, false, false, false, false, false] rfl rfl (take_ofW HT_.out HW_.out (by kernel_rfl)) (fun _ _ _ h => h) (Or.inl ⟨by rfl, ?_⟩) hHeld ?_ ?_
      rotate_left
      · rintro w' ⟨s0, s1, s2, s3, s4, s5⟩
        go_simp
        with_reducible rfl
      rotate_left
      · simp only [Act.put, la_, lb_, lc_, i64_w, i32_w]
        rfl
      refine join_ (σ := Nat) 2 #[true, true, true, true, true, true, true, true, true, false, false] (fun s_ => [(19, .agg #[.bool t179, .int .u64 t180, .int .u64 t181]), (21, .agg #[.bool t182, .int .u64 t183, .int .u64 t184]), (22, .tuple #[.agg #[.bool t185, .int .u64 t186, .int .u64 t187], .bool t188]), (7, .pointer (some ⟨s_, 0, none⟩)), (17, .tuple #[.agg #[.bool t185, .int .u64 t186, .int .u64 t187], .bool t188]), (23, .agg #[.bool t185, .int .u64 t186, .int .u64 t187]), (24, .bool t188)]) (fun s_ w' => (w'.cell? ⟨gb166, 0, none⟩ = some (.bool a0_0) ∧ w'.cell? ⟨gb166, 1, none⟩ = some (.int .u64 a0_1) ∧ w'.cell? ⟨gb166, 2, none⟩ = some (.int .u64 a0_2) ∧ w'.cell? ⟨gb167, 0, none⟩ = some (.bool a1_0) ∧ w'.cell? ⟨gb167, 1, none⟩ = some (.int .u64 a1_1) ∧ w'.cell? ⟨gb167, 2, none⟩ = some (.int .u64 a1_2)) ∧ (w'.heap[gb166]? = some (.cells #[.bool a0_0, .int .u64 a0_1, .int .u64 a0_2] 32 (0, 0))) ∧ (w'.heap[gb167]? = some (.cells #[.bool a1_0, .int .u64 a1_1, .int .u64 a1_2] 32 (0, 0))) ∧ (w'.heap[gb178]? = some (.cells #[.bool t174, .int .u64 t175, .int .u64 t176] 33 (0, 0))) ∧ (w'.heap[s_]? = some (.cells #[.bool false, .int .u64 0, .int .u64 0] 33 (0, 0))) ∧ (w.heap.size ≤ s_) ∧ (w.heap.size ≤ s_) ∧ (gb166 ≠ s_) ∧ (s_ ≠ gb166) ∧ (gb167 ≠ s_) ∧ (s_ ≠ gb167) ∧ (gb178 ≠ s_) ∧ (s_ ≠ gb178) ∧ (Below w.heap.size w w')) ?_ ?_
      rotate_left
      · intro hCont
        refine two_ (i := 1) (j := 8) (Ni := some 19) (Nj := some 7) #[true, true, true, false, false, false, false, false, false, false, false] #[true, false, true, false, false, false, false, false, true, false, false] rfl rfl rfl rfl (two_of HT_.out (by kernel_rfl)) (by decide) (by decide) (fun K hK => ?_) (fun K hK => ?_)
        · skip
          refine goes_ Try.func20 (by kernel_rfl) rfl #[.agg #[.bool a0_0, .int .u64 a0_1, .int .u64 a0_2]] (by rfl) rfl rfl mp_ ?_
          with_reducible refine (laws_toWide.calls a0_0 a0_1 a0_2 t179 t180 t181 _ A6.out).mono ?_
          rintro e w54 ⟨rfl, hb⟩
          refine ⟨_, rfl, ?_⟩
          have n0_ := bb_ (g := gb166) (o := .cells #[.bool a0_0, .int .u64 a0_1, .int .u64 a0_2] 32 (0, 0)) hb
          have n1_ := bb_ (g := gb167) (o := .cells #[.bool a1_0, .int .u64 a1_1, .int .u64 a1_2] 32 (0, 0)) hb
          have n2_ := bb_ (g := gb178) (o := .cells #[.bool t174, .int .u64 t175, .int .u64 t176] 33 (0, 0)) hb
          have n3_ := Aside0.mk (below_step bel_ hb)
          clear BK166
          clear BK167
          clear BK178
          clear HB
          have BK166 := n0_
          have BK167 := n1_
          have BK178 := n2_
          have HB := n3_
          clear n0_ n1_ n2_ n3_
          (try clear hb)
          (try clear hb2)
          (try clear hk)
          (try clear hi)
          refine hK.out _ _ ⟨bc_, bc_, bc_, bc_, bc_, bc_⟩ (fun hHeld => ?_)
          clear hK K
          refine norm_ (a' := ?_) ?_ ?_
          rotate_left
          · show Act.put _ (some 19) _ = _
            simp only [Act.put, la_, lb_, lc_, i64_w, i32_w]
            rfl
          refine two_ (i := 3) (j := 8) (Ni := some 21) (Nj := some 7) #[true, true, true, true, false, false, false, false, false, false, false] #[true, true, true, false, false, false, false, false, true, false, false] rfl rfl rfl rfl (two_of HT_.out (by kernel_rfl)) (by decide) (by decide) (fun K hK => ?_) (fun K hK => ?_)
          · skip
            refine goes_ Try.func20 (by kernel_rfl) rfl #[.agg #[.bool a1_0, .int .u64 a1_1, .int .u64 a1_2]] (by rfl) rfl rfl mp_ ?_
            with_reducible refine (laws_toWide.calls a1_0 a1_1 a1_2 t182 t183 t184 _ A7.out).mono ?_
            rintro e w55 ⟨rfl, hb⟩
            refine ⟨_, rfl, ?_⟩
            have n0_ := bb_ (g := gb166) (o := .cells #[.bool a0_0, .int .u64 a0_1, .int .u64 a0_2] 32 (0, 0)) hb
            have n1_ := bb_ (g := gb167) (o := .cells #[.bool a1_0, .int .u64 a1_1, .int .u64 a1_2] 32 (0, 0)) hb
            have n2_ := bb_ (g := gb178) (o := .cells #[.bool t174, .int .u64 t175, .int .u64 t176] 33 (0, 0)) hb
            have n3_ := Aside0.mk (below_step bel_ hb)
            clear BK166
            clear BK167
            clear BK178
            clear HB
            have BK166 := n0_
            have BK167 := n1_
            have BK178 := n2_
            have HB := n3_
            clear n0_ n1_ n2_ n3_
            (try clear hb)
            (try clear hb2)
            (try clear hk)
            (try clear hi)
            refine hK.out _ _ ⟨bc_, bc_, bc_, bc_, bc_, bc_⟩ (fun hHeld => ?_)
            clear hK K
            refine norm_ (a' := ?_) ?_ ?_
            rotate_left
            · show Act.put _ (some 21) _ = _
              simp only [Act.put, la_, lb_, lc_, i64_w, i32_w]
              rfl
            refine two_ (i := 4) (j := 8) (Ni := some 22) (Nj := some 7) #[true, true, true, true, true, false, false, false, false, false, false] #[true, true, true, true, false, false, false, false, true, false, false] rfl rfl rfl rfl (two_of HT_.out (by kernel_rfl)) (by decide) (by decide) (fun K hK => ?_) (fun K hK => ?_)
            · skip
              refine goes_ Try.func48 (by kernel_rfl) rfl #[.agg #[.bool t179, .int .u64 t180, .int .u64 t181], .agg #[.bool t182, .int .u64 t183, .int .u64 t184]] (by rfl) rfl rfl mp_ ?_
              with_reducible refine (impl_AddWide.calls k t179 t180 t181 t182 t183 t184 t185 t186 t187 t188 _ A8.out).mono ?_
              rintro e w56 ⟨rfl, hb⟩
              refine ⟨_, rfl, ?_⟩
              have n0_ := bb_ (g := gb166) (o := .cells #[.bool a0_0, .int .u64 a0_1, .int .u64 a0_2] 32 (0, 0)) hb
              have n1_ := bb_ (g := gb167) (o := .cells #[.bool a1_0, .int .u64 a1_1, .int .u64 a1_2] 32 (0, 0)) hb
              have n2_ := bb_ (g := gb178) (o := .cells #[.bool t174, .int .u64 t175, .int .u64 t176] 33 (0, 0)) hb
              have n3_ := Aside0.mk (below_step bel_ hb)
              clear BK166
              clear BK167
              clear BK178
              clear HB
              have BK166 := n0_
              have BK167 := n1_
              have BK178 := n2_
              have HB := n3_
              clear n0_ n1_ n2_ n3_
              (try clear hb)
              (try clear hb2)
              (try clear hk)
              (try clear hi)
              refine hK.out _ _ ⟨bc_, bc_, bc_, bc_, bc_, bc_⟩ (fun hHeld => ?_)
              clear hK K
              refine norm_ (a' := ?_) ?_ ?_
              rotate_left
              · show Act.put _ (some 22) _ = _
                simp only [Act.put, la_, lb_, lc_, i64_w, i32_w]
                rfl
              refine pure_ (i := 5) (N := some 17) (v := ?_) (a' := ?_) #[true, true, true, true, true, true, false, false, false, false, false] rfl rfl (any_of HT_.out (by kernel_rfl)) (fun _ _ _ h => h) (Or.inl ⟨by rfl, ?_⟩) ?_ ?_
              rotate_left
              · intro w'
                go_simp
                with_reducible rfl
              rotate_left
              · simp only [Act.put, la_, lb_, lc_, i64_w, i32_w]
                rfl
              refine pure_ (i := 6) (N := some 23) (v := ?_) (a' := ?_) #[true, true, true, true, true, true, true, false, false, false, false] rfl rfl (any_of HT_.out (by kernel_rfl)) (fun _ _ _ h => h) (Or.inl ⟨by rfl, ?_⟩) ?_ ?_
              rotate_left
              · intro w'
                go_simp
                with_reducible rfl
              rotate_left
              · simp only [Act.put, la_, lb_, lc_, i64_w, i32_w]
                rfl
              refine pure_ (i := 7) (N := some 24) (v := ?_) (a' := ?_) #[true, true, true, true, true, true, true, true, false, false, false] rfl rfl (any_of HT_.out (by kernel_rfl)) (fun _ _ _ h => h) (Or.inl ⟨by rfl, ?_⟩) ?_ ?_
              rotate_left
              · intro w'
                go_simp
                with_reducible rfl
              rotate_left
              · simp only [Act.put, la_, lb_, lc_, i64_w, i32_w]
                rfl
              refine one_ (i := 8) (N := some 7) #[true, true, true, true, true, true, true, true, true, false, false] rfl rfl (one_of HT_.out (by kernel_rfl)) (by decide) (fun K hK => ?_)
              refine box_step ?hg (N := 7) ?hd (cs := #[.bool false, .int .u64 0, .int .u64 0]) (t := 33) ?hr ?_; (case hd => rfl); (case hg => rfl); (case hr => first | (go_simp; done) | (go_simp; rfl))
              intro gb189 hg w57 hbox hb
              have n0_ := bb_ (g := gb166) (o := .cells #[.bool a0_0, .int .u64 a0_1, .int .u64 a0_2] 32 (0, 0)) hb
              have n1_ := bb_ (g := gb167) (o := .cells #[.bool a1_0, .int .u64 a1_1, .int .u64 a1_2] 32 (0, 0)) hb
              have n2_ := bb_ (g := gb178) (o := .cells #[.bool t174, .int .u64 t175, .int .u64 t176] 33 (0, 0)) hb
              have n3_ := Aside0.mk (below_step bel_ hb)
              have n4_ := Aside0.mk (hbox)
              have n5_ := Aside0.mk ((by rw [hg]; exact (below_size bel_) : w.heap.size ≤ gb189))
              have n6_ := Aside0.mk ((by rw [hg]; exact (below_size bel_) : w.heap.size ≤ gb189))
              have n7_ := nlt_ (g := gb166) (o := .cells #[.bool a0_0, .int .u64 a0_1, .int .u64 a0_2] 32 (0, 0)) hg
              have n8_ := ngt_ (g := gb166) (o := .cells #[.bool a0_0, .int .u64 a0_1, .int .u64 a0_2] 32 (0, 0)) hg
              have n9_ := nlt_ (g := gb167) (o := .cells #[.bool a1_0, .int .u64 a1_1, .int .u64 a1_2] 32 (0, 0)) hg
              have n10_ := ngt_ (g := gb167) (o := .cells #[.bool a1_0, .int .u64 a1_1, .int .u64 a1_2] 32 (0, 0)) hg
              have n11_ := nlt_ (g := gb178) (o := .cells #[.bool t174, .int .u64 t175, .int .u64 t176] 33 (0, 0)) hg
              have n12_ := ngt_ (g := gb178) (o := .cells #[.bool t174, .int .u64 t175, .int .u64 t176] 33 (0, 0)) hg
              clear BK166
              clear BK167
              clear BK178
              clear HB
              have BK166 := n0_
              have BK167 := n1_
              have BK178 := n2_
              have HB := n3_
              have BK189 := n4_
              have GW189 := n5_
              have GE189 := n6_
              have NB166_189 := n7_
              have NB189_166 := n8_
              have NB167_189 := n9_
              have NB189_167 := n10_
              have NB178_189 := n11_
              have NB189_178 := n12_
              clear n0_ n1_ n2_ n3_ n4_ n5_ n6_ n7_ n8_ n9_ n10_ n11_ n12_
              clear hb hbox hg
              refine hK.out _ _ ⟨bc_, bc_, bc_, bc_, bc_, bc_⟩ (fun hHeld => ?_)
              clear hK K
              refine norm_ (a' := ?_) ?_ ?_
              rotate_left
              · show Act.put _ (some 7) _ = _
                simp only [Act.put, la_, lb_, lc_, i64_w, i32_w]
                rfl
              exact norm_ (by simp only [putAll, Act.put, la_, lb_, lc_]) (hCont (gb189) _ ⟨hHeld, (by (with_reducible repeat (first | refine bN_ _ ?_ | refine bd_ ?_ | refine ba_ _ ?_)); exact BK166.out), (by (with_reducible repeat (first | refine bN_ _ ?_ | refine bd_ ?_ | refine ba_ _ ?_)); exact BK167.out), (by (with_reducible repeat (first | refine bN_ _ ?_ | refine bd_ ?_ | refine ba_ _ ?_)); exact BK178.out), (by (with_reducible repeat (first | refine bN_ _ ?_ | refine bd_ ?_ | refine ba_ _ ?_)); exact BK189.out), GW189.out, GE189.out, NB166_189.out, NB189_166.out, NB167_189.out, NB189_167.out, NB178_189.out, NB189_178.out, bel_⟩)
            · skip
              refine box_step ?hg (N := 7) ?hd (cs := #[.bool false, .int .u64 0, .int .u64 0]) (t := 33) ?hr ?_; (case hd => rfl); (case hg => rfl); (case hr => first | (go_simp; done) | (go_simp; rfl))
              intro gb189 hg w56 hbox hb
              have n0_ := bb_ (g := gb166) (o := .cells #[.bool a0_0, .int .u64 a0_1, .int .u64 a0_2] 32 (0, 0)) hb
              have n1_ := bb_ (g := gb167) (o := .cells #[.bool a1_0, .int .u64 a1_1, .int .u64 a1_2] 32 (0, 0)) hb
              have n2_ := bb_ (g := gb178) (o := .cells #[.bool t174, .int .u64 t175, .int .u64 t176] 33 (0, 0)) hb
              have n3_ := Aside0.mk (below_step bel_ hb)
              have n4_ := Aside0.mk (hbox)
              have n5_ := Aside0.mk ((by rw [hg]; exact (below_size bel_) : w.heap.size ≤ gb189))
              have n6_ := Aside0.mk ((by rw [hg]; exact (below_size bel_) : w.heap.size ≤ gb189))
              have n7_ := nlt_ (g := gb166) (o := .cells #[.bool a0_0, .int .u64 a0_1, .int .u64 a0_2] 32 (0, 0)) hg
              have n8_ := ngt_ (g := gb166) (o := .cells #[.bool a0_0, .int .u64 a0_1, .int .u64 a0_2] 32 (0, 0)) hg
              have n9_ := nlt_ (g := gb167) (o := .cells #[.bool a1_0, .int .u64 a1_1, .int .u64 a1_2] 32 (0, 0)) hg
              have n10_ := ngt_ (g := gb167) (o := .cells #[.bool a1_0, .int .u64 a1_1, .int .u64 a1_2] 32 (0, 0)) hg
              have n11_ := nlt_ (g := gb178) (o := .cells #[.bool t174, .int .u64 t175, .int .u64 t176] 33 (0, 0)) hg
              have n12_ := ngt_ (g := gb178) (o := .cells #[.bool t174, .int .u64 t175, .int .u64 t176] 33 (0, 0)) hg
              clear BK166
              clear BK167
              clear BK178
              clear HB
              have BK166 := n0_
              have BK167 := n1_
              have BK178 := n2_
              have HB := n3_
              have BK189 := n4_
              have GW189 := n5_
              have GE189 := n6_
              have NB166_189 := n7_
              have NB189_166 := n8_
              have NB167_189 := n9_
              have NB189_167 := n10_
              have NB178_189 := n11_
              have NB189_178 := n12_
              clear n0_ n1_ n2_ n3_ n4_ n5_ n6_ n7_ n8_ n9_ n10_ n11_ n12_
              clear hb hbox hg
              refine hK.out _ _ ⟨bc_, bc_, bc_, bc_, bc_, bc_⟩ (fun hHeld => ?_)
              clear hK K
              refine norm_ (a' := ?_) ?_ ?_
              rotate_left
              · show Act.put _ (some 7) _ = _
                simp only [Act.put, la_, lb_, lc_, i64_w, i32_w]
                rfl
              refine one_ (i := 4) (N := some 22) #[true, true, true, true, true, false, false, false, true, false, false] rfl rfl (one_of HT_.out (by kernel_rfl)) (by decide) (fun K hK => ?_)
              refine goes_ Try.func48 (by kernel_rfl) rfl #[.agg #[.bool t179, .int .u64 t180, .int .u64 t181], .agg #[.bool t182, .int .u64 t183, .int .u64 t184]] (by rfl) rfl rfl mp_ ?_
              with_reducible refine (impl_AddWide.calls k t179 t180 t181 t182 t183 t184 t185 t186 t187 t188 _ A8.out).mono ?_
              rintro e w57 ⟨rfl, hb⟩
              refine ⟨_, rfl, ?_⟩
              have n0_ := bb_ (g := gb166) (o := .cells #[.bool a0_0, .int .u64 a0_1, .int .u64 a0_2] 32 (0, 0)) hb
              have n1_ := bb_ (g := gb167) (o := .cells #[.bool a1_0, .int .u64 a1_1, .int .u64 a1_2] 32 (0, 0)) hb
              have n2_ := bb_ (g := gb178) (o := .cells #[.bool t174, .int .u64 t175, .int .u64 t176] 33 (0, 0)) hb
              have n3_ := bb_ (g := gb189) (o := .cells #[.bool false, .int .u64 0, .int .u64 0] 33 (0, 0)) hb
              have n4_ := Aside0.mk (below_step bel_ hb)
              clear BK166
              clear BK167
              clear BK178
              clear BK189
              clear HB
              have BK166 := n0_
              have BK167 := n1_
              have BK178 := n2_
              have BK189 := n3_
              have HB := n4_
              clear n0_ n1_ n2_ n3_ n4_
              (try clear hb)
              (try clear hb2)
              (try clear hk)
              (try clear hi)
              refine hK.out _ _ ⟨bc_, bc_, bc_, bc_, bc_, bc_⟩ (fun hHeld => ?_)
              clear hK K
              refine norm_ (a' := ?_) ?_ ?_
              rotate_left
              · show Act.put _ (some 22) _ = _
                simp only [Act.put, la_, lb_, lc_, i64_w, i32_w]
                rfl
              refine pure_ (i := 5) (N := some 17) (v := ?_) (a' := ?_) #[true, true, true, true, true, true, false, false, true, false, false] rfl rfl (any_of HT_.out (by kernel_rfl)) (fun _ _ _ h => h) (Or.inl ⟨by rfl, ?_⟩) ?_ ?_
              rotate_left
              · intro w'
                go_simp
                with_reducible rfl
              rotate_left
              · simp only [Act.put, la_, lb_, lc_, i64_w, i32_w]
                rfl
              refine pure_ (i := 6) (N := some 23) (v := ?_) (a' := ?_) #[true, true, true, true, true, true, true, false, true, false, false] rfl rfl (any_of HT_.out (by kernel_rfl)) (fun _ _ _ h => h) (Or.inl ⟨by rfl, ?_⟩) ?_ ?_
              rotate_left
              · intro w'
                go_simp
                with_reducible rfl
              rotate_left
              · simp only [Act.put, la_, lb_, lc_, i64_w, i32_w]
                rfl
              refine pure_ (i := 7) (N := some 24) (v := ?_) (a' := ?_) #[true, true, true, true, true, true, true, true, true, false, false] rfl rfl (any_of HT_.out (by kernel_rfl)) (fun _ _ _ h => h) (Or.inl ⟨by rfl, ?_⟩) ?_ ?_
              rotate_left
              · intro w'
                go_simp
                with_reducible rfl
              rotate_left
              · simp only [Act.put, la_, lb_, lc_, i64_w, i32_w]
                rfl
              exact norm_ (by simp only [putAll, Act.put, la_, lb_, lc_]) (hCont (gb189) _ ⟨hHeld, (by (with_reducible repeat (first | refine bN_ _ ?_ | refine bd_ ?_ | refine ba_ _ ?_)); exact BK166.out), (by (with_reducible repeat (first | refine bN_ _ ?_ | refine bd_ ?_ | refine ba_ _ ?_)); exact BK167.out), (by (with_reducible repeat (first | refine bN_ _ ?_ | refine bd_ ?_ | refine ba_ _ ?_)); exact BK178.out), (by (with_reducible repeat (first | refine bN_ _ ?_ | refine bd_ ?_ | refine ba_ _ ?_)); exact BK189.out), GW189.out, GE189.out, NB166_189.out, NB189_166.out, NB167_189.out, NB189_167.out, NB178_189.out, NB189_178.out, bel_⟩)
          · skip
            refine box_step ?hg (N := 7) ?hd (cs := #[.bool false, .int .u64 0, .int .u64 0]) (t := 33) ?hr ?_; (case hd => rfl); (case hg => rfl); (case hr => first | (go_simp; done) | (go_simp; rfl))
            intro gb189 hg w55 hbox hb
            have n0_ := bb_ (g := gb166) (o := .cells #[.bool a0_0, .int .u64 a0_1, .int .u64 a0_2] 32 (0, 0)) hb
            have n1_ := bb_ (g := gb167) (o := .cells #[.bool a1_0, .int .u64 a1_1, .int .u64 a1_2] 32 (0, 0)) hb
            have n2_ := bb_ (g := gb178) (o := .cells #[.bool t174, .int .u64 t175, .int .u64 t176] 33 (0, 0)) hb
            have n3_ := Aside0.mk (below_step bel_ hb)
            have n4_ := Aside0.mk (hbox)
            have n5_ := Aside0.mk ((by rw [hg]; exact (below_size bel_) : w.heap.size ≤ gb189))
            have n6_ := Aside0.mk ((by rw [hg]; exact (below_size bel_) : w.heap.size ≤ gb189))
            have n7_ := nlt_ (g := gb166) (o := .cells #[.bool a0_0, .int .u64 a0_1, .int .u64 a0_2] 32 (0, 0)) hg
            have n8_ := ngt_ (g := gb166) (o := .cells #[.bool a0_0, .int .u64 a0_1, .int .u64 a0_2] 32 (0, 0)) hg
            have n9_ := nlt_ (g := gb167) (o := .cells #[.bool a1_0, .int .u64 a1_1, .int .u64 a1_2] 32 (0, 0)) hg
            have n10_ := ngt_ (g := gb167) (o := .cells #[.bool a1_0, .int .u64 a1_1, .int .u64 a1_2] 32 (0, 0)) hg
            have n11_ := nlt_ (g := gb178) (o := .cells #[.bool t174, .int .u64 t175, .int .u64 t176] 33 (0, 0)) hg
            have n12_ := ngt_ (g := gb178) (o := .cells #[.bool t174, .int .u64 t175, .int .u64 t176] 33 (0, 0)) hg
            clear BK166
            clear BK167
            clear BK178
            clear HB
            have BK166 := n0_
            have BK167 := n1_
            have BK178 := n2_
            have HB := n3_
            have BK189 := n4_
            have GW189 := n5_
            have GE189 := n6_
            have NB166_189 := n7_
            have NB189_166 := n8_
            have NB167_189 := n9_
            have NB189_167 := n10_
            have NB178_189 := n11_
            have NB189_178 := n12_
            clear n0_ n1_ n2_ n3_ n4_ n5_ n6_ n7_ n8_ n9_ n10_ n11_ n12_
            clear hb hbox hg
            refine hK.out _ _ ⟨bc_, bc_, bc_, bc_, bc_, bc_⟩ (fun hHeld => ?_)
            clear hK K
            refine norm_ (a' := ?_) ?_ ?_
            rotate_left
            · show Act.put _ (some 7) _ = _
              simp only [Act.put, la_, lb_, lc_, i64_w, i32_w]
              rfl
            refine one_ (i := 3) (N := some 21) #[true, true, true, true, false, false, false, false, true, false, false] rfl rfl (one_of HT_.out (by kernel_rfl)) (by decide) (fun K hK => ?_)
            refine goes_ Try.func20 (by kernel_rfl) rfl #[.agg #[.bool a1_0, .int .u64 a1_1, .int .u64 a1_2]] (by rfl) rfl rfl mp_ ?_
            with_reducible refine (laws_toWide.calls a1_0 a1_1 a1_2 t182 t183 t184 _ A7.out).mono ?_
            rintro e w56 ⟨rfl, hb⟩
            refine ⟨_, rfl, ?_⟩
            have n0_ := bb_ (g := gb166) (o := .cells #[.bool a0_0, .int .u64 a0_1, .int .u64 a0_2] 32 (0, 0)) hb
            have n1_ := bb_ (g := gb167) (o := .cells #[.bool a1_0, .int .u64 a1_1, .int .u64 a1_2] 32 (0, 0)) hb
            have n2_ := bb_ (g := gb178) (o := .cells #[.bool t174, .int .u64 t175, .int .u64 t176] 33 (0, 0)) hb
            have n3_ := bb_ (g := gb189) (o := .cells #[.bool false, .int .u64 0, .int .u64 0] 33 (0, 0)) hb
            have n4_ := Aside0.mk (below_step bel_ hb)
            clear BK166
            clear BK167
            clear BK178
            clear BK189
            clear HB
            have BK166 := n0_
            have BK167 := n1_
            have BK178 := n2_
            have BK189 := n3_
            have HB := n4_
            clear n0_ n1_ n2_ n3_ n4_
            (try clear hb)
            (try clear hb2)
            (try clear hk)
            (try clear hi)
            refine hK.out _ _ ⟨bc_, bc_, bc_, bc_, bc_, bc_⟩ (fun hHeld => ?_)
            clear hK K
            refine norm_ (a' := ?_) ?_ ?_
            rotate_left
            · show Act.put _ (some 21) _ = _
              simp only [Act.put, la_, lb_, lc_, i64_w, i32_w]
              rfl
            refine one_ (i := 4) (N := some 22) #[true, true, true, true, true, false, false, false, true, false, false] rfl rfl (one_of HT_.out (by kernel_rfl)) (by decide) (fun K hK => ?_)
            refine goes_ Try.func48 (by kernel_rfl) rfl #[.agg #[.bool t179, .int .u64 t180, .int .u64 t181], .agg #[.bool t182, .int .u64 t183, .int .u64 t184]] (by rfl) rfl rfl mp_ ?_
            with_reducible refine (impl_AddWide.calls k t179 t180 t181 t182 t183 t184 t185 t186 t187 t188 _ A8.out).mono ?_
            rintro e w57 ⟨rfl, hb⟩
            refine ⟨_, rfl, ?_⟩
            have n0_ := bb_ (g := gb166) (o := .cells #[.bool a0_0, .int .u64 a0_1, .int .u64 a0_2] 32 (0, 0)) hb
            have n1_ := bb_ (g := gb167) (o := .cells #[.bool a1_0, .int .u64 a1_1, .int .u64 a1_2] 32 (0, 0)) hb
            have n2_ := bb_ (g := gb178) (o := .cells #[.bool t174, .int .u64 t175, .int .u64 t176] 33 (0, 0)) hb
            have n3_ := bb_ (g := gb189) (o := .cells #[.bool false, .int .u64 0, .int .u64 0] 33 (0, 0)) hb
            have n4_ := Aside0.mk (below_step bel_ hb)
            clear BK166
            clear BK167
            clear BK178
            clear BK189
            clear HB
            have BK166 := n0_
            have BK167 := n1_
            have BK178 := n2_
            have BK189 := n3_
            have HB := n4_
            clear n0_ n1_ n2_ n3_ n4_
            (try clear hb)
            (try clear hb2)
            (try clear hk)
            (try clear hi)
            refine hK.out _ _ ⟨bc_, bc_, bc_, bc_, bc_, bc_⟩ (fun hHeld => ?_)
            clear hK K
            refine norm_ (a' := ?_) ?_ ?_
            rotate_left
            · show Act.put _ (some 22) _ = _
              simp only [Act.put, la_, lb_, lc_, i64_w, i32_w]
              rfl
            refine pure_ (i := 5) (N := some 17) (v := ?_) (a' := ?_) #[true, true, true, true, true, true, false, false, true, false, false] rfl rfl (any_of HT_.out (by kernel_rfl)) (fun _ _ _ h => h) (Or.inl ⟨by rfl, ?_⟩) ?_ ?_
            rotate_left
            · intro w'
              go_simp
              with_reducible rfl
            rotate_left
            · simp only [Act.put, la_, lb_, lc_, i64_w, i32_w]
              rfl
            refine pure_ (i := 6) (N := some 23) (v := ?_) (a' := ?_) #[true, true, true, true, true, true, true, false, true, false, false] rfl rfl (any_of HT_.out (by kernel_rfl)) (fun _ _ _ h => h) (Or.inl ⟨by rfl, ?_⟩) ?_ ?_
            rotate_left
            · intro w'
              go_simp
              with_reducible rfl
            rotate_left
            · simp only [Act.put, la_, lb_, lc_, i64_w, i32_w]
              rfl
            refine pure_ (i := 7) (N := some 24) (v := ?_) (a' := ?_) #[true, true, true, true, true, true, true, true, true, false, false] rfl rfl (any_of HT_.out (by kernel_rfl)) (fun _ _ _ h => h) (Or.inl ⟨by rfl, ?_⟩) ?_ ?_
            rotate_left
            · intro w'
              go_simp
              with_reducible rfl
            rotate_left
            · simp only [Act.put, la_, lb_, lc_, i64_w, i32_w]
              rfl
            exact norm_ (by simp only [putAll, Act.put, la_, lb_, lc_]) (hCont (gb189) _ ⟨hHeld, (by (with_reducible repeat (first | refine bN_ _ ?_ | refine bd_ ?_ | refine ba_ _ ?_)); exact BK166.out), (by (with_reducible repeat (first | refine bN_ _ ?_ | refine bd_ ?_ | refine ba_ _ ?_)); exact BK167.out), (by (with_reducible repeat (first | refine bN_ _ ?_ | refine bd_ ?_ | refine ba_ _ ?_)); exact BK178.out), (by (with_reducible repeat (first | refine bN_ _ ?_ | refine bd_ ?_ | refine ba_ _ ?_)); exact BK189.out), GW189.out, GE189.out, NB166_189.out, NB189_166.out, NB167_189.out, NB189_167.out, NB178_189.out, NB189_178.out, bel_⟩)
        · skip
          refine box_step ?hg (N := 7) ?hd (cs := #[.bool false, .int .u64 0, .int .u64 0]) (t := 33) ?hr ?_; (case hd => rfl); (case hg => rfl); (case hr => first | (go_simp; done) | (go_simp; rfl))
          intro gb189 hg w54 hbox hb
          have n0_ := bb_ (g := gb166) (o := .cells #[.bool a0_0, .int .u64 a0_1, .int .u64 a0_2] 32 (0, 0)) hb
          have n1_ := bb_ (g := gb167) (o := .cells #[.bool a1_0, .int .u64 a1_1, .int .u64 a1_2] 32 (0, 0)) hb
          have n2_ := bb_ (g := gb178) (o := .cells #[.bool t174, .int .u64 t175, .int .u64 t176] 33 (0, 0)) hb
          have n3_ := Aside0.mk (below_step bel_ hb)
          have n4_ := Aside0.mk (hbox)
          have n5_ := Aside0.mk ((by rw [hg]; exact (below_size bel_) : w.heap.size ≤ gb189))
          have n6_ := Aside0.mk ((by rw [hg]; exact (below_size bel_) : w.heap.size ≤ gb189))
          have n7_ := nlt_ (g := gb166) (o := .cells #[.bool a0_0, .int .u64 a0_1, .int .u64 a0_2] 32 (0, 0)) hg
          have n8_ := ngt_ (g := gb166) (o := .cells #[.bool a0_0, .int .u64 a0_1, .int .u64 a0_2] 32 (0, 0)) hg
          have n9_ := nlt_ (g := gb167) (o := .cells #[.bool a1_0, .int .u64 a1_1, .int .u64 a1_2] 32 (0, 0)) hg
          have n10_ := ngt_ (g := gb167) (o := .cells #[.bool a1_0, .int .u64 a1_1, .int .u64 a1_2] 32 (0, 0)) hg
          have n11_ := nlt_ (g := gb178) (o := .cells #[.bool t174, .int .u64 t175, .int .u64 t176] 33 (0, 0)) hg
          have n12_ := ngt_ (g := gb178) (o := .cells #[.bool t174, .int .u64 t175, .int .u64 t176] 33 (0, 0)) hg
          clear BK166
          clear BK167
          clear BK178
          clear HB
          have BK166 := n0_
          have BK167 := n1_
          have BK178 := n2_
          have HB := n3_
          have BK189 := n4_
          have GW189 := n5_
          have GE189 := n6_
          have NB166_189 := n7_
          have NB189_166 := n8_
          have NB167_189 := n9_
          have NB189_167 := n10_
          have NB178_189 := n11_
          have NB189_178 := n12_
          clear n0_ n1_ n2_ n3_ n4_ n5_ n6_ n7_ n8_ n9_ n10_ n11_ n12_
          clear hb hbox hg
          refine hK.out _ _ ⟨bc_, bc_, bc_, bc_, bc_, bc_⟩ (fun hHeld => ?_)
          clear hK K
          refine norm_ (a' := ?_) ?_ ?_
          rotate_left
          · show Act.put _ (some 7) _ = _
            simp only [Act.put, la_, lb_, lc_, i64_w, i32_w]
            rfl
          refine one_ (i := 1) (N := some 19) #[true, true, true, false, false, false, false, false, true, false, false] rfl rfl (one_of HT_.out (by kernel_rfl)) (by decide) (fun K hK => ?_)
          refine goes_ Try.func20 (by kernel_rfl) rfl #[.agg #[.bool a0_0, .int .u64 a0_1, .int .u64 a0_2]] (by rfl) rfl rfl mp_ ?_
          with_reducible refine (laws_toWide.calls a0_0 a0_1 a0_2 t179 t180 t181 _ A6.out).mono ?_
          rintro e w55 ⟨rfl, hb⟩
          refine ⟨_, rfl, ?_⟩
          have n0_ := bb_ (g := gb166) (o := .cells #[.bool a0_0, .int .u64 a0_1, .int .u64 a0_2] 32 (0, 0)) hb
          have n1_ := bb_ (g := gb167) (o := .cells #[.bool a1_0, .int .u64 a1_1, .int .u64 a1_2] 32 (0, 0)) hb
          have n2_ := bb_ (g := gb178) (o := .cells #[.bool t174, .int .u64 t175, .int .u64 t176] 33 (0, 0)) hb
          have n3_ := bb_ (g := gb189) (o := .cells #[.bool false, .int .u64 0, .int .u64 0] 33 (0, 0)) hb
          have n4_ := Aside0.mk (below_step bel_ hb)
          clear BK166
          clear BK167
          clear BK178
          clear BK189
          clear HB
          have BK166 := n0_
          have BK167 := n1_
          have BK178 := n2_
          have BK189 := n3_
          have HB := n4_
          clear n0_ n1_ n2_ n3_ n4_
          (try clear hb)
          (try clear hb2)
          (try clear hk)
          (try clear hi)
          refine hK.out _ _ ⟨bc_, bc_, bc_, bc_, bc_, bc_⟩ (fun hHeld => ?_)
          clear hK K
          refine norm_ (a' := ?_) ?_ ?_
          rotate_left
          · show Act.put _ (some 19) _ = _
            simp only [Act.put, la_, lb_, lc_, i64_w, i32_w]
            rfl
          refine one_ (i := 3) (N := some 21) #[true, true, true, true, false, false, false, false, true, false, false] rfl rfl (one_of HT_.out (by kernel_rfl)) (by decide) (fun K hK => ?_)
          refine goes_ Try.func20 (by kernel_rfl) rfl #[.agg #[.bool a1_0, .int .u64 a1_1, .int .u64 a1_2]] (by rfl) rfl rfl mp_ ?_
          with_reducible refine (laws_toWide.calls a1_0 a1_1 a1_2 t182 t183 t184 _ A7.out).mono ?_
          rintro e w56 ⟨rfl, hb⟩
          refine ⟨_, rfl, ?_⟩
          have n0_ := bb_ (g := gb166) (o := .cells #[.bool a0_0, .int .u64 a0_1, .int .u64 a0_2] 32 (0, 0)) hb
          have n1_ := bb_ (g := gb167) (o := .cells #[.bool a1_0, .int .u64 a1_1, .int .u64 a1_2] 32 (0, 0)) hb
          have n2_ := bb_ (g := gb178) (o := .cells #[.bool t174, .int .u64 t175, .int .u64 t176] 33 (0, 0)) hb
          have n3_ := bb_ (g := gb189) (o := .cells #[.bool false, .int .u64 0, .int .u64 0] 33 (0, 0)) hb
          have n4_ := Aside0.mk (below_step bel_ hb)
          clear BK166
          clear BK167
          clear BK178
          clear BK189
          clear HB
          have BK166 := n0_
          have BK167 := n1_
          have BK178 := n2_
          have BK189 := n3_
          have HB := n4_
          clear n0_ n1_ n2_ n3_ n4_
          (try clear hb)
          (try clear hb2)
          (try clear hk)
          (try clear hi)
          refine hK.out _ _ ⟨bc_, bc_, bc_, bc_, bc_, bc_⟩ (fun hHeld => ?_)
          clear hK K
          refine norm_ (a' := ?_) ?_ ?_
          rotate_left
          · show Act.put _ (some 21) _ = _
            simp only [Act.put, la_, lb_, lc_, i64_w, i32_w]
            rfl
          refine one_ (i := 4) (N := some 22) #[true, true, true, true, true, false, false, false, true, false, false] rfl rfl (one_of HT_.out (by kernel_rfl)) (by decide) (fun K hK => ?_)
          refine goes_ Try.func48 (by kernel_rfl) rfl #[.agg #[.bool t179, .int .u64 t180, .int .u64 t181], .agg #[.bool t182, .int .u64 t183, .int .u64 t184]] (by rfl) rfl rfl mp_ ?_
          with_reducible refine (impl_AddWide.calls k t179 t180 t181 t182 t183 t184 t185 t186 t187 t188 _ A8.out).mono ?_
          rintro e w57 ⟨rfl, hb⟩
          refine ⟨_, rfl, ?_⟩
          have n0_ := bb_ (g := gb166) (o := .cells #[.bool a0_0, .int .u64 a0_1, .int .u64 a0_2] 32 (0, 0)) hb
          have n1_ := bb_ (g := gb167) (o := .cells #[.bool a1_0, .int .u64 a1_1, .int .u64 a1_2] 32 (0, 0)) hb
          have n2_ := bb_ (g := gb178) (o := .cells #[.bool t174, .int .u64 t175, .int .u64 t176] 33 (0, 0)) hb
          have n3_ := bb_ (g := gb189) (o := .cells #[.bool false, .int .u64 0, .int .u64 0] 33 (0, 0)) hb
          have n4_ := Aside0.mk (below_step bel_ hb)
          clear BK166
          clear BK167
          clear BK178
          clear BK189
          clear HB
          have BK166 := n0_
          have BK167 := n1_
          have BK178 := n2_
          have BK189 := n3_
          have HB := n4_
          clear n0_ n1_ n2_ n3_ n4_
          (try clear hb)
          (try clear hb2)
          (try clear hk)
          (try clear hi)
          refine hK.out _ _ ⟨bc_, bc_, bc_, bc_, bc_, bc_⟩ (fun hHeld => ?_)
          clear hK K
          refine norm_ (a' := ?_) ?_ ?_
          rotate_left
          · show Act.put _ (some 22) _ = _
            simp only [Act.put, la_, lb_, lc_, i64_w, i32_w]
            rfl
          refine pure_ (i := 5) (N := some 17) (v := ?_) (a' := ?_) #[true, true, true, true, true, true, false, false, true, false, false] rfl rfl (any_of HT_.out (by kernel_rfl)) (fun _ _ _ h => h) (Or.inl ⟨by rfl, ?_⟩) ?_ ?_
          rotate_left
          · intro w'
            go_simp
            with_reducible rfl
          rotate_left
          · simp only [Act.put, la_, lb_, lc_, i64_w, i32_w]
            rfl
          refine pure_ (i := 6) (N := some 23) (v := ?_) (a' := ?_) #[true, true, true, true, true, true, true, false, true, false, false] rfl rfl (any_of HT_.out (by kernel_rfl)) (fun _ _ _ h => h) (Or.inl ⟨by rfl, ?_⟩) ?_ ?_
          rotate_left
          · intro w'
            go_simp
            with_reducible rfl
          rotate_left
          · simp only [Act.put, la_, lb_, lc_, i64_w, i32_w]
            rfl
          refine pure_ (i := 7) (N := some 24) (v := ?_) (a' := ?_) #[true, true, true, true, true, true, true, true, true, false, false] rfl rfl (any_of HT_.out (by kernel_rfl)) (fun _ _ _ h => h) (Or.inl ⟨by rfl, ?_⟩) ?_ ?_
          rotate_left
          · intro w'
            go_simp
            with_reducible rfl
          rotate_left
          · simp only [Act.put, la_, lb_, lc_, i64_w, i32_w]
            rfl
          exact norm_ (by simp only [putAll, Act.put, la_, lb_, lc_]) (hCont (gb189) _ ⟨hHeld, (by (with_reducible repeat (first | refine bN_ _ ?_ | refine bd_ ?_ | refine ba_ _ ?_)); exact BK166.out), (by (with_reducible repeat (first | refine bN_ _ ?_ | refine bd_ ?_ | refine ba_ _ ?_)); exact BK167.out), (by (with_reducible repeat (first | refine bN_ _ ?_ | refine bd_ ?_ | refine ba_ _ ?_)); exact BK178.out), (by (with_reducible repeat (first | refine bN_ _ ?_ | refine bd_ ?_ | refine ba_ _ ?_)); exact BK189.out), GW189.out, GE189.out, NB166_189.out, NB189_166.out, NB167_189.out, NB189_167.out, NB178_189.out, NB189_178.out, bel_⟩)
      rintro gb189 w58 ⟨hS_, h0_, h1_, h2_, h3_, h4_, h5_, h6_, h7_, h8_, h9_, h10_, h11_, h12_⟩
      have n0_ : Aside0 (w58.heap[gb166]? = some (.cells #[.bool a0_0, .int .u64 a0_1, .int .u64 a0_2] 32 (0, 0))) := ⟨h0_⟩
      have n1_ : Aside0 (w58.heap[gb167]? = some (.cells #[.bool a1_0, .int .u64 a1_1, .int .u64 a1_2] 32 (0, 0))) := ⟨h1_⟩
      have n2_ : Aside0 (w58.heap[gb178]? = some (.cells #[.bool t174, .int .u64 t175, .int .u64 t176] 33 (0, 0))) := ⟨h2_⟩
      have n3_ : Aside0 (w58.heap[gb189]? = some (.cells #[.bool false, .int .u64 0, .int .u64 0] 33 (0, 0))) := ⟨h3_⟩
      have n4_ : Aside0 (w.heap.size ≤ gb189) := ⟨h4_⟩
      have n5_ : Aside0 (w.heap.size ≤ gb189) := ⟨h5_⟩
      have n6_ : Aside0 (gb166 ≠ gb189) := ⟨h6_⟩
      have n7_ : Aside0 (gb189 ≠ gb166) := ⟨h7_⟩
      have n8_ : Aside0 (gb167 ≠ gb189) := ⟨h8_⟩
      have n9_ : Aside0 (gb189 ≠ gb167) := ⟨h9_⟩
      have n10_ : Aside0 (gb178 ≠ gb189) := ⟨h10_⟩
      have n11_ : Aside0 (gb189 ≠ gb178) := ⟨h11_⟩
      have n12_ : Aside0 (Below w.heap.size w w58) := ⟨h12_⟩
      clear BK166
      clear BK167
      clear BK178
      clear HB
      clear h0_ h1_ h2_ h3_ h4_ h5_ h6_ h7_ h8_ h9_ h10_ h11_ h12_
      have BK166 := n0_
      have BK167 := n1_
      have BK178 := n2_
      have BK189 := n3_
      have GW189 := n4_
      have GE189 := n5_
      have NB166_189 := n6_
      have NB189_166 := n7_
      have NB167_189 := n8_
      have NB189_167 := n9_
      have NB178_189 := n10_
      have NB189_178 := n11_
      have HB := n12_
      clear n0_ n1_ n2_ n3_ n4_ n5_ n6_ n7_ n8_ n9_ n10_ n11_ n12_
      have hHeld : w58.cell? ⟨gb166, 0, none⟩ = some (.bool a0_0) ∧ w58.cell? ⟨gb166, 1, none⟩ = some (.int .u64 a0_1) ∧ w58.cell? ⟨gb166, 2, none⟩ = some (.int .u64 a0_2) ∧ w58.cell? ⟨gb167, 0, none⟩ = some (.bool a1_0) ∧ w58.cell? ⟨gb167, 1, none⟩ = some (.int .u64 a1_1) ∧ w58.cell? ⟨gb167, 2, none⟩ = some (.int .u64 a1_2) := hS_
      refine norm_ (a' := ?_) ?_ ?_
      rotate_left
      · simp only [putAll, Act.put, la_, lb_, lc_]
        rfl
      refine one_ (i := 9) (N := none) #[true, true, true, true, true, true, true, true, true, true, false] rfl rfl (one_of HT_.out (by kernel_rfl)) (by decide) (fun K hK => ?_)
      have hs59 : w58.cell? ⟨gb189, 0, none⟩ = some (.bool false) := (blk_cell BK189.out 0).trans rfl
      have hfs59 := blk_frozen BK189.out 0
      have hns59_0 := NB166_189.out
      have hns59_1 := NB167_189.out
      have hns59_2 := NB178_189.out
      have hms59_0 := NB189_166.out
      have hms59_1 := NB189_167.out
      have hms59_2 := NB189_178.out
      have hs60 : w58.cell? ⟨gb189, 1, none⟩ = some (.int .u64 0) := (blk_cell BK189.out 1).trans rfl
      have hfs60 := blk_frozen BK189.out 1
      have hns60_0 := NB166_189.out
      have hns60_1 := NB167_189.out
      have hns60_2 := NB178_189.out
      have hms60_0 := NB189_166.out
      have hms60_1 := NB189_167.out
      have hms60_2 := NB189_178.out
      have hs61 : w58.cell? ⟨gb189, 2, none⟩ = some (.int .u64 0) := (blk_cell BK189.out 2).trans rfl
      have hfs61 := blk_frozen BK189.out 2
      have hns61_0 := NB166_189.out
      have hns61_1 := NB167_189.out
      have hns61_2 := NB178_189.out
      have hms61_0 := NB189_166.out
      have hms61_1 := NB189_167.out
      have hms61_2 := NB189_178.out
      refine skip_ (w1 := ?_) (by rfl) rfl ?_ ?_
      rotate_left
      · go_simp
        rfl
      refine hK.out _ _ ⟨((cell_far (p := ⟨gb189, _, none⟩) NB166_189.out _).trans (((cell_far (p := ⟨gb189, _, none⟩) NB166_189.out _).trans (((cell_far (p := ⟨gb189, _, none⟩) NB166_189.out _).trans (hHeld.1)))))), ((cell_far (p := ⟨gb189, _, none⟩) NB166_189.out _).trans (((cell_far (p := ⟨gb189, _, none⟩) NB166_189.out _).trans (((cell_far (p := ⟨gb189, _, none⟩) NB166_189.out _).trans (hHeld.2.1)))))), ((cell_far (p := ⟨gb189, _, none⟩) NB166_189.out _).trans (((cell_far (p := ⟨gb189, _, none⟩) NB166_189.out _).trans (((cell_far (p := ⟨gb189, _, none⟩) NB166_189.out _).trans (hHeld.2.2.1)))))), ((cell_far (p := ⟨gb189, _, none⟩) NB167_189.out _).trans (((cell_far (p := ⟨gb189, _, none⟩) NB167_189.out _).trans (((cell_far (p := ⟨gb189, _, none⟩) NB167_189.out _).trans (hHeld.2.2.2.1)))))), ((cell_far (p := ⟨gb189, _, none⟩) NB167_189.out _).trans (((cell_far (p := ⟨gb189, _, none⟩) NB167_189.out _).trans (((cell_far (p := ⟨gb189, _, none⟩) NB167_189.out _).trans (hHeld.2.2.2.2.1)))))), ((cell_far (p := ⟨gb189, _, none⟩) NB167_189.out _).trans (((cell_far (p := ⟨gb189, _, none⟩) NB167_189.out _).trans (((cell_far (p := ⟨gb189, _, none⟩) NB167_189.out _).trans (hHeld.2.2.2.2.2))))))⟩ (fun hHeld => ?_)
      clear hK K
      refine pure_ (i := 10) (N := some 8) (v := ?_) (a' := ?_) #[true, true, true, true, true, true, true, true, true, true, true] rfl rfl (any_of HT_.out (by kernel_rfl)) (fun _ _ _ h => h) (Or.inl ⟨by rfl, ?_⟩) ?_ ?_
      rotate_left
      · intro w'
        go_simp
        with_reducible rfl
      rotate_left
      · simp only [Act.put, la_, lb_, lc_, i64_w, i32_w]
        rfl
      refine done_ (done_of HT_.out (by kernel_rfl)) ?_
      have hnb62 := NB189_166.out
      have hnc62 := NB166_189.out
      have hnb63 := NB189_167.out
      have hnc63 := NB167_189.out
      have hnb64 := NB189_178.out
      have hnc64 := NB178_189.out
      have hcz65_0 : w58.cell? ⟨gb189, 0, none⟩ = some (.bool false) := bc_
      have hcz65_1 : w58.cell? ⟨gb189, 1, none⟩ = some (.int .u64 0) := bc_
      have hcz65_2 : w58.cell? ⟨gb189, 2, none⟩ = some (.int .u64 0) := bc_
      have hfz65_0 := blk_frozen BK189.out 0
      have hfz65_1 := blk_frozen BK189.out 1
      have hfz65_2 := blk_frozen BK189.out 2
      have hnb66 := NB178_166.out
      have hnc66 := NB166_178.out
      have hnb67 := NB178_167.out
      have hnc67 := NB167_178.out
      have hcz68_0 : w58.cell? ⟨gb178, 0, none⟩ = some (.bool t174) := bc_
      have hcz68_1 : w58.cell? ⟨gb178, 1, none⟩ = some (.int .u64 t175) := bc_
      have hcz68_2 : w58.cell? ⟨gb178, 2, none⟩ = some (.int .u64 t176) := bc_
      have hfz68_0 := blk_frozen BK178.out 0
      have hfz68_1 := blk_frozen BK178.out 1
      have hfz68_2 := blk_frozen BK178.out 2
      try go_wp2_with (first | ((with_reducible refine gate_callee (f := 22) rfl ?_); refine goesL_ (some 27) rfl rfl Try.func22 (by kernel_rfl) rfl #[.agg #[.bool t185, .int .u64 t186, .int .u64 t187], .agg #[.bool t174, .int .u64 t175, .int .u64 t176]] rfl mp_ ?_; (with_reducible refine (laws_eqWide.calls t185 t186 t187 t174 t175 t176 true _ A9.out).mono ?_); rintro e w69 ⟨rfl, hb⟩; refine ⟨_, rfl, ?_⟩; have n0_ := Aside0.mk (blk_below (g := gb166) (o := .cells #[.bool a0_0, .int .u64 a0_1, .int .u64 a0_2] 32 (0, 0)) (by (with_reducible repeat (first | refine bN_ _ ?_ | refine bd_ ?_ | refine ba_ _ ?_)); refine blk_far ?_ NB166_189.out _; (with_reducible repeat (first | refine bN_ _ ?_ | refine bd_ ?_ | refine ba_ _ ?_)); refine blk_far ?_ NB166_189.out _; (with_reducible repeat (first | refine bN_ _ ?_ | refine bd_ ?_ | refine ba_ _ ?_)); refine blk_far ?_ NB166_189.out _; (with_reducible repeat (first | refine bN_ _ ?_ | refine bd_ ?_ | refine ba_ _ ?_)); exact BK166.out) hb); have n1_ := Aside0.mk (blk_below (g := gb167) (o := .cells #[.bool a1_0, .int .u64 a1_1, .int .u64 a1_2] 32 (0, 0)) (by (with_reducible repeat (first | refine bN_ _ ?_ | refine bd_ ?_ | refine ba_ _ ?_)); refine blk_far ?_ NB167_189.out _; (with_reducible repeat (first | refine bN_ _ ?_ | refine bd_ ?_ | refine ba_ _ ?_)); refine blk_far ?_ NB167_189.out _; (with_reducible repeat (first | refine bN_ _ ?_ | refine bd_ ?_ | refine ba_ _ ?_)); refine blk_far ?_ NB167_189.out _; (with_reducible repeat (first | refine bN_ _ ?_ | refine bd_ ?_ | refine ba_ _ ?_)); exact BK167.out) hb); have n2_ := Aside0.mk (blk_below (g := gb178) (o := .cells #[.bool t174, .int .u64 t175, .int .u64 t176] 33 (0, 0)) (by (with_reducible repeat (first | refine bN_ _ ?_ | refine bd_ ?_ | refine ba_ _ ?_)); refine blk_far ?_ NB178_189.out _; (with_reducible repeat (first | refine bN_ _ ?_ | refine bd_ ?_ | refine ba_ _ ?_)); refine blk_far ?_ NB178_189.out _; (with_reducible repeat (first | refine bN_ _ ?_ | refine bd_ ?_ | refine ba_ _ ?_)); refine blk_far ?_ NB178_189.out _; (with_reducible repeat (first | refine bN_ _ ?_ | refine bd_ ?_ | refine ba_ _ ?_)); exact BK178.out) hb); have n3_ := Aside0.mk (blk_below (g := gb189) (o := .cells #[.bool t185, .int .u64 t186, .int .u64 t187] 33 (0, 0)) (by (with_reducible repeat (first | refine bN_ _ ?_ | refine bd_ ?_ | refine ba_ _ ?_)); refine blk_put (cs := #[.bool t185, .int .u64 t186, .int .u64 0]) ?_ 2 _ rfl; (with_reducible repeat (first | refine bN_ _ ?_ | refine bd_ ?_ | refine ba_ _ ?_)); refine blk_put (cs := #[.bool t185, .int .u64 0, .int .u64 0]) ?_ 1 _ rfl; (with_reducible repeat (first | refine bN_ _ ?_ | refine bd_ ?_ | refine ba_ _ ?_)); refine blk_put (cs := #[.bool false, .int .u64 0, .int .u64 0]) ?_ 0 _ rfl; (with_reducible repeat (first | refine bN_ _ ?_ | refine bd_ ?_ | refine ba_ _ ?_)); exact BK189.out) hb); have n4_ := Aside0.mk (below_step bel_ hb); clear BK166; clear BK167; clear BK178; clear BK189; clear HB; have BK166 := n0_; have BK167 := n1_; have BK178 := n2_; have BK189 := n3_; have HB := n4_; clear n0_ n1_ n2_ n3_ n4_; (try clear hb); (try clear hb2); (try clear hk); (try clear hi)))
      go_ret
      exact ⟨by first | rfl | (simp [errW_none, errW_some] <;> rfl) | (simp [*, errW_none, errW_some] <;> rfl), by repeat (first | (with_reducible first | exact HB.out | apply below_alloc | apply pw_below_drewN | apply below_drew1 | refine below_set ?_ GE166.out | refine below_set ?_ GE167.out | refine below_set ?_ GE178.out | refine below_set ?_ GE189.out) | exact HB.out)⟩
  · replace c10 := Bool.eq_false_iff.mpr c10
    subst c10
    have H1 : (some false) = some r := by rw [if_neg (show ¬ (false = true) by decide)] at H; exact H
    clear H
    have H := H1
    clear H1
    obtain rfl := Option.some.inj H
    go_enter Try.func10, Try.ntmps10
    try go_wp2_with (first | ((with_reducible refine gate_dst (N := 2) rfl ?_); refine box_event ?hg (N := 2) ?hd (cs := #[.bool a0_0, .int .u64 a0_1, .int .u64 a0_2]) (t := 32) ?hr ?_; (case hd => rfl); (case hg => rfl); (case hr => first | (go_simp; done) | (go_simp; rfl)); intro gb166 hg w70 hbox hb; have n0_ := Aside0.mk (below_step bel_ hb); have n1_ := Aside0.mk (hbox); have n2_ := Aside0.mk ((by rw [hg]; exact (below_size bel_) : w.heap.size ≤ gb166)); have n3_ := Aside0.mk ((by rw [hg]; exact (below_size bel_) : w.heap.size ≤ gb166)); clear HB; have HB := n0_; have BK166 := n1_; have GW166 := n2_; have GE166 := n3_; clear n0_ n1_ n2_ n3_; clear hb hbox hg) | ((with_reducible refine gate_dst (N := 3) rfl ?_); refine box_event ?hg (N := 3) ?hd (cs := #[.bool a1_0, .int .u64 a1_1, .int .u64 a1_2]) (t := 32) ?hr ?_; (case hd => rfl); (case hg => rfl); (case hr => first | (go_simp; done) | (go_simp; rfl)); intro gb167 hg w71 hbox hb; have n0_ := bb_ (g := gb166) (o := .cells #[.bool a0_0, .int .u64 a0_1, .int .u64 a0_2] 32 (0, 0)) hb; have n1_ := Aside0.mk (below_step bel_ hb); have n2_ := Aside0.mk (hbox); have n3_ := Aside0.mk ((by rw [hg]; exact (below_size bel_) : w.heap.size ≤ gb167)); have n4_ := Aside0.mk ((by rw [hg]; exact (below_size bel_) : w.heap.size ≤ gb167)); have n5_ := nlt_ (g := gb166) (o := .cells #[.bool a0_0, .int .u64 a0_1, .int .u64 a0_2] 32 (0, 0)) hg; have n6_ := ngt_ (g := gb166) (o := .cells #[.bool a0_0, .int .u64 a0_1, .int .u64 a0_2] 32 (0, 0)) hg; clear BK166; clear HB; have BK166 := n0_; have HB := n1_; have BK167 := n2_; have GW167 := n3_; have GE167 := n4_; have NB166_167 := n5_; have NB167_166 := n6_; clear n0_ n1_ n2_ n3_ n4_ n5_ n6_; clear hb hbox hg))
    have n0_ := Aside0.mk (blk_drew BK166.out)
    have n1_ := Aside0.mk (blk_drew BK167.out)
    have n2_ := Aside0.mk (below_drew1 HB.out)
    clear BK166
    clear BK167
    clear HB
    have BK166 := n0_
    have BK167 := n1_
    have HB := n2_
    clear n0_ n1_ n2_
    refine start_ (n := 11) (S := fun w' => w'.cell? ⟨gb166, 0, none⟩ = some (.bool a0_0) ∧ w'.cell? ⟨gb166, 1, none⟩ = some (.int .u64 a0_1) ∧ w'.cell? ⟨gb166, 2, none⟩ = some (.int .u64 a0_2) ∧ w'.cell? ⟨gb167, 0, none⟩ = some (.bool a1_0) ∧ w'.cell? ⟨gb167, 1, none⟩ = some (.int .u64 a1_1) ∧ w'.cell? ⟨gb167, 2, none⟩ = some (.int .u64 a1_2)) (ds := []) #[false, false, false, false, false, false, false, false, false, false, false] (by kernel_rfl) rfl rfl ⟨bc_, bc_, bc_, bc_, bc_, bc_⟩ (fun hHeld => ?_); refine with_tabW laws_FnExactAddWide.tab1 laws_FnExactAddWide.bits1 (fun HT_ HW_ => ?_)
    generalize w71.drew = w72 at BK166 BK167 HB hHeld ⊢
    refine take_ (i := 0) (N := some 10) (v := ?_) (a' := ?_) #[true, false, false, false, false, false, false, false, false, false, false] rfl rfl (take_ofW HT_.out HW_.out (by kernel_rfl)) (fun _ _ _ h => h) (Or.inl ⟨by rfl, ?_⟩) hHeld ?_ ?_
    rotate_left
    · rintro w' ⟨s0, s1, s2, s3, s4, s5⟩
      go_simp
      with_reducible rfl
    rotate_left
    · simp only [Act.put, la_, lb_, lc_, i64_w, i32_w]
      rfl
    refine take_ (i := 2) (N := some 12) (v := ?_) (a' := ?_) #[true, false, true, false, false, false, false, false, false, false, false] rfl rfl (take_ofW HT_.out HW_.out (by kernel_rfl)) (fun _ _ _ h => h) (Or.inl ⟨by rfl, ?_⟩) hHeld ?_ ?_
    rotate_left
    · rintro w' ⟨s0, s1, s2, s3, s4, s5⟩
      go_simp
      with_reducible rfl
    rotate_left
    · simp only [Act.put, la_, lb_, lc_, i64_w, i32_w]
      rfl
    refine join_ (σ := Nat) 2 #[true, true, true, true, true, true, true, true, true, false, false] (fun s_ => [(11, .agg #[.bool t168, .int .u64 t169, .int .u64 t170]), (13, .agg #[.bool t171, .int .u64 t172, .int .u64 t173]), (14, .tuple #[.agg #[.bool t174, .int .u64 t175, .int .u64 t176], .bool t177]), (5, .pointer (some ⟨s_, 0, none⟩)), (9, .tuple #[.agg #[.bool t174, .int .u64 t175, .int .u64 t176], .bool t177]), (15, .agg #[.bool t174, .int .u64 t175, .int .u64 t176]), (16, .bool t177)]) (fun s_ w' => (w'.cell? ⟨gb166, 0, none⟩ = some (.bool a0_0) ∧ w'.cell? ⟨gb166, 1, none⟩ = some (.int .u64 a0_1) ∧ w'.cell? ⟨gb166, 2, none⟩ = some (.int .u64 a0_2) ∧ w'.cell? ⟨gb167, 0, none⟩ = some (.bool a1_0) ∧ w'.cell? ⟨gb167, 1, none⟩ = some (.int .u64 a1_1) ∧ w'.cell? ⟨gb167, 2, none⟩ = some (.int .u64 a1_2)) ∧ (w'.heap[gb166]? = some (.cells #[.bool a0_0, .int .u64 a0_1, .int .u64 a0_2] 32 (0, 0))) ∧ (w'.heap[gb167]? = some (.cells #[.bool a1_0, .int .u64 a1_1, .int .u64 a1_2] 32 (0, 0))) ∧ (w'.heap[s_]? = some (.cells #[.bool false, .int .u64 0, .int .u64 0] 33 (0, 0))) ∧ (w.heap.size ≤ s_) ∧ (w.heap.size ≤ s_) ∧ (gb166 ≠ s_) ∧ (s_ ≠ gb166) ∧ (gb167 ≠ s_) ∧ (s_ ≠ gb167) ∧ (Below w.heap.size w w')) ?_ ?_
    rotate_left
    · intro hCont
      refine two_ (i := 1) (j := 8) (Ni := some 11) (Nj := some 5) #[true, true, true, false, false, false, false, false, false, false, false] #[true, false, true, false, false, false, false, false, true, false, false] rfl rfl rfl rfl (two_of HT_.out (by kernel_rfl)) (by decide) (by decide) (fun K hK => ?_) (fun K hK => ?_)
      · skip
        refine goes_ Try.func20 (by kernel_rfl) rfl #[.agg #[.bool a0_0, .int .u64 a0_1, .int .u64 a0_2]] (by rfl) rfl rfl mp_ ?_
        with_reducible refine (laws_toWide.calls a0_0 a0_1 a0_2 t168 t169 t170 _ A3.out).mono ?_
        rintro e w73 ⟨rfl, hb⟩
        refine ⟨_, rfl, ?_⟩
        have n0_ := bb_ (g := gb166) (o := .cells #[.bool a0_0, .int .u64 a0_1, .int .u64 a0_2] 32 (0, 0)) hb
        have n1_ := bb_ (g := gb167) (o := .cells #[.bool a1_0, .int .u64 a1_1, .int .u64 a1_2] 32 (0, 0)) hb
        have n2_ := Aside0.mk (below_step bel_ hb)
        clear BK166
        clear BK167
        clear HB
        have BK166 := n0_
        have BK167 := n1_
        have HB := n2_
        clear n0_ n1_ n2_
        (try clear hb)
        (try clear hb2)
        (try clear hk)
        (try clear hi)
        refine hK.out _ _ ⟨bc_, bc_, bc_, bc_, bc_, bc_⟩ (fun hHeld => ?_)
        clear hK K
        refine norm_ (a' := ?_) ?_ ?_
        rotate_left
        · show Act.put _ (some 11) _ = _
          simp only [Act.put, la_, lb_, lc_, i64_w, i32_w]
          rfl
        refine two_ (i := 3) (j := 8) (Ni := some 13) (Nj := some 5) #[true, true, true, true, false, false, false, false, false, false, false] #[true, true, true, false, false, false, false, false, true, false, false] rfl rfl rfl rfl (two_of HT_.out (by kernel_rfl)) (by decide) (by decide) (fun K hK => ?_) (fun K hK => ?_)
        · skip
          refine goes_ Try.func20 (by kernel_rfl) rfl #[.agg #[.bool a1_0, .int .u64 a1_1, .int .u64 a1_2]] (by rfl) rfl rfl mp_ ?_
          with_reducible refine (laws_toWide.calls a1_0 a1_1 a1_2 t171 t172 t173 _ A4.out).mono ?_
          rintro e w74 ⟨rfl, hb⟩
          refine ⟨_, rfl, ?_⟩
          have n0_ := bb_ (g := gb166) (o := .cells #[.bool a0_0, .int .u64 a0_1, .int .u64 a0_2] 32 (0, 0)) hb
          have n1_ := bb_ (g := gb167) (o := .cells #[.bool a1_0, .int .u64 a1_1, .int .u64 a1_2] 32 (0, 0)) hb
          have n2_ := Aside0.mk (below_step bel_ hb)
          clear BK166
          clear BK167
          clear HB
          have BK166 := n0_
          have BK167 := n1_
          have HB := n2_
          clear n0_ n1_ n2_
          (try clear hb)
          (try clear hb2)
          (try clear hk)
          (try clear hi)
          refine hK.out _ _ ⟨bc_, bc_, bc_, bc_, bc_, bc_⟩ (fun hHeld => ?_)
          clear hK K
          refine norm_ (a' := ?_) ?_ ?_
          rotate_left
          · show Act.put _ (some 13) _ = _
            simp only [Act.put, la_, lb_, lc_, i64_w, i32_w]
            rfl
          refine two_ (i := 4) (j := 8) (Ni := some 14) (Nj := some 5) #[true, true, true, true, true, false, false, false, false, false, false] #[true, true, true, true, false, false, false, false, true, false, false] rfl rfl rfl rfl (two_of HT_.out (by kernel_rfl)) (by decide) (by decide) (fun K hK => ?_) (fun K hK => ?_)
          · skip
            refine goes_ Try.func47 (by kernel_rfl) rfl #[.agg #[.bool t168, .int .u64 t169, .int .u64 t170], .agg #[.bool t171, .int .u64 t172, .int .u64 t173]] (by rfl) rfl rfl mp_ ?_
            with_reducible refine (spec_AddWide.calls k t168 t169 t170 t171 t172 t173 t174 t175 t176 t177 _ A5.out).mono ?_
            rintro e w75 ⟨rfl, hb⟩
            refine ⟨_, rfl, ?_⟩
            have n0_ := bb_ (g := gb166) (o := .cells #[.bool a0_0, .int .u64 a0_1, .int .u64 a0_2] 32 (0, 0)) hb
            have n1_ := bb_ (g := gb167) (o := .cells #[.bool a1_0, .int .u64 a1_1, .int .u64 a1_2] 32 (0, 0)) hb
            have n2_ := Aside0.mk (below_step bel_ hb)
            clear BK166
            clear BK167
            clear HB
            have BK166 := n0_
            have BK167 := n1_
            have HB := n2_
            clear n0_ n1_ n2_
            (try clear hb)
            (try clear hb2)
            (try clear hk)
            (try clear hi)
            refine hK.out _ _ ⟨bc_, bc_, bc_, bc_, bc_, bc_⟩ (fun hHeld => ?_)
            clear hK K
            refine norm_ (a' := ?_) ?_ ?_
            rotate_left
            · show Act.put _ (some 14) _ = _
              simp only [Act.put, la_, lb_, lc_, i64_w, i32_w]
              rfl
            refine pure_ (i := 5) (N := some 9) (v := ?_) (a' := ?_) #[true, true, true, true, true, true, false, false, false, false, false] rfl rfl (any_of HT_.out (by kernel_rfl)) (fun _ _ _ h => h) (Or.inl ⟨by rfl, ?_⟩) ?_ ?_
            rotate_left
            · intro w'
              go_simp
              with_reducible rfl
            rotate_left
            · simp only [Act.put, la_, lb_, lc_, i64_w, i32_w]
              rfl
            refine pure_ (i := 6) (N := some 15) (v := ?_) (a' := ?_) #[true, true, true, true, true, true, true, false, false, false, false] rfl rfl (any_of HT_.out (by kernel_rfl)) (fun _ _ _ h => h) (Or.inl ⟨by rfl, ?_⟩) ?_ ?_
            rotate_left
            · intro w'
              go_simp
              with_reducible rfl
            rotate_left
            · simp only [Act.put, la_, lb_, lc_, i64_w, i32_w]
              rfl
            refine pure_ (i := 7) (N := some 16) (v := ?_) (a' := ?_) #[true, true, true, true, true, true, true, true, false, false, false] rfl rfl (any_of HT_.out (by kernel_rfl)) (fun _ _ _ h => h) (Or.inl ⟨by rfl, ?_⟩) ?_ ?_
            rotate_left
            · intro w'
              go_simp
              with_reducible rfl
            rotate_left
            · simp only [Act.put, la_, lb_, lc_, i64_w, i32_w]
              rfl
            refine one_ (i := 8) (N := some 5) #[true, true, true, true, true, true, true, true, true, false, false] rfl rfl (one_of HT_.out (by kernel_rfl)) (by decide) (fun K hK => ?_)
            refine box_step ?hg (N := 5) ?hd (cs := #[.bool false, .int .u64 0, .int .u64 0]) (t := 33) ?hr ?_; (case hd => rfl); (case hg => rfl); (case hr => first | (go_simp; done) | (go_simp; rfl))
            intro gb178 hg w76 hbox hb
            have n0_ := bb_ (g := gb166) (o := .cells #[.bool a0_0, .int .u64 a0_1, .int .u64 a0_2] 32 (0, 0)) hb
            have n1_ := bb_ (g := gb167) (o := .cells #[.bool a1_0, .int .u64 a1_1, .int .u64 a1_2] 32 (0, 0)) hb
            have n2_ := Aside0.mk (below_step bel_ hb)
            have n3_ := Aside0.mk (hbox)
            have n4_ := Aside0.mk ((by rw [hg]; exact (below_size bel_) : w.heap.size ≤ gb178))
            have n5_ := Aside0.mk ((by rw [hg]; exact (below_size bel_) : w.heap.size ≤ gb178))
            have n6_ := nlt_ (g := gb166) (o := .cells #[.bool a0_0, .int .u64 a0_1, .int .u64 a0_2] 32 (0, 0)) hg
            have n7_ := ngt_ (g := gb166) (o := .cells #[.bool a0_0, .int .u64 a0_1, .int .u64 a0_2] 32 (0, 0)) hg
            have n8_ := nlt_ (g := gb167) (o := .cells #[.bool a1_0, .int .u64 a1_1, .int .u64 a1_2] 32 (0, 0)) hg
            have n9_ := ngt_ (g := gb167) (o := .cells #[.bool a1_0, .int .u64 a1_1, .int .u64 a1_2] 32 (0, 0)) hg
            clear BK166
            clear BK167
            clear HB
            have BK166 := n0_
            have BK167 := n1_
            have HB := n2_
            have BK178 := n3_
            have GW178 := n4_
            have GE178 := n5_
            have NB166_178 := n6_
            have NB178_166 := n7_
            have NB167_178 := n8_
            have NB178_167 := n9_
            clear n0_ n1_ n2_ n3_ n4_ n5_ n6_ n7_ n8_ n9_
            clear hb hbox hg
            refine hK.out _ _ ⟨bc_, bc_, bc_, bc_, bc_, bc_⟩ (fun hHeld => ?_)
            clear hK K
            refine norm_ (a' := ?_) ?_ ?_
            rotate_left
            · show Act.put _ (some 5) _ = _
              simp only [Act.put, la_, lb_, lc_, i64_w, i32_w]
              rfl
            exact norm_ (by simp only [putAll, Act.put, la_, lb_, lc_]) (hCont (gb178) _ ⟨hHeld, (by (with_reducible repeat (first | refine bN_ _ ?_ | refine bd_ ?_ | refine ba_ _ ?_)); exact BK166.out), (by (with_reducible repeat (first | refine bN_ _ ?_ | refine bd_ ?_ | refine ba_ _ ?_)); exact BK167.out), (by (with_reducible repeat (first | refine bN_ _ ?_ | refine bd_ ?_ | refine ba_ _ ?_)); exact BK178.out), GW178.out, GE178.out, NB166_178.out, NB178_166.out, NB167_178.out, NB178_167.out, bel_⟩)
          · skip
            refine box_step ?hg (N := 5) ?hd (cs := #[.bool false, .int .u64 0, .int .u64 0]) (t := 33) ?hr ?_; (case hd => rfl); (case hg => rfl); (case hr => first | (go_simp; done) | (go_simp; rfl))
            intro gb178 hg w75 hbox hb
            have n0_ := bb_ (g := gb166) (o := .cells #[.bool a0_0, .int .u64 a0_1, .int .u64 a0_2] 32 (0, 0)) hb
            have n1_ := bb_ (g := gb167) (o := .cells #[.bool a1_0, .int .u64 a1_1, .int .u64 a1_2] 32 (0, 0)) hb
            have n2_ := Aside0.mk (below_step bel_ hb)
            have n3_ := Aside0.mk (hbox)
            have n4_ := Aside0.mk ((by rw [hg]; exact (below_size bel_) : w.heap.size ≤ gb178))
            have n5_ := Aside0.mk ((by rw [hg]; exact (below_size bel_) : w.heap.size ≤ gb178))
            have n6_ := nlt_ (g := gb166) (o := .cells #[.bool a0_0, .int .u64 a0_1, .int .u64 a0_2] 32 (0, 0)) hg
            have n7_ := ngt_ (g := gb166) (o := .cells #[.bool a0_0, .int .u64 a0_1, .int .u64 a0_2] 32 (0, 0)) hg
            have n8_ := nlt_ (g := gb167) (o := .cells #[.bool a1_0, .int .u64 a1_1, .int .u64 a1_2] 32 (0, 0)) hg
            have n9_ := ngt_ (g := gb167) (o := .cells #[.bool a1_0, .int .u64 a1_1, .int .u64 a1_2] 32 (0, 0)) hg
            clear BK166
            clear BK167
            clear HB
            have BK166 := n0_
            have BK167 := n1_
            have HB := n2_
            have BK178 := n3_
            have GW178 := n4_
            have GE178 := n5_
            have NB166_178 := n6_
            have NB178_166 := n7_
            have NB167_178 := n8_
            have NB178_167 := n9_
            clear n0_ n1_ n2_ n3_ n4_ n5_ n6_ n7_ n8_ n9_
            clear hb hbox hg
            refine hK.out _ _ ⟨bc_, bc_, bc_, bc_, bc_, bc_⟩ (fun hHeld => ?_)
            clear hK K
            refine norm_ (a' := ?_) ?_ ?_
            rotate_left
            · show Act.put _ (some 5) _ = _
              simp only [Act.put, la_, lb_, lc_, i64_w, i32_w]
              rfl
            refine one_ (i := 4) (N := some 14) #[true, true, true, true, true, false, false, false, true, false, false] rfl rfl (one_of HT_.out (by kernel_rfl)) (by decide) (fun K hK => ?_)
            refine goes_ Try.func47 (by kernel_rfl) rfl #[.agg #[.bool t168, .int .u64 t169, .int .u64 t170], .agg #[.bool t171, .int .u64 t172, .int .u64 t173]] (by rfl) rfl rfl mp_ ?_
            with_reducible refine (spec_AddWide.calls k t168 t169 t170 t171 t172 t173 t174 t175 t176 t177 _ A5.out).mono ?_
            rintro e w76 ⟨rfl, hb⟩
            refine ⟨_, rfl, ?_⟩
            have n0_ := bb_ (g := gb166) (o := .cells #[.bool a0_0, .int .u64 a0_1, .int .u64 a0_2] 32 (0, 0)) hb
            have n1_ := bb_ (g := gb167) (o := .cells #[.bool a1_0, .int .u64 a1_1, .int .u64 a1_2] 32 (0, 0)) hb
            have n2_ := bb_ (g := gb178) (o := .cells #[.bool false, .int .u64 0, .int .u64 0] 33 (0, 0)) hb
            have n3_ := Aside0.mk (below_step bel_ hb)
            clear BK166
            clear BK167
            clear BK178
            clear HB
            have BK166 := n0_
            have BK167 := n1_
            have BK178 := n2_
            have HB := n3_
            clear n0_ n1_ n2_ n3_
            (try clear hb)
            (try clear hb2)
            (try clear hk)
            (try clear hi)
            refine hK.out _ _ ⟨bc_, bc_, bc_, bc_, bc_, bc_⟩ (fun hHeld => ?_)
            clear hK K
            refine norm_ (a' := ?_) ?_ ?_
            rotate_left
            · show Act.put _ (some 14) _ = _
              simp only [Act.put, la_, lb_, lc_, i64_w, i32_w]
              rfl
            refine pure_ (i := 5) (N := some 9) (v := ?_) (a' := ?_) #[true, true, true, true, true, true, false, false, true, false, false] rfl rfl (any_of HT_.out (by kernel_rfl)) (fun _ _ _ h => h) (Or.inl ⟨by rfl, ?_⟩) ?_ ?_
            rotate_left
            · intro w'
              go_simp
              with_reducible rfl
            rotate_left
            · simp only [Act.put, la_, lb_, lc_, i64_w, i32_w]
              rfl
            refine pure_ (i := 6) (N := some 15) (v := ?_) (a' := ?_) #[true, true, true, true, true, true, true, false, true, false, false] rfl rfl (any_of HT_.out (by kernel_rfl)) (fun _ _ _ h => h) (Or.inl ⟨by rfl, ?_⟩) ?_ ?_
            rotate_left
            · intro w'
              go_simp
              with_reducible rfl
            rotate_left
            · simp only [Act.put, la_, lb_, lc_, i64_w, i32_w]
              rfl
            refine pure_ (i := 7) (N := some 16) (v := ?_) (a' := ?_) #[true, true, true, true, true, true, true, true, true, false, false] rfl rfl (any_of HT_.out (by kernel_rfl)) (fun _ _ _ h => h) (Or.inl ⟨by rfl, ?_⟩) ?_ ?_
            rotate_left
            · intro w'
              go_simp
              with_reducible rfl
            rotate_left
            · simp only [Act.put, la_, lb_, lc_, i64_w, i32_w]
              rfl
            exact norm_ (by simp only [putAll, Act.put, la_, lb_, lc_]) (hCont (gb178) _ ⟨hHeld, (by (with_reducible repeat (first | refine bN_ _ ?_ | refine bd_ ?_ | refine ba_ _ ?_)); exact BK166.out), (by (with_reducible repeat (first | refine bN_ _ ?_ | refine bd_ ?_ | refine ba_ _ ?_)); exact BK167.out), (by (with_reducible repeat (first | refine bN_ _ ?_ | refine bd_ ?_ | refine ba_ _ ?_)); exact BK178.out), GW178.out, GE178.out, NB166_178.out, NB178_166.out, NB167_178.out, NB178_167.out, bel_⟩)
        · skip
          refine box_step ?hg (N := 5) ?hd (cs := #[.bool false, .int .u64 0, .int .u64 0]) (t := 33) ?hr ?_; (case hd => rfl); (case hg => rfl); (case hr => first | (go_simp; done) | (go_simp; rfl))
          intro gb178 hg w74 hbox hb
          have n0_ := bb_ (g := gb166) (o := .cells #[.bool a0_0, .int .u64 a0_1, .int .u64 a0_2] 32 (0, 0)) hb
          have n1_ := bb_ (g := gb167) (o := .cells #[.bool a1_0, .int .u64 a1_1, .int .u64 a1_2] 32 (0, 0)) hb
          have n2_ := Aside0.mk (below_step bel_ hb)
          have n3_ := Aside0.mk (hbox)
          have n4_ := Aside0.mk ((by rw [hg]; exact (below_size bel_) : w.heap.size ≤ gb178))
          have n5_ := Aside0.mk ((by rw [hg]; exact (below_size bel_) : w.heap.size ≤ gb178))
          have n6_ := nlt_ (g := gb166) (o := .cells #[.bool a0_0, .int .u64 a0_1, .int .u64 a0_2] 32 (0, 0)) hg
          have n7_ := ngt_ (g := gb166) (o := .cells #[.bool a0_0, .int .u64 a0_1, .int .u64 a0_2] 32 (0, 0)) hg
          have n8_ := nlt_ (g := gb167) (o := .cells #[.bool a1_0, .int .u64 a1_1, .int .u64 a1_2] 32 (0, 0)) hg
          have n9_ := ngt_ (g := gb167) (o := .cells #[.bool a1_0, .int .u64 a1_1, .int .u64 a1_2] 32 (0, 0)) hg
          clear BK166
          clear BK167
          clear HB
          have BK166 := n0_
          have BK167 := n1_
          have HB := n2_
          have BK178 := n3_
          have GW178 := n4_
          have GE178 := n5_
          have NB166_178 := n6_
          have NB178_166 := n7_
          have NB167_178 := n8_
          have NB178_167 := n9_
          clear n0_ n1_ n2_ n3_ n4_ n5_ n6_ n7_ n8_ n9_
          clear hb hbox hg
          refine hK.out _ _ ⟨bc_, bc_, bc_, bc_, bc_, bc_⟩ (fun hHeld => ?_)
          clear hK K
          refine norm_ (a' := ?_) ?_ ?_
          rotate_left
          · show Act.put _ (some 5) _ = _
            simp only [Act.put, la_, lb_, lc_, i64_w, i32_w]
            rfl
          refine one_ (i := 3) (N := some 13) #[true, true, true, true, false, false, false, false, true, false, false] rfl rfl (one_of HT_.out (by kernel_rfl)) (by decide) (fun K hK => ?_)
          refine goes_ Try.func20 (by kernel_rfl) rfl #[.agg #[.bool a1_0, .int .u64 a1_1, .int .u64 a1_2]] (by rfl) rfl rfl mp_ ?_
          with_reducible refine (laws_toWide.calls a1_0 a1_1 a1_2 t171 t172 t173 _ A4.out).mono ?_
          rintro e w75 ⟨rfl, hb⟩
          refine ⟨_, rfl, ?_⟩
          have n0_ := bb_ (g := gb166) (o := .cells #[.bool a0_0, .int .u64 a0_1, .int .u64 a0_2] 32 (0, 0)) hb
          have n1_ := bb_ (g := gb167) (o := .cells #[.bool a1_0, .int .u64 a1_1, .int .u64 a1_2] 32 (0, 0)) hb
          have n2_ := bb_ (g := gb178) (o := .cells #[.bool false, .int .u64 0, .int .u64 0] 33 (0, 0)) hb
          have n3_ := Aside0.mk (below_step bel_ hb)
          clear BK166
          clear BK167
          clear BK178
          clear HB
          have BK166 := n0_
          have BK167 := n1_
          have BK178 := n2_
          have HB := n3_
          clear n0_ n1_ n2_ n3_
          (try clear hb)
          (try clear hb2)
          (try clear hk)
          (try clear hi)
          refine hK.out _ _ ⟨bc_, bc_, bc_, bc_, bc_, bc_⟩ (fun hHeld => ?_)
          clear hK K
          refine norm_ (a' := ?_) ?_ ?_
          rotate_left
          · show Act.put _ (some 13) _ = _
            simp only [Act.put, la_, lb_, lc_, i64_w, i32_w]
            rfl
          refine one_ (i := 4) (N := some 14) #[true, true, true, true, true, false, false, false, true, false, false] rfl rfl (one_of HT_.out (by kernel_rfl)) (by decide) (fun K hK => ?_)
          refine goes_ Try.func47 (by kernel_rfl) rfl #[.agg #[.bool t168, .int .u64 t169, .int .u64 t170], .agg #[.bool t171, .int .u64 t172, .int .u64 t173]] (by rfl) rfl rfl mp_ ?_
          with_reducible refine (spec_AddWide.calls k t168 t169 t170 t171 t172 t173 t174 t175 t176 t177 _ A5.out).mono ?_
          rintro e w76 ⟨rfl, hb⟩
          refine ⟨_, rfl, ?_⟩
          have n0_ := bb_ (g := gb166) (o := .cells #[.bool a0_0, .int .u64 a0_1, .int .u64 a0_2] 32 (0, 0)) hb
          have n1_ := bb_ (g := gb167) (o := .cells #[.bool a1_0, .int .u64 a1_1, .int .u64 a1_2] 32 (0, 0)) hb
          have n2_ := bb_ (g := gb178) (o := .cells #[.bool false, .int .u64 0, .int .u64 0] 33 (0, 0)) hb
          have n3_ := Aside0.mk (below_step bel_ hb)
          clear BK166
          clear BK167
          clear BK178
          clear HB
          have BK166 := n0_
          have BK167 := n1_
          have BK178 := n2_
          have HB := n3_
          clear n0_ n1_ n2_ n3_
          (try clear hb)
          (try clear hb2)
          (try clear hk)
          (try clear hi)
          refine hK.out _ _ ⟨bc_, bc_, bc_, bc_, bc_, bc_⟩ (fun hHeld => ?_)
          clear hK K
          refine norm_ (a' := ?_) ?_ ?_
          rotate_left
          · show Act.put _ (some 14) _ = _
            simp only [Act.put, la_, lb_, lc_, i64_w, i32_w]
            rfl
          refine pure_ (i := 5) (N := some 9) (v := ?_) (a' := ?_) #[true, true, true, true, true, true, false, false, true, false, false] rfl rfl (any_of HT_.out (by kernel_rfl)) (fun _ _ _ h => h) (Or.inl ⟨by rfl, ?_⟩) ?_ ?_
          rotate_left
          · intro w'
            go_simp
            with_reducible rfl
          rotate_left
          · simp only [Act.put, la_, lb_, lc_, i64_w, i32_w]
            rfl
          refine pure_ (i := 6) (N := some 15) (v := ?_) (a' := ?_) #[true, true, true, true, true, true, true, false, true, false, false] rfl rfl (any_of HT_.out (by kernel_rfl)) (fun _ _ _ h => h) (Or.inl ⟨by rfl, ?_⟩) ?_ ?_
          rotate_left
          · intro w'
            go_simp
            with_reducible rfl
          rotate_left
          · simp only [Act.put, la_, lb_, lc_, i64_w, i32_w]
            rfl
          refine pure_ (i := 7) (N := some 16) (v := ?_) (a' := ?_) #[true, true, true, true, true, true, true, true, true, false, false] rfl rfl (any_of HT_.out (by kernel_rfl)) (fun _ _ _ h => h) (Or.inl ⟨by rfl, ?_⟩) ?_ ?_
          rotate_left
          · intro w'
            go_simp
            with_reducible rfl
          rotate_left
          · simp only [Act.put, la_, lb_, lc_, i64_w, i32_w]
            rfl
          exact norm_ (by simp only [putAll, Act.put, la_, lb_, lc_]) (hCont (gb178) _ ⟨hHeld, (by (with_reducible repeat (first | refine bN_ _ ?_ | refine bd_ ?_ | refine ba_ _ ?_)); exact BK166.out), (by (with_reducible repeat (first | refine bN_ _ ?_ | refine bd_ ?_ | refine ba_ _ ?_)); exact BK167.out), (by (with_reducible repeat (first | refine bN_ _ ?_ | refine bd_ ?_ | refine ba_ _ ?_)); exact BK178.out), GW178.out, GE178.out, NB166_178.out, NB178_166.out, NB167_178.out, NB178_167.out, bel_⟩)
      · skip
        refine box_step ?hg (N := 5) ?hd (cs := #[.bool false, .int .u64 0, .int .u64 0]) (t := 33) ?hr ?_; (case hd => rfl); (case hg => rfl); (case hr => first | (go_simp; done) | (go_simp; rfl))
        intro gb178 hg w73 hbox hb
        have n0_ := bb_ (g := gb166) (o := .cells #[.bool a0_0, .int .u64 a0_1, .int .u64 a0_2] 32 (0, 0)) hb
        have n1_ := bb_ (g := gb167) (o := .cells #[.bool a1_0, .int .u64 a1_1, .int .u64 a1_2] 32 (0, 0)) hb
        have n2_ := Aside0.mk (below_step bel_ hb)
        have n3_ := Aside0.mk (hbox)
        have n4_ := Aside0.mk ((by rw [hg]; exact (below_size bel_) : w.heap.size ≤ gb178))
        have n5_ := Aside0.mk ((by rw [hg]; exact (below_size bel_) : w.heap.size ≤ gb178))
        have n6_ := nlt_ (g := gb166) (o := .cells #[.bool a0_0, .int .u64 a0_1, .int .u64 a0_2] 32 (0, 0)) hg
        have n7_ := ngt_ (g := gb166) (o := .cells #[.bool a0_0, .int .u64 a0_1, .int .u64 a0_2] 32 (0, 0)) hg
        have n8_ := nlt_ (g := gb167) (o := .cells #[.bool a1_0, .int .u64 a1_1, .int .u64 a1_2] 32 (0, 0)) hg
        have n9_ := ngt_ (g := gb167) (o := .cells #[.bool a1_0, .int .u64 a1_1, .int .u64 a1_2] 32 (0, 0)) hg
        clear BK166
        clear BK167
        clear HB
        have BK166 := n0_
        have BK167 := n1_
        have HB := n2_
        have BK178 := n3_
        have GW178 := n4_
        have GE178 := n5_
        have NB166_178 := n6_
        have NB178_166 := n7_
        have NB167_178 := n8_
        have NB178_167 := n9_
        clear n0_ n1_ n2_ n3_ n4_ n5_ n6_ n7_ n8_ n9_
        clear hb hbox hg
        refine hK.out _ _ ⟨bc_, bc_, bc_, bc_, bc_, bc_⟩ (fun hHeld => ?_)
        clear hK K
        refine norm_ (a' := ?_) ?_ ?_
        rotate_left
        · show Act.put _ (some 5) _ = _
          simp only [Act.put, la_, lb_, lc_, i64_w, i32_w]
          rfl
        refine one_ (i := 1) (N := some 11) #[true, true, true, false, false, false, false, false, true, false, false] rfl rfl (one_of HT_.out (by kernel_rfl)) (by decide) (fun K hK => ?_)
        refine goes_ Try.func20 (by kernel_rfl) rfl #[.agg #[.bool a0_0, .int .u64 a0_1, .int .u64 a0_2]] (by rfl) rfl rfl mp_ ?_
        with_reducible refine (laws_toWide.calls a0_0 a0_1 a0_2 t168 t169 t170 _ A3.out).mono ?_
        rintro e w74 ⟨rfl, hb⟩
        refine ⟨_, rfl, ?_⟩
        have n0_ := bb_ (g := gb166) (o := .cells #[.bool a0_0, .int .u64 a0_1, .int .u64 a0_2] 32 (0, 0)) hb
        have n1_ := bb_ (g := gb167) (o := .cells #[.bool a1_0, .int .u64 a1_1, .int .u64 a1_2] 32 (0, 0)) hb
        have n2_ := bb_ (g := gb178) (o := .cells #[.bool false, .int .u64 0, .int .u64 0] 33 (0, 0)) hb
        have n3_ := Aside0.mk (below_step bel_ hb)
        clear BK166
        clear BK167
        clear BK178
        clear HB
        have BK166 := n0_
        have BK167 := n1_
        have BK178 := n2_
        have HB := n3_
        clear n0_ n1_ n2_ n3_
        (try clear hb)
        (try clear hb2)
        (try clear hk)
        (try clear hi)
        refine hK.out _ _ ⟨bc_, bc_, bc_, bc_, bc_, bc_⟩ (fun hHeld => ?_)
        clear hK K
        refine norm_ (a' := ?_) ?_ ?_
        rotate_left
        · show Act.put _ (some 11) _ = _
          simp only [Act.put, la_, lb_, lc_, i64_w, i32_w]
          rfl
        refine one_ (i := 3) (N := some 13) #[true, true, true, true, false, false, false, false, true, false, false] rfl rfl (one_of HT_.out (by kernel_rfl)) (by decide) (fun K hK => ?_)
        refine goes_ Try.func20 (by kernel_rfl) rfl #[.agg #[.bool a1_0, .int .u64 a1_1, .int .u64 a1_2]] (by rfl) rfl rfl mp_ ?_
        with_reducible refine (laws_toWide.calls a1_0 a1_1 a1_2 t171 t172 t173 _ A4.out).mono ?_
        rintro e w75 ⟨rfl, hb⟩
        refine ⟨_, rfl, ?_⟩
        have n0_ := bb_ (g := gb166) (o := .cells #[.bool a0_0, .int .u64 a0_1, .int .u64 a0_2] 32 (0, 0)) hb
        have n1_ := bb_ (g := gb167) (o := .cells #[.bool a1_0, .int .u64 a1_1, .int .u64 a1_2] 32 (0, 0)) hb
        have n2_ := bb_ (g := gb178) (o := .cells #[.bool false, .int .u64 0, .int .u64 0] 33 (0, 0)) hb
        have n3_ := Aside0.mk (below_step bel_ hb)
        clear BK166
        clear BK167
        clear BK178
        clear HB
        have BK166 := n0_
        have BK167 := n1_
        have BK178 := n2_
        have HB := n3_
        clear n0_ n1_ n2_ n3_
        (try clear hb)
        (try clear hb2)
        (try clear hk)
        (try clear hi)
        refine hK.out _ _ ⟨bc_, bc_, bc_, bc_, bc_, bc_⟩ (fun hHeld => ?_)
        clear hK K
        refine norm_ (a' := ?_) ?_ ?_
        rotate_left
        · show Act.put _ (some 13) _ = _
          simp only [Act.put, la_, lb_, lc_, i64_w, i32_w]
          rfl
        refine one_ (i := 4) (N := some 14) #[true, true, true, true, true, false, false, false, true, false, false] rfl rfl (one_of HT_.out (by kernel_rfl)) (by decide) (fun K hK => ?_)
        refine goes_ Try.func47 (by kernel_rfl) rfl #[.agg #[.bool t168, .int .u64 t169, .int .u64 t170], .agg #[.bool t171, .int .u64 t172, .int .u64 t173]] (by rfl) rfl rfl mp_ ?_
        with_reducible refine (spec_AddWide.calls k t168 t169 t170 t171 t172 t173 t174 t175 t176 t177 _ A5.out).mono ?_
        rintro e w76 ⟨rfl, hb⟩
        refine ⟨_, rfl, ?_⟩
        have n0_ := bb_ (g := gb166) (o := .cells #[.bool a0_0, .int .u64 a0_1, .int .u64 a0_2] 32 (0, 0)) hb
        have n1_ := bb_ (g := gb167) (o := .cells #[.bool a1_0, .int .u64 a1_1, .int .u64 a1_2] 32 (0, 0)) hb
        have n2_ := bb_ (g := gb178) (o := .cells #[.bool false, .int .u64 0, .int .u64 0] 33 (0, 0)) hb
        have n3_ := Aside0.mk (below_step bel_ hb)
        clear BK166
        clear BK167
        clear BK178
        clear HB
        have BK166 := n0_
        have BK167 := n1_
        have BK178 := n2_
        have HB := n3_
        clear n0_ n1_ n2_ n3_
        (try clear hb)
        (try clear hb2)
        (try clear hk)
        (try clear hi)
        refine hK.out _ _ ⟨bc_, bc_, bc_, bc_, bc_, bc_⟩ (fun hHeld => ?_)
        clear hK K
        refine norm_ (a' := ?_) ?_ ?_
        rotate_left
        · show Act.put _ (some 14) _ = _
          simp only [Act.put, la_, lb_, lc_, i64_w, i32_w]
          rfl
        refine pure_ (i := 5) (N := some 9) (v := ?_) (a' := ?_) #[true, true, true, true, true, true, false, false, true, false, false] rfl rfl (any_of HT_.out (by kernel_rfl)) (fun _ _ _ h => h) (Or.inl ⟨by rfl, ?_⟩) ?_ ?_
        rotate_left
        · intro w'
          go_simp
          with_reducible rfl
        rotate_left
        · simp only [Act.put, la_, lb_, lc_, i64_w, i32_w]
          rfl
        refine pure_ (i := 6) (N := some 15) (v := ?_) (a' := ?_) #[true, true, true, true, true, true, true, false, true, false, false] rfl rfl (any_of HT_.out (by kernel_rfl)) (fun _ _ _ h => h) (Or.inl ⟨by rfl, ?_⟩) ?_ ?_
        rotate_left
        · intro w'
          go_simp
          with_reducible rfl
        rotate_left
        · simp only [Act.put, la_, lb_, lc_, i64_w, i32_w]
          rfl
        refine pure_ (i := 7) (N := some 16) (v := ?_) (a' := ?_) #[true, true, true, true, true, true, true, true, true, false, false] rfl rfl (any_of HT_.out (by kernel_rfl)) (fun _ _ _ h => h) (Or.inl ⟨by rfl, ?_⟩) ?_ ?_
        rotate_left
        · intro w'
          go_simp
          with_reducible rfl
        rotate_left
        · simp only [Act.put, la_, lb_, lc_, i64_w, i32_w]
          rfl
        exact norm_ (by simp only [putAll, Act.put, la_, lb_, lc_]) (hCont (gb178) _ ⟨hHeld, (by (with_reducible repeat (first | refine bN_ _ ?_ | refine bd_ ?_ | refine ba_ _ ?_)); exact BK166.out), (by (with_reducible repeat (first | refine bN_ _ ?_ | refine bd_ ?_ | refine ba_ _ ?_)); exact BK167.out), (by (with_reducible repeat (first | refine bN_ _ ?_ | refine bd_ ?_ | refine ba_ _ ?_)); exact BK178.out), GW178.out, GE178.out, NB166_178.out, NB178_166.out, NB167_178.out, NB178_167.out, bel_⟩)
    rintro gb178 w77 ⟨hS_, h0_, h1_, h2_, h3_, h4_, h5_, h6_, h7_, h8_, h9_⟩
    have n0_ : Aside0 (w77.heap[gb166]? = some (.cells #[.bool a0_0, .int .u64 a0_1, .int .u64 a0_2] 32 (0, 0))) := ⟨h0_⟩
    have n1_ : Aside0 (w77.heap[gb167]? = some (.cells #[.bool a1_0, .int .u64 a1_1, .int .u64 a1_2] 32 (0, 0))) := ⟨h1_⟩
    have n2_ : Aside0 (w77.heap[gb178]? = some (.cells #[.bool false, .int .u64 0, .int .u64 0] 33 (0, 0))) := ⟨h2_⟩
    have n3_ : Aside0 (w.heap.size ≤ gb178) := ⟨h3_⟩
    have n4_ : Aside0 (w.heap.size ≤ gb178) := ⟨h4_⟩
    have n5_ : Aside0 (gb166 ≠ gb178) := ⟨h5_⟩
    have n6_ : Aside0 (gb178 ≠ gb166) := ⟨h6_⟩
    have n7_ : Aside0 (gb167 ≠ gb178) := ⟨h7_⟩
    have n8_ : Aside0 (gb178 ≠ gb167) := ⟨h8_⟩
    have n9_ : Aside0 (Below w.heap.size w w77) := ⟨h9_⟩
    clear BK166
    clear BK167
    clear HB
    clear h0_ h1_ h2_ h3_ h4_ h5_ h6_ h7_ h8_ h9_
    have BK166 := n0_
    have BK167 := n1_
    have BK178 := n2_
    have GW178 := n3_
    have GE178 := n4_
    have NB166_178 := n5_
    have NB178_166 := n6_
    have NB167_178 := n7_
    have NB178_167 := n8_
    have HB := n9_
    clear n0_ n1_ n2_ n3_ n4_ n5_ n6_ n7_ n8_ n9_
    have hHeld : w77.cell? ⟨gb166, 0, none⟩ = some (.bool a0_0) ∧ w77.cell? ⟨gb166, 1, none⟩ = some (.int .u64 a0_1) ∧ w77.cell? ⟨gb166, 2, none⟩ = some (.int .u64 a0_2) ∧ w77.cell? ⟨gb167, 0, none⟩ = some (.bool a1_0) ∧ w77.cell? ⟨gb167, 1, none⟩ = some (.int .u64 a1_1) ∧ w77.cell? ⟨gb167, 2, none⟩ = some (.int .u64 a1_2) := hS_
    refine norm_ (a' := ?_) ?_ ?_
    rotate_left
    · simp only [putAll, Act.put, la_, lb_, lc_]
      rfl
    refine one_ (i := 9) (N := none) #[true, true, true, true, true, true, true, true, true, true, false] rfl rfl (one_of HT_.out (by kernel_rfl)) (by decide) (fun K hK => ?_)
    have hs78 : w77.cell? ⟨gb178, 0, none⟩ = some (.bool false) := (blk_cell BK178.out 0).trans rfl
    have hfs78 := blk_frozen BK178.out 0
    have hns78_0 := NB166_178.out
    have hns78_1 := NB167_178.out
    have hms78_0 := NB178_166.out
    have hms78_1 := NB178_167.out
    have hs79 : w77.cell? ⟨gb178, 1, none⟩ = some (.int .u64 0) := (blk_cell BK178.out 1).trans rfl
    have hfs79 := blk_frozen BK178.out 1
    have hns79_0 := NB166_178.out
    have hns79_1 := NB167_178.out
    have hms79_0 := NB178_166.out
    have hms79_1 := NB178_167.out
    have hs80 : w77.cell? ⟨gb178, 2, none⟩ = some (.int .u64 0) := (blk_cell BK178.out 2).trans rfl
    have hfs80 := blk_frozen BK178.out 2
    have hns80_0 := NB166_178.out
    have hns80_1 := NB167_178.out
    have hms80_0 := NB178_166.out
    have hms80_1 := NB178_167.out
    refine skip_ (w1 := ?_) (by rfl) rfl ?_ ?_
    rotate_left
    · go_simp
      rfl
    refine hK.out _ _ ⟨((cell_far (p := ⟨gb178, _, none⟩) NB166_178.out _).trans (((cell_far (p := ⟨gb178, _, none⟩) NB166_178.out _).trans (((cell_far (p := ⟨gb178, _, none⟩) NB166_178.out _).trans (hHeld.1)))))), ((cell_far (p := ⟨gb178, _, none⟩) NB166_178.out _).trans (((cell_far (p := ⟨gb178, _, none⟩) NB166_178.out _).trans (((cell_far (p := ⟨gb178, _, none⟩) NB166_178.out _).trans (hHeld.2.1)))))), ((cell_far (p := ⟨gb178, _, none⟩) NB166_178.out _).trans (((cell_far (p := ⟨gb178, _, none⟩) NB166_178.out _).trans (((cell_far (p := ⟨gb178, _, none⟩) NB166_178.out _).trans (hHeld.2.2.1)))))), ((cell_far (p := ⟨gb178, _, none⟩) NB167_178.out _).trans (((cell_far (p := ⟨gb178, _, none⟩) NB167_178.out _).trans (((cell_far (p := ⟨gb178, _, none⟩) NB167_178.out _).trans (hHeld.2.2.2.1)))))), ((cell_far (p := ⟨gb178, _, none⟩) NB167_178.out _).trans (((cell_far (p := ⟨gb178, _, none⟩) NB167_178.out _).trans (((cell_far (p := ⟨gb178, _, none⟩) NB167_178.out _).trans (hHeld.2.2.2.2.1)))))), ((cell_far (p := ⟨gb178, _, none⟩) NB167_178.out _).trans (((cell_far (p := ⟨gb178, _, none⟩) NB167_178.out _).trans (((cell_far (p := ⟨gb178, _, none⟩) NB167_178.out _).trans (hHeld.2.2.2.2.2))))))⟩ (fun hHeld => ?_)
    clear hK K
    refine pure_ (i := 10) (N := some 6) (v := ?_) (a' := ?_) #[true, true, true, true, true, true, true, true, true, true, true] rfl rfl (any_of HT_.out (by kernel_rfl)) (fun _ _ _ h => h) (Or.inl ⟨by rfl, ?_⟩) ?_ ?_
    rotate_left
    · intro w'
      go_simp
      with_reducible rfl
    rotate_left
    · simp only [Act.put, la_, lb_, lc_, i64_w, i32_w]
      rfl
    refine done_ (done_of HT_.out (by kernel_rfl)) ?_
    try go_wp2
    have n0_ : Aside0 ((((w77.setCell ⟨gb178, 0, none⟩ (.bool t174)).setCell ⟨gb178, 1, none⟩ (.int .u64 t175)).setCell ⟨gb178, 2, none⟩ (.int .u64 t176)).heap[gb166]? = some (.cells #[.bool a0_0, .int .u64 a0_1, .int .u64 a0_2] 32 (0, 0))) := ⟨by (with_reducible repeat (first | refine bN_ _ ?_ | refine bd_ ?_ | refine ba_ _ ?_)); refine blk_far ?_ NB166_178.out _; (with_reducible repeat (first | refine bN_ _ ?_ | refine bd_ ?_ | refine ba_ _ ?_)); refine blk_far ?_ NB166_178.out _; (with_reducible repeat (first | refine bN_ _ ?_ | refine bd_ ?_ | refine ba_ _ ?_)); refine blk_far ?_ NB166_178.out _; (with_reducible repeat (first | refine bN_ _ ?_ | refine bd_ ?_ | refine ba_ _ ?_)); exact BK166.out⟩
    have n1_ : Aside0 ((((w77.setCell ⟨gb178, 0, none⟩ (.bool t174)).setCell ⟨gb178, 1, none⟩ (.int .u64 t175)).setCell ⟨gb178, 2, none⟩ (.int .u64 t176)).heap[gb167]? = some (.cells #[.bool a1_0, .int .u64 a1_1, .int .u64 a1_2] 32 (0, 0))) := ⟨by (with_reducible repeat (first | refine bN_ _ ?_ | refine bd_ ?_ | refine ba_ _ ?_)); refine blk_far ?_ NB167_178.out _; (with_reducible repeat (first | refine bN_ _ ?_ | refine bd_ ?_ | refine ba_ _ ?_)); refine blk_far ?_ NB167_178.out _; (with_reducible repeat (first | refine bN_ _ ?_ | refine bd_ ?_ | refine ba_ _ ?_)); refine blk_far ?_ NB167_178.out _; (with_reducible repeat (first | refine bN_ _ ?_ | refine bd_ ?_ | refine ba_ _ ?_)); exact BK167.out⟩
    have n2_ : Aside0 ((((w77.setCell ⟨gb178, 0, none⟩ (.bool t174)).setCell ⟨gb178, 1, none⟩ (.int .u64 t175)).setCell ⟨gb178, 2, none⟩ (.int .u64 t176)).heap[gb178]? = some (.cells #[.bool t174, .int .u64 t175, .int .u64 t176] 33 (0, 0))) := ⟨by (with_reducible repeat (first | refine bN_ _ ?_ | refine bd_ ?_ | refine ba_ _ ?_)); refine blk_put (cs := #[.bool t174, .int .u64 t175, .int .u64 0]) ?_ 2 _ rfl; (with_reducible repeat (first | refine bN_ _ ?_ | refine bd_ ?_ | refine ba_ _ ?_)); refine blk_put (cs := #[.bool t174, .int .u64 0, .int .u64 0]) ?_ 1 _ rfl; (with_reducible repeat (first | refine bN_ _ ?_ | refine bd_ ?_ | refine ba_ _ ?_)); refine blk_put (cs := #[.bool false, .int .u64 0, .int .u64 0]) ?_ 0 _ rfl; (with_reducible repeat (first | refine bN_ _ ?_ | refine bd_ ?_ | refine ba_ _ ?_)); exact BK178.out⟩
    have n3_ : Aside0 (Below w.heap.size w (((w77.setCell ⟨gb178, 0, none⟩ (.bool t174)).setCell ⟨gb178, 1, none⟩ (.int .u64 t175)).setCell ⟨gb178, 2, none⟩ (.int .u64 t176))) := ⟨by repeat (first | (with_reducible first | exact HB.out | apply below_alloc | apply pw_below_drewN | apply below_drew1 | refine below_set ?_ GE166.out | refine below_set ?_ GE167.out | refine below_set ?_ GE178.out) | exact HB.out)⟩
    (try clear BK166)
    (try clear BK167)
    (try clear BK178)
    (try clear HB)
    generalize (((w77.setCell ⟨gb178, 0, none⟩ (.bool t174)).setCell ⟨gb178, 1, none⟩ (.int .u64 t175)).setCell ⟨gb178, 2, none⟩ (.int .u64 t176)) = w81 at n0_ n1_ n2_ n3_ ⊢
    have BK166 := n0_
    have BK167 := n1_
    have BK178 := n2_
    have HB := n3_
    clear n0_ n1_ n2_ n3_
    have n0_ := Aside0.mk (blk_drew BK166.out)
    have n1_ := Aside0.mk (blk_drew BK167.out)
    have n2_ := Aside0.mk (blk_drew BK178.out)
    have n3_ := Aside0.mk (below_drew1 HB.out)
    clear BK166
    clear BK167
    clear BK178
    clear HB
    have BK166 := n0_
    have BK167 := n1_
    have BK178 := n2_
    have HB := n3_
    clear n0_ n1_ n2_ n3_
    refine start_ (n := 11) (S := fun w' => w'.cell? ⟨gb166, 0, none⟩ = some (.bool a0_0) ∧ w'.cell? ⟨gb166, 1, none⟩ = some (.int .u64 a0_1) ∧ w'.cell? ⟨gb166, 2, none⟩ = some (.int .u64 a0_2) ∧ w'.cell? ⟨gb167, 0, none⟩ = some (.bool a1_0) ∧ w'.cell? ⟨gb167, 1, none⟩ = some (.int .u64 a1_1) ∧ w'.cell? ⟨gb167, 2, none⟩ = some (.int .u64 a1_2)) (ds := []) #[false, false, false, false, false, false, false, false, false, false, false] (by kernel_rfl) rfl rfl ⟨bc_, bc_, bc_, bc_, bc_, bc_⟩ (fun hHeld => ?_); refine with_tabW laws_FnExactAddWide.tab2 laws_FnExactAddWide.bits2 (fun HT_ HW_ => ?_)
    generalize w81.drew = w82 at BK166 BK167 BK178 HB hHeld ⊢
    refine take_ (i := 0) (N := some 18) (v := ?_) (a' := ?_) #[true, false, false, false, false, false, false, false, false, false, false] rfl rfl (take_ofW HT_.out HW_.out (by kernel_rfl)) (fun _ _ _ h => h) (Or.inl ⟨by rfl, ?_⟩) hHeld ?_ ?_
    rotate_left
    · rintro w' ⟨s0, s1, s2, s3, s4, s5⟩
      go_simp
      with_reducible rfl
    rotate_left
    · simp only [Act.put, la_, lb_, lc_, i64_w, i32_w]
      rfl
    refine take_ (i := 2) (N := some 20) (v := ?_) (a' := ?_) #[true, false, true, false, false, false, false, false, false, false, false] rfl rfl (take_ofW HT_.out HW_.out (by kernel_rfl)) (fun _ _ _ h => h) (Or.inl ⟨by rfl, ?_⟩) hHeld ?_ ?_
    rotate_left
    · rintro w' ⟨s0, s1, s2, s3, s4, s5⟩
      go_simp
      with_reducible rfl
    rotate_left
    · simp only [Act.put, la_, lb_, lc_, i64_w, i32_w]
      rfl
    refine join_ (σ := Nat) 2 #[true, true, true, true, true, true, true, true, true, false, false] (fun s_ => [(19, .agg #[.bool t179, .int .u64 t180, .int .u64 t181]), (21, .agg #[.bool t182, .int .u64 t183, .int .u64 t184]), (22, .tuple #[.agg #[.bool t185, .int .u64 t186, .int .u64 t187], .bool t188]), (7, .pointer (some ⟨s_, 0, none⟩)), (17, .tuple #[.agg #[.bool t185, .int .u64 t186, .int .u64 t187], .bool t188]), (23, .agg #[.bool t185, .int .u64 t186, .int .u64 t187]), (24, .bool t188)]) (fun s_ w' => (w'.cell? ⟨gb166, 0, none⟩ = some (.bool a0_0) ∧ w'.cell? ⟨gb166, 1, none⟩ = some (.int .u64 a0_1) ∧ w'.cell? ⟨gb166, 2, none⟩ = some (.int .u64 a0_2) ∧ w'.cell? ⟨gb167, 0, none⟩ = some (.bool a1_0) ∧ w'.cell? ⟨gb167, 1, none⟩ = some (.int .u64 a1_1) ∧ w'.cell? ⟨gb167, 2, none⟩ = some (.int .u64 a1_2)) ∧ (w'.heap[gb166]? = some (.cells #[.bool a0_0, .int .u64 a0_1, .int .u64 a0_2] 32 (0, 0))) ∧ (w'.heap[gb167]? = some (.cells #[.bool a1_0, .int .u64 a1_1, .int .u64 a1_2] 32 (0, 0))) ∧ (w'.heap[gb178]? = some (.cells #[.bool t174, .int .u64 t175, .int .u64 t176] 33 (0, 0))) ∧ (w'.heap[s_]? = some (.cells #[.bool false, .int .u64 0, .int .u64 0] 33 (0, 0))) ∧ (w.heap.size ≤ s_) ∧ (w.heap.size ≤ s_) ∧ (gb166 ≠ s_) ∧ (s_ ≠ gb166) ∧ (gb167 ≠ s_) ∧ (s_ ≠ gb167) ∧ (gb178 ≠ s_) ∧ (s_ ≠ gb178) ∧ (Below w.heap.size w w')) ?_ ?_
    rotate_left
    · intro hCont
      refine two_ (i := 1) (j := 8) (Ni := some 19) (Nj := some 7) #[true, true, true, false, false, false, false, false, false, false, false] #[true, false, true, false, false, false, false, false, true, false, false] rfl rfl rfl rfl (two_of HT_.out (by kernel_rfl)) (by decide) (by decide) (fun K hK => ?_) (fun K hK => ?_)
      · skip
        refine goes_ Try.func20 (by kernel_rfl) rfl #[.agg #[.bool a0_0, .int .u64 a0_1, .int .u64 a0_2]] (by rfl) rfl rfl mp_ ?_
        with_reducible refine (laws_toWide.calls a0_0 a0_1 a0_2 t179 t180 t181 _ A6.out).mono ?_
        rintro e w83 ⟨rfl, hb⟩
        refine ⟨_, rfl, ?_⟩
        have n0_ := bb_ (g := gb166) (o := .cells #[.bool a0_0, .int .u64 a0_1, .int .u64 a0_2] 32 (0, 0)) hb
        have n1_ := bb_ (g := gb167) (o := .cells #[.bool a1_0, .int .u64 a1_1, .int .u64 a1_2] 32 (0, 0)) hb
        have n2_ := bb_ (g := gb178) (o := .cells #[.bool t174, .int .u64 t175, .int .u64 t176] 33 (0, 0)) hb
        have n3_ := Aside0.mk (below_step bel_ hb)
        clear BK166
        clear BK167
        clear BK178
        clear HB
        have BK166 := n0_
        have BK167 := n1_
        have BK178 := n2_
        have HB := n3_
        clear n0_ n1_ n2_ n3_
        (try clear hb)
        (try clear hb2)
        (try clear hk)
        (try clear hi)
        refine hK.out _ _ ⟨bc_, bc_, bc_, bc_, bc_, bc_⟩ (fun hHeld => ?_)
        clear hK K
        refine norm_ (a' := ?_) ?_ ?_
        rotate_left
        · show Act.put _ (some 19) _ = _
          simp only [Act.put, la_, lb_, lc_, i64_w, i32_w]
          rfl
        refine two_ (i := 3) (j := 8) (Ni := some 21) (Nj := some 7) #[true, true, true, true, false, false, false, false, false, false, false] #[true, true, true, false, false, false, false, false, true, false, false] rfl rfl rfl rfl (two_of HT_.out (by kernel_rfl)) (by decide) (by decide) (fun K hK => ?_) (fun K hK => ?_)
        · skip
          refine goes_ Try.func20 (by kernel_rfl) rfl #[.agg #[.bool a1_0, .int .u64 a1_1, .int .u64 a1_2]] (by rfl) rfl rfl mp_ ?_
          with_reducible refine (laws_toWide.calls a1_0 a1_1 a1_2 t182 t183 t184 _ A7.out).mono ?_
          rintro e w84 ⟨rfl, hb⟩
          refine ⟨_, rfl, ?_⟩
          have n0_ := bb_ (g := gb166) (o := .cells #[.bool a0_0, .int .u64 a0_1, .int .u64 a0_2] 32 (0, 0)) hb
          have n1_ := bb_ (g := gb167) (o := .cells #[.bool a1_0, .int .u64 a1_1, .int .u64 a1_2] 32 (0, 0)) hb
          have n2_ := bb_ (g := gb178) (o := .cells #[.bool t174, .int .u64 t175, .int .u64 t176] 33 (0, 0)) hb
          have n3_ := Aside0.mk (below_step bel_ hb)
          clear BK166
          clear BK167
          clear BK178
          clear HB
          have BK166 := n0_
          have BK167 := n1_
          have BK178 := n2_
          have HB := n3_
          clear n0_ n1_ n2_ n3_
          (try clear hb)
          (try clear hb2)
          (try clear hk)
          (try clear hi)
          refine hK.out _ _ ⟨bc_, bc_, bc_, bc_, bc_, bc_⟩ (fun hHeld => ?_)
          clear hK K
          refine norm_ (a' := ?_) ?_ ?_
          rotate_left
          · show Act.put _ (some 21) _ = _
            simp only [Act.put, la_, lb_, lc_, i64_w, i32_w]
            rfl
          refine two_ (i := 4) (j := 8) (Ni := some 22) (Nj := some 7) #[true, true, true, true, true, false, false, false, false, false, false] #[true, true, true, true, false, false, false, false, true, false, false] rfl rfl rfl rfl (two_of HT_.out (by kernel_rfl)) (by decide) (by decide) (fun K hK => ?_) (fun K hK => ?_)
          · skip
            refine goes_ Try.func48 (by kernel_rfl) rfl #[.agg #[.bool t179, .int .u64 t180, .int .u64 t181], .agg #[.bool t182, .int .u64 t183, .int .u64 t184]] (by rfl) rfl rfl mp_ ?_
            with_reducible refine (impl_AddWide.calls k t179 t180 t181 t182 t183 t184 t185 t186 t187 t188 _ A8.out).mono ?_
            rintro e w85 ⟨rfl, hb⟩
            refine ⟨_, rfl, ?_⟩
            have n0_ := bb_ (g := gb166) (o := .cells #[.bool a0_0, .int .u64 a0_1, .int .u64 a0_2] 32 (0, 0)) hb
            have n1_ := bb_ (g := gb167) (o := .cells #[.bool a1_0, .int .u64 a1_1, .int .u64 a1_2] 32 (0, 0)) hb
            have n2_ := bb_ (g := gb178) (o := .cells #[.bool t174, .int .u64 t175, .int .u64 t176] 33 (0, 0)) hb
            have n3_ := Aside0.mk (below_step bel_ hb)
            clear BK166
            clear BK167
            clear BK178
            clear HB
            have BK166 := n0_
            have BK167 := n1_
            have BK178 := n2_
            have HB := n3_
            clear n0_ n1_ n2_ n3_
            (try clear hb)
            (try clear hb2)
            (try clear hk)
            (try clear hi)
            refine hK.out _ _ ⟨bc_, bc_, bc_, bc_, bc_, bc_⟩ (fun hHeld => ?_)
            clear hK K
            refine norm_ (a' := ?_) ?_ ?_
            rotate_left
            · show Act.put _ (some 22) _ = _
              simp only [Act.put, la_, lb_, lc_, i64_w, i32_w]
              rfl
            refine pure_ (i := 5) (N := some 17) (v := ?_) (a' := ?_) #[true, true, true, true, true, true, false, false, false, false, false] rfl rfl (any_of HT_.out (by kernel_rfl)) (fun _ _ _ h => h) (Or.inl ⟨by rfl, ?_⟩) ?_ ?_
            rotate_left
            · intro w'
              go_simp
              with_reducible rfl
            rotate_left
            · simp only [Act.put, la_, lb_, lc_, i64_w, i32_w]
              rfl
            refine pure_ (i := 6) (N := some 23) (v := ?_) (a' := ?_) #[true, true, true, true, true, true, true, false, false, false, false] rfl rfl (any_of HT_.out (by kernel_rfl)) (fun _ _ _ h => h) (Or.inl ⟨by rfl, ?_⟩) ?_ ?_
            rotate_left
            · intro w'
              go_simp
              with_reducible rfl
            rotate_left
            · simp only [Act.put, la_, lb_, lc_, i64_w, i32_w]
              rfl
            refine pure_ (i := 7) (N := some 24) (v := ?_) (a' := ?_) #[true, true, true, true, true, true, true, true, false, false, false] rfl rfl (any_of HT_.out (by kernel_rfl)) (fun _ _ _ h => h) (Or.inl ⟨by rfl, ?_⟩) ?_ ?_
            rotate_left
            · intro w'
              go_simp
              with_reducible rfl
            rotate_left
            · simp only [Act.put, la_, lb_, lc_, i64_w, i32_w]
              rfl
            refine one_ (i := 8) (N := some 7) #[true, true, true, true, true, true, true, true, true, false, false] rfl rfl (one_of HT_.out (by kernel_rfl)) (by decide) (fun K hK => ?_)
            refine box_step ?hg (N := 7) ?hd (cs := #[.bool false, .int .u64 0, .int .u64 0]) (t := 33) ?hr ?_; (case hd => rfl); (case hg => rfl); (case hr => first | (go_simp; done) | (go_simp; rfl))
            intro gb189 hg w86 hbox hb
            have n0_ := bb_ (g := gb166) (o := .cells #[.bool a0_0, .int .u64 a0_1, .int .u64 a0_2] 32 (0, 0)) hb
            have n1_ := bb_ (g := gb167) (o := .cells #[.bool a1_0, .int .u64 a1_1, .int .u64 a1_2] 32 (0, 0)) hb
            have n2_ := bb_ (g := gb178) (o := .cells #[.bool t174, .int .u64 t175, .int .u64 t176] 33 (0, 0)) hb
            have n3_ := Aside0.mk (below_step bel_ hb)
            have n4_ := Aside0.mk (hbox)
            have n5_ := Aside0.mk ((by rw [hg]; exact (below_size bel_) : w.heap.size ≤ gb189))
            have n6_ := Aside0.mk ((by rw [hg]; exact (below_size bel_) : w.heap.size ≤ gb189))
            have n7_ := nlt_ (g := gb166) (o := .cells #[.bool a0_0, .int .u64 a0_1, .int .u64 a0_2] 32 (0, 0)) hg
            have n8_ := ngt_ (g := gb166) (o := .cells #[.bool a0_0, .int .u64 a0_1, .int .u64 a0_2] 32 (0, 0)) hg
            have n9_ := nlt_ (g := gb167) (o := .cells #[.bool a1_0, .int .u64 a1_1, .int .u64 a1_2] 32 (0, 0)) hg
            have n10_ := ngt_ (g := gb167) (o := .cells #[.bool a1_0, .int .u64 a1_1, .int .u64 a1_2] 32 (0, 0)) hg
            have n11_ := nlt_ (g := gb178) (o := .cells #[.bool t174, .int .u64 t175, .int .u64 t176] 33 (0, 0)) hg
            have n12_ := ngt_ (g := gb178) (o := .cells #[.bool t174, .int .u64 t175, .int .u64 t176] 33 (0, 0)) hg
            clear BK166
            clear BK167
            clear BK178
            clear HB
            have BK166 := n0_
            have BK167 := n1_
            have BK178 := n2_
            have HB := n3_
            have BK189 := n4_
            have GW189 := n5_
            have GE189 := n6_
            have NB166_189 := n7_
            have NB189_166 := n8_
            have NB167_189 := n9_
            have NB189_167 := n10_
            have NB178_189 := n11_
            have NB189_178 := n12_
            clear n0_ n1_ n2_ n3_ n4_ n5_ n6_ n7_ n8_ n9_ n10_ n11_ n12_
            clear hb hbox hg
            refine hK.out _ _ ⟨bc_, bc_, bc_, bc_, bc_, bc_⟩ (fun hHeld => ?_)
            clear hK K
            refine norm_ (a' := ?_) ?_ ?_
            rotate_left
            · show Act.put _ (some 7) _ = _
              simp only [Act.put, la_, lb_, lc_, i64_w, i32_w]
              rfl
            exact norm_ (by simp only [putAll, Act.put, la_, lb_, lc_]) (hCont (gb189) _ ⟨hHeld, (by (with_reducible repeat (first | refine bN_ _ ?_ | refine bd_ ?_ | refine ba_ _ ?_)); exact BK166.out), (by (with_reducible repeat (first | refine bN_ _ ?_ | refine bd_ ?_ | refine ba_ _ ?_)); exact BK167.out), (by (with_reducible repeat (first | refine bN_ _ ?_ | refine bd_ ?_ | refine ba_ _ ?_)); exact BK178.out), (by (with_reducible repeat (first | refine bN_ _ ?_ | refine bd_ ?_ | refine ba_ _ ?_)); exact BK189.out), GW189.out, GE189.out, NB166_189.out, NB189_166.out, NB167_189.out, NB189_167.out, NB178_189.out, NB189_178.out, bel_⟩)
          · skip
            refine box_step ?hg (N := 7) ?hd (cs := #[.bool false, .int .u64 0, .int .u64 0]) (t := 33) ?hr ?_; (case hd => rfl); (case hg => rfl); (case hr => first | (go_simp; done) | (go_simp; rfl))
            intro gb189 hg w85 hbox hb
            have n0_ := bb_ (g := gb166) (o := .cells #[.bool a0_0, .int .u64 a0_1, .int .u64 a0_2] 32 (0, 0)) hb
            have n1_ := bb_ (g := gb167) (o := .cells #[.bool a1_0, .int .u64 a1_1, .int .u64 a1_2] 32 (0, 0)) hb
            have n2_ := bb_ (g := gb178) (o := .cells #[.bool t174, .int .u64 t175, .int .u64 t176] 33 (0, 0)) hb
            have n3_ := Aside0.mk (below_step bel_ hb)
            have n4_ := Aside0.mk (hbox)
            have n5_ := Aside0.mk ((by rw [hg]; exact (below_size bel_) : w.heap.size ≤ gb189))
            have n6_ := Aside0.mk ((by rw [hg]; exact (below_size bel_) : w.heap.size ≤ gb189))
            have n7_ := nlt_ (g := gb166) (o := .cells #[.bool a0_0, .int .u64 a0_1, .int .u64 a0_2] 32 (0, 0)) hg
            have n8_ := ngt_ (g := gb166) (o := .cells #[.bool a0_0, .int .u64 a0_1, .int .u64 a0_2] 32 (0, 0)) hg
            have n9_ := nlt_ (g := gb167) (o := .cells #[.bool a1_0, .int .u64 a1_1, .int .u64 a1_2] 32 (0, 0)) hg
            have n10_ := ngt_ (g := gb167) (o := .cells #[.bool a1_0, .int .u64 a1_1, .int .u64 a1_2] 32 (0, 0)) hg
            have n11_ := nlt_ (g := gb178) (o := .cells #[.bool t174, .int .u64 t175, .int .u64 t176] 33 (0, 0)) hg
            have n12_ := ngt_ (g := gb178) (o := .cells #[.bool t174, .int .u64 t175, .int .u64 t176] 33 (0, 0)) hg
            clear BK166
            clear BK167
            clear BK178
            clear HB
            have BK166 := n0_
            have BK167 := n1_
            have BK178 := n2_
            have HB := n3_
            have BK189 := n4_
            have GW189 := n5_
            have GE189 := n6_
            have NB166_189 := n7_
            have NB189_166 := n8_
            have NB167_189 := n9_
            have NB189_167 := n10_
            have NB178_189 := n11_
            have NB189_178 := n12_
            clear n0_ n1_ n2_ n3_ n4_ n5_ n6_ n7_ n8_ n9_ n10_ n11_ n12_
            clear hb hbox hg
            refine hK.out _ _ ⟨bc_, bc_, bc_, bc_, bc_, bc_⟩ (fun hHeld => ?_)
            clear hK K
            refine norm_ (a' := ?_) ?_ ?_
            rotate_left
            · show Act.put _ (some 7) _ = _
              simp only [Act.put, la_, lb_, lc_, i64_w, i32_w]
              rfl
            refine one_ (i := 4) (N := some 22) #[true, true, true, true, true, false, false, false, true, false, false] rfl rfl (one_of HT_.out (by kernel_rfl)) (by decide) (fun K hK => ?_)
            refine goes_ Try.func48 (by kernel_rfl) rfl #[.agg #[.bool t179, .int .u64 t180, .int .u64 t181], .agg #[.bool t182, .int .u64 t183, .int .u64 t184]] (by rfl) rfl rfl mp_ ?_
            with_reducible refine (impl_AddWide.calls k t179 t180 t181 t182 t183 t184 t185 t186 t187 t188 _ A8.out).mono ?_
            rintro e w86 ⟨rfl, hb⟩
            refine ⟨_, rfl, ?_⟩
            have n0_ := bb_ (g := gb166) (o := .cells #[.bool a0_0, .int .u64 a0_1, .int .u64 a0_2] 32 (0, 0)) hb
            have n1_ := bb_ (g := gb167) (o := .cells #[.bool a1_0, .int .u64 a1_1, .int .u64 a1_2] 32 (0, 0)) hb
            have n2_ := bb_ (g := gb178) (o := .cells #[.bool t174, .int .u64 t175, .int .u64 t176] 33 (0, 0)) hb
            have n3_ := bb_ (g := gb189) (o := .cells #[.bool false, .int .u64 0, .int .u64 0] 33 (0, 0)) hb
            have n4_ := Aside0.mk (below_step bel_ hb)
            clear BK166
            clear BK167
            clear BK178
            clear BK189
            clear HB
            have BK166 := n0_
            have BK167 := n1_
            have BK178 := n2_
            have BK189 := n3_
            have HB := n4_
            clear n0_ n1_ n2_ n3_ n4_
            (try clear hb)
            (try clear hb2)
            (try clear hk)
            (try clear hi)
            refine hK.out _ _ ⟨bc_, bc_, bc_, bc_, bc_, bc_⟩ (fun hHeld => ?_)
            clear hK K
            refine norm_ (a' := ?_) ?_ ?_
            rotate_left
            · show Act.put _ (some 22) _ = _
              simp only [Act.put, la_, lb_, lc_, i64_w, i32_w]
              rfl
            refine pure_ (i := 5) (N := some 17) (v := ?_) (a' := ?_) #[true, true, true, true, true, true, false, false, true, false, false] rfl rfl (any_of HT_.out (by kernel_rfl)) (fun _ _ _ h => h) (Or.inl ⟨by rfl, ?_⟩) ?_ ?_
            rotate_left
            · intro w'
              go_simp
              with_reducible rfl
            rotate_left
            · simp only [Act.put, la_, lb_, lc_, i64_w, i32_w]
              rfl
            refine pure_ (i := 6) (N := some 23) (v := ?_) (a' := ?_) #[true, true, true, true, true, true, true, false, true, false, false] rfl rfl (any_of HT_.out (by kernel_rfl)) (fun _ _ _ h => h) (Or.inl ⟨by rfl, ?_⟩) ?_ ?_
            rotate_left
            · intro w'
              go_simp
              with_reducible rfl
            rotate_left
            · simp only [Act.put, la_, lb_, lc_, i64_w, i32_w]
              rfl
            refine pure_ (i := 7) (N := some 24) (v := ?_) (a' := ?_) #[true, true, true, true, true, true, true, true, true, false, false] rfl rfl (any_of HT_.out (by kernel_rfl)) (fun _ _ _ h => h) (Or.inl ⟨by rfl, ?_⟩) ?_ ?_
            rotate_left
            · intro w'
              go_simp
              with_reducible rfl
            rotate_left
            · simp only [Act.put, la_, lb_, lc_, i64_w, i32_w]
              rfl
            exact norm_ (by simp only [putAll, Act.put, la_, lb_, lc_]) (hCont (gb189) _ ⟨hHeld, (by (with_reducible repeat (first | refine bN_ _ ?_ | refine bd_ ?_ | refine ba_ _ ?_)); exact BK166.out), (by (with_reducible repeat (first | refine bN_ _ ?_ | refine bd_ ?_ | refine ba_ _ ?_)); exact BK167.out), (by (with_reducible repeat (first | refine bN_ _ ?_ | refine bd_ ?_ | refine ba_ _ ?_)); exact BK178.out), (by (with_reducible repeat (first | refine bN_ _ ?_ | refine bd_ ?_ | refine ba_ _ ?_)); exact BK189.out), GW189.out, GE189.out, NB166_189.out, NB189_166.out, NB167_189.out, NB189_167.out, NB178_189.out, NB189_178.out, bel_⟩)
        · skip
          refine box_step ?hg (N := 7) ?hd (cs := #[.bool false, .int .u64 0, .int .u64 0]) (t := 33) ?hr ?_; (case hd => rfl); (case hg => rfl); (case hr => first | (go_simp; done) | (go_simp; rfl))
          intro gb189 hg w84 hbox hb
          have n0_ := bb_ (g := gb166) (o := .cells #[.bool a0_0, .int .u64 a0_1, .int .u64 a0_2] 32 (0, 0)) hb
          have n1_ := bb_ (g := gb167) (o := .cells #[.bool a1_0, .int .u64 a1_1, .int .u64 a1_2] 32 (0, 0)) hb
          have n2_ := bb_ (g := gb178) (o := .cells #[.bool t174, .int .u64 t175, .int .u64 t176] 33 (0, 0)) hb
          have n3_ := Aside0.mk (below_step bel_ hb)
          have n4_ := Aside0.mk (hbox)
          have n5_ := Aside0.mk ((by rw [hg]; exact (below_size bel_) : w.heap.size ≤ gb189))
          have n6_ := Aside0.mk ((by rw [hg]; exact (below_size bel_) : w.heap.size ≤ gb189))
          have n7_ := nlt_ (g := gb166) (o := .cells #[.bool a0_0, .int .u64 a0_1, .int .u64 a0_2] 32 (0, 0)) hg
          have n8_ := ngt_ (g := gb166) (o := .cells #[.bool a0_0, .int .u64 a0_1, .int .u64 a0_2] 32 (0, 0)) hg
          have n9_ := nlt_ (g := gb167) (o := .cells #[.bool a1_0, .int .u64 a1_1, .int .u64 a1_2] 32 (0, 0)) hg
          have n10_ := ngt_ (g := gb167) (o := .cells #[.bool a1_0, .int .u64 a1_1, .int .u64 a1_2] 32 (0, 0)) hg
          have n11_ := nlt_ (g := gb178) (o := .cells #[.bool t174, .int .u64 t175, .int .u64 t176] 33 (0, 0)) hg
          have n12_ := ngt_ (g := gb178) (o := .cells #[.bool t174, .int .u64 t175, .int .u64 t176] 33 (0, 0)) hg
          clear BK166
          clear BK167
          clear BK178
          clear HB
          have BK166 := n0_
          have BK167 := n1_
          have BK178 := n2_
          have HB := n3_
          have BK189 := n4_
          have GW189 := n5_
          have GE189 := n6_
          have NB166_189 := n7_
          have NB189_166 := n8_
          have NB167_189 := n9_
          have NB189_167 := n10_
          have NB178_189 := n11_
          have NB189_178 := n12_
          clear n0_ n1_ n2_ n3_ n4_ n5_ n6_ n7_ n8_ n9_ n10_ n11_ n12_
          clear hb hbox hg
          refine hK.out _ _ ⟨bc_, bc_, bc_, bc_, bc_, bc_⟩ (fun hHeld => ?_)
          clear hK K
          refine norm_ (a' := ?_) ?_ ?_
          rotate_left
          · show Act.put _ (some 7) _ = _
            simp only [Act.put, la_, lb_, lc_, i64_w, i32_w]
            rfl
          refine one_ (i := 3) (N := some 21) #[true, true, true, true, false, false, false, false, true, false, false] rfl rfl (one_of HT_.out (by kernel_rfl)) (by decide) (fun K hK => ?_)
          refine goes_ Try.func20 (by kernel_rfl) rfl #[.agg #[.bool a1_0, .int .u64 a1_1, .int .u64 a1_2]] (by rfl) rfl rfl mp_ ?_
          with_reducible refine (laws_toWide.calls a1_0 a1_1 a1_2 t182 t183 t184 _ A7.out).mono ?_
          rintro e w85 ⟨rfl, hb⟩
          refine ⟨_, rfl, ?_⟩
          have n0_ := bb_ (g := gb166) (o := .cells #[.bool a0_0, .int .u64 a0_1, .int .u64 a0_2] 32 (0, 0)) hb
          have n1_ := bb_ (g := gb167) (o := .cells #[.bool a1_0, .int .u64 a1_1, .int .u64 a1_2] 32 (0, 0)) hb
          have n2_ := bb_ (g := gb178) (o := .cells #[.bool t174, .int .u64 t175, .int .u64 t176] 33 (0, 0)) hb
          have n3_ := bb_ (g := gb189) (o := .cells #[.bool false, .int .u64 0, .int .u64 0] 33 (0, 0)) hb
          have n4_ := Aside0.mk (below_step bel_ hb)
          clear BK166
          clear BK167
          clear BK178
          clear BK189
          clear HB
          have BK166 := n0_
          have BK167 := n1_
          have BK178 := n2_
          have BK189 := n3_
          have HB := n4_
          clear n0_ n1_ n2_ n3_ n4_
          (try clear hb)
          (try clear hb2)
          (try clear hk)
          (try clear hi)
          refine hK.out _ _ ⟨bc_, bc_, bc_, bc_, bc_, bc_⟩ (fun hHeld => ?_)
          clear hK K
          refine norm_ (a' := ?_) ?_ ?_
          rotate_left
          · show Act.put _ (some 21) _ = _
            simp only [Act.put, la_, lb_, lc_, i64_w, i32_w]
            rfl
          refine one_ (i := 4) (N := some 22) #[true, true, true, true, true, false, false, false, true, false, false] rfl rfl (one_of HT_.out (by kernel_rfl)) (by decide) (fun K hK => ?_)
          refine goes_ Try.func48 (by kernel_rfl) rfl #[.agg #[.bool t179, .int .u64 t180, .int .u64 t181], .agg #[.bool t182, .int .u64 t183, .int .u64 t184]] (by rfl) rfl rfl mp_ ?_
          with_reducible refine (impl_AddWide.calls k t179 t180 t181 t182 t183 t184 t185 t186 t187 t188 _ A8.out).mono ?_
          rintro e w86 ⟨rfl, hb⟩
          refine ⟨_, rfl, ?_⟩
          have n0_ := bb_ (g := gb166) (o := .cells #[.bool a0_0, .int .u64 a0_1, .int .u64 a0_2] 32 (0, 0)) hb
          have n1_ := bb_ (g := gb167) (o := .cells #[.bool a1_0, .int .u64 a1_1, .int .u64 a1_2] 32 (0, 0)) hb
          have n2_ := bb_ (g := gb178) (o := .cells #[.bool t174, .int .u64 t175, .int .u64 t176] 33 (0, 0)) hb
          have n3_ := bb_ (g := gb189) (o := .cells #[.bool false, .int .u64 0, .int .u64 0] 33 (0, 0)) hb
          have n4_ := Aside0.mk (below_step bel_ hb)
          clear BK166
          clear BK167
          clear BK178
          clear BK189
          clear HB
          have BK166 := n0_
          have BK167 := n1_
          have BK178 := n2_
          have BK189 := n3_
          have HB := n4_
          clear n0_ n1_ n2_ n3_ n4_
          (try clear hb)
          (try clear hb2)
          (try clear hk)
          (try clear hi)
          refine hK.out _ _ ⟨bc_, bc_, bc_, bc_, bc_, bc_⟩ (fun hHeld => ?_)
          clear hK K
          refine norm_ (a' := ?_) ?_ ?_
          rotate_left
          · show Act.put _ (some 22) _ = _
            simp only [Act.put, la_, lb_, lc_, i64_w, i32_w]
            rfl
          refine pure_ (i := 5) (N := some 17) (v := ?_) (a' := ?_) #[true, true, true, true, true, true, false, false, true, false, false] rfl rfl (any_of HT_.out (by kernel_rfl)) (fun _ _ _ h => h) (Or.inl ⟨by rfl, ?_⟩) ?_ ?_
          rotate_left
          · intro w'
            go_simp
            with_reducible rfl
          rotate_left
          · simp only [Act.put, la_, lb_, lc_, i64_w, i32_w]
            rfl
          refine pure_ (i := 6) (N := some 23) (v := ?_) (a' := ?_) #[true, true, true, true, true, true, true, false, true, false, false] rfl rfl (any_of HT_.out (by kernel_rfl)) (fun _ _ _ h => h) (Or.inl ⟨by rfl, ?_⟩) ?_ ?_
          rotate_left
          · intro w'
            go_simp
            with_reducible rfl
          rotate_left
          · simp only [Act.put, la_, lb_, lc_, i64_w, i32_w]
            rfl
          refine pure_ (i := 7) (N := some 24) (v := ?_) (a' := ?_) #[true, true, true, true, true, true, true, true, true, false, false] rfl rfl (any_of HT_.out (by kernel_rfl)) (fun _ _ _ h => h) (Or.inl ⟨by rfl, ?_⟩) ?_ ?_
          rotate_left
          · intro w'
            go_simp
            with_reducible rfl
          rotate_left
          · simp only [Act.put, la_, lb_, lc_, i64_w, i32_w]
            rfl
          exact norm_ (by simp only [putAll, Act.put, la_, lb_, lc_]) (hCont (gb189) _ ⟨hHeld, (by (with_reducible repeat (first | refine bN_ _ ?_ | refine bd_ ?_ | refine ba_ _ ?_)); exact BK166.out), (by (with_reducible repeat (first | refine bN_ _ ?_ | refine bd_ ?_ | refine ba_ _ ?_)); exact BK167.out), (by (with_reducible repeat (first | refine bN_ _ ?_ | refine bd_ ?_ | refine ba_ _ ?_)); exact BK178.out), (by (with_reducible repeat (first | refine bN_ _ ?_ | refine bd_ ?_ | refine ba_ _ ?_)); exact BK189.out), GW189.out, GE189.out, NB166_189.out, NB189_166.out, NB167_189.out, NB189_167.out, NB178_189.out, NB189_178.out, bel_⟩)
      · skip
        refine box_step ?hg (N := 7) ?hd (cs := #[.bool false, .int .u64 0, .int .u64 0]) (t := 33) ?hr ?_; (case hd => rfl); (case hg => rfl); (case hr => first | (go_simp; done) | (go_simp; rfl))
        intro gb189 hg w83 hbox hb
        have n0_ := bb_ (g := gb166) (o := .cells #[.bool a0_0, .int .u64 a0_1, .int .u64 a0_2] 32 (0, 0)) hb
        have n1_ := bb_ (g := gb167) (o := .cells #[.bool a1_0, .int .u64 a1_1, .int .u64 a1_2] 32 (0, 0)) hb
        have n2_ := bb_ (g := gb178) (o := .cells #[.bool t174, .int .u64 t175, .int .u64 t176] 33 (0, 0)) hb
        have n3_ := Aside0.mk (below_step bel_ hb)
        have n4_ := Aside0.mk (hbox)
        have n5_ := Aside0.mk ((by rw [hg]; exact (below_size bel_) : w.heap.size ≤ gb189))
        have n6_ := Aside0.mk ((by rw [hg]; exact (below_size bel_) : w.heap.size ≤ gb189))
        have n7_ := nlt_ (g := gb166) (o := .cells #[.bool a0_0, .int .u64 a0_1, .int .u64 a0_2] 32 (0, 0)) hg
        have n8_ := ngt_ (g := gb166) (o := .cells #[.bool a0_0, .int .u64 a0_1, .int .u64 a0_2] 32 (0, 0)) hg
        have n9_ := nlt_ (g := gb167) (o := .cells #[.bool a1_0, .int .u64 a1_1, .int .u64 a1_2] 32 (0, 0)) hg
        have n10_ := ngt_ (g := gb167) (o := .cells #[.bool a1_0, .int .u64 a1_1, .int .u64 a1_2] 32 (0, 0)) hg
        have n11_ := nlt_ (g := gb178) (o := .cells #[.bool t174, .int .u64 t175, .int .u64 t176] 33 (0, 0)) hg
        have n12_ := ngt_ (g := gb178) (o := .cells #[.bool t174, .int .u64 t175, .int .u64 t176] 33 (0, 0)) hg
        clear BK166
        clear BK167
        clear BK178
        clear HB
        have BK166 := n0_
        have BK167 := n1_
        have BK178 := n2_
        have HB := n3_
        have BK189 := n4_
        have GW189 := n5_
        have GE189 := n6_
        have NB166_189 := n7_
        have NB189_166 := n8_
        have NB167_189 := n9_
        have NB189_167 := n10_
        have NB178_189 := n11_
        have NB189_178 := n12_
        clear n0_ n1_ n2_ n3_ n4_ n5_ n6_ n7_ n8_ n9_ n10_ n11_ n12_
        clear hb hbox hg
        refine hK.out _ _ ⟨bc_, bc_, bc_, bc_, bc_, bc_⟩ (fun hHeld => ?_)
        clear hK K
        refine norm_ (a' := ?_) ?_ ?_
        rotate_left
        · show Act.put _ (some 7) _ = _
          simp only [Act.put, la_, lb_, lc_, i64_w, i32_w]
          rfl
        refine one_ (i := 1) (N := some 19) #[true, true, true, false, false, false, false, false, true, false, false] rfl rfl (one_of HT_.out (by kernel_rfl)) (by decide) (fun K hK => ?_)
        refine goes_ Try.func20 (by kernel_rfl) rfl #[.agg #[.bool a0_0, .int .u64 a0_1, .int .u64 a0_2]] (by rfl) rfl rfl mp_ ?_
        with_reducible refine (laws_toWide.calls a0_0 a0_1 a0_2 t179 t180 t181 _ A6.out).mono ?_
        rintro e w84 ⟨rfl, hb⟩
        refine ⟨_, rfl, ?_⟩
        have n0_ := bb_ (g := gb166) (o := .cells #[.bool a0_0, .int .u64 a0_1, .int .u64 a0_2] 32 (0, 0)) hb
        have n1_ := bb_ (g := gb167) (o := .cells #[.bool a1_0, .int .u64 a1_1, .int .u64 a1_2] 32 (0, 0)) hb
        have n2_ := bb_ (g := gb178) (o := .cells #[.bool t174, .int .u64 t175, .int .u64 t176] 33 (0, 0)) hb
        have n3_ := bb_ (g := gb189) (o := .cells #[.bool false, .int .u64 0, .int .u64 0] 33 (0, 0)) hb
        have n4_ := Aside0.mk (below_step bel_ hb)
        clear BK166
        clear BK167
        clear BK178
        clear BK189
        clear HB
        have BK166 := n0_
        have BK167 := n1_
        have BK178 := n2_
        have BK189 := n3_
        have HB := n4_
        clear n0_ n1_ n2_ n3_ n4_
        (try clear hb)
        (try clear hb2)
        (try clear hk)
        (try clear hi)
        refine hK.out _ _ ⟨bc_, bc_, bc_, bc_, bc_, bc_⟩ (fun hHeld => ?_)
        clear hK K
        refine norm_ (a' := ?_) ?_ ?_
        rotate_left
        · show Act.put _ (some 19) _ = _
          simp only [Act.put, la_, lb_, lc_, i64_w, i32_w]
          rfl
        refine one_ (i := 3) (N := some 21) #[true, true, true, true, false, false, false, false, true, false, false] rfl rfl (one_of HT_.out (by kernel_rfl)) (by decide) (fun K hK => ?_)
        refine goes_ Try.func20 (by kernel_rfl) rfl #[.agg #[.bool a1_0, .int .u64 a1_1, .int .u64 a1_2]] (by rfl) rfl rfl mp_ ?_
        with_reducible refine (laws_toWide.calls a1_0 a1_1 a1_2 t182 t183 t184 _ A7.out).mono ?_
        rintro e w85 ⟨rfl, hb⟩
        refine ⟨_, rfl, ?_⟩
        have n0_ := bb_ (g := gb166) (o := .cells #[.bool a0_0, .int .u64 a0_1, .int .u64 a0_2] 32 (0, 0)) hb
        have n1_ := bb_ (g := gb167) (o := .cells #[.bool a1_0, .int .u64 a1_1, .int .u64 a1_2] 32 (0, 0)) hb
        have n2_ := bb_ (g := gb178) (o := .cells #[.bool t174, .int .u64 t175, .int .u64 t176] 33 (0, 0)) hb
        have n3_ := bb_ (g := gb189) (o := .cells #[.bool false, .int .u64 0, .int .u64 0] 33 (0, 0)) hb
        have n4_ := Aside0.mk (below_step bel_ hb)
        clear BK166
        clear BK167
        clear BK178
        clear BK189
        clear HB
        have BK166 := n0_
        have BK167 := n1_
        have BK178 := n2_
        have BK189 := n3_
        have HB := n4_
        clear n0_ n1_ n2_ n3_ n4_
        (try clear hb)
        (try clear hb2)
        (try clear hk)
        (try clear hi)
        refine hK.out _ _ ⟨bc_, bc_, bc_, bc_, bc_, bc_⟩ (fun hHeld => ?_)
        clear hK K
        refine norm_ (a' := ?_) ?_ ?_
        rotate_left
        · show Act.put _ (some 21) _ = _
          simp only [Act.put, la_, lb_, lc_, i64_w, i32_w]
          rfl
        refine one_ (i := 4) (N := some 22) #[true, true, true, true, true, false, false, false, true, false, false] rfl rfl (one_of HT_.out (by kernel_rfl)) (by decide) (fun K hK => ?_)
        refine goes_ Try.func48 (by kernel_rfl) rfl #[.agg #[.bool t179, .int .u64 t180, .int .u64 t181], .agg #[.bool t182, .int .u64 t183, .int .u64 t184]] (by rfl) rfl rfl mp_ ?_
        with_reducible refine (impl_AddWide.calls k t179 t180 t181 t182 t183 t184 t185 t186 t187 t188 _ A8.out).mono ?_
        rintro e w86 ⟨rfl, hb⟩
        refine ⟨_, rfl, ?_⟩
        have n0_ := bb_ (g := gb166) (o := .cells #[.bool a0_0, .int .u64 a0_1, .int .u64 a0_2] 32 (0, 0)) hb
        have n1_ := bb_ (g := gb167) (o := .cells #[.bool a1_0, .int .u64 a1_1, .int .u64 a1_2] 32 (0, 0)) hb
        have n2_ := bb_ (g := gb178) (o := .cells #[.bool t174, .int .u64 t175, .int .u64 t176] 33 (0, 0)) hb
        have n3_ := bb_ (g := gb189) (o := .cells #[.bool false, .int .u64 0, .int .u64 0] 33 (0, 0)) hb
        have n4_ := Aside0.mk (below_step bel_ hb)
        clear BK166
        clear BK167
        clear BK178
        clear BK189
        clear HB
        have BK166 := n0_
        have BK167 := n1_
        have BK178 := n2_
        have BK189 := n3_
        have HB := n4_
        clear n0_ n1_ n2_ n3_ n4_
        (try clear hb)
        (try clear hb2)
        (try clear hk)
        (try clear hi)
        refine hK.out _ _ ⟨bc_, bc_, bc_, bc_, bc_, bc_⟩ (fun hHeld => ?_)
        clear hK K
        refine norm_ (a' := ?_) ?_ ?_
        rotate_left
        · show Act.put _ (some 22) _ = _
          simp only [Act.put, la_, lb_, lc_, i64_w, i32_w]
          rfl
        refine pure_ (i := 5) (N := some 17) (v := ?_) (a' := ?_) #[true, true, true, true, true, true, false, false, true, false, false] rfl rfl (any_of HT_.out (by kernel_rfl)) (fun _ _ _ h => h) (Or.inl ⟨by rfl, ?_⟩) ?_ ?_
        rotate_left
        · intro w'
          go_simp
          with_reducible rfl
        rotate_left
        · simp only [Act.put, la_, lb_, lc_, i64_w, i32_w]
          rfl
        refine pure_ (i := 6) (N := some 23) (v := ?_) (a' := ?_) #[true, true, true, true, true, true, true, false, true, false, false] rfl rfl (any_of HT_.out (by kernel_rfl)) (fun _ _ _ h => h) (Or.inl ⟨by rfl, ?_⟩) ?_ ?_
        rotate_left
        · intro w'
          go_simp
          with_reducible rfl
        rotate_left
        · simp only [Act.put, la_, lb_, lc_, i64_w, i32_w]
          rfl
        refine pure_ (i := 7) (N := some 24) (v := ?_) (a' := ?_) #[true, true, true, true, true, true, true, true, true, false, false] rfl rfl (any_of HT_.out (by kernel_rfl)) (fun _ _ _ h => h) (Or.inl ⟨by rfl, ?_⟩) ?_ ?_
        rotate_left
        · intro w'
          go_simp
          with_reducible rfl
        rotate_left
        · simp only [Act.put, la_, lb_, lc_, i64_w, i32_w]
          rfl
        exact norm_ (by simp only [putAll, Act.put, la_, lb_, lc_]) (hCont (gb189) _ ⟨hHeld, (by (with_reducible repeat (first | refine bN_ _ ?_ | refine bd_ ?_ | refine ba_ _ ?_)); exact BK166.out), (by (with_reducible repeat (first | refine bN_ _ ?_ | refine bd_ ?_ | refine ba_ _ ?_)); exact BK167.out), (by (with_reducible repeat (first | refine bN_ _ ?_ | refine bd_ ?_ | refine ba_ _ ?_)); exact BK178.out), (by (with_reducible repeat (first | refine bN_ _ ?_ | refine bd_ ?_ | refine ba_ _ ?_)); exact BK189.out), GW189.out, GE189.out, NB166_189.out, NB189_166.out, NB167_189.out, NB189_167.out, NB178_189.out, NB189_178.out, bel_⟩)
    rintro gb189 w87 ⟨hS_, h0_, h1_, h2_, h3_, h4_, h5_, h6_, h7_, h8_, h9_, h10_, h11_, h12_⟩
    have n0_ : Aside0 (w87.heap[gb166]? = some (.cells #[.bool a0_0, .int .u64 a0_1, .int .u64 a0_2] 32 (0, 0))) := ⟨h0_⟩
    have n1_ : Aside0 (w87.heap[gb167]? = some (.cells #[.bool a1_0, .int .u64 a1_1, .int .u64 a1_2] 32 (0, 0))) := ⟨h1_⟩
    have n2_ : Aside0 (w87.heap[gb178]? = some (.cells #[.bool t174, .int .u64 t175, .int .u64 t176] 33 (0, 0))) := ⟨h2_⟩
    have n3_ : Aside0 (w87.heap[gb189]? = some (.cells #[.bool false, .int .u64 0, .int .u64 0] 33 (0, 0))) := ⟨h3_⟩
    have n4_ : Aside0 (w.heap.size ≤ gb189) := ⟨h4_⟩
    have n5_ : Aside0 (w.heap.size ≤ gb189) := ⟨h5_⟩
    have n6_ : Aside0 (gb166 ≠ gb189) := ⟨h6_⟩
    have n7_ : Aside0 (gb189 ≠ gb166) := ⟨h7_⟩
    have n8_ : Aside0 (gb167 ≠ gb189) := ⟨h8_⟩
    have n9_ : Aside0 (gb189 ≠ gb167) := ⟨h9_⟩
    have n10_ : Aside0 (gb178 ≠ gb189) := ⟨h10_⟩
    have n11_ : Aside0 (gb189 ≠ gb178) := ⟨h11_⟩
    have n12_ : Aside0 (Below w.heap.size w w87) := ⟨h12_⟩
    clear BK166
    clear BK167
    clear BK178
    clear HB
    clear h0_ h1_ h2_ h3_ h4_ h5_ h6_ h7_ h8_ h9_ h10_ h11_ h12_
    have BK166 := n0_
    have BK167 := n1_
    have BK178 := n2_
    have BK189 := n3_
    have GW189 := n4_
    have GE189 := n5_
    have NB166_189 := n6_
    have NB189_166 := n7_
    have NB167_189 := n8_
    have NB189_167 := n9_
    have NB178_189 := n10_
    have NB189_178 := n11_
    have HB := n12_
    clear n0_ n1_ n2_ n3_ n4_ n5_ n6_ n7_ n8_ n9_ n10_ n11_ n12_
    have hHeld : w87.cell? ⟨gb166, 0, none⟩ = some (.bool a0_0) ∧ w87.cell? ⟨gb166, 1, none⟩ = some (.int .u64 a0_1) ∧ w87.cell? ⟨gb166, 2, none⟩ = some (.int .u64 a0_2) ∧ w87.cell? ⟨gb167, 0, none⟩ = some (.bool a1_0) ∧ w87.cell? ⟨gb167, 1, none⟩ = some (.int .u64 a1_1) ∧ w87.cell? ⟨gb167, 2, none⟩ = some (.int .u64 a1_2) := hS_
    refine norm_ (a' := ?_) ?_ ?_
    rotate_left
    · simp only [putAll, Act.put, la_, lb_, lc_]
      rfl
    refine one_ (i := 9) (N := none) #[true, true, true, true, true, true, true, true, true, true, false] rfl rfl (one_of HT_.out (by kernel_rfl)) (by decide) (fun K hK => ?_)
    have hs88 : w87.cell? ⟨gb189, 0, none⟩ = some (.bool false) := (blk_cell BK189.out 0).trans rfl
    have hfs88 := blk_frozen BK189.out 0
    have hns88_0 := NB166_189.out
    have hns88_1 := NB167_189.out
    have hns88_2 := NB178_189.out
    have hms88_0 := NB189_166.out
    have hms88_1 := NB189_167.out
    have hms88_2 := NB189_178.out
    have hs89 : w87.cell? ⟨gb189, 1, none⟩ = some (.int .u64 0) := (blk_cell BK189.out 1).trans rfl
    have hfs89 := blk_frozen BK189.out 1
    have hns89_0 := NB166_189.out
    have hns89_1 := NB167_189.out
    have hns89_2 := NB178_189.out
    have hms89_0 := NB189_166.out
    have hms89_1 := NB189_167.out
    have hms89_2 := NB189_178.out
    have hs90 : w87.cell? ⟨gb189, 2, none⟩ = some (.int .u64 0) := (blk_cell BK189.out 2).trans rfl
    have hfs90 := blk_frozen BK189.out 2
    have hns90_0 := NB166_189.out
    have hns90_1 := NB167_189.out
    have hns90_2 := NB178_189.out
    have hms90_0 := NB189_166.out
    have hms90_1 := NB189_167.out
    have hms90_2 := NB189_178.out
    refine skip_ (w1 := ?_) (by rfl) rfl ?_ ?_
    rotate_left
    · go_simp
      rfl
    refine hK.out _ _ ⟨((cell_far (p := ⟨gb189, _, none⟩) NB166_189.out _).trans (((cell_far (p := ⟨gb189, _, none⟩) NB166_189.out _).trans (((cell_far (p := ⟨gb189, _, none⟩) NB166_189.out _).trans (hHeld.1)))))), ((cell_far (p := ⟨gb189, _, none⟩) NB166_189.out _).trans (((cell_far (p := ⟨gb189, _, none⟩) NB166_189.out _).trans (((cell_far (p := ⟨gb189, _, none⟩) NB166_189.out _).trans (hHeld.2.1)))))), ((cell_far (p := ⟨gb189, _, none⟩) NB166_189.out _).trans (((cell_far (p := ⟨gb189, _, none⟩) NB166_189.out _).trans (((cell_far (p := ⟨gb189, _, none⟩) NB166_189.out _).trans (hHeld.2.2.1)))))), ((cell_far (p := ⟨gb189, _, none⟩) NB167_189.out _).trans (((cell_far (p := ⟨gb189, _, none⟩) NB167_189.out _).trans (((cell_far (p := ⟨gb189, _, none⟩) NB167_189.out _).trans (hHeld.2.2.2.1)))))), ((cell_far (p := ⟨gb189, _, none⟩) NB167_189.out _).trans (((cell_far (p := ⟨gb189, _, none⟩) NB167_189.out _).trans (((cell_far (p := ⟨gb189, _, none⟩) NB167_189.out _).trans (hHeld.2.2.2.2.1)))))), ((cell_far (p := ⟨gb189, _, none⟩) NB167_189.out _).trans (((cell_far (p := ⟨gb189, _, none⟩) NB167_189.out _).trans (((cell_far (p := ⟨gb189, _, none⟩) NB167_189.out _).trans (hHeld.2.2.2.2.2))))))⟩ (fun hHeld => ?_)
    clear hK K
    refine pure_ (i := 10) (N := some 8) (v := ?_) (a' := ?_) #[true, true, true, true, true, true, true, true, true, true, true] rfl rfl (any_of HT_.out (by kernel_rfl)) (fun _ _ _ h => h) (Or.inl ⟨by rfl, ?_⟩) ?_ ?_
    rotate_left
    · intro w'
      go_simp
      with_reducible rfl
    rotate_left
    · simp only [Act.put, la_, lb_, lc_, i64_w, i32_w]
      rfl
    refine done_ (done_of HT_.out (by kernel_rfl)) ?_
    have hnb91 := NB189_166.out
    have hnc91 := NB166_189.out
    have hnb92 := NB189_167.out
    have hnc92 := NB167_189.out
    have hnb93 := NB189_178.out
    have hnc93 := NB178_189.out
    have hcz94_0 : w87.cell? ⟨gb189, 0, none⟩ = some (.bool false) := bc_
    have hcz94_1 : w87.cell? ⟨gb189, 1, none⟩ = some (.int .u64 0) := bc_
    have hcz94_2 : w87.cell? ⟨gb189, 2, none⟩ = some (.int .u64 0) := bc_
    have hfz94_0 := blk_frozen BK189.out 0
    have hfz94_1 := blk_frozen BK189.out 1
    have hfz94_2 := blk_frozen BK189.out 2
    have hnb95 := NB178_166.out
    have hnc95 := NB166_178.out
    have hnb96 := NB178_167.out
    have hnc96 := NB167_178.out
    have hcz97_0 : w87.cell? ⟨gb178, 0, none⟩ = some (.bool t174) := bc_
    have hcz97_1 : w87.cell? ⟨gb178, 1, none⟩ = some (.int .u64 t175) := bc_
    have hcz97_2 : w87.cell? ⟨gb178, 2, none⟩ = some (.int .u64 t176) := bc_
    have hfz97_0 := blk_frozen BK178.out 0
    have hfz97_1 := blk_frozen BK178.out 1
    have hfz97_2 := blk_frozen BK178.out 2
    try go_wp2_with (first | ((with_reducible refine gate_callee (f := 22) rfl ?_); refine goesL_ (some 27) rfl rfl Try.func22 (by kernel_rfl) rfl #[.agg #[.bool t185, .int .u64 t186, .int .u64 t187], .agg #[.bool t174, .int .u64 t175, .int .u64 t176]] rfl mp_ ?_; (with_reducible refine (laws_eqWide.calls t185 t186 t187 t174 t175 t176 false _ A9.out).mono ?_); rintro e w98 ⟨rfl, hb⟩; refine ⟨_, rfl, ?_⟩; have n0_ := Aside0.mk (blk_below (g := gb166) (o := .cells #[.bool a0_0, .int .u64 a0_1, .int .u64 a0_2] 32 (0, 0)) (by (with_reducible repeat (first | refine bN_ _ ?_ | refine bd_ ?_ | refine ba_ _ ?_)); refine blk_far ?_ NB166_189.out _; (with_reducible repeat (first | refine bN_ _ ?_ | refine bd_ ?_ | refine ba_ _ ?_)); refine blk_far ?_ NB166_189.out _; (with_reducible repeat (first | refine bN_ _ ?_ | refine bd_ ?_ | refine ba_ _ ?_)); refine blk_far ?_ NB166_189.out _; (with_reducible repeat (first | refine bN_ _ ?_ | refine bd_ ?_ | refine ba_ _ ?_)); exact BK166.out) hb); have n1_ := Aside0.mk (blk_below (g := gb167) (o := .cells #[.bool a1_0, .int .u64 a1_1, .int .u64 a1_2] 32 (0, 0)) (by (with_reducible repeat (first | refine bN_ _ ?_ | refine bd_ ?_ | refine ba_ _ ?_)); refine blk_far ?_ NB167_189.out _; (with_reducible repeat (first | refine bN_ _ ?_ | refine bd_ ?_ | refine ba_ _ ?_)); refine blk_far ?_ NB167_189.out _; (with_reducible repeat (first | refine bN_ _ ?_ | refine bd_ ?_ | refine ba_ _ ?_)); refine blk_far ?_ NB167_189.out _; (with_reducible repeat (first | refine bN_ _ ?_ | refine bd_ ?_ | refine ba_ _ ?_)); exact BK167.out) hb); have n2_ := Aside0.mk (blk_below (g := gb178) (o := .cells #[.bool t174, .int .u64 t175, .int .u64 t176] 33 (0, 0)) (by (with_reducible repeat (first | refine bN_ _ ?_ | refine bd_ ?_ | refine ba_ _ ?_)); refine blk_far ?_ NB178_189.out _; (with_reducible repeat (first | refine bN_ _ ?_ | refine bd_ ?_ | refine ba_ _ ?_)); refine blk_far ?_ NB178_189.out _; (with_reducible repeat (first | refine bN_ _ ?_ | refine bd_ ?_ | refine ba_ _ ?_)); refine blk_far ?_ NB178_189.out _; (with_reducible repeat (first | refine bN_ _ ?_ | refine bd_ ?_ | refine ba_ _ ?_)); exact BK178.out) hb); have n3_ := Aside0.mk (blk_below (g := gb189) (o := .cells #[.bool t185, .int .u64 t186, .int .u64 t187] 33 (0, 0)) (by (with_reducible repeat (first | refine bN_ _ ?_ | refine bd_ ?_ | refine ba_ _ ?_)); refine blk_put (cs := #[.bool t185, .int .u64 t186, .int .u64 0]) ?_ 2 _ rfl; (with_reducible repeat (first | refine bN_ _ ?_ | refine bd_ ?_ | refine ba_ _ ?_)); refine blk_put (cs := #[.bool t185, .int .u64 0, .int .u64 0]) ?_ 1 _ rfl; (with_reducible repeat (first | refine bN_ _ ?_ | refine bd_ ?_ | refine ba_ _ ?_)); refine blk_put (cs := #[.bool false, .int .u64 0, .int .u64 0]) ?_ 0 _ rfl; (with_reducible repeat (first | refine bN_ _ ?_ | refine bd_ ?_ | refine ba_ _ ?_)); exact BK189.out) hb); have n4_ := Aside0.mk (below_step bel_ hb); clear BK166; clear BK167; clear BK178; clear BK189; clear HB; have BK166 := n0_; have BK167 := n1_; have BK178 := n2_; have BK189 := n3_; have HB := n4_; clear n0_ n1_ n2_ n3_ n4_; (try clear hb); (try clear hb2); (try clear hk); (try clear hi)))
    go_ret
    exact ⟨by first | rfl | (simp [errW_none, errW_some] <;> rfl) | (simp [*, errW_none, errW_some] <;> rfl), by repeat (first | (with_reducible first | exact HB.out | apply below_alloc | apply pw_below_drewN | apply below_drew1 | refine below_set ?_ GE166.out | refine below_set ?_ GE167.out | refine below_set ?_ GE178.out | refine below_set ?_ GE189.out) | exact HB.out)⟩

end Go.Proofs.Yteldfljjeofiaaa.PFnExactAddWide
