/- Contracts of Go functions, each with the Lean function that says what it computes: begun by the print, turned by this session. No condition beyond what each theorem states. -/
import Derived.Test.YteldfljjeofiaaaPFnExactSameConfigx0
import Derived.Test.YteldfljjeofiaaaPFnExactSameConfigx3
namespace Go.Proofs.Yteldfljjeofiaaa.PFnExactSameConfig
open Go.RowKit Go.Proofs.YteldfljjeofiaaaW.PrintWords Go.Proofs.YteldfljjeofiaaaW.PrintLast Go.Proofs.YteldfljjeofiaaaW.PrintMore
attribute [local go_sem] max2_int min2_int max_two min_two max_three min_three max_four min_four   -- for this text's walks alone
set_option linter.unusedVariables false
set_option linter.unusedSimpArgs false

/-! ### impl_SameConfig: function 17 -/
def impl_SameConfig.f (k : Nat) (a0_0 : Int) (a0_1 : Int) (a0_2 : Int) (a0_3 : Int) (a0_4 : Int) (a0_5 : Int) (a0_6 : Int) (l0_7 : List Int) (a1_0 : Int) (a1_1 : Int) (a1_2 : Int) (a1_3 : Int) (a1_4 : Int) (a1_5 : Int) (a1_6 : Int) (l1_7 : List Int) : Option (Bool) := if a0_0 = a1_0 then (if a0_1 = a1_1 then (if a0_2 = a1_2 then (if a0_3 = a1_3 then (if a0_4 = a1_4 then (if a0_5 = a1_5 then (if a0_6 = a1_6 then ((slices_Equal_int_int.f k l0_7 l1_7).bind fun t136 => (some t136)) else (some false)) else (some false)) else (some false)) else (some false)) else (some false)) else (some false)) else (some false)
theorem impl_SameConfig.mono : ∀ a0 a1 a2 a3 a4 a5 a6 a7 a8 a9 a10 a11 a12 a13 a14 a15 k, LeO (impl_SameConfig.f k a0 a1 a2 a3 a4 a5 a6 a7 a8 a9 a10 a11 a12 a13 a14 a15) (impl_SameConfig.f (k + 1) a0 a1 a2 a3 a4 a5 a6 a7 a8 a9 a10 a11 a12 a13 a14 a15) := by
  intro a0 a1 a2 a3 a4 a5 a6 a7 a8 a9 a10 a11 a12 a13 a14 a15 k
  unfold impl_SameConfig.f
  repeat' first
      | (with_reducible exact slices_Equal_int_int.mono _ _ _)
      | (with_reducible exact LeO.refl _)
      | (with_reducible exact LeO.none _)
      | (with_reducible refine LeO.ite ?_ ?_)
      | (with_reducible refine LeO.bind ?_ (fun _ => ?_))
      | exact slices_Equal_int_int.mono _ _ _
      | exact LeO.none _
      | refine LeO.ite ?_ ?_
      | refine LeO.bind ?_ (fun _ => ?_)
set_option maxHeartbeats 8000000 in
set_option maxRecDepth 100000 in
theorem impl_SameConfig.calls (k : Nat) (a0_0 : Int) (a0_1 : Int) (a0_2 : Int) (a0_3 : Int) (a0_4 : Int) (a0_5 : Int) (a0_6 : Int) (A0_7 : Option Addr) (c0_7 : Nat) (l0_7 : List Int) (a1_0 : Int) (a1_1 : Int) (a1_2 : Int) (a1_3 : Int) (a1_4 : Int) (a1_5 : Int) (a1_6 : Int) (A1_7 : Option Addr) (c1_7 : Nat) (l1_7 : List Int) (r : Bool) (w : World) (hr0_7 : Kd.C (Kd.int .i64) w A0_7 l0_7.length l0_7) (hc0_7 : l0_7.length ≤ c0_7) (hr1_7 : Kd.C (Kd.int .i64) w A1_7 l1_7.length l1_7) (hc1_7 : l1_7.length ≤ c1_7) (h : impl_SameConfig.f k a0_0 a0_1 a0_2 a0_3 a0_4 a0_5 a0_6 l0_7 a1_0 a1_1 a1_2 a1_3 a1_4 a1_5 a1_6 l1_7 = some r) :
    Calls Try.prog 17 #[.agg #[.int .i64 a0_0, .int .i64 a0_1, .int .i64 a0_2, .int .i64 a0_3, .int .i64 a0_4, .int .i64 a0_5, .int .i64 a0_6, .slice A0_7 l0_7.length c0_7], .agg #[.int .i64 a1_0, .int .i64 a1_1, .int .i64 a1_2, .int .i64 a1_3, .int .i64 a1_4, .int .i64 a1_5, .int .i64 a1_6, .slice A1_7 l1_7.length c1_7]] w fun e w' => e = .returned (.bool r) ∧ Below w.heap.size w w' := by
  have hu27 := Try.underlying27
  have HR0_7 := Aside0.mk hr0_7
  have HC0_7 := Aside0.mk hc0_7
  clear hr0_7 hc0_7
  have HR1_7 := Aside0.mk hr1_7
  have HC1_7 := Aside0.mk hc1_7
  clear hr1_7 hc1_7
  have HB := Aside0.mk (Below.refl w.heap.size w)
  have H : (if a0_0 = a1_0 then (if a0_1 = a1_1 then (if a0_2 = a1_2 then (if a0_3 = a1_3 then (if a0_4 = a1_4 then (if a0_5 = a1_5 then (if a0_6 = a1_6 then ((slices_Equal_int_int.f k l0_7 l1_7).bind fun t136 => (some t136)) else (some false)) else (some false)) else (some false)) else (some false)) else (some false)) else (some false)) else (some false)) = some r := h
  clear h
  by_cases c3 : a0_0 = a1_0
  · rw [if_pos c3] at H
    have c3b0 : (a0_0 == a1_0) = true := beq_iff_eq.mpr c3
    have c3b1 : (a0_0 != a1_0) = false := bne_eq_false_iff_eq.mpr c3
    clear c3
    by_cases c4 : a0_1 = a1_1
    · rw [if_pos c4] at H
      have c4b0 : (a0_1 == a1_1) = true := beq_iff_eq.mpr c4
      have c4b1 : (a0_1 != a1_1) = false := bne_eq_false_iff_eq.mpr c4
      clear c4
      by_cases c5 : a0_2 = a1_2
      · rw [if_pos c5] at H
        have c5b0 : (a0_2 == a1_2) = true := beq_iff_eq.mpr c5
        have c5b1 : (a0_2 != a1_2) = false := bne_eq_false_iff_eq.mpr c5
        clear c5
        by_cases c6 : a0_3 = a1_3
        · rw [if_pos c6] at H
          have c6b0 : (a0_3 == a1_3) = true := beq_iff_eq.mpr c6
          have c6b1 : (a0_3 != a1_3) = false := bne_eq_false_iff_eq.mpr c6
          clear c6
          by_cases c7 : a0_4 = a1_4
          · rw [if_pos c7] at H
            have c7b0 : (a0_4 == a1_4) = true := beq_iff_eq.mpr c7
            have c7b1 : (a0_4 != a1_4) = false := bne_eq_false_iff_eq.mpr c7
            clear c7
            by_cases c8 : a0_5 = a1_5
            · rw [if_pos c8] at H
              have c8b0 : (a0_5 == a1_5) = true := beq_iff_eq.mpr c8
              have c8b1 : (a0_5 != a1_5) = false := bne_eq_false_iff_eq.mpr c8
              clear c8
              by_cases c9 : a0_6 = a1_6
              · rw [if_pos c9] at H
                have c9b0 : (a0_6 == a1_6) = true := beq_iff_eq.mpr c9
                have c9b1 : (a0_6 != a1_6) = false := bne_eq_false_iff_eq.mpr c9
                clear c9
                replace H := Option.bind_eq_some_iff.mp H
                obtain ⟨t136, A100, H⟩ := H
                replace H : (some t136) = some r := H
                have A10 := Aside0.mk A100
                clear A100
                obtain rfl := Option.some.inj H
                go_enter Try.func17, Try.ntmps17
                try go_wp2_with (first | ((with_reducible refine gate_dst (N := 2) rfl ?_); refine box_event ?hg (N := 2) ?hd (cs := #[.int .i64 a0_0, .int .i64 a0_1, .int .i64 a0_2, .int .i64 a0_3, .int .i64 a0_4, .int .i64 a0_5, .int .i64 a0_6, .slice A0_7 l0_7.length c0_7]) (t := 27) ?hr ?_; (case hd => rfl); (case hg => rfl); (case hr => first | (go_simp; done) | (go_simp; rfl)); intro gb132 hg w11 hbox hb; have n0_ := Aside0.mk (below_step bel_ hb); have n1_ := Aside0.mk (hbox); have n2_ := bs_ (w := w) hg; have n3_ := bs_ (w := w) hg; clear HB; have HB := n0_; have BK132 := n1_; have GW132 := n2_; have GE132 := n3_; clear n0_ n1_ n2_ n3_; clear hb hbox hg) | ((with_reducible refine gate_dst (N := 3) rfl ?_); refine box_event ?hg (N := 3) ?hd (cs := #[.int .i64 a1_0, .int .i64 a1_1, .int .i64 a1_2, .int .i64 a1_3, .int .i64 a1_4, .int .i64 a1_5, .int .i64 a1_6, .slice A1_7 l1_7.length c1_7]) (t := 27) ?hr ?_; (case hd => rfl); (case hg => rfl); (case hr => first | (go_simp; done) | (go_simp; rfl)); intro gb133 hg w12 hbox hb; have n0_ := bb_ (g := gb132) (o := .cells #[.int .i64 a0_0, .int .i64 a0_1, .int .i64 a0_2, .int .i64 a0_3, .int .i64 a0_4, .int .i64 a0_5, .int .i64 a0_6, .slice A0_7 l0_7.length c0_7] 27 (0, 0)) hb; have n1_ := Aside0.mk (below_step bel_ hb); have n2_ := Aside0.mk (hbox); have n3_ := bs_ (w := w) hg; have n4_ := bs_ (w := w) hg; have n5_ := nlt_ (g := gb132) (o := .cells #[.int .i64 a0_0, .int .i64 a0_1, .int .i64 a0_2, .int .i64 a0_3, .int .i64 a0_4, .int .i64 a0_5, .int .i64 a0_6, .slice A0_7 l0_7.length c0_7] 27 (0, 0)) hg; have n6_ := ngt_ (g := gb132) (o := .cells #[.int .i64 a0_0, .int .i64 a0_1, .int .i64 a0_2, .int .i64 a0_3, .int .i64 a0_4, .int .i64 a0_5, .int .i64 a0_6, .slice A0_7 l0_7.length c0_7] 27 (0, 0)) hg; clear BK132; clear HB; have BK132 := n0_; have HB := n1_; have BK133 := n2_; have GW133 := n3_; have GE133 := n4_; have NB132_133 := n5_; have NB133_132 := n6_; clear n0_ n1_ n2_ n3_ n4_ n5_ n6_; clear hb hbox hg))
                have n0_ := Aside0.mk (blk_drew BK132.out)
                have n1_ := Aside0.mk (blk_drew BK133.out)
                have n2_ := Aside0.mk (below_drew1 HB.out)
                clear BK132
                clear BK133
                clear HB
                have BK132 := n0_
                have BK133 := n1_
                have HB := n2_
                clear n0_ n1_ n2_
                refine start_ (n := 6) (S := fun w' => w'.cell? ⟨gb132, 0, none⟩ = some (.int .i64 a0_0) ∧ w'.cell? ⟨gb132, 1, none⟩ = some (.int .i64 a0_1) ∧ w'.cell? ⟨gb132, 2, none⟩ = some (.int .i64 a0_2) ∧ w'.cell? ⟨gb132, 3, none⟩ = some (.int .i64 a0_3) ∧ w'.cell? ⟨gb132, 4, none⟩ = some (.int .i64 a0_4) ∧ w'.cell? ⟨gb132, 5, none⟩ = some (.int .i64 a0_5) ∧ w'.cell? ⟨gb132, 6, none⟩ = some (.int .i64 a0_6) ∧ w'.cell? ⟨gb132, 7, none⟩ = some (.slice A0_7 l0_7.length c0_7) ∧ w'.cell? ⟨gb133, 0, none⟩ = some (.int .i64 a1_0) ∧ w'.cell? ⟨gb133, 1, none⟩ = some (.int .i64 a1_1) ∧ w'.cell? ⟨gb133, 2, none⟩ = some (.int .i64 a1_2) ∧ w'.cell? ⟨gb133, 3, none⟩ = some (.int .i64 a1_3) ∧ w'.cell? ⟨gb133, 4, none⟩ = some (.int .i64 a1_4) ∧ w'.cell? ⟨gb133, 5, none⟩ = some (.int .i64 a1_5) ∧ w'.cell? ⟨gb133, 6, none⟩ = some (.int .i64 a1_6) ∧ w'.cell? ⟨gb133, 7, none⟩ = some (.slice A1_7 l1_7.length c1_7)) (ds := []) #[false, false, false, false, false, false] (by kernel_rfl) rfl rfl ⟨bc_, bc_, bc_, bc_, bc_, bc_, bc_, bc_, bc_, bc_, bc_, bc_, bc_, bc_, bc_, bc_⟩ (fun hHeld => ?_)
                generalize w12.drew = w13 at BK132 BK133 HB hHeld ⊢
                refine take_ (i := 0) (N := some 7) (v := ?_) (a' := ?_) #[true, false, false, false, false, false] rfl rfl (by kernel_rfl) (fun _ _ _ h => h) (Or.inl ⟨by rfl, ?_⟩) hHeld ?_ ?_
                rotate_left
                · rintro w' ⟨s0, s1, s2, s3, s4, s5, s6, s7, s8, s9, s10, s11, s12, s13, s14, s15⟩
                  go_simp
                  with_reducible rfl
                rotate_left
                · simp only [Act.put, la_, lb_, lc_, i64_w, i32_w]
                  rfl
                refine take_ (i := 1) (N := some 8) (v := ?_) (a' := ?_) #[true, true, false, false, false, false] rfl rfl (by kernel_rfl) (fun _ _ _ h => h) (Or.inl ⟨by rfl, ?_⟩) hHeld ?_ ?_
                rotate_left
                · rintro w' ⟨s0, s1, s2, s3, s4, s5, s6, s7, s8, s9, s10, s11, s12, s13, s14, s15⟩
                  go_simp
                  with_reducible rfl
                rotate_left
                · simp only [Act.put, la_, lb_, lc_, i64_w, i32_w]
                  rfl
                refine join_ (σ := Nat × Nat) 2 #[true, true, true, true, false, false] (fun s_ => [(5, .pointer (some ⟨s_.1, 0, none⟩)), (6, .pointer (some ⟨s_.2, 0, none⟩))]) (fun s_ w' => (w'.cell? ⟨gb132, 0, none⟩ = some (.int .i64 a0_0) ∧ w'.cell? ⟨gb132, 1, none⟩ = some (.int .i64 a0_1) ∧ w'.cell? ⟨gb132, 2, none⟩ = some (.int .i64 a0_2) ∧ w'.cell? ⟨gb132, 3, none⟩ = some (.int .i64 a0_3) ∧ w'.cell? ⟨gb132, 4, none⟩ = some (.int .i64 a0_4) ∧ w'.cell? ⟨gb132, 5, none⟩ = some (.int .i64 a0_5) ∧ w'.cell? ⟨gb132, 6, none⟩ = some (.int .i64 a0_6) ∧ w'.cell? ⟨gb132, 7, none⟩ = some (.slice A0_7 l0_7.length c0_7) ∧ w'.cell? ⟨gb133, 0, none⟩ = some (.int .i64 a1_0) ∧ w'.cell? ⟨gb133, 1, none⟩ = some (.int .i64 a1_1) ∧ w'.cell? ⟨gb133, 2, none⟩ = some (.int .i64 a1_2) ∧ w'.cell? ⟨gb133, 3, none⟩ = some (.int .i64 a1_3) ∧ w'.cell? ⟨gb133, 4, none⟩ = some (.int .i64 a1_4) ∧ w'.cell? ⟨gb133, 5, none⟩ = some (.int .i64 a1_5) ∧ w'.cell? ⟨gb133, 6, none⟩ = some (.int .i64 a1_6) ∧ w'.cell? ⟨gb133, 7, none⟩ = some (.slice A1_7 l1_7.length c1_7)) ∧ (w'.heap[gb132]? = some (.cells #[.int .i64 a0_0, .int .i64 a0_1, .int .i64 a0_2, .int .i64 a0_3, .int .i64 a0_4, .int .i64 a0_5, .int .i64 a0_6, .slice A0_7 l0_7.length c0_7] 27 (0, 0))) ∧ (w'.heap[gb133]? = some (.cells #[.int .i64 a1_0, .int .i64 a1_1, .int .i64 a1_2, .int .i64 a1_3, .int .i64 a1_4, .int .i64 a1_5, .int .i64 a1_6, .slice A1_7 l1_7.length c1_7] 27 (0, 0))) ∧ (w'.heap[s_.1]? = some (.cells #[.int .i64 0, .int .i64 0, .int .i64 0, .int .i64 0, .int .i64 0, .int .i64 0, .int .i64 0, .slice none 0 0] 27 (0, 0))) ∧ (w'.heap[s_.2]? = some (.cells #[.int .i64 0, .int .i64 0, .int .i64 0, .int .i64 0, .int .i64 0, .int .i64 0, .int .i64 0, .slice none 0 0] 27 (0, 0))) ∧ (w.heap.size ≤ s_.1) ∧ (w.heap.size ≤ s_.1) ∧ (gb132 ≠ s_.1) ∧ (s_.1 ≠ gb132) ∧ (gb133 ≠ s_.1) ∧ (s_.1 ≠ gb133) ∧ (s_.2 ≠ s_.1) ∧ (s_.1 ≠ s_.2) ∧ (w.heap.size ≤ s_.2) ∧ (w.heap.size ≤ s_.2) ∧ (gb132 ≠ s_.2) ∧ (s_.2 ≠ gb132) ∧ (gb133 ≠ s_.2) ∧ (s_.2 ≠ gb133) ∧ (Below w.heap.size w w')) ?_ ?_
                rotate_left
                · intro hCont
                  refine two_ (i := 2) (j := 3) (Ni := some 5) (Nj := some 6) #[true, true, true, false, false, false] #[true, true, false, true, false, false] rfl rfl rfl rfl (by kernel_rfl) (by decide) (by decide) (fun K hK => ?_) (fun K hK => ?_)
                  · skip
                    refine box_step ?hg (N := 5) ?hd (cs := #[.int .i64 0, .int .i64 0, .int .i64 0, .int .i64 0, .int .i64 0, .int .i64 0, .int .i64 0, .slice none 0 0]) (t := 27) ?hr ?_; (case hd => rfl); (case hg => rfl); (case hr => first | (go_simp; done) | (go_simp; rfl))
                    intro gb134 hg w14 hbox hb
                    have n0_ := bb_ (g := gb132) (o := .cells #[.int .i64 a0_0, .int .i64 a0_1, .int .i64 a0_2, .int .i64 a0_3, .int .i64 a0_4, .int .i64 a0_5, .int .i64 a0_6, .slice A0_7 l0_7.length c0_7] 27 (0, 0)) hb
                    have n1_ := bb_ (g := gb133) (o := .cells #[.int .i64 a1_0, .int .i64 a1_1, .int .i64 a1_2, .int .i64 a1_3, .int .i64 a1_4, .int .i64 a1_5, .int .i64 a1_6, .slice A1_7 l1_7.length c1_7] 27 (0, 0)) hb
                    have n2_ := Aside0.mk (below_step bel_ hb)
                    have n3_ := Aside0.mk (hbox)
                    have n4_ := bs_ (w := w) hg
                    have n5_ := bs_ (w := w) hg
                    have n6_ := nlt_ (g := gb132) (o := .cells #[.int .i64 a0_0, .int .i64 a0_1, .int .i64 a0_2, .int .i64 a0_3, .int .i64 a0_4, .int .i64 a0_5, .int .i64 a0_6, .slice A0_7 l0_7.length c0_7] 27 (0, 0)) hg
                    have n7_ := ngt_ (g := gb132) (o := .cells #[.int .i64 a0_0, .int .i64 a0_1, .int .i64 a0_2, .int .i64 a0_3, .int .i64 a0_4, .int .i64 a0_5, .int .i64 a0_6, .slice A0_7 l0_7.length c0_7] 27 (0, 0)) hg
                    have n8_ := nlt_ (g := gb133) (o := .cells #[.int .i64 a1_0, .int .i64 a1_1, .int .i64 a1_2, .int .i64 a1_3, .int .i64 a1_4, .int .i64 a1_5, .int .i64 a1_6, .slice A1_7 l1_7.length c1_7] 27 (0, 0)) hg
                    have n9_ := ngt_ (g := gb133) (o := .cells #[.int .i64 a1_0, .int .i64 a1_1, .int .i64 a1_2, .int .i64 a1_3, .int .i64 a1_4, .int .i64 a1_5, .int .i64 a1_6, .slice A1_7 l1_7.length c1_7] 27 (0, 0)) hg
                    clear BK132
                    clear BK133
                    clear HB
                    have BK132 := n0_
                    have BK133 := n1_
                    have HB := n2_
                    have BK134 := n3_
                    have GW134 := n4_
                    have GE134 := n5_
                    have NB132_134 := n6_
                    have NB134_132 := n7_
                    have NB133_134 := n8_
                    have NB134_133 := n9_
                    clear n0_ n1_ n2_ n3_ n4_ n5_ n6_ n7_ n8_ n9_
                    clear hb hbox hg
                    refine hK.out _ _ ⟨bc_, bc_, bc_, bc_, bc_, bc_, bc_, bc_, bc_, bc_, bc_, bc_, bc_, bc_, bc_, bc_⟩ (fun hHeld => ?_)
                    clear hK K
                    refine norm_ (a' := ?_) ?_ ?_
                    rotate_left
                    · show Act.put _ (some 5) _ = _
                      simp only [Act.put, la_, lb_, lc_, i64_w, i32_w]
                      rfl
                    refine one_ (i := 3) (N := some 6) #[true, true, true, true, false, false] rfl rfl (by kernel_rfl) (by decide) (fun K hK => ?_)
                    refine box_step ?hg (N := 6) ?hd (cs := #[.int .i64 0, .int .i64 0, .int .i64 0, .int .i64 0, .int .i64 0, .int .i64 0, .int .i64 0, .slice none 0 0]) (t := 27) ?hr ?_; (case hd => rfl); (case hg => rfl); (case hr => first | (go_simp; done) | (go_simp; rfl))
                    intro gb135 hg w15 hbox hb
                    have n0_ := bb_ (g := gb132) (o := .cells #[.int .i64 a0_0, .int .i64 a0_1, .int .i64 a0_2, .int .i64 a0_3, .int .i64 a0_4, .int .i64 a0_5, .int .i64 a0_6, .slice A0_7 l0_7.length c0_7] 27 (0, 0)) hb
                    have n1_ := bb_ (g := gb133) (o := .cells #[.int .i64 a1_0, .int .i64 a1_1, .int .i64 a1_2, .int .i64 a1_3, .int .i64 a1_4, .int .i64 a1_5, .int .i64 a1_6, .slice A1_7 l1_7.length c1_7] 27 (0, 0)) hb
                    have n2_ := bb_ (g := gb134) (o := .cells #[.int .i64 0, .int .i64 0, .int .i64 0, .int .i64 0, .int .i64 0, .int .i64 0, .int .i64 0, .slice none 0 0] 27 (0, 0)) hb
                    have n3_ := Aside0.mk (below_step bel_ hb)
                    have n4_ := Aside0.mk (hbox)
                    have n5_ := bs_ (w := w) hg
                    have n6_ := bs_ (w := w) hg
                    have n7_ := nlt_ (g := gb132) (o := .cells #[.int .i64 a0_0, .int .i64 a0_1, .int .i64 a0_2, .int .i64 a0_3, .int .i64 a0_4, .int .i64 a0_5, .int .i64 a0_6, .slice A0_7 l0_7.length c0_7] 27 (0, 0)) hg
                    have n8_ := ngt_ (g := gb132) (o := .cells #[.int .i64 a0_0, .int .i64 a0_1, .int .i64 a0_2, .int .i64 a0_3, .int .i64 a0_4, .int .i64 a0_5, .int .i64 a0_6, .slice A0_7 l0_7.length c0_7] 27 (0, 0)) hg
                    have n9_ := nlt_ (g := gb133) (o := .cells #[.int .i64 a1_0, .int .i64 a1_1, .int .i64 a1_2, .int .i64 a1_3, .int .i64 a1_4, .int .i64 a1_5, .int .i64 a1_6, .slice A1_7 l1_7.length c1_7] 27 (0, 0)) hg
                    have n10_ := ngt_ (g := gb133) (o := .cells #[.int .i64 a1_0, .int .i64 a1_1, .int .i64 a1_2, .int .i64 a1_3, .int .i64 a1_4, .int .i64 a1_5, .int .i64 a1_6, .slice A1_7 l1_7.length c1_7] 27 (0, 0)) hg
                    have n11_ := nlt_ (g := gb134) (o := .cells #[.int .i64 0, .int .i64 0, .int .i64 0, .int .i64 0, .int .i64 0, .int .i64 0, .int .i64 0, .slice none 0 0] 27 (0, 0)) hg
                    have n12_ := ngt_ (g := gb134) (o := .cells #[.int .i64 0, .int .i64 0, .int .i64 0, .int .i64 0, .int .i64 0, .int .i64 0, .int .i64 0, .slice none 0 0] 27 (0, 0)) hg
                    clear BK132
                    clear BK133
                    clear BK134
                    clear HB
                    have BK132 := n0_
                    have BK133 := n1_
                    have BK134 := n2_
                    have HB := n3_
                    have BK135 := n4_
                    have GW135 := n5_
                    have GE135 := n6_
                    have NB132_135 := n7_
                    have NB135_132 := n8_
                    have NB133_135 := n9_
                    have NB135_133 := n10_
                    have NB134_135 := n11_
                    have NB135_134 := n12_
                    clear n0_ n1_ n2_ n3_ n4_ n5_ n6_ n7_ n8_ n9_ n10_ n11_ n12_
                    clear hb hbox hg
                    refine hK.out _ _ ⟨bc_, bc_, bc_, bc_, bc_, bc_, bc_, bc_, bc_, bc_, bc_, bc_, bc_, bc_, bc_, bc_⟩ (fun hHeld => ?_)
                    clear hK K
                    refine norm_ (a' := ?_) ?_ ?_
                    rotate_left
                    · show Act.put _ (some 6) _ = _
                      simp only [Act.put, la_, lb_, lc_, i64_w, i32_w]
                      rfl
                    exact norm_ (by simp only [putAll, Act.put, la_, lb_, lc_]) (hCont (gb134, gb135) _ ⟨hHeld, bk_, bk_, bk_, bk_, GW134.out, GE134.out, NB132_134.out, NB134_132.out, NB133_134.out, NB134_133.out, NB135_134.out, NB134_135.out, GW135.out, GE135.out, NB132_135.out, NB135_132.out, NB133_135.out, NB135_133.out, bel_⟩)
                  · skip
                    refine box_step ?hg (N := 6) ?hd (cs := #[.int .i64 0, .int .i64 0, .int .i64 0, .int .i64 0, .int .i64 0, .int .i64 0, .int .i64 0, .slice none 0 0]) (t := 27) ?hr ?_; (case hd => rfl); (case hg => rfl); (case hr => first | (go_simp; done) | (go_simp; rfl))
                    intro gb135 hg w14 hbox hb
                    have n0_ := bb_ (g := gb132) (o := .cells #[.int .i64 a0_0, .int .i64 a0_1, .int .i64 a0_2, .int .i64 a0_3, .int .i64 a0_4, .int .i64 a0_5, .int .i64 a0_6, .slice A0_7 l0_7.length c0_7] 27 (0, 0)) hb
                    have n1_ := bb_ (g := gb133) (o := .cells #[.int .i64 a1_0, .int .i64 a1_1, .int .i64 a1_2, .int .i64 a1_3, .int .i64 a1_4, .int .i64 a1_5, .int .i64 a1_6, .slice A1_7 l1_7.length c1_7] 27 (0, 0)) hb
                    have n2_ := Aside0.mk (below_step bel_ hb)
                    have n3_ := Aside0.mk (hbox)
                    have n4_ := bs_ (w := w) hg
                    have n5_ := bs_ (w := w) hg
                    have n6_ := nlt_ (g := gb132) (o := .cells #[.int .i64 a0_0, .int .i64 a0_1, .int .i64 a0_2, .int .i64 a0_3, .int .i64 a0_4, .int .i64 a0_5, .int .i64 a0_6, .slice A0_7 l0_7.length c0_7] 27 (0, 0)) hg
                    have n7_ := ngt_ (g := gb132) (o := .cells #[.int .i64 a0_0, .int .i64 a0_1, .int .i64 a0_2, .int .i64 a0_3, .int .i64 a0_4, .int .i64 a0_5, .int .i64 a0_6, .slice A0_7 l0_7.length c0_7] 27 (0, 0)) hg
                    have n8_ := nlt_ (g := gb133) (o := .cells #[.int .i64 a1_0, .int .i64 a1_1, .int .i64 a1_2, .int .i64 a1_3, .int .i64 a1_4, .int .i64 a1_5, .int .i64 a1_6, .slice A1_7 l1_7.length c1_7] 27 (0, 0)) hg
                    have n9_ := ngt_ (g := gb133) (o := .cells #[.int .i64 a1_0, .int .i64 a1_1, .int .i64 a1_2, .int .i64 a1_3, .int .i64 a1_4, .int .i64 a1_5, .int .i64 a1_6, .slice A1_7 l1_7.length c1_7] 27 (0, 0)) hg
                    clear BK132
                    clear BK133
                    clear HB
                    have BK132 := n0_
                    have BK133 := n1_
                    have HB := n2_
                    have BK135 := n3_
                    have GW135 := n4_
                    have GE135 := n5_
                    have NB132_135 := n6_
                    have NB135_132 := n7_
                    have NB133_135 := n8_
                    have NB135_133 := n9_
                    clear n0_ n1_ n2_ n3_ n4_ n5_ n6_ n7_ n8_ n9_
                    clear hb hbox hg
                    refine hK.out _ _ ⟨bc_, bc_, bc_, bc_, bc_, bc_, bc_, bc_, bc_, bc_, bc_, bc_, bc_, bc_, bc_, bc_⟩ (fun hHeld => ?_)
                    clear hK K
                    refine norm_ (a' := ?_) ?_ ?_
                    rotate_left
                    · show Act.put _ (some 6) _ = _
                      simp only [Act.put, la_, lb_, lc_, i64_w, i32_w]
                      rfl
                    refine one_ (i := 2) (N := some 5) #[true, true, true, true, false, false] rfl rfl (by kernel_rfl) (by decide) (fun K hK => ?_)
                    refine box_step ?hg (N := 5) ?hd (cs := #[.int .i64 0, .int .i64 0, .int .i64 0, .int .i64 0, .int .i64 0, .int .i64 0, .int .i64 0, .slice none 0 0]) (t := 27) ?hr ?_; (case hd => rfl); (case hg => rfl); (case hr => first | (go_simp; done) | (go_simp; rfl))
                    intro gb134 hg w15 hbox hb
                    have n0_ := bb_ (g := gb132) (o := .cells #[.int .i64 a0_0, .int .i64 a0_1, .int .i64 a0_2, .int .i64 a0_3, .int .i64 a0_4, .int .i64 a0_5, .int .i64 a0_6, .slice A0_7 l0_7.length c0_7] 27 (0, 0)) hb
                    have n1_ := bb_ (g := gb133) (o := .cells #[.int .i64 a1_0, .int .i64 a1_1, .int .i64 a1_2, .int .i64 a1_3, .int .i64 a1_4, .int .i64 a1_5, .int .i64 a1_6, .slice A1_7 l1_7.length c1_7] 27 (0, 0)) hb
                    have n2_ := bb_ (g := gb135) (o := .cells #[.int .i64 0, .int .i64 0, .int .i64 0, .int .i64 0, .int .i64 0, .int .i64 0, .int .i64 0, .slice none 0 0] 27 (0, 0)) hb
                    have n3_ := Aside0.mk (below_step bel_ hb)
                    have n4_ := Aside0.mk (hbox)
                    have n5_ := bs_ (w := w) hg
                    have n6_ := bs_ (w := w) hg
                    have n7_ := nlt_ (g := gb132) (o := .cells #[.int .i64 a0_0, .int .i64 a0_1, .int .i64 a0_2, .int .i64 a0_3, .int .i64 a0_4, .int .i64 a0_5, .int .i64 a0_6, .slice A0_7 l0_7.length c0_7] 27 (0, 0)) hg
                    have n8_ := ngt_ (g := gb132) (o := .cells #[.int .i64 a0_0, .int .i64 a0_1, .int .i64 a0_2, .int .i64 a0_3, .int .i64 a0_4, .int .i64 a0_5, .int .i64 a0_6, .slice A0_7 l0_7.length c0_7] 27 (0, 0)) hg
                    have n9_ := nlt_ (g := gb133) (o := .cells #[.int .i64 a1_0, .int .i64 a1_1, .int .i64 a1_2, .int .i64 a1_3, .int .i64 a1_4, .int .i64 a1_5, .int .i64 a1_6, .slice A1_7 l1_7.length c1_7] 27 (0, 0)) hg
                    have n10_ := ngt_ (g := gb133) (o := .cells #[.int .i64 a1_0, .int .i64 a1_1, .int .i64 a1_2, .int .i64 a1_3, .int .i64 a1_4, .int .i64 a1_5, .int .i64 a1_6, .slice A1_7 l1_7.length c1_7] 27 (0, 0)) hg
                    have n11_ := nlt_ (g := gb135) (o := .cells #[.int .i64 0, .int .i64 0, .int .i64 0, .int .i64 0, .int .i64 0, .int .i64 0, .int .i64 0, .slice none 0 0] 27 (0, 0)) hg
                    have n12_ := ngt_ (g := gb135) (o := .cells #[.int .i64 0, .int .i64 0, .int .i64 0, .int .i64 0, .int .i64 0, .int .i64 0, .int .i64 0, .slice none 0 0] 27 (0, 0)) hg
                    clear BK132
                    clear BK133
                    clear BK135
                    clear HB
                    have BK132 := n0_
                    have BK133 := n1_
                    have BK135 := n2_
                    have HB := n3_
                    have BK134 := n4_
                    have GW134 := n5_
                    have GE134 := n6_
                    have NB132_134 := n7_
                    have NB134_132 := n8_
                    have NB133_134 := n9_
                    have NB134_133 := n10_
                    have NB135_134 := n11_
                    have NB134_135 := n12_
                    clear n0_ n1_ n2_ n3_ n4_ n5_ n6_ n7_ n8_ n9_ n10_ n11_ n12_
                    clear hb hbox hg
                    refine hK.out _ _ ⟨bc_, bc_, bc_, bc_, bc_, bc_, bc_, bc_, bc_, bc_, bc_, bc_, bc_, bc_, bc_, bc_⟩ (fun hHeld => ?_)
                    clear hK K
                    refine norm_ (a' := ?_) ?_ ?_
                    rotate_left
                    · show Act.put _ (some 5) _ = _
                      simp only [Act.put, la_, lb_, lc_, i64_w, i32_w]
                      rfl
                    exact norm_ (by simp only [putAll, Act.put, la_, lb_, lc_]) (hCont (gb134, gb135) _ ⟨hHeld, bk_, bk_, bk_, bk_, GW134.out, GE134.out, NB132_134.out, NB134_132.out, NB133_134.out, NB134_133.out, NB135_134.out, NB134_135.out, GW135.out, GE135.out, NB132_135.out, NB135_132.out, NB133_135.out, NB135_133.out, bel_⟩)
                rintro ⟨gb134, gb135⟩ w16 ⟨hS_, h0_, h1_, h2_, h3_, h4_, h5_, h6_, h7_, h8_, h9_, h10_, h11_, h12_, h13_, h14_, h15_, h16_, h17_, h18_⟩
                have n0_ : Aside0 (w16.heap[gb132]? = some (.cells #[.int .i64 a0_0, .int .i64 a0_1, .int .i64 a0_2, .int .i64 a0_3, .int .i64 a0_4, .int .i64 a0_5, .int .i64 a0_6, .slice A0_7 l0_7.length c0_7] 27 (0, 0))) := ⟨h0_⟩
                have n1_ : Aside0 (w16.heap[gb133]? = some (.cells #[.int .i64 a1_0, .int .i64 a1_1, .int .i64 a1_2, .int .i64 a1_3, .int .i64 a1_4, .int .i64 a1_5, .int .i64 a1_6, .slice A1_7 l1_7.length c1_7] 27 (0, 0))) := ⟨h1_⟩
                have n2_ : Aside0 (w16.heap[gb134]? = some (.cells #[.int .i64 0, .int .i64 0, .int .i64 0, .int .i64 0, .int .i64 0, .int .i64 0, .int .i64 0, .slice none 0 0] 27 (0, 0))) := ⟨h2_⟩
                have n3_ : Aside0 (w16.heap[gb135]? = some (.cells #[.int .i64 0, .int .i64 0, .int .i64 0, .int .i64 0, .int .i64 0, .int .i64 0, .int .i64 0, .slice none 0 0] 27 (0, 0))) := ⟨h3_⟩
                have n4_ : Aside0 (w.heap.size ≤ gb134) := ⟨h4_⟩
                have n5_ : Aside0 (w.heap.size ≤ gb134) := ⟨h5_⟩
                have n6_ : Aside0 (gb132 ≠ gb134) := ⟨h6_⟩
                have n7_ : Aside0 (gb134 ≠ gb132) := ⟨h7_⟩
                have n8_ : Aside0 (gb133 ≠ gb134) := ⟨h8_⟩
                have n9_ : Aside0 (gb134 ≠ gb133) := ⟨h9_⟩
                have n10_ : Aside0 (gb135 ≠ gb134) := ⟨h10_⟩
                have n11_ : Aside0 (gb134 ≠ gb135) := ⟨h11_⟩
                have n12_ : Aside0 (w.heap.size ≤ gb135) := ⟨h12_⟩
                have n13_ : Aside0 (w.heap.size ≤ gb135) := ⟨h13_⟩
                have n14_ : Aside0 (gb132 ≠ gb135) := ⟨h14_⟩
                have n15_ : Aside0 (gb135 ≠ gb132) := ⟨h15_⟩
                have n16_ : Aside0 (gb133 ≠ gb135) := ⟨h16_⟩
                have n17_ : Aside0 (gb135 ≠ gb133) := ⟨h17_⟩
                have n18_ : Aside0 (Below w.heap.size w w16) := ⟨h18_⟩
                clear BK132
                clear BK133
                clear HB
                clear h0_ h1_ h2_ h3_ h4_ h5_ h6_ h7_ h8_ h9_ h10_ h11_ h12_ h13_ h14_ h15_ h16_ h17_ h18_
                have BK132 := n0_
                have BK133 := n1_
                have BK134 := n2_
                have BK135 := n3_
                have GW134 := n4_
                have GE134 := n5_
                have NB132_134 := n6_
                have NB134_132 := n7_
                have NB133_134 := n8_
                have NB134_133 := n9_
                have NB135_134 := n10_
                have NB134_135 := n11_
                have GW135 := n12_
                have GE135 := n13_
                have NB132_135 := n14_
                have NB135_132 := n15_
                have NB133_135 := n16_
                have NB135_133 := n17_
                have HB := n18_
                clear n0_ n1_ n2_ n3_ n4_ n5_ n6_ n7_ n8_ n9_ n10_ n11_ n12_ n13_ n14_ n15_ n16_ n17_ n18_
                have hHeld : w16.cell? ⟨gb132, 0, none⟩ = some (.int .i64 a0_0) ∧ w16.cell? ⟨gb132, 1, none⟩ = some (.int .i64 a0_1) ∧ w16.cell? ⟨gb132, 2, none⟩ = some (.int .i64 a0_2) ∧ w16.cell? ⟨gb132, 3, none⟩ = some (.int .i64 a0_3) ∧ w16.cell? ⟨gb132, 4, none⟩ = some (.int .i64 a0_4) ∧ w16.cell? ⟨gb132, 5, none⟩ = some (.int .i64 a0_5) ∧ w16.cell? ⟨gb132, 6, none⟩ = some (.int .i64 a0_6) ∧ w16.cell? ⟨gb132, 7, none⟩ = some (.slice A0_7 l0_7.length c0_7) ∧ w16.cell? ⟨gb133, 0, none⟩ = some (.int .i64 a1_0) ∧ w16.cell? ⟨gb133, 1, none⟩ = some (.int .i64 a1_1) ∧ w16.cell? ⟨gb133, 2, none⟩ = some (.int .i64 a1_2) ∧ w16.cell? ⟨gb133, 3, none⟩ = some (.int .i64 a1_3) ∧ w16.cell? ⟨gb133, 4, none⟩ = some (.int .i64 a1_4) ∧ w16.cell? ⟨gb133, 5, none⟩ = some (.int .i64 a1_5) ∧ w16.cell? ⟨gb133, 6, none⟩ = some (.int .i64 a1_6) ∧ w16.cell? ⟨gb133, 7, none⟩ = some (.slice A1_7 l1_7.length c1_7) := hS_
                refine norm_ (a' := ?_) ?_ ?_
                rotate_left
                · simp only [putAll, Act.put, la_, lb_, lc_]
                  rfl
                refine one_ (i := 4) (N := none) #[true, true, true, true, true, false] rfl rfl (by kernel_rfl) (by decide) (fun K hK => ?_)
                have hs17 : w16.cell? ⟨gb134, 0, none⟩ = some (.int .i64 0) := (blk_cell BK134.out 0).trans rfl
                have hfs17 := blk_frozen BK134.out 0
                have hns17_0 := NB132_134.out
                have hns17_1 := NB133_134.out
                have hns17_3 := NB135_134.out
                have hms17_0 := NB134_132.out
                have hms17_1 := NB134_133.out
                have hms17_3 := NB134_135.out
                have hs18 : w16.cell? ⟨gb134, 1, none⟩ = some (.int .i64 0) := (blk_cell BK134.out 1).trans rfl
                have hfs18 := blk_frozen BK134.out 1
                have hns18_0 := NB132_134.out
                have hns18_1 := NB133_134.out
                have hns18_3 := NB135_134.out
                have hms18_0 := NB134_132.out
                have hms18_1 := NB134_133.out
                have hms18_3 := NB134_135.out
                have hs19 : w16.cell? ⟨gb134, 2, none⟩ = some (.int .i64 0) := (blk_cell BK134.out 2).trans rfl
                have hfs19 := blk_frozen BK134.out 2
                have hns19_0 := NB132_134.out
                have hns19_1 := NB133_134.out
                have hns19_3 := NB135_134.out
                have hms19_0 := NB134_132.out
                have hms19_1 := NB134_133.out
                have hms19_3 := NB134_135.out
                have hs20 : w16.cell? ⟨gb134, 3, none⟩ = some (.int .i64 0) := (blk_cell BK134.out 3).trans rfl
                have hfs20 := blk_frozen BK134.out 3
                have hns20_0 := NB132_134.out
                have hns20_1 := NB133_134.out
                have hns20_3 := NB135_134.out
                have hms20_0 := NB134_132.out
                have hms20_1 := NB134_133.out
                have hms20_3 := NB134_135.out
                have hs21 : w16.cell? ⟨gb134, 4, none⟩ = some (.int .i64 0) := (blk_cell BK134.out 4).trans rfl
                have hfs21 := blk_frozen BK134.out 4
                have hns21_0 := NB132_134.out
                have hns21_1 := NB133_134.out
                have hns21_3 := NB135_134.out
                have hms21_0 := NB134_132.out
                have hms21_1 := NB134_133.out
                have hms21_3 := NB134_135.out
                have hs22 : w16.cell? ⟨gb134, 5, none⟩ = some (.int .i64 0) := (blk_cell BK134.out 5).trans rfl
                have hfs22 := blk_frozen BK134.out 5
                have hns22_0 := NB132_134.out
                have hns22_1 := NB133_134.out
                have hns22_3 := NB135_134.out
                have hms22_0 := NB134_132.out
                have hms22_1 := NB134_133.out
                have hms22_3 := NB134_135.out
                have hs23 : w16.cell? ⟨gb134, 6, none⟩ = some (.int .i64 0) := (blk_cell BK134.out 6).trans rfl
                have hfs23 := blk_frozen BK134.out 6
                have hns23_0 := NB132_134.out
                have hns23_1 := NB133_134.out
                have hns23_3 := NB135_134.out
                have hms23_0 := NB134_132.out
                have hms23_1 := NB134_133.out
                have hms23_3 := NB134_135.out
                have hs24 : w16.cell? ⟨gb134, 7, none⟩ = some (.slice none 0 0) := (blk_cell BK134.out 7).trans rfl
                have hfs24 := blk_frozen BK134.out 7
                have hns24_0 := NB132_134.out
                have hns24_1 := NB133_134.out
                have hns24_3 := NB135_134.out
                have hms24_0 := NB134_132.out
                have hms24_1 := NB134_133.out
                have hms24_3 := NB134_135.out
                refine skip_ (w1 := ?_) ?_ ?_ ?_ ?_
                rotate_left
                · rfl
                · rfl
                · go_simp
                  rfl
                refine hK.out _ _ ⟨(cfar_ hHeld.1), (cfar_ hHeld.2.1), (cfar_ hHeld.2.2.1), (cfar_ hHeld.2.2.2.1), (cfar_ hHeld.2.2.2.2.1), (cfar_ hHeld.2.2.2.2.2.1), (cfar_ hHeld.2.2.2.2.2.2.1), (cfar_ hHeld.2.2.2.2.2.2.2.1), (cfar_ hHeld.2.2.2.2.2.2.2.2.1), (cfar_ hHeld.2.2.2.2.2.2.2.2.2.1), (cfar_ hHeld.2.2.2.2.2.2.2.2.2.2.1), (cfar_ hHeld.2.2.2.2.2.2.2.2.2.2.2.1), (cfar_ hHeld.2.2.2.2.2.2.2.2.2.2.2.2.1), (cfar_ hHeld.2.2.2.2.2.2.2.2.2.2.2.2.2.1), (cfar_ hHeld.2.2.2.2.2.2.2.2.2.2.2.2.2.2.1), (cfar_ hHeld.2.2.2.2.2.2.2.2.2.2.2.2.2.2.2)⟩ (fun hHeld => ?_)
                clear hK K
                refine one_ (i := 5) (N := none) #[true, true, true, true, true, true] rfl rfl (by kernel_rfl) (by decide) (fun K hK => ?_)
                have hs25 : w16.cell? ⟨gb135, 0, none⟩ = some (.int .i64 0) := (blk_cell BK135.out 0).trans rfl
                have hfs25 := blk_frozen BK135.out 0
                have hns25_0 := NB132_135.out
                have hns25_1 := NB133_135.out
                have hns25_2 := NB134_135.out
                have hms25_0 := NB135_132.out
                have hms25_1 := NB135_133.out
                have hms25_2 := NB135_134.out
                have hs26 : w16.cell? ⟨gb135, 1, none⟩ = some (.int .i64 0) := (blk_cell BK135.out 1).trans rfl
                have hfs26 := blk_frozen BK135.out 1
                have hns26_0 := NB132_135.out
                have hns26_1 := NB133_135.out
                have hns26_2 := NB134_135.out
                have hms26_0 := NB135_132.out
                have hms26_1 := NB135_133.out
                have hms26_2 := NB135_134.out
                have hs27 : w16.cell? ⟨gb135, 2, none⟩ = some (.int .i64 0) := (blk_cell BK135.out 2).trans rfl
                have hfs27 := blk_frozen BK135.out 2
                have hns27_0 := NB132_135.out
                have hns27_1 := NB133_135.out
                have hns27_2 := NB134_135.out
                have hms27_0 := NB135_132.out
                have hms27_1 := NB135_133.out
                have hms27_2 := NB135_134.out
                have hs28 : w16.cell? ⟨gb135, 3, none⟩ = some (.int .i64 0) := (blk_cell BK135.out 3).trans rfl
                have hfs28 := blk_frozen BK135.out 3
                have hns28_0 := NB132_135.out
                have hns28_1 := NB133_135.out
                have hns28_2 := NB134_135.out
                have hms28_0 := NB135_132.out
                have hms28_1 := NB135_133.out
                have hms28_2 := NB135_134.out
                have hs29 : w16.cell? ⟨gb135, 4, none⟩ = some (.int .i64 0) := (blk_cell BK135.out 4).trans rfl
                have hfs29 := blk_frozen BK135.out 4
                have hns29_0 := NB132_135.out
                have hns29_1 := NB133_135.out
                have hns29_2 := NB134_135.out
                have hms29_0 := NB135_132.out
                have hms29_1 := NB135_133.out
                have hms29_2 := NB135_134.out
                have hs30 : w16.cell? ⟨gb135, 5, none⟩ = some (.int .i64 0) := (blk_cell BK135.out 5).trans rfl
                have hfs30 := blk_frozen BK135.out 5
                have hns30_0 := NB132_135.out
                have hns30_1 := NB133_135.out
                have hns30_2 := NB134_135.out
                have hms30_0 := NB135_132.out
                have hms30_1 := NB135_133.out
                have hms30_2 := NB135_134.out
                have hs31 : w16.cell? ⟨gb135, 6, none⟩ = some (.int .i64 0) := (blk_cell BK135.out 6).trans rfl
                have hfs31 := blk_frozen BK135.out 6
                have hns31_0 := NB132_135.out
                have hns31_1 := NB133_135.out
                have hns31_2 := NB134_135.out
                have hms31_0 := NB135_132.out
                have hms31_1 := NB135_133.out
                have hms31_2 := NB135_134.out
                have hs32 : w16.cell? ⟨gb135, 7, none⟩ = some (.slice none 0 0) := (blk_cell BK135.out 7).trans rfl
                have hfs32 := blk_frozen BK135.out 7
                have hns32_0 := NB132_135.out
                have hns32_1 := NB133_135.out
                have hns32_2 := NB134_135.out
                have hms32_0 := NB135_132.out
                have hms32_1 := NB135_133.out
                have hms32_2 := NB135_134.out
                refine skip_ (w1 := ?_) ?_ ?_ ?_ ?_
                rotate_left
                · rfl
                · rfl
                · go_simp
                  rfl
                refine hK.out _ _ ⟨(cfar_ hHeld.1), (cfar_ hHeld.2.1), (cfar_ hHeld.2.2.1), (cfar_ hHeld.2.2.2.1), (cfar_ hHeld.2.2.2.2.1), (cfar_ hHeld.2.2.2.2.2.1), (cfar_ hHeld.2.2.2.2.2.2.1), (cfar_ hHeld.2.2.2.2.2.2.2.1), (cfar_ hHeld.2.2.2.2.2.2.2.2.1), (cfar_ hHeld.2.2.2.2.2.2.2.2.2.1), (cfar_ hHeld.2.2.2.2.2.2.2.2.2.2.1), (cfar_ hHeld.2.2.2.2.2.2.2.2.2.2.2.1), (cfar_ hHeld.2.2.2.2.2.2.2.2.2.2.2.2.1), (cfar_ hHeld.2.2.2.2.2.2.2.2.2.2.2.2.2.1), (cfar_ hHeld.2.2.2.2.2.2.2.2.2.2.2.2.2.2.1), (cfar_ hHeld.2.2.2.2.2.2.2.2.2.2.2.2.2.2.2)⟩ (fun hHeld => ?_)
                clear hK K
                refine done_ (by kernel_rfl) ?_
                have hnb33 := NB134_132.out
                have hnc33 := NB132_134.out
                have hnb34 := NB134_133.out
                have hnc34 := NB133_134.out
                have hnb35 := NB134_135.out
                have hnc35 := NB135_134.out
                have hcz36_0 : w16.cell? ⟨gb134, 0, none⟩ = some (.int .i64 0) := bc_
                have hcz36_1 : w16.cell? ⟨gb134, 1, none⟩ = some (.int .i64 0) := bc_
                have hcz36_2 : w16.cell? ⟨gb134, 2, none⟩ = some (.int .i64 0) := bc_
                have hcz36_3 : w16.cell? ⟨gb134, 3, none⟩ = some (.int .i64 0) := bc_
                have hcz36_4 : w16.cell? ⟨gb134, 4, none⟩ = some (.int .i64 0) := bc_
                have hcz36_5 : w16.cell? ⟨gb134, 5, none⟩ = some (.int .i64 0) := bc_
                have hcz36_6 : w16.cell? ⟨gb134, 6, none⟩ = some (.int .i64 0) := bc_
                have hcz36_7 : w16.cell? ⟨gb134, 7, none⟩ = some (.slice none 0 0) := bc_
                have hfz36_0 := blk_frozen BK134.out 0
                have hfz36_1 := blk_frozen BK134.out 1
                have hfz36_2 := blk_frozen BK134.out 2
                have hfz36_3 := blk_frozen BK134.out 3
                have hfz36_4 := blk_frozen BK134.out 4
                have hfz36_5 := blk_frozen BK134.out 5
                have hfz36_6 := blk_frozen BK134.out 6
                have hfz36_7 := blk_frozen BK134.out 7
                have hnb37 := NB135_132.out
                have hnc37 := NB132_135.out
                have hnb38 := NB135_133.out
                have hnc38 := NB133_135.out
                have hcz39_0 : w16.cell? ⟨gb135, 0, none⟩ = some (.int .i64 0) := bc_
                have hcz39_1 : w16.cell? ⟨gb135, 1, none⟩ = some (.int .i64 0) := bc_
                have hcz39_2 : w16.cell? ⟨gb135, 2, none⟩ = some (.int .i64 0) := bc_
                have hcz39_3 : w16.cell? ⟨gb135, 3, none⟩ = some (.int .i64 0) := bc_
                have hcz39_4 : w16.cell? ⟨gb135, 4, none⟩ = some (.int .i64 0) := bc_
                have hcz39_5 : w16.cell? ⟨gb135, 5, none⟩ = some (.int .i64 0) := bc_
                have hcz39_6 : w16.cell? ⟨gb135, 6, none⟩ = some (.int .i64 0) := bc_
                have hcz39_7 : w16.cell? ⟨gb135, 7, none⟩ = some (.slice none 0 0) := bc_
                have hfz39_0 := blk_frozen BK135.out 0
                have hfz39_1 := blk_frozen BK135.out 1
                have hfz39_2 := blk_frozen BK135.out 2
                have hfz39_3 := blk_frozen BK135.out 3
                have hfz39_4 := blk_frozen BK135.out 4
                have hfz39_5 := blk_frozen BK135.out 5
                have hfz39_6 := blk_frozen BK135.out 6
                have hfz39_7 := blk_frozen BK135.out 7
                have hnb40 := NB132_133.out
                have hnc40 := NB133_132.out
                have hcz41_0 : w16.cell? ⟨gb132, 0, none⟩ = some (.int .i64 a0_0) := bc_
                have hcz41_1 : w16.cell? ⟨gb132, 1, none⟩ = some (.int .i64 a0_1) := bc_
                have hcz41_2 : w16.cell? ⟨gb132, 2, none⟩ = some (.int .i64 a0_2) := bc_
                have hcz41_3 : w16.cell? ⟨gb132, 3, none⟩ = some (.int .i64 a0_3) := bc_
                have hcz41_4 : w16.cell? ⟨gb132, 4, none⟩ = some (.int .i64 a0_4) := bc_
                have hcz41_5 : w16.cell? ⟨gb132, 5, none⟩ = some (.int .i64 a0_5) := bc_
                have hcz41_6 : w16.cell? ⟨gb132, 6, none⟩ = some (.int .i64 a0_6) := bc_
                have hcz41_7 : w16.cell? ⟨gb132, 7, none⟩ = some (.slice A0_7 l0_7.length c0_7) := bc_
                have hfz41_0 := blk_frozen BK132.out 0
                have hfz41_1 := blk_frozen BK132.out 1
                have hfz41_2 := blk_frozen BK132.out 2
                have hfz41_3 := blk_frozen BK132.out 3
                have hfz41_4 := blk_frozen BK132.out 4
                have hfz41_5 := blk_frozen BK132.out 5
                have hfz41_6 := blk_frozen BK132.out 6
                have hfz41_7 := blk_frozen BK132.out 7
                have hcz42_0 : w16.cell? ⟨gb133, 0, none⟩ = some (.int .i64 a1_0) := bc_
                have hcz42_1 : w16.cell? ⟨gb133, 1, none⟩ = some (.int .i64 a1_1) := bc_
                have hcz42_2 : w16.cell? ⟨gb133, 2, none⟩ = some (.int .i64 a1_2) := bc_
                have hcz42_3 : w16.cell? ⟨gb133, 3, none⟩ = some (.int .i64 a1_3) := bc_
                have hcz42_4 : w16.cell? ⟨gb133, 4, none⟩ = some (.int .i64 a1_4) := bc_
                have hcz42_5 : w16.cell? ⟨gb133, 5, none⟩ = some (.int .i64 a1_5) := bc_
                have hcz42_6 : w16.cell? ⟨gb133, 6, none⟩ = some (.int .i64 a1_6) := bc_
                have hcz42_7 : w16.cell? ⟨gb133, 7, none⟩ = some (.slice A1_7 l1_7.length c1_7) := bc_
                have hfz42_0 := blk_frozen BK133.out 0
                have hfz42_1 := blk_frozen BK133.out 1
                have hfz42_2 := blk_frozen BK133.out 2
                have hfz42_3 := blk_frozen BK133.out 3
                have hfz42_4 := blk_frozen BK133.out 4
                have hfz42_5 := blk_frozen BK133.out 5
                have hfz42_6 := blk_frozen BK133.out 6
                have hfz42_7 := blk_frozen BK133.out 7
                try go_wp2_with (first | (go_at_call 62; (with_reducible refine (slices_Equal_int_int.calls k _ _ l0_7 _ _ l1_7 t136 _ ?side1 ?side2 ?side3 ?side4 A10.out).mono ?_); (case side1 => exact Kd.C_below HR0_7.out bel_); (case side2 => exact HC0_7.out); (case side3 => exact Kd.C_below HR1_7.out bel_); (case side4 => exact HC1_7.out); rintro e w' ⟨rfl, ⟨nd, rfl⟩⟩))
                go_ret
                exact ⟨by first | rfl | (simp [errW_none, errW_some] <;> rfl) | (simp [*, errW_none, errW_some] <;> rfl), by repeat (first | (with_reducible first | exact HB.out | apply below_alloc | apply pw_below_drewN | apply below_drew1 | refine below_set ?_ GE132.out | refine below_set ?_ GE133.out | refine below_set ?_ GE134.out | refine below_set ?_ GE135.out) | exact HB.out)⟩
              · rw [if_neg c9] at H
                have c9b0 : (a0_6 == a1_6) = false := beq_eq_false_iff_ne.mpr c9
                have c9b1 : (a0_6 != a1_6) = true := bne_iff_ne.mpr c9
                obtain rfl := Option.some.inj H
                go_enter Try.func17, Try.ntmps17
                try go_wp2_with (first | ((with_reducible refine gate_dst (N := 2) rfl ?_); refine box_event ?hg (N := 2) ?hd (cs := #[.int .i64 a0_0, .int .i64 a0_1, .int .i64 a0_2, .int .i64 a0_3, .int .i64 a0_4, .int .i64 a0_5, .int .i64 a0_6, .slice A0_7 l0_7.length c0_7]) (t := 27) ?hr ?_; (case hd => rfl); (case hg => rfl); (case hr => first | (go_simp; done) | (go_simp; rfl)); intro gb132 hg w43 hbox hb; have n0_ := Aside0.mk (below_step bel_ hb); have n1_ := Aside0.mk (hbox); have n2_ := bs_ (w := w) hg; have n3_ := bs_ (w := w) hg; clear HB; have HB := n0_; have BK132 := n1_; have GW132 := n2_; have GE132 := n3_; clear n0_ n1_ n2_ n3_; clear hb hbox hg) | ((with_reducible refine gate_dst (N := 3) rfl ?_); refine box_event ?hg (N := 3) ?hd (cs := #[.int .i64 a1_0, .int .i64 a1_1, .int .i64 a1_2, .int .i64 a1_3, .int .i64 a1_4, .int .i64 a1_5, .int .i64 a1_6, .slice A1_7 l1_7.length c1_7]) (t := 27) ?hr ?_; (case hd => rfl); (case hg => rfl); (case hr => first | (go_simp; done) | (go_simp; rfl)); intro gb133 hg w44 hbox hb; have n0_ := bb_ (g := gb132) (o := .cells #[.int .i64 a0_0, .int .i64 a0_1, .int .i64 a0_2, .int .i64 a0_3, .int .i64 a0_4, .int .i64 a0_5, .int .i64 a0_6, .slice A0_7 l0_7.length c0_7] 27 (0, 0)) hb; have n1_ := Aside0.mk (below_step bel_ hb); have n2_ := Aside0.mk (hbox); have n3_ := bs_ (w := w) hg; have n4_ := bs_ (w := w) hg; have n5_ := nlt_ (g := gb132) (o := .cells #[.int .i64 a0_0, .int .i64 a0_1, .int .i64 a0_2, .int .i64 a0_3, .int .i64 a0_4, .int .i64 a0_5, .int .i64 a0_6, .slice A0_7 l0_7.length c0_7] 27 (0, 0)) hg; have n6_ := ngt_ (g := gb132) (o := .cells #[.int .i64 a0_0, .int .i64 a0_1, .int .i64 a0_2, .int .i64 a0_3, .int .i64 a0_4, .int .i64 a0_5, .int .i64 a0_6, .slice A0_7 l0_7.length c0_7] 27 (0, 0)) hg; clear BK132; clear HB; have BK132 := n0_; have HB := n1_; have BK133 := n2_; have GW133 := n3_; have GE133 := n4_; have NB132_133 := n5_; have NB133_132 := n6_; clear n0_ n1_ n2_ n3_ n4_ n5_ n6_; clear hb hbox hg))
                have n0_ := Aside0.mk (blk_drew BK132.out)
                have n1_ := Aside0.mk (blk_drew BK133.out)
                have n2_ := Aside0.mk (below_drew1 HB.out)
                clear BK132
                clear BK133
                clear HB
                have BK132 := n0_
                have BK133 := n1_
                have HB := n2_
                clear n0_ n1_ n2_
                refine start_ (n := 6) (S := fun w' => w'.cell? ⟨gb132, 0, none⟩ = some (.int .i64 a0_0) ∧ w'.cell? ⟨gb132, 1, none⟩ = some (.int .i64 a0_1) ∧ w'.cell? ⟨gb132, 2, none⟩ = some (.int .i64 a0_2) ∧ w'.cell? ⟨gb132, 3, none⟩ = some (.int .i64 a0_3) ∧ w'.cell? ⟨gb132, 4, none⟩ = some (.int .i64 a0_4) ∧ w'.cell? ⟨gb132, 5, none⟩ = some (.int .i64 a0_5) ∧ w'.cell? ⟨gb132, 6, none⟩ = some (.int .i64 a0_6) ∧ w'.cell? ⟨gb132, 7, none⟩ = some (.slice A0_7 l0_7.length c0_7) ∧ w'.cell? ⟨gb133, 0, none⟩ = some (.int .i64 a1_0) ∧ w'.cell? ⟨gb133, 1, none⟩ = some (.int .i64 a1_1) ∧ w'.cell? ⟨gb133, 2, none⟩ = some (.int .i64 a1_2) ∧ w'.cell? ⟨gb133, 3, none⟩ = some (.int .i64 a1_3) ∧ w'.cell? ⟨gb133, 4, none⟩ = some (.int .i64 a1_4) ∧ w'.cell? ⟨gb133, 5, none⟩ = some (.int .i64 a1_5) ∧ w'.cell? ⟨gb133, 6, none⟩ = some (.int .i64 a1_6) ∧ w'.cell? ⟨gb133, 7, none⟩ = some (.slice A1_7 l1_7.length c1_7)) (ds := []) #[false, false, false, false, false, false] (by kernel_rfl) rfl rfl ⟨bc_, bc_, bc_, bc_, bc_, bc_, bc_, bc_, bc_, bc_, bc_, bc_, bc_, bc_, bc_, bc_⟩ (fun hHeld => ?_)
                generalize w44.drew = w45 at BK132 BK133 HB hHeld ⊢
                refine take_ (i := 0) (N := some 7) (v := ?_) (a' := ?_) #[true, false, false, false, false, false] rfl rfl (by kernel_rfl) (fun _ _ _ h => h) (Or.inl ⟨by rfl, ?_⟩) hHeld ?_ ?_
                rotate_left
                · rintro w' ⟨s0, s1, s2, s3, s4, s5, s6, s7, s8, s9, s10, s11, s12, s13, s14, s15⟩
                  go_simp
                  with_reducible rfl
                rotate_left
                · simp only [Act.put, la_, lb_, lc_, i64_w, i32_w]
                  rfl
                refine take_ (i := 1) (N := some 8) (v := ?_) (a' := ?_) #[true, true, false, false, false, false] rfl rfl (by kernel_rfl) (fun _ _ _ h => h) (Or.inl ⟨by rfl, ?_⟩) hHeld ?_ ?_
                rotate_left
                · rintro w' ⟨s0, s1, s2, s3, s4, s5, s6, s7, s8, s9, s10, s11, s12, s13, s14, s15⟩
                  go_simp
                  with_reducible rfl
                rotate_left
                · simp only [Act.put, la_, lb_, lc_, i64_w, i32_w]
                  rfl
                refine join_ (σ := Nat × Nat) 2 #[true, true, true, true, false, false] (fun s_ => [(5, .pointer (some ⟨s_.1, 0, none⟩)), (6, .pointer (some ⟨s_.2, 0, none⟩))]) (fun s_ w' => (w'.cell? ⟨gb132, 0, none⟩ = some (.int .i64 a0_0) ∧ w'.cell? ⟨gb132, 1, none⟩ = some (.int .i64 a0_1) ∧ w'.cell? ⟨gb132, 2, none⟩ = some (.int .i64 a0_2) ∧ w'.cell? ⟨gb132, 3, none⟩ = some (.int .i64 a0_3) ∧ w'.cell? ⟨gb132, 4, none⟩ = some (.int .i64 a0_4) ∧ w'.cell? ⟨gb132, 5, none⟩ = some (.int .i64 a0_5) ∧ w'.cell? ⟨gb132, 6, none⟩ = some (.int .i64 a0_6) ∧ w'.cell? ⟨gb132, 7, none⟩ = some (.slice A0_7 l0_7.length c0_7) ∧ w'.cell? ⟨gb133, 0, none⟩ = some (.int .i64 a1_0) ∧ w'.cell? ⟨gb133, 1, none⟩ = some (.int .i64 a1_1) ∧ w'.cell? ⟨gb133, 2, none⟩ = some (.int .i64 a1_2) ∧ w'.cell? ⟨gb133, 3, none⟩ = some (.int .i64 a1_3) ∧ w'.cell? ⟨gb133, 4, none⟩ = some (.int .i64 a1_4) ∧ w'.cell? ⟨gb133, 5, none⟩ = some (.int .i64 a1_5) ∧ w'.cell? ⟨gb133, 6, none⟩ = some (.int .i64 a1_6) ∧ w'.cell? ⟨gb133, 7, none⟩ = some (.slice A1_7 l1_7.length c1_7)) ∧ (w'.heap[gb132]? = some (.cells #[.int .i64 a0_0, .int .i64 a0_1, .int .i64 a0_2, .int .i64 a0_3, .int .i64 a0_4, .int .i64 a0_5, .int .i64 a0_6, .slice A0_7 l0_7.length c0_7] 27 (0, 0))) ∧ (w'.heap[gb133]? = some (.cells #[.int .i64 a1_0, .int .i64 a1_1, .int .i64 a1_2, .int .i64 a1_3, .int .i64 a1_4, .int .i64 a1_5, .int .i64 a1_6, .slice A1_7 l1_7.length c1_7] 27 (0, 0))) ∧ (w'.heap[s_.1]? = some (.cells #[.int .i64 0, .int .i64 0, .int .i64 0, .int .i64 0, .int .i64 0, .int .i64 0, .int .i64 0, .slice none 0 0] 27 (0, 0))) ∧ (w'.heap[s_.2]? = some (.cells #[.int .i64 0, .int .i64 0, .int .i64 0, .int .i64 0, .int .i64 0, .int .i64 0, .int .i64 0, .slice none 0 0] 27 (0, 0))) ∧ (w.heap.size ≤ s_.1) ∧ (w.heap.size ≤ s_.1) ∧ (gb132 ≠ s_.1) ∧ (s_.1 ≠ gb132) ∧ (gb133 ≠ s_.1) ∧ (s_.1 ≠ gb133) ∧ (s_.2 ≠ s_.1) ∧ (s_.1 ≠ s_.2) ∧ (w.heap.size ≤ s_.2) ∧ (w.heap.size ≤ s_.2) ∧ (gb132 ≠ s_.2) ∧ (s_.2 ≠ gb132) ∧ (gb133 ≠ s_.2) ∧ (s_.2 ≠ gb133) ∧ (Below w.heap.size w w')) ?_ ?_
                rotate_left
                · intro hCont
                  refine two_ (i := 2) (j := 3) (Ni := some 5) (Nj := some 6) #[true, true, true, false, false, false] #[true, true, false, true, false, false] rfl rfl rfl rfl (by kernel_rfl) (by decide) (by decide) (fun K hK => ?_) (fun K hK => ?_)
                  · skip
                    refine box_step ?hg (N := 5) ?hd (cs := #[.int .i64 0, .int .i64 0, .int .i64 0, .int .i64 0, .int .i64 0, .int .i64 0, .int .i64 0, .slice none 0 0]) (t := 27) ?hr ?_; (case hd => rfl); (case hg => rfl); (case hr => first | (go_simp; done) | (go_simp; rfl))
                    intro gb134 hg w46 hbox hb
                    have n0_ := bb_ (g := gb132) (o := .cells #[.int .i64 a0_0, .int .i64 a0_1, .int .i64 a0_2, .int .i64 a0_3, .int .i64 a0_4, .int .i64 a0_5, .int .i64 a0_6, .slice A0_7 l0_7.length c0_7] 27 (0, 0)) hb
                    have n1_ := bb_ (g := gb133) (o := .cells #[.int .i64 a1_0, .int .i64 a1_1, .int .i64 a1_2, .int .i64 a1_3, .int .i64 a1_4, .int .i64 a1_5, .int .i64 a1_6, .slice A1_7 l1_7.length c1_7] 27 (0, 0)) hb
                    have n2_ := Aside0.mk (below_step bel_ hb)
                    have n3_ := Aside0.mk (hbox)
                    have n4_ := bs_ (w := w) hg
                    have n5_ := bs_ (w := w) hg
                    have n6_ := nlt_ (g := gb132) (o := .cells #[.int .i64 a0_0, .int .i64 a0_1, .int .i64 a0_2, .int .i64 a0_3, .int .i64 a0_4, .int .i64 a0_5, .int .i64 a0_6, .slice A0_7 l0_7.length c0_7] 27 (0, 0)) hg
                    have n7_ := ngt_ (g := gb132) (o := .cells #[.int .i64 a0_0, .int .i64 a0_1, .int .i64 a0_2, .int .i64 a0_3, .int .i64 a0_4, .int .i64 a0_5, .int .i64 a0_6, .slice A0_7 l0_7.length c0_7] 27 (0, 0)) hg
                    have n8_ := nlt_ (g := gb133) (o := .cells #[.int .i64 a1_0, .int .i64 a1_1, .int .i64 a1_2, .int .i64 a1_3, .int .i64 a1_4, .int .i64 a1_5, .int .i64 a1_6, .slice A1_7 l1_7.length c1_7] 27 (0, 0)) hg
                    have n9_ := ngt_ (g := gb133) (o := .cells #[.int .i64 a1_0, .int .i64 a1_1, .int .i64 a1_2, .int .i64 a1_3, .int .i64 a1_4, .int .i64 a1_5, .int .i64 a1_6, .slice A1_7 l1_7.length c1_7] 27 (0, 0)) hg
                    clear BK132
                    clear BK133
                    clear HB
                    have BK132 := n0_
                    have BK133 := n1_
                    have HB := n2_
                    have BK134 := n3_
                    have GW134 := n4_
                    have GE134 := n5_
                    have NB132_134 := n6_
                    have NB134_132 := n7_
                    have NB133_134 := n8_
                    have NB134_133 := n9_
                    clear n0_ n1_ n2_ n3_ n4_ n5_ n6_ n7_ n8_ n9_
                    clear hb hbox hg
                    refine hK.out _ _ ⟨bc_, bc_, bc_, bc_, bc_, bc_, bc_, bc_, bc_, bc_, bc_, bc_, bc_, bc_, bc_, bc_⟩ (fun hHeld => ?_)
                    clear hK K
                    refine norm_ (a' := ?_) ?_ ?_
                    rotate_left
                    · show Act.put _ (some 5) _ = _
                      simp only [Act.put, la_, lb_, lc_, i64_w, i32_w]
                      rfl
                    refine one_ (i := 3) (N := some 6) #[true, true, true, true, false, false] rfl rfl (by kernel_rfl) (by decide) (fun K hK => ?_)
                    refine box_step ?hg (N := 6) ?hd (cs := #[.int .i64 0, .int .i64 0, .int .i64 0, .int .i64 0, .int .i64 0, .int .i64 0, .int .i64 0, .slice none 0 0]) (t := 27) ?hr ?_; (case hd => rfl); (case hg => rfl); (case hr => first | (go_simp; done) | (go_simp; rfl))
                    intro gb135 hg w47 hbox hb
                    have n0_ := bb_ (g := gb132) (o := .cells #[.int .i64 a0_0, .int .i64 a0_1, .int .i64 a0_2, .int .i64 a0_3, .int .i64 a0_4, .int .i64 a0_5, .int .i64 a0_6, .slice A0_7 l0_7.length c0_7] 27 (0, 0)) hb
                    have n1_ := bb_ (g := gb133) (o := .cells #[.int .i64 a1_0, .int .i64 a1_1, .int .i64 a1_2, .int .i64 a1_3, .int .i64 a1_4, .int .i64 a1_5, .int .i64 a1_6, .slice A1_7 l1_7.length c1_7] 27 (0, 0)) hb
                    have n2_ := bb_ (g := gb134) (o := .cells #[.int .i64 0, .int .i64 0, .int .i64 0, .int .i64 0, .int .i64 0, .int .i64 0, .int .i64 0, .slice none 0 0] 27 (0, 0)) hb
                    have n3_ := Aside0.mk (below_step bel_ hb)
                    have n4_ := Aside0.mk (hbox)
                    have n5_ := bs_ (w := w) hg
                    have n6_ := bs_ (w := w) hg
                    have n7_ := nlt_ (g := gb132) (o := .cells #[.int .i64 a0_0, .int .i64 a0_1, .int .i64 a0_2, .int .i64 a0_3, .int .i64 a0_4, .int .i64 a0_5, .int .i64 a0_6, .slice A0_7 l0_7.length c0_7] 27 (0, 0)) hg
                    have n8_ := ngt_ (g := gb132) (o := .cells #[.int .i64 a0_0, .int .i64 a0_1, .int .i64 a0_2, .int .i64 a0_3, .int .i64 a0_4, .int .i64 a0_5, .int .i64 a0_6, .slice A0_7 l0_7.length c0_7] 27 (0, 0)) hg
                    have n9_ := nlt_ (g := gb133) (o := .cells #[.int .i64 a1_0, .int .i64 a1_1, .int .i64 a1_2, .int .i64 a1_3, .int .i64 a1_4, .int .i64 a1_5, .int .i64 a1_6, .slice A1_7 l1_7.length c1_7] 27 (0, 0)) hg
                    have n10_ := ngt_ (g := gb133) (o := .cells #[.int .i64 a1_0, .int .i64 a1_1, .int .i64 a1_2, .int .i64 a1_3, .int .i64 a1_4, .int .i64 a1_5, .int .i64 a1_6, .slice A1_7 l1_7.length c1_7] 27 (0, 0)) hg
                    have n11_ := nlt_ (g := gb134) (o := .cells #[.int .i64 0, .int .i64 0, .int .i64 0, .int .i64 0, .int .i64 0, .int .i64 0, .int .i64 0, .slice none 0 0] 27 (0, 0)) hg
                    have n12_ := ngt_ (g := gb134) (o := .cells #[.int .i64 0, .int .i64 0, .int .i64 0, .int .i64 0, .int .i64 0, .int .i64 0, .int .i64 0, .slice none 0 0] 27 (0, 0)) hg
                    clear BK132
                    clear BK133
                    clear BK134
                    clear HB
                    have BK132 := n0_
                    have BK133 := n1_
                    have BK134 := n2_
                    have HB := n3_
                    have BK135 := n4_
                    have GW135 := n5_
                    have GE135 := n6_
                    have NB132_135 := n7_
                    have NB135_132 := n8_
                    have NB133_135 := n9_
                    have NB135_133 := n10_
                    have NB134_135 := n11_
                    have NB135_134 := n12_
                    clear n0_ n1_ n2_ n3_ n4_ n5_ n6_ n7_ n8_ n9_ n10_ n11_ n12_
                    clear hb hbox hg
                    refine hK.out _ _ ⟨bc_, bc_, bc_, bc_, bc_, bc_, bc_, bc_, bc_, bc_, bc_, bc_, bc_, bc_, bc_, bc_⟩ (fun hHeld => ?_)
                    clear hK K
                    refine norm_ (a' := ?_) ?_ ?_
                    rotate_left
                    · show Act.put _ (some 6) _ = _
                      simp only [Act.put, la_, lb_, lc_, i64_w, i32_w]
                      rfl
                    exact norm_ (by simp only [putAll, Act.put, la_, lb_, lc_]) (hCont (gb134, gb135) _ ⟨hHeld, bk_, bk_, bk_, bk_, GW134.out, GE134.out, NB132_134.out, NB134_132.out, NB133_134.out, NB134_133.out, NB135_134.out, NB134_135.out, GW135.out, GE135.out, NB132_135.out, NB135_132.out, NB133_135.out, NB135_133.out, bel_⟩)
                  · skip
                    refine box_step ?hg (N := 6) ?hd (cs := #[.int .i64 0, .int .i64 0, .int .i64 0, .int .i64 0, .int .i64 0, .int .i64 0, .int .i64 0, .slice none 0 0]) (t := 27) ?hr ?_; (case hd => rfl); (case hg => rfl); (case hr => first | (go_simp; done) | (go_simp; rfl))
                    intro gb135 hg w46 hbox hb
                    have n0_ := bb_ (g := gb132) (o := .cells #[.int .i64 a0_0, .int .i64 a0_1, .int .i64 a0_2, .int .i64 a0_3, .int .i64 a0_4, .int .i64 a0_5, .int .i64 a0_6, .slice A0_7 l0_7.length c0_7] 27 (0, 0)) hb
                    have n1_ := bb_ (g := gb133) (o := .cells #[.int .i64 a1_0, .int .i64 a1_1, .int .i64 a1_2, .int .i64 a1_3, .int .i64 a1_4, .int .i64 a1_5, .int .i64 a1_6, .slice A1_7 l1_7.length c1_7] 27 (0, 0)) hb
                    have n2_ := Aside0.mk (below_step bel_ hb)
                    have n3_ := Aside0.mk (hbox)
                    have n4_ := bs_ (w := w) hg
                    have n5_ := bs_ (w := w) hg
                    have n6_ := nlt_ (g := gb132) (o := .cells #[.int .i64 a0_0, .int .i64 a0_1, .int .i64 a0_2, .int .i64 a0_3, .int .i64 a0_4, .int .i64 a0_5, .int .i64 a0_6, .slice A0_7 l0_7.length c0_7] 27 (0, 0)) hg
                    have n7_ := ngt_ (g := gb132) (o := .cells #[.int .i64 a0_0, .int .i64 a0_1, .int .i64 a0_2, .int .i64 a0_3, .int .i64 a0_4, .int .i64 a0_5, .int .i64 a0_6, .slice A0_7 l0_7.length c0_7] 27 (0, 0)) hg
                    have n8_ := nlt_ (g := gb133) (o := .cells #[.int .i64 a1_0, .int .i64 a1_1, .int .i64 a1_2, .int .i64 a1_3, .int .i64 a1_4, .int .i64 a1_5, .int .i64 a1_6, .slice A1_7 l1_7.length c1_7] 27 (0, 0)) hg
                    have n9_ := ngt_ (g := gb133) (o := .cells #[.int .i64 a1_0, .int .i64 a1_1, .int .i64 a1_2, .int .i64 a1_3, .int .i64 a1_4, .int .i64 a1_5, .int .i64 a1_6, .slice A1_7 l1_7.length c1_7] 27 (0, 0)) hg
                    clear BK132
                    clear BK133
                    clear HB
                    have BK132 := n0_
                    have BK133 := n1_
                    have HB := n2_
                    have BK135 := n3_
                    have GW135 := n4_
                    have GE135 := n5_
                    have NB132_135 := n6_
                    have NB135_132 := n7_
                    have NB133_135 := n8_
                    have NB135_133 := n9_
                    clear n0_ n1_ n2_ n3_ n4_ n5_ n6_ n7_ n8_ n9_
                    clear hb hbox hg
                    refine hK.out _ _ ⟨bc_, bc_, bc_, bc_, bc_, bc_, bc_, bc_, bc_, bc_, bc_, bc_, bc_, bc_, bc_, bc_⟩ (fun hHeld => ?_)
                    clear hK K
                    refine norm_ (a' := ?_) ?_ ?_
                    rotate_left
                    · show Act.put _ (some 6) _ = _
                      simp only [Act.put, la_, lb_, lc_, i64_w, i32_w]
                      rfl
                    refine one_ (i := 2) (N := some 5) #[true, true, true, true, false, false] rfl rfl (by kernel_rfl) (by decide) (fun K hK => ?_)
                    refine box_step ?hg (N := 5) ?hd (cs := #[.int .i64 0, .int .i64 0, .int .i64 0, .int .i64 0, .int .i64 0, .int .i64 0, .int .i64 0, .slice none 0 0]) (t := 27) ?hr ?_; (case hd => rfl); (case hg => rfl); (case hr => first | (go_simp; done) | (go_simp; rfl))
                    intro gb134 hg w47 hbox hb
                    have n0_ := bb_ (g := gb132) (o := .cells #[.int .i64 a0_0, .int .i64 a0_1, .int .i64 a0_2, .int .i64 a0_3, .int .i64 a0_4, .int .i64 a0_5, .int .i64 a0_6, .slice A0_7 l0_7.length c0_7] 27 (0, 0)) hb
                    have n1_ := bb_ (g := gb133) (o := .cells #[.int .i64 a1_0, .int .i64 a1_1, .int .i64 a1_2, .int .i64 a1_3, .int .i64 a1_4, .int .i64 a1_5, .int .i64 a1_6, .slice A1_7 l1_7.length c1_7] 27 (0, 0)) hb
                    have n2_ := bb_ (g := gb135) (o := .cells #[.int .i64 0, .int .i64 0, .int .i64 0, .int .i64 0, .int .i64 0, .int .i64 0, .int .i64 0, .slice none 0 0] 27 (0, 0)) hb
                    have n3_ := Aside0.mk (below_step bel_ hb)
                    have n4_ := Aside0.mk (hbox)
                    have n5_ := bs_ (w := w) hg
                    have n6_ := bs_ (w := w) hg
                    have n7_ := nlt_ (g := gb132) (o := .cells #[.int .i64 a0_0, .int .i64 a0_1, .int .i64 a0_2, .int .i64 a0_3, .int .i64 a0_4, .int .i64 a0_5, .int .i64 a0_6, .slice A0_7 l0_7.length c0_7] 27 (0, 0)) hg
                    have n8_ := ngt_ (g := gb132) (o := .cells #[.int .i64 a0_0, .int .i64 a0_1, .int .i64 a0_2, .int .i64 a0_3, .int .i64 a0_4, .int .i64 a0_5, .int .i64 a0_6, .slice A0_7 l0_7.length c0_7] 27 (0, 0)) hg
                    have n9_ := nlt_ (g := gb133) (o := .cells #[.int .i64 a1_0, .int .i64 a1_1, .int .i64 a1_2, .int .i64 a1_3, .int .i64 a1_4, .int .i64 a1_5, .int .i64 a1_6, .slice A1_7 l1_7.length c1_7] 27 (0, 0)) hg
                    have n10_ := ngt_ (g := gb133) (o := .cells #[.int .i64 a1_0, .int .i64 a1_1, .int .i64 a1_2, .int .i64 a1_3, .int .i64 a1_4, .int .i64 a1_5, .int .i64 a1_6, .slice A1_7 l1_7.length c1_7] 27 (0, 0)) hg
                    have n11_ := nlt_ (g := gb135) (o := .cells #[.int .i64 0, .int .i64 0, .int .i64 0, .int .i64 0, .int .i64 0, .int .i64 0, .int .i64 0, .slice none 0 0] 27 (0, 0)) hg
                    have n12_ := ngt_ (g := gb135) (o := .cells #[.int .i64 0, .int .i64 0, .int .i64 0, .int .i64 0, .int .i64 0, .int .i64 0, .int .i64 0, .slice none 0 0] 27 (0, 0)) hg
                    clear BK132
                    clear BK133
                    clear BK135
                    clear HB
                    have BK132 := n0_
                    have BK133 := n1_
                    have BK135 := n2_
                    have HB := n3_
                    have BK134 := n4_
                    have GW134 := n5_
                    have GE134 := n6_
                    have NB132_134 := n7_
                    have NB134_132 := n8_
                    have NB133_134 := n9_
                    have NB134_133 := n10_
                    have NB135_134 := n11_
                    have NB134_135 := n12_
                    clear n0_ n1_ n2_ n3_ n4_ n5_ n6_ n7_ n8_ n9_ n10_ n11_ n12_
                    clear hb hbox hg
                    refine hK.out _ _ ⟨bc_, bc_, bc_, bc_, bc_, bc_, bc_, bc_, bc_, bc_, bc_, bc_, bc_, bc_, bc_, bc_⟩ (fun hHeld => ?_)
                    clear hK K
                    refine norm_ (a' := ?_) ?_ ?_
                    rotate_left
                    · show Act.put _ (some 5) _ = _
                      simp only [Act.put, la_, lb_, lc_, i64_w, i32_w]
                      rfl
                    exact norm_ (by simp only [putAll, Act.put, la_, lb_, lc_]) (hCont (gb134, gb135) _ ⟨hHeld, bk_, bk_, bk_, bk_, GW134.out, GE134.out, NB132_134.out, NB134_132.out, NB133_134.out, NB134_133.out, NB135_134.out, NB134_135.out, GW135.out, GE135.out, NB132_135.out, NB135_132.out, NB133_135.out, NB135_133.out, bel_⟩)
                rintro ⟨gb134, gb135⟩ w48 ⟨hS_, h0_, h1_, h2_, h3_, h4_, h5_, h6_, h7_, h8_, h9_, h10_, h11_, h12_, h13_, h14_, h15_, h16_, h17_, h18_⟩
                have n0_ : Aside0 (w48.heap[gb132]? = some (.cells #[.int .i64 a0_0, .int .i64 a0_1, .int .i64 a0_2, .int .i64 a0_3, .int .i64 a0_4, .int .i64 a0_5, .int .i64 a0_6, .slice A0_7 l0_7.length c0_7] 27 (0, 0))) := ⟨h0_⟩
                have n1_ : Aside0 (w48.heap[gb133]? = some (.cells #[.int .i64 a1_0, .int .i64 a1_1, .int .i64 a1_2, .int .i64 a1_3, .int .i64 a1_4, .int .i64 a1_5, .int .i64 a1_6, .slice A1_7 l1_7.length c1_7] 27 (0, 0))) := ⟨h1_⟩
                have n2_ : Aside0 (w48.heap[gb134]? = some (.cells #[.int .i64 0, .int .i64 0, .int .i64 0, .int .i64 0, .int .i64 0, .int .i64 0, .int .i64 0, .slice none 0 0] 27 (0, 0))) := ⟨h2_⟩
                have n3_ : Aside0 (w48.heap[gb135]? = some (.cells #[.int .i64 0, .int .i64 0, .int .i64 0, .int .i64 0, .int .i64 0, .int .i64 0, .int .i64 0, .slice none 0 0] 27 (0, 0))) := ⟨h3_⟩
                have n4_ : Aside0 (w.heap.size ≤ gb134) := ⟨h4_⟩
                have n5_ : Aside0 (w.heap.size ≤ gb134) := ⟨h5_⟩
                have n6_ : Aside0 (gb132 ≠ gb134) := ⟨h6_⟩
                have n7_ : Aside0 (gb134 ≠ gb132) := ⟨h7_⟩
                have n8_ : Aside0 (gb133 ≠ gb134) := ⟨h8_⟩
                have n9_ : Aside0 (gb134 ≠ gb133) := ⟨h9_⟩
                have n10_ : Aside0 (gb135 ≠ gb134) := ⟨h10_⟩
                have n11_ : Aside0 (gb134 ≠ gb135) := ⟨h11_⟩
                have n12_ : Aside0 (w.heap.size ≤ gb135) := ⟨h12_⟩
                have n13_ : Aside0 (w.heap.size ≤ gb135) := ⟨h13_⟩
                have n14_ : Aside0 (gb132 ≠ gb135) := ⟨h14_⟩
                have n15_ : Aside0 (gb135 ≠ gb132) := ⟨h15_⟩
                have n16_ : Aside0 (gb133 ≠ gb135) := ⟨h16_⟩
                have n17_ : Aside0 (gb135 ≠ gb133) := ⟨h17_⟩
                have n18_ : Aside0 (Below w.heap.size w w48) := ⟨h18_⟩
                clear BK132
                clear BK133
                clear HB
                clear h0_ h1_ h2_ h3_ h4_ h5_ h6_ h7_ h8_ h9_ h10_ h11_ h12_ h13_ h14_ h15_ h16_ h17_ h18_
                have BK132 := n0_
                have BK133 := n1_
                have BK134 := n2_
                have BK135 := n3_
                have GW134 := n4_
                have GE134 := n5_
                have NB132_134 := n6_
                have NB134_132 := n7_
                have NB133_134 := n8_
                have NB134_133 := n9_
                have NB135_134 := n10_
                have NB134_135 := n11_
                have GW135 := n12_
                have GE135 := n13_
                have NB132_135 := n14_
                have NB135_132 := n15_
                have NB133_135 := n16_
                have NB135_133 := n17_
                have HB := n18_
                clear n0_ n1_ n2_ n3_ n4_ n5_ n6_ n7_ n8_ n9_ n10_ n11_ n12_ n13_ n14_ n15_ n16_ n17_ n18_
                have hHeld : w48.cell? ⟨gb132, 0, none⟩ = some (.int .i64 a0_0) ∧ w48.cell? ⟨gb132, 1, none⟩ = some (.int .i64 a0_1) ∧ w48.cell? ⟨gb132, 2, none⟩ = some (.int .i64 a0_2) ∧ w48.cell? ⟨gb132, 3, none⟩ = some (.int .i64 a0_3) ∧ w48.cell? ⟨gb132, 4, none⟩ = some (.int .i64 a0_4) ∧ w48.cell? ⟨gb132, 5, none⟩ = some (.int .i64 a0_5) ∧ w48.cell? ⟨gb132, 6, none⟩ = some (.int .i64 a0_6) ∧ w48.cell? ⟨gb132, 7, none⟩ = some (.slice A0_7 l0_7.length c0_7) ∧ w48.cell? ⟨gb133, 0, none⟩ = some (.int .i64 a1_0) ∧ w48.cell? ⟨gb133, 1, none⟩ = some (.int .i64 a1_1) ∧ w48.cell? ⟨gb133, 2, none⟩ = some (.int .i64 a1_2) ∧ w48.cell? ⟨gb133, 3, none⟩ = some (.int .i64 a1_3) ∧ w48.cell? ⟨gb133, 4, none⟩ = some (.int .i64 a1_4) ∧ w48.cell? ⟨gb133, 5, none⟩ = some (.int .i64 a1_5) ∧ w48.cell? ⟨gb133, 6, none⟩ = some (.int .i64 a1_6) ∧ w48.cell? ⟨gb133, 7, none⟩ = some (.slice A1_7 l1_7.length c1_7) := hS_
                refine norm_ (a' := ?_) ?_ ?_
                rotate_left
                · simp only [putAll, Act.put, la_, lb_, lc_]
                  rfl
                refine one_ (i := 4) (N := none) #[true, true, true, true, true, false] rfl rfl (by kernel_rfl) (by decide) (fun K hK => ?_)
                have hs49 : w48.cell? ⟨gb134, 0, none⟩ = some (.int .i64 0) := (blk_cell BK134.out 0).trans rfl
                have hfs49 := blk_frozen BK134.out 0
                have hns49_0 := NB132_134.out
                have hns49_1 := NB133_134.out
                have hns49_3 := NB135_134.out
                have hms49_0 := NB134_132.out
                have hms49_1 := NB134_133.out
                have hms49_3 := NB134_135.out
                have hs50 : w48.cell? ⟨gb134, 1, none⟩ = some (.int .i64 0) := (blk_cell BK134.out 1).trans rfl
                have hfs50 := blk_frozen BK134.out 1
                have hns50_0 := NB132_134.out
                have hns50_1 := NB133_134.out
                have hns50_3 := NB135_134.out
                have hms50_0 := NB134_132.out
                have hms50_1 := NB134_133.out
                have hms50_3 := NB134_135.out
                have hs51 : w48.cell? ⟨gb134, 2, none⟩ = some (.int .i64 0) := (blk_cell BK134.out 2).trans rfl
                have hfs51 := blk_frozen BK134.out 2
                have hns51_0 := NB132_134.out
                have hns51_1 := NB133_134.out
                have hns51_3 := NB135_134.out
                have hms51_0 := NB134_132.out
                have hms51_1 := NB134_133.out
                have hms51_3 := NB134_135.out
                have hs52 : w48.cell? ⟨gb134, 3, none⟩ = some (.int .i64 0) := (blk_cell BK134.out 3).trans rfl
                have hfs52 := blk_frozen BK134.out 3
                have hns52_0 := NB132_134.out
                have hns52_1 := NB133_134.out
                have hns52_3 := NB135_134.out
                have hms52_0 := NB134_132.out
                have hms52_1 := NB134_133.out
                have hms52_3 := NB134_135.out
                have hs53 : w48.cell? ⟨gb134, 4, none⟩ = some (.int .i64 0) := (blk_cell BK134.out 4).trans rfl
                have hfs53 := blk_frozen BK134.out 4
                have hns53_0 := NB132_134.out
                have hns53_1 := NB133_134.out
                have hns53_3 := NB135_134.out
                have hms53_0 := NB134_132.out
                have hms53_1 := NB134_133.out
                have hms53_3 := NB134_135.out
                have hs54 : w48.cell? ⟨gb134, 5, none⟩ = some (.int .i64 0) := (blk_cell BK134.out 5).trans rfl
                have hfs54 := blk_frozen BK134.out 5
                have hns54_0 := NB132_134.out
                have hns54_1 := NB133_134.out
                have hns54_3 := NB135_134.out
                have hms54_0 := NB134_132.out
                have hms54_1 := NB134_133.out
                have hms54_3 := NB134_135.out
                have hs55 : w48.cell? ⟨gb134, 6, none⟩ = some (.int .i64 0) := (blk_cell BK134.out 6).trans rfl
                have hfs55 := blk_frozen BK134.out 6
                have hns55_0 := NB132_134.out
                have hns55_1 := NB133_134.out
                have hns55_3 := NB135_134.out
                have hms55_0 := NB134_132.out
                have hms55_1 := NB134_133.out
                have hms55_3 := NB134_135.out
                have hs56 : w48.cell? ⟨gb134, 7, none⟩ = some (.slice none 0 0) := (blk_cell BK134.out 7).trans rfl
                have hfs56 := blk_frozen BK134.out 7
                have hns56_0 := NB132_134.out
                have hns56_1 := NB133_134.out
                have hns56_3 := NB135_134.out
                have hms56_0 := NB134_132.out
                have hms56_1 := NB134_133.out
                have hms56_3 := NB134_135.out
                refine skip_ (w1 := ?_) ?_ ?_ ?_ ?_
                rotate_left
                · rfl
                · rfl
                · go_simp
                  rfl
                refine hK.out _ _ ⟨(cfar_ hHeld.1), (cfar_ hHeld.2.1), (cfar_ hHeld.2.2.1), (cfar_ hHeld.2.2.2.1), (cfar_ hHeld.2.2.2.2.1), (cfar_ hHeld.2.2.2.2.2.1), (cfar_ hHeld.2.2.2.2.2.2.1), (cfar_ hHeld.2.2.2.2.2.2.2.1), (cfar_ hHeld.2.2.2.2.2.2.2.2.1), (cfar_ hHeld.2.2.2.2.2.2.2.2.2.1), (cfar_ hHeld.2.2.2.2.2.2.2.2.2.2.1), (cfar_ hHeld.2.2.2.2.2.2.2.2.2.2.2.1), (cfar_ hHeld.2.2.2.2.2.2.2.2.2.2.2.2.1), (cfar_ hHeld.2.2.2.2.2.2.2.2.2.2.2.2.2.1), (cfar_ hHeld.2.2.2.2.2.2.2.2.2.2.2.2.2.2.1), (cfar_ hHeld.2.2.2.2.2.2.2.2.2.2.2.2.2.2.2)⟩ (fun hHeld => ?_)
                clear hK K
                refine one_ (i := 5) (N := none) #[true, true, true, true, true, true] rfl rfl (by kernel_rfl) (by decide) (fun K hK => ?_)
                have hs57 : w48.cell? ⟨gb135, 0, none⟩ = some (.int .i64 0) := (blk_cell BK135.out 0).trans rfl
                have hfs57 := blk_frozen BK135.out 0
                have hns57_0 := NB132_135.out
                have hns57_1 := NB133_135.out
                have hns57_2 := NB134_135.out
                have hms57_0 := NB135_132.out
                have hms57_1 := NB135_133.out
                have hms57_2 := NB135_134.out
                have hs58 : w48.cell? ⟨gb135, 1, none⟩ = some (.int .i64 0) := (blk_cell BK135.out 1).trans rfl
                have hfs58 := blk_frozen BK135.out 1
                have hns58_0 := NB132_135.out
                have hns58_1 := NB133_135.out
                have hns58_2 := NB134_135.out
                have hms58_0 := NB135_132.out
                have hms58_1 := NB135_133.out
                have hms58_2 := NB135_134.out
                have hs59 : w48.cell? ⟨gb135, 2, none⟩ = some (.int .i64 0) := (blk_cell BK135.out 2).trans rfl
                have hfs59 := blk_frozen BK135.out 2
                have hns59_0 := NB132_135.out
                have hns59_1 := NB133_135.out
                have hns59_2 := NB134_135.out
                have hms59_0 := NB135_132.out
                have hms59_1 := NB135_133.out
                have hms59_2 := NB135_134.out
                have hs60 : w48.cell? ⟨gb135, 3, none⟩ = some (.int .i64 0) := (blk_cell BK135.out 3).trans rfl
                have hfs60 := blk_frozen BK135.out 3
                have hns60_0 := NB132_135.out
                have hns60_1 := NB133_135.out
                have hns60_2 := NB134_135.out
                have hms60_0 := NB135_132.out
                have hms60_1 := NB135_133.out
                have hms60_2 := NB135_134.out
                have hs61 : w48.cell? ⟨gb135, 4, none⟩ = some (.int .i64 0) := (blk_cell BK135.out 4).trans rfl
                have hfs61 := blk_frozen BK135.out 4
                have hns61_0 := NB132_135.out
                have hns61_1 := NB133_135.out
                have hns61_2 := NB134_135.out
                have hms61_0 := NB135_132.out
                have hms61_1 := NB135_133.out
                have hms61_2 := NB135_134.out
                have hs62 : w48.cell? ⟨gb135, 5, none⟩ = some (.int .i64 0) := (blk_cell BK135.out 5).trans rfl
                have hfs62 := blk_frozen BK135.out 5
                have hns62_0 := NB132_135.out
                have hns62_1 := NB133_135.out
                have hns62_2 := NB134_135.out
                have hms62_0 := NB135_132.out
                have hms62_1 := NB135_133.out
                have hms62_2 := NB135_134.out
                have hs63 : w48.cell? ⟨gb135, 6, none⟩ = some (.int .i64 0) := (blk_cell BK135.out 6).trans rfl
                have hfs63 := blk_frozen BK135.out 6
                have hns63_0 := NB132_135.out
                have hns63_1 := NB133_135.out
                have hns63_2 := NB134_135.out
                have hms63_0 := NB135_132.out
                have hms63_1 := NB135_133.out
                have hms63_2 := NB135_134.out
                have hs64 : w48.cell? ⟨gb135, 7, none⟩ = some (.slice none 0 0) := (blk_cell BK135.out 7).trans rfl
                have hfs64 := blk_frozen BK135.out 7
                have hns64_0 := NB132_135.out
                have hns64_1 := NB133_135.out
                have hns64_2 := NB134_135.out
                have hms64_0 := NB135_132.out
                have hms64_1 := NB135_133.out
                have hms64_2 := NB135_134.out
                refine skip_ (w1 := ?_) ?_ ?_ ?_ ?_
                rotate_left
                · rfl
                · rfl
                · go_simp
                  rfl
                refine hK.out _ _ ⟨(cfar_ hHeld.1), (cfar_ hHeld.2.1), (cfar_ hHeld.2.2.1), (cfar_ hHeld.2.2.2.1), (cfar_ hHeld.2.2.2.2.1), (cfar_ hHeld.2.2.2.2.2.1), (cfar_ hHeld.2.2.2.2.2.2.1), (cfar_ hHeld.2.2.2.2.2.2.2.1), (cfar_ hHeld.2.2.2.2.2.2.2.2.1), (cfar_ hHeld.2.2.2.2.2.2.2.2.2.1), (cfar_ hHeld.2.2.2.2.2.2.2.2.2.2.1), (cfar_ hHeld.2.2.2.2.2.2.2.2.2.2.2.1), (cfar_ hHeld.2.2.2.2.2.2.2.2.2.2.2.2.1), (cfar_ hHeld.2.2.2.2.2.2.2.2.2.2.2.2.2.1), (cfar_ hHeld.2.2.2.2.2.2.2.2.2.2.2.2.2.2.1), (cfar_ hHeld.2.2.2.2.2.2.2.2.2.2.2.2.2.2.2)⟩ (fun hHeld => ?_)
                clear hK K
                refine done_ (by kernel_rfl) ?_
                have hnb65 := NB134_132.out
                have hnc65 := NB132_134.out
                have hnb66 := NB134_133.out
                have hnc66 := NB133_134.out
                have hnb67 := NB134_135.out
                have hnc67 := NB135_134.out
                have hcz68_0 : w48.cell? ⟨gb134, 0, none⟩ = some (.int .i64 0) := bc_
                have hcz68_1 : w48.cell? ⟨gb134, 1, none⟩ = some (.int .i64 0) := bc_
                have hcz68_2 : w48.cell? ⟨gb134, 2, none⟩ = some (.int .i64 0) := bc_
                have hcz68_3 : w48.cell? ⟨gb134, 3, none⟩ = some (.int .i64 0) := bc_
                have hcz68_4 : w48.cell? ⟨gb134, 4, none⟩ = some (.int .i64 0) := bc_
                have hcz68_5 : w48.cell? ⟨gb134, 5, none⟩ = some (.int .i64 0) := bc_
                have hcz68_6 : w48.cell? ⟨gb134, 6, none⟩ = some (.int .i64 0) := bc_
                have hcz68_7 : w48.cell? ⟨gb134, 7, none⟩ = some (.slice none 0 0) := bc_
                have hfz68_0 := blk_frozen BK134.out 0
                have hfz68_1 := blk_frozen BK134.out 1
                have hfz68_2 := blk_frozen BK134.out 2
                have hfz68_3 := blk_frozen BK134.out 3
                have hfz68_4 := blk_frozen BK134.out 4
                have hfz68_5 := blk_frozen BK134.out 5
                have hfz68_6 := blk_frozen BK134.out 6
                have hfz68_7 := blk_frozen BK134.out 7
                have hnb69 := NB135_132.out
                have hnc69 := NB132_135.out
                have hnb70 := NB135_133.out
                have hnc70 := NB133_135.out
                have hcz71_0 : w48.cell? ⟨gb135, 0, none⟩ = some (.int .i64 0) := bc_
                have hcz71_1 : w48.cell? ⟨gb135, 1, none⟩ = some (.int .i64 0) := bc_
                have hcz71_2 : w48.cell? ⟨gb135, 2, none⟩ = some (.int .i64 0) := bc_
                have hcz71_3 : w48.cell? ⟨gb135, 3, none⟩ = some (.int .i64 0) := bc_
                have hcz71_4 : w48.cell? ⟨gb135, 4, none⟩ = some (.int .i64 0) := bc_
                have hcz71_5 : w48.cell? ⟨gb135, 5, none⟩ = some (.int .i64 0) := bc_
                have hcz71_6 : w48.cell? ⟨gb135, 6, none⟩ = some (.int .i64 0) := bc_
                have hcz71_7 : w48.cell? ⟨gb135, 7, none⟩ = some (.slice none 0 0) := bc_
                have hfz71_0 := blk_frozen BK135.out 0
                have hfz71_1 := blk_frozen BK135.out 1
                have hfz71_2 := blk_frozen BK135.out 2
                have hfz71_3 := blk_frozen BK135.out 3
                have hfz71_4 := blk_frozen BK135.out 4
                have hfz71_5 := blk_frozen BK135.out 5
                have hfz71_6 := blk_frozen BK135.out 6
                have hfz71_7 := blk_frozen BK135.out 7
                try go_wp2
                go_ret
                exact ⟨by first | rfl | (simp [errW_none, errW_some] <;> rfl) | (simp [*, errW_none, errW_some] <;> rfl), by repeat (first | (with_reducible first | exact HB.out | apply below_alloc | apply pw_below_drewN | apply below_drew1 | refine below_set ?_ GE132.out | refine below_set ?_ GE133.out | refine below_set ?_ GE134.out | refine below_set ?_ GE135.out) | exact HB.out)⟩
            · rw [if_neg c8] at H
              have c8b0 : (a0_5 == a1_5) = false := beq_eq_false_iff_ne.mpr c8
              have c8b1 : (a0_5 != a1_5) = true := bne_iff_ne.mpr c8
              obtain rfl := Option.some.inj H
              go_enter Try.func17, Try.ntmps17
              try go_wp2_with (first | ((with_reducible refine gate_dst (N := 2) rfl ?_); refine box_event ?hg (N := 2) ?hd (cs := #[.int .i64 a0_0, .int .i64 a0_1, .int .i64 a0_2, .int .i64 a0_3, .int .i64 a0_4, .int .i64 a0_5, .int .i64 a0_6, .slice A0_7 l0_7.length c0_7]) (t := 27) ?hr ?_; (case hd => rfl); (case hg => rfl); (case hr => first | (go_simp; done) | (go_simp; rfl)); intro gb132 hg w72 hbox hb; have n0_ := Aside0.mk (below_step bel_ hb); have n1_ := Aside0.mk (hbox); have n2_ := bs_ (w := w) hg; have n3_ := bs_ (w := w) hg; clear HB; have HB := n0_; have BK132 := n1_; have GW132 := n2_; have GE132 := n3_; clear n0_ n1_ n2_ n3_; clear hb hbox hg) | ((with_reducible refine gate_dst (N := 3) rfl ?_); refine box_event ?hg (N := 3) ?hd (cs := #[.int .i64 a1_0, .int .i64 a1_1, .int .i64 a1_2, .int .i64 a1_3, .int .i64 a1_4, .int .i64 a1_5, .int .i64 a1_6, .slice A1_7 l1_7.length c1_7]) (t := 27) ?hr ?_; (case hd => rfl); (case hg => rfl); (case hr => first | (go_simp; done) | (go_simp; rfl)); intro gb133 hg w73 hbox hb; have n0_ := bb_ (g := gb132) (o := .cells #[.int .i64 a0_0, .int .i64 a0_1, .int .i64 a0_2, .int .i64 a0_3, .int .i64 a0_4, .int .i64 a0_5, .int .i64 a0_6, .slice A0_7 l0_7.length c0_7] 27 (0, 0)) hb; have n1_ := Aside0.mk (below_step bel_ hb); have n2_ := Aside0.mk (hbox); have n3_ := bs_ (w := w) hg; have n4_ := bs_ (w := w) hg; have n5_ := nlt_ (g := gb132) (o := .cells #[.int .i64 a0_0, .int .i64 a0_1, .int .i64 a0_2, .int .i64 a0_3, .int .i64 a0_4, .int .i64 a0_5, .int .i64 a0_6, .slice A0_7 l0_7.length c0_7] 27 (0, 0)) hg; have n6_ := ngt_ (g := gb132) (o := .cells #[.int .i64 a0_0, .int .i64 a0_1, .int .i64 a0_2, .int .i64 a0_3, .int .i64 a0_4, .int .i64 a0_5, .int .i64 a0_6, .slice A0_7 l0_7.length c0_7] 27 (0, 0)) hg; clear BK132; clear HB; have BK132 := n0_; have HB := n1_; have BK133 := n2_; have GW133 := n3_; have GE133 := n4_; have NB132_133 := n5_; have NB133_132 := n6_; clear n0_ n1_ n2_ n3_ n4_ n5_ n6_; clear hb hbox hg))
              have n0_ := Aside0.mk (blk_drew BK132.out)
              have n1_ := Aside0.mk (blk_drew BK133.out)
              have n2_ := Aside0.mk (below_drew1 HB.out)
              clear BK132
              clear BK133
              clear HB
              have BK132 := n0_
              have BK133 := n1_
              have HB := n2_
              clear n0_ n1_ n2_
              refine start_ (n := 6) (S := fun w' => w'.cell? ⟨gb132, 0, none⟩ = some (.int .i64 a0_0) ∧ w'.cell? ⟨gb132, 1, none⟩ = some (.int .i64 a0_1) ∧ w'.cell? ⟨gb132, 2, none⟩ = some (.int .i64 a0_2) ∧ w'.cell? ⟨gb132, 3, none⟩ = some (.int .i64 a0_3) ∧ w'.cell? ⟨gb132, 4, none⟩ = some (.int .i64 a0_4) ∧ w'.cell? ⟨gb132, 5, none⟩ = some (.int .i64 a0_5) ∧ w'.cell? ⟨gb132, 6, none⟩ = some (.int .i64 a0_6) ∧ w'.cell? ⟨gb132, 7, none⟩ = some (.slice A0_7 l0_7.length c0_7) ∧ w'.cell? ⟨gb133, 0, none⟩ = some (.int .i64 a1_0) ∧ w'.cell? ⟨gb133, 1, none⟩ = some (.int .i64 a1_1) ∧ w'.cell? ⟨gb133, 2, none⟩ = some (.int .i64 a1_2) ∧ w'.cell? ⟨gb133, 3, none⟩ = some (.int .i64 a1_3) ∧ w'.cell? ⟨gb133, 4, none⟩ = some (.int .i64 a1_4) ∧ w'.cell? ⟨gb133, 5, none⟩ = some (.int .i64 a1_5) ∧ w'.cell? ⟨gb133, 6, none⟩ = some (.int .i64 a1_6) ∧ w'.cell? ⟨gb133, 7, none⟩ = some (.slice A1_7 l1_7.length c1_7)) (ds := []) #[false, false, false, false, false, false] (by kernel_rfl) rfl rfl ⟨bc_, bc_, bc_, bc_, bc_, bc_, bc_, bc_, bc_, bc_, bc_, bc_, bc_, bc_, bc_, bc_⟩ (fun hHeld => ?_)
              generalize w73.drew = w74 at BK132 BK133 HB hHeld ⊢
              refine take_ (i := 0) (N := some 7) (v := ?_) (a' := ?_) #[true, false, false, false, false, false] rfl rfl (by kernel_rfl) (fun _ _ _ h => h) (Or.inl ⟨by rfl, ?_⟩) hHeld ?_ ?_
              rotate_left
              · rintro w' ⟨s0, s1, s2, s3, s4, s5, s6, s7, s8, s9, s10, s11, s12, s13, s14, s15⟩
                go_simp
                with_reducible rfl
              rotate_left
              · simp only [Act.put, la_, lb_, lc_, i64_w, i32_w]
                rfl
              refine take_ (i := 1) (N := some 8) (v := ?_) (a' := ?_) #[true, true, false, false, false, false] rfl rfl (by kernel_rfl) (fun _ _ _ h => h) (Or.inl ⟨by rfl, ?_⟩) hHeld ?_ ?_
              rotate_left
              · rintro w' ⟨s0, s1, s2, s3, s4, s5, s6, s7, s8, s9, s10, s11, s12, s13, s14, s15⟩
                go_simp
                with_reducible rfl
              rotate_left
              · simp only [Act.put, la_, lb_, lc_, i64_w, i32_w]
                rfl
              refine join_ (σ := Nat × Nat) 2 #[true, true, true, true, false, false] (fun s_ => [(5, .pointer (some ⟨s_.1, 0, none⟩)), (6, .pointer (some ⟨s_.2, 0, none⟩))]) (fun s_ w' => (w'.cell? ⟨gb132, 0, none⟩ = some (.int .i64 a0_0) ∧ w'.cell? ⟨gb132, 1, none⟩ = some (.int .i64 a0_1) ∧ w'.cell? ⟨gb132, 2, none⟩ = some (.int .i64 a0_2) ∧ w'.cell? ⟨gb132, 3, none⟩ = some (.int .i64 a0_3) ∧ w'.cell? ⟨gb132, 4, none⟩ = some (.int .i64 a0_4) ∧ w'.cell? ⟨gb132, 5, none⟩ = some (.int .i64 a0_5) ∧ w'.cell? ⟨gb132, 6, none⟩ = some (.int .i64 a0_6) ∧ w'.cell? ⟨gb132, 7, none⟩ = some (.slice A0_7 l0_7.length c0_7) ∧ w'.cell? ⟨gb133, 0, none⟩ = some (.int .i64 a1_0) ∧ w'.cell? ⟨gb133, 1, none⟩ = some (.int .i64 a1_1) ∧ w'.cell? ⟨gb133, 2, none⟩ = some (.int .i64 a1_2) ∧ w'.cell? ⟨gb133, 3, none⟩ = some (.int .i64 a1_3) ∧ w'.cell? ⟨gb133, 4, none⟩ = some (.int .i64 a1_4) ∧ w'.cell? ⟨gb133, 5, none⟩ = some (.int .i64 a1_5) ∧ w'.cell? ⟨gb133, 6, none⟩ = some (.int .i64 a1_6) ∧ w'.cell? ⟨gb133, 7, none⟩ = some (.slice A1_7 l1_7.length c1_7)) ∧ (w'.heap[gb132]? = some (.cells #[.int .i64 a0_0, .int .i64 a0_1, .int .i64 a0_2, .int .i64 a0_3, .int .i64 a0_4, .int .i64 a0_5, .int .i64 a0_6, .slice A0_7 l0_7.length c0_7] 27 (0, 0))) ∧ (w'.heap[gb133]? = some (.cells #[.int .i64 a1_0, .int .i64 a1_1, .int .i64 a1_2, .int .i64 a1_3, .int .i64 a1_4, .int .i64 a1_5, .int .i64 a1_6, .slice A1_7 l1_7.length c1_7] 27 (0, 0))) ∧ (w'.heap[s_.1]? = some (.cells #[.int .i64 0, .int .i64 0, .int .i64 0, .int .i64 0, .int .i64 0, .int .i64 0, .int .i64 0, .slice none 0 0] 27 (0, 0))) ∧ (w'.heap[s_.2]? = some (.cells #[.int .i64 0, .int .i64 0, .int .i64 0, .int .i64 0, .int .i64 0, .int .i64 0, .int .i64 0, .slice none 0 0] 27 (0, 0))) ∧ (w.heap.size ≤ s_.1) ∧ (w.heap.size ≤ s_.1) ∧ (gb132 ≠ s_.1) ∧ (s_.1 ≠ gb132) ∧ (gb133 ≠ s_.1) ∧ (s_.1 ≠ gb133) ∧ (s_.2 ≠ s_.1) ∧ (s_.1 ≠ s_.2) ∧ (w.heap.size ≤ s_.2) ∧ (w.heap.size ≤ s_.2) ∧ (gb132 ≠ s_.2) ∧ (s_.2 ≠ gb132) ∧ (gb133 ≠ s_.2) ∧ (s_.2 ≠ gb133) ∧ (Below w.heap.size w w')) ?_ ?_
              rotate_left
              · intro hCont
                refine two_ (i := 2) (j := 3) (Ni := some 5) (Nj := some 6) #[true, true, true, false, false, false] #[true, true, false, true, false, false] rfl rfl rfl rfl (by kernel_rfl) (by decide) (by decide) (fun K hK => ?_) (fun K hK => ?_)
                · skip
                  refine box_step ?hg (N := 5) ?hd (cs := #[.int .i64 0, .int .i64 0, .int .i64 0, .int .i64 0, .int .i64 0, .int .i64 0, .int .i64 0, .slice none 0 0]) (t := 27) ?hr ?_; (case hd => rfl); (case hg => rfl); (case hr => first | (go_simp; done) | (go_simp; rfl))
                  intro gb134 hg w75 hbox hb
                  have n0_ := bb_ (g := gb132) (o := .cells #[.int .i64 a0_0, .int .i64 a0_1, .int .i64 a0_2, .int .i64 a0_3, .int .i64 a0_4, .int .i64 a0_5, .int .i64 a0_6, .slice A0_7 l0_7.length c0_7] 27 (0, 0)) hb
                  have n1_ := bb_ (g := gb133) (o := .cells #[.int .i64 a1_0, .int .i64 a1_1, .int .i64 a1_2, .int .i64 a1_3, .int .i64 a1_4, .int .i64 a1_5, .int .i64 a1_6, .slice A1_7 l1_7.length c1_7] 27 (0, 0)) hb
                  have n2_ := Aside0.mk (below_step bel_ hb)
                  have n3_ := Aside0.mk (hbox)
                  have n4_ := bs_ (w := w) hg
                  have n5_ := bs_ (w := w) hg
                  have n6_ := nlt_ (g := gb132) (o := .cells #[.int .i64 a0_0, .int .i64 a0_1, .int .i64 a0_2, .int .i64 a0_3, .int .i64 a0_4, .int .i64 a0_5, .int .i64 a0_6, .slice A0_7 l0_7.length c0_7] 27 (0, 0)) hg
                  have n7_ := ngt_ (g := gb132) (o := .cells #[.int .i64 a0_0, .int .i64 a0_1, .int .i64 a0_2, .int .i64 a0_3, .int .i64 a0_4, .int .i64 a0_5, .int .i64 a0_6, .slice A0_7 l0_7.length c0_7] 27 (0, 0)) hg
                  have n8_ := nlt_ (g := gb133) (o := .cells #[.int .i64 a1_0, .int .i64 a1_1, .int .i64 a1_2, .int .i64 a1_3, .int .i64 a1_4, .int .i64 a1_5, .int .i64 a1_6, .slice A1_7 l1_7.length c1_7] 27 (0, 0)) hg
                  have n9_ := ngt_ (g := gb133) (o := .cells #[.int .i64 a1_0, .int .i64 a1_1, .int .i64 a1_2, .int .i64 a1_3, .int .i64 a1_4, .int .i64 a1_5, .int .i64 a1_6, .slice A1_7 l1_7.length c1_7] 27 (0, 0)) hg
                  clear BK132
                  clear BK133
                  clear HB
                  have BK132 := n0_
                  have BK133 := n1_
                  have HB := n2_
                  have BK134 := n3_
                  have GW134 := n4_
                  have GE134 := n5_
                  have NB132_134 := n6_
                  have NB134_132 := n7_
                  have NB133_134 := n8_
                  have NB134_133 := n9_
                  clear n0_ n1_ n2_ n3_ n4_ n5_ n6_ n7_ n8_ n9_
                  clear hb hbox hg
                  refine hK.out _ _ ⟨bc_, bc_, bc_, bc_, bc_, bc_, bc_, bc_, bc_, bc_, bc_, bc_, bc_, bc_, bc_, bc_⟩ (fun hHeld => ?_)
                  clear hK K
                  refine norm_ (a' := ?_) ?_ ?_
                  rotate_left
                  · show Act.put _ (some 5) _ = _
                    simp only [Act.put, la_, lb_, lc_, i64_w, i32_w]
                    rfl
                  refine one_ (i := 3) (N := some 6) #[true, true, true, true, false, false] rfl rfl (by kernel_rfl) (by decide) (fun K hK => ?_)
                  refine box_step ?hg (N := 6) ?hd (cs := #[.int .i64 0, .int .i64 0, .int .i64 0, .int .i64 0, .int .i64 0, .int .i64 0, .int .i64 0, .slice none 0 0]) (t := 27) ?hr ?_; (case hd => rfl); (case hg => rfl); (case hr => first | (go_simp; done) | (go_simp; rfl))
                  intro gb135 hg w76 hbox hb
                  have n0_ := bb_ (g := gb132) (o := .cells #[.int .i64 a0_0, .int .i64 a0_1, .int .i64 a0_2, .int .i64 a0_3, .int .i64 a0_4, .int .i64 a0_5, .int .i64 a0_6, .slice A0_7 l0_7.length c0_7] 27 (0, 0)) hb
                  have n1_ := bb_ (g := gb133) (o := .cells #[.int .i64 a1_0, .int .i64 a1_1, .int .i64 a1_2, .int .i64 a1_3, .int .i64 a1_4, .int .i64 a1_5, .int .i64 a1_6, .slice A1_7 l1_7.length c1_7] 27 (0, 0)) hb
                  have n2_ := bb_ (g := gb134) (o := .cells #[.int .i64 0, .int .i64 0, .int .i64 0, .int .i64 0, .int .i64 0, .int .i64 0, .int .i64 0, .slice none 0 0] 27 (0, 0)) hb
                  have n3_ := Aside0.mk (below_step bel_ hb)
                  have n4_ := Aside0.mk (hbox)
                  have n5_ := bs_ (w := w) hg
                  have n6_ := bs_ (w := w) hg
                  have n7_ := nlt_ (g := gb132) (o := .cells #[.int .i64 a0_0, .int .i64 a0_1, .int .i64 a0_2, .int .i64 a0_3, .int .i64 a0_4, .int .i64 a0_5, .int .i64 a0_6, .slice A0_7 l0_7.length c0_7] 27 (0, 0)) hg
                  have n8_ := ngt_ (g := gb132) (o := .cells #[.int .i64 a0_0, .int .i64 a0_1, .int .i64 a0_2, .int .i64 a0_3, .int .i64 a0_4, .int .i64 a0_5, .int .i64 a0_6, .slice A0_7 l0_7.length c0_7] 27 (0, 0)) hg
                  have n9_ := nlt_ (g := gb133) (o := .cells #[.int .i64 a1_0, .int .i64 a1_1, .int .i64 a1_2, .int .i64 a1_3, .int .i64 a1_4, .int .i64 a1_5, .int .i64 a1_6, .slice A1_7 l1_7.length c1_7] 27 (0, 0)) hg
                  have n10_ := ngt_ (g := gb133) (o := .cells #[.int .i64 a1_0, .int .i64 a1_1, .int .i64 a1_2, .int .i64 a1_3, .int .i64 a1_4, .int .i64 a1_5, .int .i64 a1_6, .slice A1_7 l1_7.length c1_7] 27 (0, 0)) hg
                  have n11_ := nlt_ (g := gb134) (o := .cells #[.int .i64 0, .int .i64 0, .int .i64 0, .int .i64 0, .int .i64 0, .int .i64 0, .int .i64 0, .slice none 0 0] 27 (0, 0)) hg
                  have n12_ := ngt_ (g := gb134) (o := .cells #[.int .i64 0, .int .i64 0, .int .i64 0, .int .i64 0, .int .i64 0, .int .i64 0, .int .i64 0, .slice none 0 0] 27 (0, 0)) hg
                  clear BK132
                  clear BK133
                  clear BK134
                  clear HB
                  have BK132 := n0_
                  have BK133 := n1_
                  have BK134 := n2_
                  have HB := n3_
                  have BK135 := n4_
                  have GW135 := n5_
                  have GE135 := n6_
                  have NB132_135 := n7_
                  have NB135_132 := n8_
                  have NB133_135 := n9_
                  have NB135_133 := n10_
                  have NB134_135 := n11_
                  have NB135_134 := n12_
                  clear n0_ n1_ n2_ n3_ n4_ n5_ n6_ n7_ n8_ n9_ n10_ n11_ n12_
                  clear hb hbox hg
                  refine hK.out _ _ ⟨bc_, bc_, bc_, bc_, bc_, bc_, bc_, bc_, bc_, bc_, bc_, bc_, bc_, bc_, bc_, bc_⟩ (fun hHeld => ?_)
                  clear hK K
                  refine norm_ (a' := ?_) ?_ ?_
                  rotate_left
                  · show Act.put _ (some 6) _ = _
                    simp only [Act.put, la_, lb_, lc_, i64_w, i32_w]
                    rfl
                  exact norm_ (by simp only [putAll, Act.put, la_, lb_, lc_]) (hCont (gb134, gb135) _ ⟨hHeld, bk_, bk_, bk_, bk_, GW134.out, GE134.out, NB132_134.out, NB134_132.out, NB133_134.out, NB134_133.out, NB135_134.out, NB134_135.out, GW135.out, GE135.out, NB132_135.out, NB135_132.out, NB133_135.out, NB135_133.out, bel_⟩)
                · skip
                  refine box_step ?hg (N := 6) ?hd (cs := #[.int .i64 0, .int .i64 0, .int .i64 0, .int .i64 0, .int .i64 0, .int .i64 0, .int .i64 0, .slice none 0 0]) (t := 27) ?hr ?_; (case hd => rfl); (case hg => rfl); (case hr => first | (go_simp; done) | (go_simp; rfl))
                  intro gb135 hg w75 hbox hb
                  have n0_ := bb_ (g := gb132) (o := .cells #[.int .i64 a0_0, .int .i64 a0_1, .int .i64 a0_2, .int .i64 a0_3, .int .i64 a0_4, .int .i64 a0_5, .int .i64 a0_6, .slice A0_7 l0_7.length c0_7] 27 (0, 0)) hb
                  have n1_ := bb_ (g := gb133) (o := .cells #[.int .i64 a1_0, .int .i64 a1_1, .int .i64 a1_2, .int .i64 a1_3, .int .i64 a1_4, .int .i64 a1_5, .int .i64 a1_6, .slice A1_7 l1_7.length c1_7] 27 (0, 0)) hb
                  have n2_ := Aside0.mk (below_step bel_ hb)
                  have n3_ := Aside0.mk (hbox)
                  have n4_ := bs_ (w := w) hg
                  have n5_ := bs_ (w := w) hg
                  have n6_ := nlt_ (g := gb132) (o := .cells #[.int .i64 a0_0, .int .i64 a0_1, .int .i64 a0_2, .int .i64 a0_3, .int .i64 a0_4, .int .i64 a0_5, .int .i64 a0_6, .slice A0_7 l0_7.length c0_7] 27 (0, 0)) hg
                  have n7_ := ngt_ (g := gb132) (o := .cells #[.int .i64 a0_0, .int .i64 a0_1, .int .i64 a0_2, .int .i64 a0_3, .int .i64 a0_4, .int .i64 a0_5, .int .i64 a0_6, .slice A0_7 l0_7.length c0_7] 27 (0, 0)) hg
                  have n8_ := nlt_ (g := gb133) (o := .cells #[.int .i64 a1_0, .int .i64 a1_1, .int .i64 a1_2, .int .i64 a1_3, .int .i64 a1_4, .int .i64 a1_5, .int .i64 a1_6, .slice A1_7 l1_7.length c1_7] 27 (0, 0)) hg
                  have n9_ := ngt_ (g := gb133) (o := .cells #[.int .i64 a1_0, .int .i64 a1_1, .int .i64 a1_2, .int .i64 a1_3, .int .i64 a1_4, .int .i64 a1_5, .int .i64 a1_6, .slice A1_7 l1_7.length c1_7] 27 (0, 0)) hg
                  clear BK132
                  clear BK133
                  clear HB
                  have BK132 := n0_
                  have BK133 := n1_
                  have HB := n2_
                  have BK135 := n3_
                  have GW135 := n4_
                  have GE135 := n5_
                  have NB132_135 := n6_
                  have NB135_132 := n7_
                  have NB133_135 := n8_
                  have NB135_133 := n9_
                  clear n0_ n1_ n2_ n3_ n4_ n5_ n6_ n7_ n8_ n9_
                  clear hb hbox hg
                  refine hK.out _ _ ⟨bc_, bc_, bc_, bc_, bc_, bc_, bc_, bc_, bc_, bc_, bc_, bc_, bc_, bc_, bc_, bc_⟩ (fun hHeld => ?_)
                  clear hK K
                  refine norm_ (a' := ?_) ?_ ?_
                  rotate_left
                  · show Act.put _ (some 6) _ = _
                    simp only [Act.put, la_, lb_, lc_, i64_w, i32_w]
                    rfl
                  refine one_ (i := 2) (N := some 5) #[true, true, true, true, false, false] rfl rfl (by kernel_rfl) (by decide) (fun K hK => ?_)
                  refine box_step ?hg (N := 5) ?hd (cs := #[.int .i64 0, .int .i64 0, .int .i64 0, .int .i64 0, .int .i64 0, .int .i64 0, .int .i64 0, .slice none 0 0]) (t := 27) ?hr ?_; (case hd => rfl); (case hg => rfl); (case hr => first | (go_simp; done) | (go_simp; rfl))
                  intro gb134 hg w76 hbox hb
                  have n0_ := bb_ (g := gb132) (o := .cells #[.int .i64 a0_0, .int .i64 a0_1, .int .i64 a0_2, .int .i64 a0_3, .int .i64 a0_4, .int .i64 a0_5, .int .i64 a0_6, .slice A0_7 l0_7.length c0_7] 27 (0, 0)) hb
                  have n1_ := bb_ (g := gb133) (o := .cells #[.int .i64 a1_0, .int .i64 a1_1, .int .i64 a1_2, .int .i64 a1_3, .int .i64 a1_4, .int .i64 a1_5, .int .i64 a1_6, .slice A1_7 l1_7.length c1_7] 27 (0, 0)) hb
                  have n2_ := bb_ (g := gb135) (o := .cells #[.int .i64 0, .int .i64 0, .int .i64 0, .int .i64 0, .int .i64 0, .int .i64 0, .int .i64 0, .slice none 0 0] 27 (0, 0)) hb
                  have n3_ := Aside0.mk (below_step bel_ hb)
                  have n4_ := Aside0.mk (hbox)
                  have n5_ := bs_ (w := w) hg
                  have n6_ := bs_ (w := w) hg
                  have n7_ := nlt_ (g := gb132) (o := .cells #[.int .i64 a0_0, .int .i64 a0_1, .int .i64 a0_2, .int .i64 a0_3, .int .i64 a0_4, .int .i64 a0_5, .int .i64 a0_6, .slice A0_7 l0_7.length c0_7] 27 (0, 0)) hg
                  have n8_ := ngt_ (g := gb132) (o := .cells #[.int .i64 a0_0, .int .i64 a0_1, .int .i64 a0_2, .int .i64 a0_3, .int .i64 a0_4, .int .i64 a0_5, .int .i64 a0_6, .slice A0_7 l0_7.length c0_7] 27 (0, 0)) hg
                  have n9_ := nlt_ (g := gb133) (o := .cells #[.int .i64 a1_0, .int .i64 a1_1, .int .i64 a1_2, .int .i64 a1_3, .int .i64 a1_4, .int .i64 a1_5, .int .i64 a1_6, .slice A1_7 l1_7.length c1_7] 27 (0, 0)) hg
                  have n10_ := ngt_ (g := gb133) (o := .cells #[.int .i64 a1_0, .int .i64 a1_1, .int .i64 a1_2, .int .i64 a1_3, .int .i64 a1_4, .int .i64 a1_5, .int .i64 a1_6, .slice A1_7 l1_7.length c1_7] 27 (0, 0)) hg
                  have n11_ := nlt_ (g := gb135) (o := .cells #[.int .i64 0, .int .i64 0, .int .i64 0, .int .i64 0, .int .i64 0, .int .i64 0, .int .i64 0, .slice none 0 0] 27 (0, 0)) hg
                  have n12_ := ngt_ (g := gb135) (o := .cells #[.int .i64 0, .int .i64 0, .int .i64 0, .int .i64 0, .int .i64 0, .int .i64 0, .int .i64 0, .slice none 0 0] 27 (0, 0)) hg
                  clear BK132
                  clear BK133
                  clear BK135
                  clear HB
                  have BK132 := n0_
                  have BK133 := n1_
                  have BK135 := n2_
                  have HB := n3_
                  have BK134 := n4_
                  have GW134 := n5_
                  have GE134 := n6_
                  have NB132_134 := n7_
                  have NB134_132 := n8_
                  have NB133_134 := n9_
                  have NB134_133 := n10_
                  have NB135_134 := n11_
                  have NB134_135 := n12_
                  clear n0_ n1_ n2_ n3_ n4_ n5_ n6_ n7_ n8_ n9_ n10_ n11_ n12_
                  clear hb hbox hg
                  refine hK.out _ _ ⟨bc_, bc_, bc_, bc_, bc_, bc_, bc_, bc_, bc_, bc_, bc_, bc_, bc_, bc_, bc_, bc_⟩ (fun hHeld => ?_)
                  clear hK K
                  refine norm_ (a' := ?_) ?_ ?_
                  rotate_left
                  · show Act.put _ (some 5) _ = _
                    simp only [Act.put, la_, lb_, lc_, i64_w, i32_w]
                    rfl
                  exact norm_ (by simp only [putAll, Act.put, la_, lb_, lc_]) (hCont (gb134, gb135) _ ⟨hHeld, bk_, bk_, bk_, bk_, GW134.out, GE134.out, NB132_134.out, NB134_132.out, NB133_134.out, NB134_133.out, NB135_134.out, NB134_135.out, GW135.out, GE135.out, NB132_135.out, NB135_132.out, NB133_135.out, NB135_133.out, bel_⟩)
              rintro ⟨gb134, gb135⟩ w77 ⟨hS_, h0_, h1_, h2_, h3_, h4_, h5_, h6_, h7_, h8_, h9_, h10_, h11_, h12_, h13_, h14_, h15_, h16_, h17_, h18_⟩
              have n0_ : Aside0 (w77.heap[gb132]? = some (.cells #[.int .i64 a0_0, .int .i64 a0_1, .int .i64 a0_2, .int .i64 a0_3, .int .i64 a0_4, .int .i64 a0_5, .int .i64 a0_6, .slice A0_7 l0_7.length c0_7] 27 (0, 0))) := ⟨h0_⟩
              have n1_ : Aside0 (w77.heap[gb133]? = some (.cells #[.int .i64 a1_0, .int .i64 a1_1, .int .i64 a1_2, .int .i64 a1_3, .int .i64 a1_4, .int .i64 a1_5, .int .i64 a1_6, .slice A1_7 l1_7.length c1_7] 27 (0, 0))) := ⟨h1_⟩
              have n2_ : Aside0 (w77.heap[gb134]? = some (.cells #[.int .i64 0, .int .i64 0, .int .i64 0, .int .i64 0, .int .i64 0, .int .i64 0, .int .i64 0, .slice none 0 0] 27 (0, 0))) := ⟨h2_⟩
              have n3_ : Aside0 (w77.heap[gb135]? = some (.cells #[.int .i64 0, .int .i64 0, .int .i64 0, .int .i64 0, .int .i64 0, .int .i64 0, .int .i64 0, .slice none 0 0] 27 (0, 0))) := ⟨h3_⟩
              have n4_ : Aside0 (w.heap.size ≤ gb134) := ⟨h4_⟩
              have n5_ : Aside0 (w.heap.size ≤ gb134) := ⟨h5_⟩
              have n6_ : Aside0 (gb132 ≠ gb134) := ⟨h6_⟩
              have n7_ : Aside0 (gb134 ≠ gb132) := ⟨h7_⟩
              have n8_ : Aside0 (gb133 ≠ gb134) := ⟨h8_⟩
              have n9_ : Aside0 (gb134 ≠ gb133) := ⟨h9_⟩
              have n10_ : Aside0 (gb135 ≠ gb134) := ⟨h10_⟩
              have n11_ : Aside0 (gb134 ≠ gb135) := ⟨h11_⟩
              have n12_ : Aside0 (w.heap.size ≤ gb135) := ⟨h12_⟩
              have n13_ : Aside0 (w.heap.size ≤ gb135) := ⟨h13_⟩
              have n14_ : Aside0 (gb132 ≠ gb135) := ⟨h14_⟩
              have n15_ : Aside0 (gb135 ≠ gb132) := ⟨h15_⟩
              have n16_ : Aside0 (gb133 ≠ gb135) := ⟨h16_⟩
              have n17_ : Aside0 (gb135 ≠ gb133) := ⟨h17_⟩
              have n18_ : Aside0 (Below w.heap.size w w77) := ⟨h18_⟩
              clear BK132
              clear BK133
              clear HB
              clear h0_ h1_ h2_ h3_ h4_ h5_ h6_ h7_ h8_ h9_ h10_ h11_ h12_ h13_ h14_ h15_ h16_ h17_ h18_
              have BK132 := n0_
              have BK133 := n1_
              have BK134 := n2_
              have BK135 := n3_
              have GW134 := n4_
              have GE134 := n5_
              have NB132_134 := n6_
              have NB134_132 := n7_
              have NB133_134 := n8_
              have NB134_133 := n9_
              have NB135_134 := n10_
              have NB134_135 := n11_
              have GW135 := n12_
              have GE135 := n13_
              have NB132_135 := n14_
              have NB135_132 := n15_
              have NB133_135 := n16_
              have NB135_133 := n17_
              have HB := n18_
              clear n0_ n1_ n2_ n3_ n4_ n5_ n6_ n7_ n8_ n9_ n10_ n11_ n12_ n13_ n14_ n15_ n16_ n17_ n18_
              have hHeld : w77.cell? ⟨gb132, 0, none⟩ = some (.int .i64 a0_0) ∧ w77.cell? ⟨gb132, 1, none⟩ = some (.int .i64 a0_1) ∧ w77.cell? ⟨gb132, 2, none⟩ = some (.int .i64 a0_2) ∧ w77.cell? ⟨gb132, 3, none⟩ = some (.int .i64 a0_3) ∧ w77.cell? ⟨gb132, 4, none⟩ = some (.int .i64 a0_4) ∧ w77.cell? ⟨gb132, 5, none⟩ = some (.int .i64 a0_5) ∧ w77.cell? ⟨gb132, 6, none⟩ = some (.int .i64 a0_6) ∧ w77.cell? ⟨gb132, 7, none⟩ = some (.slice A0_7 l0_7.length c0_7) ∧ w77.cell? ⟨gb133, 0, none⟩ = some (.int .i64 a1_0) ∧ w77.cell? ⟨gb133, 1, none⟩ = some (.int .i64 a1_1) ∧ w77.cell? ⟨gb133, 2, none⟩ = some (.int .i64 a1_2) ∧ w77.cell? ⟨gb133, 3, none⟩ = some (.int .i64 a1_3) ∧ w77.cell? ⟨gb133, 4, none⟩ = some (.int .i64 a1_4) ∧ w77.cell? ⟨gb133, 5, none⟩ = some (.int .i64 a1_5) ∧ w77.cell? ⟨gb133, 6, none⟩ = some (.int .i64 a1_6) ∧ w77.cell? ⟨gb133, 7, none⟩ = some (.slice A1_7 l1_7.length c1_7) := hS_
              refine norm_ (a' := ?_) ?_ ?_
              rotate_left
              · simp only [putAll, Act.put, la_, lb_, lc_]
                rfl
              refine one_ (i := 4) (N := none) #[true, true, true, true, true, false] rfl rfl (by kernel_rfl) (by decide) (fun K hK => ?_)
              have hs78 : w77.cell? ⟨gb134, 0, none⟩ = some (.int .i64 0) := (blk_cell BK134.out 0).trans rfl
              have hfs78 := blk_frozen BK134.out 0
              have hns78_0 := NB132_134.out
              have hns78_1 := NB133_134.out
              have hns78_3 := NB135_134.out
              have hms78_0 := NB134_132.out
              have hms78_1 := NB134_133.out
              have hms78_3 := NB134_135.out
              have hs79 : w77.cell? ⟨gb134, 1, none⟩ = some (.int .i64 0) := (blk_cell BK134.out 1).trans rfl
              have hfs79 := blk_frozen BK134.out 1
              have hns79_0 := NB132_134.out
              have hns79_1 := NB133_134.out
              have hns79_3 := NB135_134.out
              have hms79_0 := NB134_132.out
              have hms79_1 := NB134_133.out
              have hms79_3 := NB134_135.out
              have hs80 : w77.cell? ⟨gb134, 2, none⟩ = some (.int .i64 0) := (blk_cell BK134.out 2).trans rfl
              have hfs80 := blk_frozen BK134.out 2
              have hns80_0 := NB132_134.out
              have hns80_1 := NB133_134.out
              have hns80_3 := NB135_134.out
              have hms80_0 := NB134_132.out
              have hms80_1 := NB134_133.out
              have hms80_3 := NB134_135.out
              have hs81 : w77.cell? ⟨gb134, 3, none⟩ = some (.int .i64 0) := (blk_cell BK134.out 3).trans rfl
              have hfs81 := blk_frozen BK134.out 3
              have hns81_0 := NB132_134.out
              have hns81_1 := NB133_134.out
              have hns81_3 := NB135_134.out
              have hms81_0 := NB134_132.out
              have hms81_1 := NB134_133.out
              have hms81_3 := NB134_135.out
              have hs82 : w77.cell? ⟨gb134, 4, none⟩ = some (.int .i64 0) := (blk_cell BK134.out 4).trans rfl
              have hfs82 := blk_frozen BK134.out 4
              have hns82_0 := NB132_134.out
              have hns82_1 := NB133_134.out
              have hns82_3 := NB135_134.out
              have hms82_0 := NB134_132.out
              have hms82_1 := NB134_133.out
              have hms82_3 := NB134_135.out
              have hs83 : w77.cell? ⟨gb134, 5, none⟩ = some (.int .i64 0) := (blk_cell BK134.out 5).trans rfl
              have hfs83 := blk_frozen BK134.out 5
              have hns83_0 := NB132_134.out
              have hns83_1 := NB133_134.out
              have hns83_3 := NB135_134.out
              have hms83_0 := NB134_132.out
              have hms83_1 := NB134_133.out
              have hms83_3 := NB134_135.out
              have hs84 : w77.cell? ⟨gb134, 6, none⟩ = some (.int .i64 0) := (blk_cell BK134.out 6).trans rfl
              have hfs84 := blk_frozen BK134.out 6
              have hns84_0 := NB132_134.out
              have hns84_1 := NB133_134.out
              have hns84_3 := NB135_134.out
              have hms84_0 := NB134_132.out
              have hms84_1 := NB134_133.out
              have hms84_3 := NB134_135.out
              have hs85 : w77.cell? ⟨gb134, 7, none⟩ = some (.slice none 0 0) := (blk_cell BK134.out 7).trans rfl
              have hfs85 := blk_frozen BK134.out 7
              have hns85_0 := NB132_134.out
              have hns85_1 := NB133_134.out
              have hns85_3 := NB135_134.out
              have hms85_0 := NB134_132.out
              have hms85_1 := NB134_133.out
              have hms85_3 := NB134_135.out
              refine skip_ (w1 := ?_) ?_ ?_ ?_ ?_
              rotate_left
              · rfl
              · rfl
              · go_simp
                rfl
              refine hK.out _ _ ⟨(cfar_ hHeld.1), (cfar_ hHeld.2.1), (cfar_ hHeld.2.2.1), (cfar_ hHeld.2.2.2.1), (cfar_ hHeld.2.2.2.2.1), (cfar_ hHeld.2.2.2.2.2.1), (cfar_ hHeld.2.2.2.2.2.2.1), (cfar_ hHeld.2.2.2.2.2.2.2.1), (cfar_ hHeld.2.2.2.2.2.2.2.2.1), (cfar_ hHeld.2.2.2.2.2.2.2.2.2.1), (cfar_ hHeld.2.2.2.2.2.2.2.2.2.2.1), (cfar_ hHeld.2.2.2.2.2.2.2.2.2.2.2.1), (cfar_ hHeld.2.2.2.2.2.2.2.2.2.2.2.2.1), (cfar_ hHeld.2.2.2.2.2.2.2.2.2.2.2.2.2.1), (cfar_ hHeld.2.2.2.2.2.2.2.2.2.2.2.2.2.2.1), (cfar_ hHeld.2.2.2.2.2.2.2.2.2.2.2.2.2.2.2)⟩ (fun hHeld => ?_)
              clear hK K
              refine one_ (i := 5) (N := none) #[true, true, true, true, true, true] rfl rfl (by kernel_rfl) (by decide) (fun K hK => ?_)
              have hs86 : w77.cell? ⟨gb135, 0, none⟩ = some (.int .i64 0) := (blk_cell BK135.out 0).trans rfl
              have hfs86 := blk_frozen BK135.out 0
              have hns86_0 := NB132_135.out
              have hns86_1 := NB133_135.out
              have hns86_2 := NB134_135.out
              have hms86_0 := NB135_132.out
              have hms86_1 := NB135_133.out
              have hms86_2 := NB135_134.out
              have hs87 : w77.cell? ⟨gb135, 1, none⟩ = some (.int .i64 0) := (blk_cell BK135.out 1).trans rfl
              have hfs87 := blk_frozen BK135.out 1
              have hns87_0 := NB132_135.out
              have hns87_1 := NB133_135.out
              have hns87_2 := NB134_135.out
              have hms87_0 := NB135_132.out
              have hms87_1 := NB135_133.out
              have hms87_2 := NB135_134.out
              have hs88 : w77.cell? ⟨gb135, 2, none⟩ = some (.int .i64 0) := (blk_cell BK135.out 2).trans rfl
              have hfs88 := blk_frozen BK135.out 2
              have hns88_0 := NB132_135.out
              have hns88_1 := NB133_135.out
              have hns88_2 := NB134_135.out
              have hms88_0 := NB135_132.out
              have hms88_1 := NB135_133.out
              have hms88_2 := NB135_134.out
              have hs89 : w77.cell? ⟨gb135, 3, none⟩ = some (.int .i64 0) := (blk_cell BK135.out 3).trans rfl
              have hfs89 := blk_frozen BK135.out 3
              have hns89_0 := NB132_135.out
              have hns89_1 := NB133_135.out
              have hns89_2 := NB134_135.out
              have hms89_0 := NB135_132.out
              have hms89_1 := NB135_133.out
              have hms89_2 := NB135_134.out
              have hs90 : w77.cell? ⟨gb135, 4, none⟩ = some (.int .i64 0) := (blk_cell BK135.out 4).trans rfl
              have hfs90 := blk_frozen BK135.out 4
              have hns90_0 := NB132_135.out
              have hns90_1 := NB133_135.out
              have hns90_2 := NB134_135.out
              have hms90_0 := NB135_132.out
              have hms90_1 := NB135_133.out
              have hms90_2 := NB135_134.out
              have hs91 : w77.cell? ⟨gb135, 5, none⟩ = some (.int .i64 0) := (blk_cell BK135.out 5).trans rfl
              have hfs91 := blk_frozen BK135.out 5
              have hns91_0 := NB132_135.out
              have hns91_1 := NB133_135.out
              have hns91_2 := NB134_135.out
              have hms91_0 := NB135_132.out
              have hms91_1 := NB135_133.out
              have hms91_2 := NB135_134.out
              have hs92 : w77.cell? ⟨gb135, 6, none⟩ = some (.int .i64 0) := (blk_cell BK135.out 6).trans rfl
              have hfs92 := blk_frozen BK135.out 6
              have hns92_0 := NB132_135.out
              have hns92_1 := NB133_135.out
              have hns92_2 := NB134_135.out
              have hms92_0 := NB135_132.out
              have hms92_1 := NB135_133.out
              have hms92_2 := NB135_134.out
              have hs93 : w77.cell? ⟨gb135, 7, none⟩ = some (.slice none 0 0) := (blk_cell BK135.out 7).trans rfl
              have hfs93 := blk_frozen BK135.out 7
              have hns93_0 := NB132_135.out
              have hns93_1 := NB133_135.out
              have hns93_2 := NB134_135.out
              have hms93_0 := NB135_132.out
              have hms93_1 := NB135_133.out
              have hms93_2 := NB135_134.out
              refine skip_ (w1 := ?_) ?_ ?_ ?_ ?_
              rotate_left
              · rfl
              · rfl
              · go_simp
                rfl
              refine hK.out _ _ ⟨(cfar_ hHeld.1), (cfar_ hHeld.2.1), (cfar_ hHeld.2.2.1), (cfar_ hHeld.2.2.2.1), (cfar_ hHeld.2.2.2.2.1), (cfar_ hHeld.2.2.2.2.2.1), (cfar_ hHeld.2.2.2.2.2.2.1), (cfar_ hHeld.2.2.2.2.2.2.2.1), (cfar_ hHeld.2.2.2.2.2.2.2.2.1), (cfar_ hHeld.2.2.2.2.2.2.2.2.2.1), (cfar_ hHeld.2.2.2.2.2.2.2.2.2.2.1), (cfar_ hHeld.2.2.2.2.2.2.2.2.2.2.2.1), (cfar_ hHeld.2.2.2.2.2.2.2.2.2.2.2.2.1), (cfar_ hHeld.2.2.2.2.2.2.2.2.2.2.2.2.2.1), (cfar_ hHeld.2.2.2.2.2.2.2.2.2.2.2.2.2.2.1), (cfar_ hHeld.2.2.2.2.2.2.2.2.2.2.2.2.2.2.2)⟩ (fun hHeld => ?_)
              clear hK K
              refine done_ (by kernel_rfl) ?_
              have hnb94 := NB134_132.out
              have hnc94 := NB132_134.out
              have hnb95 := NB134_133.out
              have hnc95 := NB133_134.out
              have hnb96 := NB134_135.out
              have hnc96 := NB135_134.out
              have hcz97_0 : w77.cell? ⟨gb134, 0, none⟩ = some (.int .i64 0) := bc_
              have hcz97_1 : w77.cell? ⟨gb134, 1, none⟩ = some (.int .i64 0) := bc_
              have hcz97_2 : w77.cell? ⟨gb134, 2, none⟩ = some (.int .i64 0) := bc_
              have hcz97_3 : w77.cell? ⟨gb134, 3, none⟩ = some (.int .i64 0) := bc_
              have hcz97_4 : w77.cell? ⟨gb134, 4, none⟩ = some (.int .i64 0) := bc_
              have hcz97_5 : w77.cell? ⟨gb134, 5, none⟩ = some (.int .i64 0) := bc_
              have hcz97_6 : w77.cell? ⟨gb134, 6, none⟩ = some (.int .i64 0) := bc_
              have hcz97_7 : w77.cell? ⟨gb134, 7, none⟩ = some (.slice none 0 0) := bc_
              have hfz97_0 := blk_frozen BK134.out 0
              have hfz97_1 := blk_frozen BK134.out 1
              have hfz97_2 := blk_frozen BK134.out 2
              have hfz97_3 := blk_frozen BK134.out 3
              have hfz97_4 := blk_frozen BK134.out 4
              have hfz97_5 := blk_frozen BK134.out 5
              have hfz97_6 := blk_frozen BK134.out 6
              have hfz97_7 := blk_frozen BK134.out 7
              have hnb98 := NB135_132.out
              have hnc98 := NB132_135.out
              have hnb99 := NB135_133.out
              have hnc99 := NB133_135.out
              have hcz100_0 : w77.cell? ⟨gb135, 0, none⟩ = some (.int .i64 0) := bc_
              have hcz100_1 : w77.cell? ⟨gb135, 1, none⟩ = some (.int .i64 0) := bc_
              have hcz100_2 : w77.cell? ⟨gb135, 2, none⟩ = some (.int .i64 0) := bc_
              have hcz100_3 : w77.cell? ⟨gb135, 3, none⟩ = some (.int .i64 0) := bc_
              have hcz100_4 : w77.cell? ⟨gb135, 4, none⟩ = some (.int .i64 0) := bc_
              have hcz100_5 : w77.cell? ⟨gb135, 5, none⟩ = some (.int .i64 0) := bc_
              have hcz100_6 : w77.cell? ⟨gb135, 6, none⟩ = some (.int .i64 0) := bc_
              have hcz100_7 : w77.cell? ⟨gb135, 7, none⟩ = some (.slice none 0 0) := bc_
              have hfz100_0 := blk_frozen BK135.out 0
              have hfz100_1 := blk_frozen BK135.out 1
              have hfz100_2 := blk_frozen BK135.out 2
              have hfz100_3 := blk_frozen BK135.out 3
              have hfz100_4 := blk_frozen BK135.out 4
              have hfz100_5 := blk_frozen BK135.out 5
              have hfz100_6 := blk_frozen BK135.out 6
              have hfz100_7 := blk_frozen BK135.out 7
              try go_wp2
              go_ret
              exact ⟨by first | rfl | (simp [errW_none, errW_some] <;> rfl) | (simp [*, errW_none, errW_some] <;> rfl), by repeat (first | (with_reducible first | exact HB.out | apply below_alloc | apply pw_below_drewN | apply below_drew1 | refine below_set ?_ GE132.out | refine below_set ?_ GE133.out | refine below_set ?_ GE134.out | refine below_set ?_ GE135.out) | exact HB.out)⟩
          · rw [if_neg c7] at H
            have c7b0 : (a0_4 == a1_4) = false := beq_eq_false_iff_ne.mpr c7
            have c7b1 : (a0_4 != a1_4) = true := bne_iff_ne.mpr c7
            obtain rfl := Option.some.inj H
            go_enter Try.func17, Try.ntmps17
            try go_wp2_with (first | ((with_reducible refine gate_dst (N := 2) rfl ?_); refine box_event ?hg (N := 2) ?hd (cs := #[.int .i64 a0_0, .int .i64 a0_1, .int .i64 a0_2, .int .i64 a0_3, .int .i64 a0_4, .int .i64 a0_5, .int .i64 a0_6, .slice A0_7 l0_7.length c0_7]) (t := 27) ?hr ?_; (case hd => rfl); (case hg => rfl); (case hr => first | (go_simp; done) | (go_simp; rfl)); intro gb132 hg w101 hbox hb; have n0_ := Aside0.mk (below_step bel_ hb); have n1_ := Aside0.mk (hbox); have n2_ := bs_ (w := w) hg; have n3_ := bs_ (w := w) hg; clear HB; have HB := n0_; have BK132 := n1_; have GW132 := n2_; have GE132 := n3_; clear n0_ n1_ n2_ n3_; clear hb hbox hg) | ((with_reducible refine gate_dst (N := 3) rfl ?_); refine box_event ?hg (N := 3) ?hd (cs := #[.int .i64 a1_0, .int .i64 a1_1, .int .i64 a1_2, .int .i64 a1_3, .int .i64 a1_4, .int .i64 a1_5, .int .i64 a1_6, .slice A1_7 l1_7.length c1_7]) (t := 27) ?hr ?_; (case hd => rfl); (case hg => rfl); (case hr => first | (go_simp; done) | (go_simp; rfl)); intro gb133 hg w102 hbox hb; have n0_ := bb_ (g := gb132) (o := .cells #[.int .i64 a0_0, .int .i64 a0_1, .int .i64 a0_2, .int .i64 a0_3, .int .i64 a0_4, .int .i64 a0_5, .int .i64 a0_6, .slice A0_7 l0_7.length c0_7] 27 (0, 0)) hb; have n1_ := Aside0.mk (below_step bel_ hb); have n2_ := Aside0.mk (hbox); have n3_ := bs_ (w := w) hg; have n4_ := bs_ (w := w) hg; have n5_ := nlt_ (g := gb132) (o := .cells #[.int .i64 a0_0, .int .i64 a0_1, .int .i64 a0_2, .int .i64 a0_3, .int .i64 a0_4, .int .i64 a0_5, .int .i64 a0_6, .slice A0_7 l0_7.length c0_7] 27 (0, 0)) hg; have n6_ := ngt_ (g := gb132) (o := .cells #[.int .i64 a0_0, .int .i64 a0_1, .int .i64 a0_2, .int .i64 a0_3, .int .i64 a0_4, .int .i64 a0_5, .int .i64 a0_6, .slice A0_7 l0_7.length c0_7] 27 (0, 0)) hg; clear BK132; clear HB; have BK132 := n0_; have HB := n1_; have BK133 := n2_; have GW133 := n3_; have GE133 := n4_; have NB132_133 := n5_; have NB133_132 := n6_; clear n0_ n1_ n2_ n3_ n4_ n5_ n6_; clear hb hbox hg))
            have n0_ := Aside0.mk (blk_drew BK132.out)
            have n1_ := Aside0.mk (blk_drew BK133.out)
            have n2_ := Aside0.mk (below_drew1 HB.out)
            clear BK132
            clear BK133
            clear HB
            have BK132 := n0_
            have BK133 := n1_
            have HB := n2_
            clear n0_ n1_ n2_
            refine start_ (n := 6) (S := fun w' => w'.cell? ⟨gb132, 0, none⟩ = some (.int .i64 a0_0) ∧ w'.cell? ⟨gb132, 1, none⟩ = some (.int .i64 a0_1) ∧ w'.cell? ⟨gb132, 2, none⟩ = some (.int .i64 a0_2) ∧ w'.cell? ⟨gb132, 3, none⟩ = some (.int .i64 a0_3) ∧ w'.cell? ⟨gb132, 4, none⟩ = some (.int .i64 a0_4) ∧ w'.cell? ⟨gb132, 5, none⟩ = some (.int .i64 a0_5) ∧ w'.cell? ⟨gb132, 6, none⟩ = some (.int .i64 a0_6) ∧ w'.cell? ⟨gb132, 7, none⟩ = some (.slice A0_7 l0_7.length c0_7) ∧ w'.cell? ⟨gb133, 0, none⟩ = some (.int .i64 a1_0) ∧ w'.cell? ⟨gb133, 1, none⟩ = some (.int .i64 a1_1) ∧ w'.cell? ⟨gb133, 2, none⟩ = some (.int .i64 a1_2) ∧ w'.cell? ⟨gb133, 3, none⟩ = some (.int .i64 a1_3) ∧ w'.cell? ⟨gb133, 4, none⟩ = some (.int .i64 a1_4) ∧ w'.cell? ⟨gb133, 5, none⟩ = some (.int .i64 a1_5) ∧ w'.cell? ⟨gb133, 6, none⟩ = some (.int .i64 a1_6) ∧ w'.cell? ⟨gb133, 7, none⟩ = some (.slice A1_7 l1_7.length c1_7)) (ds := []) #[false, false, false, false, false, false] (by kernel_rfl) rfl rfl ⟨bc_, bc_, bc_, bc_, bc_, bc_, bc_, bc_, bc_, bc_, bc_, bc_, bc_, bc_, bc_, bc_⟩ (fun hHeld => ?_)
            generalize w102.drew = w103 at BK132 BK133 HB hHeld ⊢
            refine take_ (i := 0) (N := some 7) (v := ?_) (a' := ?_) #[true, false, false, false, false, false] rfl rfl (by kernel_rfl) (fun _ _ _ h => h) (Or.inl ⟨by rfl, ?_⟩) hHeld ?_ ?_
            rotate_left
            · rintro w' ⟨s0, s1, s2, s3, s4, s5, s6, s7, s8, s9, s10, s11, s12, s13, s14, s15⟩
              go_simp
              with_reducible rfl
            rotate_left
            · simp only [Act.put, la_, lb_, lc_, i64_w, i32_w]
              rfl
            refine take_ (i := 1) (N := some 8) (v := ?_) (a' := ?_) #[true, true, false, false, false, false] rfl rfl (by kernel_rfl) (fun _ _ _ h => h) (Or.inl ⟨by rfl, ?_⟩) hHeld ?_ ?_
            rotate_left
            · rintro w' ⟨s0, s1, s2, s3, s4, s5, s6, s7, s8, s9, s10, s11, s12, s13, s14, s15⟩
              go_simp
              with_reducible rfl
            rotate_left
            · simp only [Act.put, la_, lb_, lc_, i64_w, i32_w]
              rfl
            refine join_ (σ := Nat × Nat) 2 #[true, true, true, true, false, false] (fun s_ => [(5, .pointer (some ⟨s_.1, 0, none⟩)), (6, .pointer (some ⟨s_.2, 0, none⟩))]) (fun s_ w' => (w'.cell? ⟨gb132, 0, none⟩ = some (.int .i64 a0_0) ∧ w'.cell? ⟨gb132, 1, none⟩ = some (.int .i64 a0_1) ∧ w'.cell? ⟨gb132, 2, none⟩ = some (.int .i64 a0_2) ∧ w'.cell? ⟨gb132, 3, none⟩ = some (.int .i64 a0_3) ∧ w'.cell? ⟨gb132, 4, none⟩ = some (.int .i64 a0_4) ∧ w'.cell? ⟨gb132, 5, none⟩ = some (.int .i64 a0_5) ∧ w'.cell? ⟨gb132, 6, none⟩ = some (.int .i64 a0_6) ∧ w'.cell? ⟨gb132, 7, none⟩ = some (.slice A0_7 l0_7.length c0_7) ∧ w'.cell? ⟨gb133, 0, none⟩ = some (.int .i64 a1_0) ∧ w'.cell? ⟨gb133, 1, none⟩ = some (.int .i64 a1_1) ∧ w'.cell? ⟨gb133, 2, none⟩ = some (.int .i64 a1_2) ∧ w'.cell? ⟨gb133, 3, none⟩ = some (.int .i64 a1_3) ∧ w'.cell? ⟨gb133, 4, none⟩ = some (.int .i64 a1_4) ∧ w'.cell? ⟨gb133, 5, none⟩ = some (.int .i64 a1_5) ∧ w'.cell? ⟨gb133, 6, none⟩ = some (.int .i64 a1_6) ∧ w'.cell? ⟨gb133, 7, none⟩ = some (.slice A1_7 l1_7.length c1_7)) ∧ (w'.heap[gb132]? = some (.cells #[.int .i64 a0_0, .int .i64 a0_1, .int .i64 a0_2, .int .i64 a0_3, .int .i64 a0_4, .int .i64 a0_5, .int .i64 a0_6, .slice A0_7 l0_7.length c0_7] 27 (0, 0))) ∧ (w'.heap[gb133]? = some (.cells #[.int .i64 a1_0, .int .i64 a1_1, .int .i64 a1_2, .int .i64 a1_3, .int .i64 a1_4, .int .i64 a1_5, .int .i64 a1_6, .slice A1_7 l1_7.length c1_7] 27 (0, 0))) ∧ (w'.heap[s_.1]? = some (.cells #[.int .i64 0, .int .i64 0, .int .i64 0, .int .i64 0, .int .i64 0, .int .i64 0, .int .i64 0, .slice none 0 0] 27 (0, 0))) ∧ (w'.heap[s_.2]? = some (.cells #[.int .i64 0, .int .i64 0, .int .i64 0, .int .i64 0, .int .i64 0, .int .i64 0, .int .i64 0, .slice none 0 0] 27 (0, 0))) ∧ (w.heap.size ≤ s_.1) ∧ (w.heap.size ≤ s_.1) ∧ (gb132 ≠ s_.1) ∧ (s_.1 ≠ gb132) ∧ (gb133 ≠ s_.1) ∧ (s_.1 ≠ gb133) ∧ (s_.2 ≠ s_.1) ∧ (s_.1 ≠ s_.2) ∧ (w.heap.size ≤ s_.2) ∧ (w.heap.size ≤ s_.2) ∧ (gb132 ≠ s_.2) ∧ (s_.2 ≠ gb132) ∧ (gb133 ≠ s_.2) ∧ (s_.2 ≠ gb133) ∧ (Below w.heap.size w w')) ?_ ?_
            rotate_left
            · intro hCont
              refine two_ (i := 2) (j := 3) (Ni := some 5) (Nj := some 6) #[true, true, true, false, false, false] #[true, true, false, true, false, false] rfl rfl rfl rfl (by kernel_rfl) (by decide) (by decide) (fun K hK => ?_) (fun K hK => ?_)
              · skip
                refine box_step ?hg (N := 5) ?hd (cs := #[.int .i64 0, .int .i64 0, .int .i64 0, .int .i64 0, .int .i64 0, .int .i64 0, .int .i64 0, .slice none 0 0]) (t := 27) ?hr ?_; (case hd => rfl); (case hg => rfl); (case hr => first | (go_simp; done) | (go_simp; rfl))
                intro gb134 hg w104 hbox hb
                have n0_ := bb_ (g := gb132) (o := .cells #[.int .i64 a0_0, .int .i64 a0_1, .int .i64 a0_2, .int .i64 a0_3, .int .i64 a0_4, .int .i64 a0_5, .int .i64 a0_6, .slice A0_7 l0_7.length c0_7] 27 (0, 0)) hb
                have n1_ := bb_ (g := gb133) (o := .cells #[.int .i64 a1_0, .int .i64 a1_1, .int .i64 a1_2, .int .i64 a1_3, .int .i64 a1_4, .int .i64 a1_5, .int .i64 a1_6, .slice A1_7 l1_7.length c1_7] 27 (0, 0)) hb
                have n2_ := Aside0.mk (below_step bel_ hb)
                have n3_ := Aside0.mk (hbox)
                have n4_ := bs_ (w := w) hg
                have n5_ := bs_ (w := w) hg
                have n6_ := nlt_ (g := gb132) (o := .cells #[.int .i64 a0_0, .int .i64 a0_1, .int .i64 a0_2, .int .i64 a0_3, .int .i64 a0_4, .int .i64 a0_5, .int .i64 a0_6, .slice A0_7 l0_7.length c0_7] 27 (0, 0)) hg
                have n7_ := ngt_ (g := gb132) (o := .cells #[.int .i64 a0_0, .int .i64 a0_1, .int .i64 a0_2, .int .i64 a0_3, .int .i64 a0_4, .int .i64 a0_5, .int .i64 a0_6, .slice A0_7 l0_7.length c0_7] 27 (0, 0)) hg
                have n8_ := nlt_ (g := gb133) (o := .cells #[.int .i64 a1_0, .int .i64 a1_1, .int .i64 a1_2, .int .i64 a1_3, .int .i64 a1_4, .int .i64 a1_5, .int .i64 a1_6, .slice A1_7 l1_7.length c1_7] 27 (0, 0)) hg
                have n9_ := ngt_ (g := gb133) (o := .cells #[.int .i64 a1_0, .int .i64 a1_1, .int .i64 a1_2, .int .i64 a1_3, .int .i64 a1_4, .int .i64 a1_5, .int .i64 a1_6, .slice A1_7 l1_7.length c1_7] 27 (0, 0)) hg
                clear BK132
                clear BK133
                clear HB
                have BK132 := n0_
                have BK133 := n1_
                have HB := n2_
                have BK134 := n3_
                have GW134 := n4_
                have GE134 := n5_
                have NB132_134 := n6_
                have NB134_132 := n7_
                have NB133_134 := n8_
                have NB134_133 := n9_
                clear n0_ n1_ n2_ n3_ n4_ n5_ n6_ n7_ n8_ n9_
                clear hb hbox hg
                refine hK.out _ _ ⟨bc_, bc_, bc_, bc_, bc_, bc_, bc_, bc_, bc_, bc_, bc_, bc_, bc_, bc_, bc_, bc_⟩ (fun hHeld => ?_)
                clear hK K
                refine norm_ (a' := ?_) ?_ ?_
                rotate_left
                · show Act.put _ (some 5) _ = _
                  simp only [Act.put, la_, lb_, lc_, i64_w, i32_w]
                  rfl
                refine one_ (i := 3) (N := some 6) #[true, true, true, true, false, false] rfl rfl (by kernel_rfl) (by decide) (fun K hK => ?_)
                refine box_step ?hg (N := 6) ?hd (cs := #[.int .i64 0, .int .i64 0, .int .i64 0, .int .i64 0, .int .i64 0, .int .i64 0, .int .i64 0, .slice none 0 0]) (t := 27) ?hr ?_; (case hd => rfl); (case hg => rfl); (case hr => first | (go_simp; done) | (go_simp; rfl))
                intro gb135 hg w105 hbox hb
                have n0_ := bb_ (g := gb132) (o := .cells #[.int .i64 a0_0, .int .i64 a0_1, .int .i64 a0_2, .int .i64 a0_3, .int .i64 a0_4, .int .i64 a0_5, .int .i64 a0_6, .slice A0_7 l0_7.length c0_7] 27 (0, 0)) hb
                have n1_ := bb_ (g := gb133) (o := .cells #[.int .i64 a1_0, .int .i64 a1_1, .int .i64 a1_2, .int .i64 a1_3, .int .i64 a1_4, .int .i64 a1_5, .int .i64 a1_6, .slice A1_7 l1_7.length c1_7] 27 (0, 0)) hb
                have n2_ := bb_ (g := gb134) (o := .cells #[.int .i64 0, .int .i64 0, .int .i64 0, .int .i64 0, .int .i64 0, .int .i64 0, .int .i64 0, .slice none 0 0] 27 (0, 0)) hb
                have n3_ := Aside0.mk (below_step bel_ hb)
                have n4_ := Aside0.mk (hbox)
                have n5_ := bs_ (w := w) hg
                have n6_ := bs_ (w := w) hg
                have n7_ := nlt_ (g := gb132) (o := .cells #[.int .i64 a0_0, .int .i64 a0_1, .int .i64 a0_2, .int .i64 a0_3, .int .i64 a0_4, .int .i64 a0_5, .int .i64 a0_6, .slice A0_7 l0_7.length c0_7] 27 (0, 0)) hg
                have n8_ := ngt_ (g := gb132) (o := .cells #[.int .i64 a0_0, .int .i64 a0_1, .int .i64 a0_2, .int .i64 a0_3, .int .i64 a0_4, .int .i64 a0_5, .int .i64 a0_6, .slice A0_7 l0_7.length c0_7] 27 (0, 0)) hg
                have n9_ := nlt_ (g := gb133) (o := .cells #[.int .i64 a1_0, .int .i64 a1_1, .int .i64 a1_2, .int .i64 a1_3, .int .i64 a1_4, .int .i64 a1_5, .int .i64 a1_6, .slice A1_7 l1_7.length c1_7] 27 (0, 0)) hg
                have n10_ := ngt_ (g := gb133) (o := .cells #[.int .i64 a1_0, .int .i64 a1_1, .int .i64 a1_2, .int .i64 a1_3, .int .i64 a1_4, .int .i64 a1_5, .int .i64 a1_6, .slice A1_7 l1_7.length c1_7] 27 (0, 0)) hg
                have n11_ := nlt_ (g := gb134) (o := .cells #[.int .i64 0, .int .i64 0, .int .i64 0, .int .i64 0, .int .i64 0, .int .i64 0, .int .i64 0, .slice none 0 0] 27 (0, 0)) hg
                have n12_ := ngt_ (g := gb134) (o := .cells #[.int .i64 0, .int .i64 0, .int .i64 0, .int .i64 0, .int .i64 0, .int .i64 0, .int .i64 0, .slice none 0 0] 27 (0, 0)) hg
                clear BK132
                clear BK133
                clear BK134
                clear HB
                have BK132 := n0_
                have BK133 := n1_
                have BK134 := n2_
                have HB := n3_
                have BK135 := n4_
                have GW135 := n5_
                have GE135 := n6_
                have NB132_135 := n7_
                have NB135_132 := n8_
                have NB133_135 := n9_
                have NB135_133 := n10_
                have NB134_135 := n11_
                have NB135_134 := n12_
                clear n0_ n1_ n2_ n3_ n4_ n5_ n6_ n7_ n8_ n9_ n10_ n11_ n12_
                clear hb hbox hg
                refine hK.out _ _ ⟨bc_, bc_, bc_, bc_, bc_, bc_, bc_, bc_, bc_, bc_, bc_, bc_, bc_, bc_, bc_, bc_⟩ (fun hHeld => ?_)
                clear hK K
                refine norm_ (a' := ?_) ?_ ?_
                rotate_left
                · show Act.put _ (some 6) _ = _
                  simp only [Act.put, la_, lb_, lc_, i64_w, i32_w]
                  rfl
                exact norm_ (by simp only [putAll, Act.put, la_, lb_, lc_]) (hCont (gb134, gb135) _ ⟨hHeld, bk_, bk_, bk_, bk_, GW134.out, GE134.out, NB132_134.out, NB134_132.out, NB133_134.out, NB134_133.out, NB135_134.out, NB134_135.out, GW135.out, GE135.out, NB132_135.out, NB135_132.out, NB133_135.out, NB135_133.out, bel_⟩)
              · skip
                refine box_step ?hg (N := 6) ?hd (cs := #[.int .i64 0, .int .i64 0, .int .i64 0, .int .i64 0, .int .i64 0, .int .i64 0, .int .i64 0, .slice none 0 0]) (t := 27) ?hr ?_; (case hd => rfl); (case hg => rfl); (case hr => first | (go_simp; done) | (go_simp; rfl))
                intro gb135 hg w104 hbox hb
                have n0_ := bb_ (g := gb132) (o := .cells #[.int .i64 a0_0, .int .i64 a0_1, .int .i64 a0_2, .int .i64 a0_3, .int .i64 a0_4, .int .i64 a0_5, .int .i64 a0_6, .slice A0_7 l0_7.length c0_7] 27 (0, 0)) hb
                have n1_ := bb_ (g := gb133) (o := .cells #[.int .i64 a1_0, .int .i64 a1_1, .int .i64 a1_2, .int .i64 a1_3, .int .i64 a1_4, .int .i64 a1_5, .int .i64 a1_6, .slice A1_7 l1_7.length c1_7] 27 (0, 0)) hb
                have n2_ := Aside0.mk (below_step bel_ hb)
                have n3_ := Aside0.mk (hbox)
                have n4_ := bs_ (w := w) hg
                have n5_ := bs_ (w := w) hg
                have n6_ := nlt_ (g := gb132) (o := .cells #[.int .i64 a0_0, .int .i64 a0_1, .int .i64 a0_2, .int .i64 a0_3, .int .i64 a0_4, .int .i64 a0_5, .int .i64 a0_6, .slice A0_7 l0_7.length c0_7] 27 (0, 0)) hg
                have n7_ := ngt_ (g := gb132) (o := .cells #[.int .i64 a0_0, .int .i64 a0_1, .int .i64 a0_2, .int .i64 a0_3, .int .i64 a0_4, .int .i64 a0_5, .int .i64 a0_6, .slice A0_7 l0_7.length c0_7] 27 (0, 0)) hg
                have n8_ := nlt_ (g := gb133) (o := .cells #[.int .i64 a1_0, .int .i64 a1_1, .int .i64 a1_2, .int .i64 a1_3, .int .i64 a1_4, .int .i64 a1_5, .int .i64 a1_6, .slice A1_7 l1_7.length c1_7] 27 (0, 0)) hg
                have n9_ := ngt_ (g := gb133) (o := .cells #[.int .i64 a1_0, .int .i64 a1_1, .int .i64 a1_2, .int .i64 a1_3, .int .i64 a1_4, .int .i64 a1_5, .int .i64 a1_6, .slice A1_7 l1_7.length c1_7] 27 (0, 0)) hg
                clear BK132
                clear BK133
                clear HB
                have BK132 := n0_
                have BK133 := n1_
                have HB := n2_
                have BK135 := n3_
                have GW135 := n4_
                have GE135 := n5_
                have NB132_135 := n6_
                have NB135_132 := n7_
                have NB133_135 := n8_
                have NB135_133 := n9_
                clear n0_ n1_ n2_ n3_ n4_ n5_ n6_ n7_ n8_ n9_
                clear hb hbox hg
                refine hK.out _ _ ⟨bc_, bc_, bc_, bc_, bc_, bc_, bc_, bc_, bc_, bc_, bc_, bc_, bc_, bc_, bc_, bc_⟩ (fun hHeld => ?_)
                clear hK K
                refine norm_ (a' := ?_) ?_ ?_
                rotate_left
                · show Act.put _ (some 6) _ = _
                  simp only [Act.put, la_, lb_, lc_, i64_w, i32_w]
                  rfl
                refine one_ (i := 2) (N := some 5) #[true, true, true, true, false, false] rfl rfl (by kernel_rfl) (by decide) (fun K hK => ?_)
                refine box_step ?hg (N := 5) ?hd (cs := #[.int .i64 0, .int .i64 0, .int .i64 0, .int .i64 0, .int .i64 0, .int .i64 0, .int .i64 0, .slice none 0 0]) (t := 27) ?hr ?_; (case hd => rfl); (case hg => rfl); (case hr => first | (go_simp; done) | (go_simp; rfl))
                intro gb134 hg w105 hbox hb
                have n0_ := bb_ (g := gb132) (o := .cells #[.int .i64 a0_0, .int .i64 a0_1, .int .i64 a0_2, .int .i64 a0_3, .int .i64 a0_4, .int .i64 a0_5, .int .i64 a0_6, .slice A0_7 l0_7.length c0_7] 27 (0, 0)) hb
                have n1_ := bb_ (g := gb133) (o := .cells #[.int .i64 a1_0, .int .i64 a1_1, .int .i64 a1_2, .int .i64 a1_3, .int .i64 a1_4, .int .i64 a1_5, .int .i64 a1_6, .slice A1_7 l1_7.length c1_7] 27 (0, 0)) hb
                have n2_ := bb_ (g := gb135) (o := .cells #[.int .i64 0, .int .i64 0, .int .i64 0, .int .i64 0, .int .i64 0, .int .i64 0, .int .i64 0, .slice none 0 0] 27 (0, 0)) hb
                have n3_ := Aside0.mk (below_step bel_ hb)
                have n4_ := Aside0.mk (hbox)
                have n5_ := bs_ (w := w) hg
                have n6_ := bs_ (w := w) hg
                have n7_ := nlt_ (g := gb132) (o := .cells #[.int .i64 a0_0, .int .i64 a0_1, .int .i64 a0_2, .int .i64 a0_3, .int .i64 a0_4, .int .i64 a0_5, .int .i64 a0_6, .slice A0_7 l0_7.length c0_7] 27 (0, 0)) hg
                have n8_ := ngt_ (g := gb132) (o := .cells #[.int .i64 a0_0, .int .i64 a0_1, .int .i64 a0_2, .int .i64 a0_3, .int .i64 a0_4, .int .i64 a0_5, .int .i64 a0_6, .slice A0_7 l0_7.length c0_7] 27 (0, 0)) hg
                have n9_ := nlt_ (g := gb133) (o := .cells #[.int .i64 a1_0, .int .i64 a1_1, .int .i64 a1_2, .int .i64 a1_3, .int .i64 a1_4, .int .i64 a1_5, .int .i64 a1_6, .slice A1_7 l1_7.length c1_7] 27 (0, 0)) hg
                have n10_ := ngt_ (g := gb133) (o := .cells #[.int .i64 a1_0, .int .i64 a1_1, .int .i64 a1_2, .int .i64 a1_3, .int .i64 a1_4, .int .i64 a1_5, .int .i64 a1_6, .slice A1_7 l1_7.length c1_7] 27 (0, 0)) hg
                have n11_ := nlt_ (g := gb135) (o := .cells #[.int .i64 0, .int .i64 0, .int .i64 0, .int .i64 0, .int .i64 0, .int .i64 0, .int .i64 0, .slice none 0 0] 27 (0, 0)) hg
                have n12_ := ngt_ (g := gb135) (o := .cells #[.int .i64 0, .int .i64 0, .int .i64 0, .int .i64 0, .int .i64 0, .int .i64 0, .int .i64 0, .slice none 0 0] 27 (0, 0)) hg
                clear BK132
                clear BK133
                clear BK135
                clear HB
                have BK132 := n0_
                have BK133 := n1_
                have BK135 := n2_
                have HB := n3_
                have BK134 := n4_
                have GW134 := n5_
                have GE134 := n6_
                have NB132_134 := n7_
                have NB134_132 := n8_
                have NB133_134 := n9_
                have NB134_133 := n10_
                have NB135_134 := n11_
                have NB134_135 := n12_
                clear n0_ n1_ n2_ n3_ n4_ n5_ n6_ n7_ n8_ n9_ n10_ n11_ n12_
                clear hb hbox hg
                refine hK.out _ _ ⟨bc_, bc_, bc_, bc_, bc_, bc_, bc_, bc_, bc_, bc_, bc_, bc_, bc_, bc_, bc_, bc_⟩ (fun hHeld => ?_)
                clear hK K
                refine norm_ (a' := ?_) ?_ ?_
                rotate_left
                · show Act.put _ (some 5) _ = _
                  simp only [Act.put, la_, lb_, lc_, i64_w, i32_w]
                  rfl
                exact norm_ (by simp only [putAll, Act.put, la_, lb_, lc_]) (hCont (gb134, gb135) _ ⟨hHeld, bk_, bk_, bk_, bk_, GW134.out, GE134.out, NB132_134.out, NB134_132.out, NB133_134.out, NB134_133.out, NB135_134.out, NB134_135.out, GW135.out, GE135.out, NB132_135.out, NB135_132.out, NB133_135.out, NB135_133.out, bel_⟩)
            rintro ⟨gb134, gb135⟩ w106 ⟨hS_, h0_, h1_, h2_, h3_, h4_, h5_, h6_, h7_, h8_, h9_, h10_, h11_, h12_, h13_, h14_, h15_, h16_, h17_, h18_⟩
            have n0_ : Aside0 (w106.heap[gb132]? = some (.cells #[.int .i64 a0_0, .int .i64 a0_1, .int .i64 a0_2, .int .i64 a0_3, .int .i64 a0_4, .int .i64 a0_5, .int .i64 a0_6, .slice A0_7 l0_7.length c0_7] 27 (0, 0))) := ⟨h0_⟩
            have n1_ : Aside0 (w106.heap[gb133]? = some (.cells #[.int .i64 a1_0, .int .i64 a1_1, .int .i64 a1_2, .int .i64 a1_3, .int .i64 a1_4, .int .i64 a1_5, .int .i64 a1_6, .slice A1_7 l1_7.length c1_7] 27 (0, 0))) := ⟨h1_⟩
            have n2_ : Aside0 (w106.heap[gb134]? = some (.cells #[.int .i64 0, .int .i64 0, .int .i64 0, .int .i64 0, .int .i64 0, .int .i64 0, .int .i64 0, .slice none 0 0] 27 (0, 0))) := ⟨h2_⟩
            have n3_ : Aside0 (w106.heap[gb135]? = some (.cells #[.int .i64 0, .int .i64 0, .int .i64 0, .int .i64 0, .int .i64 0, .int .i64 0, .int .i64 0, .slice none 0 0] 27 (0, 0))) := ⟨h3_⟩
            have n4_ : Aside0 (w.heap.size ≤ gb134) := ⟨h4_⟩
            have n5_ : Aside0 (w.heap.size ≤ gb134) := ⟨h5_⟩
            have n6_ : Aside0 (gb132 ≠ gb134) := ⟨h6_⟩
            have n7_ : Aside0 (gb134 ≠ gb132) := ⟨h7_⟩
            have n8_ : Aside0 (gb133 ≠ gb134) := ⟨h8_⟩
            have n9_ : Aside0 (gb134 ≠ gb133) := ⟨h9_⟩
            have n10_ : Aside0 (gb135 ≠ gb134) := ⟨h10_⟩
            have n11_ : Aside0 (gb134 ≠ gb135) := ⟨h11_⟩
            have n12_ : Aside0 (w.heap.size ≤ gb135) := ⟨h12_⟩
            have n13_ : Aside0 (w.heap.size ≤ gb135) := ⟨h13_⟩
            have n14_ : Aside0 (gb132 ≠ gb135) := ⟨h14_⟩
            have n15_ : Aside0 (gb135 ≠ gb132) := ⟨h15_⟩
            have n16_ : Aside0 (gb133 ≠ gb135) := ⟨h16_⟩
            have n17_ : Aside0 (gb135 ≠ gb133) := ⟨h17_⟩
            have n18_ : Aside0 (Below w.heap.size w w106) := ⟨h18_⟩
            clear BK132
            clear BK133
            clear HB
            clear h0_ h1_ h2_ h3_ h4_ h5_ h6_ h7_ h8_ h9_ h10_ h11_ h12_ h13_ h14_ h15_ h16_ h17_ h18_
            have BK132 := n0_
            have BK133 := n1_
            have BK134 := n2_
            have BK135 := n3_
            have GW134 := n4_
            have GE134 := n5_
            have NB132_134 := n6_
            have NB134_132 := n7_
            have NB133_134 := n8_
            have NB134_133 := n9_
            have NB135_134 := n10_
            have NB134_135 := n11_
            have GW135 := n12_
            have GE135 := n13_
            have NB132_135 := n14_
            have NB135_132 := n15_
            have NB133_135 := n16_
            have NB135_133 := n17_
            have HB := n18_
            clear n0_ n1_ n2_ n3_ n4_ n5_ n6_ n7_ n8_ n9_ n10_ n11_ n12_ n13_ n14_ n15_ n16_ n17_ n18_
            have hHeld : w106.cell? ⟨gb132, 0, none⟩ = some (.int .i64 a0_0) ∧ w106.cell? ⟨gb132, 1, none⟩ = some (.int .i64 a0_1) ∧ w106.cell? ⟨gb132, 2, none⟩ = some (.int .i64 a0_2) ∧ w106.cell? ⟨gb132, 3, none⟩ = some (.int .i64 a0_3) ∧ w106.cell? ⟨gb132, 4, none⟩ = some (.int .i64 a0_4) ∧ w106.cell? ⟨gb132, 5, none⟩ = some (.int .i64 a0_5) ∧ w106.cell? ⟨gb132, 6, none⟩ = some (.int .i64 a0_6) ∧ w106.cell? ⟨gb132, 7, none⟩ = some (.slice A0_7 l0_7.length c0_7) ∧ w106.cell? ⟨gb133, 0, none⟩ = some (.int .i64 a1_0) ∧ w106.cell? ⟨gb133, 1, none⟩ = some (.int .i64 a1_1) ∧ w106.cell? ⟨gb133, 2, none⟩ = some (.int .i64 a1_2) ∧ w106.cell? ⟨gb133, 3, none⟩ = some (.int .i64 a1_3) ∧ w106.cell? ⟨gb133, 4, none⟩ = some (.int .i64 a1_4) ∧ w106.cell? ⟨gb133, 5, none⟩ = some (.int .i64 a1_5) ∧ w106.cell? ⟨gb133, 6, none⟩ = some (.int .i64 a1_6) ∧ w106.cell? ⟨gb133, 7, none⟩ = some (.slice A1_7 l1_7.length c1_7) := hS_
            refine norm_ (a' := ?_) ?_ ?_
            rotate_left
            · simp only [putAll, Act.put, la_, lb_, lc_]
              rfl
            refine one_ (i := 4) (N := none) #[true, true, true, true, true, false] rfl rfl (by kernel_rfl) (by decide) (fun K hK => ?_)
            have hs107 : w106.cell? ⟨gb134, 0, none⟩ = some (.int .i64 0) := (blk_cell BK134.out 0).trans rfl
            have hfs107 := blk_frozen BK134.out 0
            have hns107_0 := NB132_134.out
            have hns107_1 := NB133_134.out
            have hns107_3 := NB135_134.out
            have hms107_0 := NB134_132.out
            have hms107_1 := NB134_133.out
            have hms107_3 := NB134_135.out
            have hs108 : w106.cell? ⟨gb134, 1, none⟩ = some (.int .i64 0) := (blk_cell BK134.out 1).trans rfl
            have hfs108 := blk_frozen BK134.out 1
            have hns108_0 := NB132_134.out
            have hns108_1 := NB133_134.out
            have hns108_3 := NB135_134.out
            have hms108_0 := NB134_132.out
            have hms108_1 := NB134_133.out
            have hms108_3 := NB134_135.out
            have hs109 : w106.cell? ⟨gb134, 2, none⟩ = some (.int .i64 0) := (blk_cell BK134.out 2).trans rfl
            have hfs109 := blk_frozen BK134.out 2
            have hns109_0 := NB132_134.out
            have hns109_1 := NB133_134.out
            have hns109_3 := NB135_134.out
            have hms109_0 := NB134_132.out
            have hms109_1 := NB134_133.out
            have hms109_3 := NB134_135.out
            have hs110 : w106.cell? ⟨gb134, 3, none⟩ = some (.int .i64 0) := (blk_cell BK134.out 3).trans rfl
            have hfs110 := blk_frozen BK134.out 3
            have hns110_0 := NB132_134.out
            have hns110_1 := NB133_134.out
            have hns110_3 := NB135_134.out
            have hms110_0 := NB134_132.out
            have hms110_1 := NB134_133.out
            have hms110_3 := NB134_135.out
            have hs111 : w106.cell? ⟨gb134, 4, none⟩ = some (.int .i64 0) := (blk_cell BK134.out 4).trans rfl
            have hfs111 := blk_frozen BK134.out 4
            have hns111_0 := NB132_134.out
            have hns111_1 := NB133_134.out
            have hns111_3 := NB135_134.out
            have hms111_0 := NB134_132.out
            have hms111_1 := NB134_133.out
            have hms111_3 := NB134_135.out
            have hs112 : w106.cell? ⟨gb134, 5, none⟩ = some (.int .i64 0) := (blk_cell BK134.out 5).trans rfl
            have hfs112 := blk_frozen BK134.out 5
            have hns112_0 := NB132_134.out
            have hns112_1 := NB133_134.out
            have hns112_3 := NB135_134.out
            have hms112_0 := NB134_132.out
            have hms112_1 := NB134_133.out
            have hms112_3 := NB134_135.out
            have hs113 : w106.cell? ⟨gb134, 6, none⟩ = some (.int .i64 0) := (blk_cell BK134.out 6).trans rfl
            have hfs113 := blk_frozen BK134.out 6
            have hns113_0 := NB132_134.out
            have hns113_1 := NB133_134.out
            have hns113_3 := NB135_134.out
            have hms113_0 := NB134_132.out
            have hms113_1 := NB134_133.out
            have hms113_3 := NB134_135.out
            have hs114 : w106.cell? ⟨gb134, 7, none⟩ = some (.slice none 0 0) := (blk_cell BK134.out 7).trans rfl
            have hfs114 := blk_frozen BK134.out 7
            have hns114_0 := NB132_134.out
            have hns114_1 := NB133_134.out
            have hns114_3 := NB135_134.out
            have hms114_0 := NB134_132.out
            have hms114_1 := NB134_133.out
            have hms114_3 := NB134_135.out
            refine skip_ (w1 := ?_) ?_ ?_ ?_ ?_
            rotate_left
            · rfl
            · rfl
            · go_simp
              rfl
            refine hK.out _ _ ⟨(cfar_ hHeld.1), (cfar_ hHeld.2.1), (cfar_ hHeld.2.2.1), (cfar_ hHeld.2.2.2.1), (cfar_ hHeld.2.2.2.2.1), (cfar_ hHeld.2.2.2.2.2.1), (cfar_ hHeld.2.2.2.2.2.2.1), (cfar_ hHeld.2.2.2.2.2.2.2.1), (cfar_ hHeld.2.2.2.2.2.2.2.2.1), (cfar_ hHeld.2.2.2.2.2.2.2.2.2.1), (cfar_ hHeld.2.2.2.2.2.2.2.2.2.2.1), (cfar_ hHeld.2.2.2.2.2.2.2.2.2.2.2.1), (cfar_ hHeld.2.2.2.2.2.2.2.2.2.2.2.2.1), (cfar_ hHeld.2.2.2.2.2.2.2.2.2.2.2.2.2.1), (cfar_ hHeld.2.2.2.2.2.2.2.2.2.2.2.2.2.2.1), (cfar_ hHeld.2.2.2.2.2.2.2.2.2.2.2.2.2.2.2)⟩ (fun hHeld => ?_)
            clear hK K
            refine one_ (i := 5) (N := none) #[true, true, true, true, true, true] rfl rfl (by kernel_rfl) (by decide) (fun K hK => ?_)
            have hs115 : w106.cell? ⟨gb135, 0, none⟩ = some (.int .i64 0) := (blk_cell BK135.out 0).trans rfl
            have hfs115 := blk_frozen BK135.out 0
            have hns115_0 := NB132_135.out
            have hns115_1 := NB133_135.out
            have hns115_2 := NB134_135.out
            have hms115_0 := NB135_132.out
            have hms115_1 := NB135_133.out
            have hms115_2 := NB135_134.out
            have hs116 : w106.cell? ⟨gb135, 1, none⟩ = some (.int .i64 0) := (blk_cell BK135.out 1).trans rfl
            have hfs116 := blk_frozen BK135.out 1
            have hns116_0 := NB132_135.out
            have hns116_1 := NB133_135.out
            have hns116_2 := NB134_135.out
            have hms116_0 := NB135_132.out
            have hms116_1 := NB135_133.out
            have hms116_2 := NB135_134.out
            have hs117 : w106.cell? ⟨gb135, 2, none⟩ = some (.int .i64 0) := (blk_cell BK135.out 2).trans rfl
            have hfs117 := blk_frozen BK135.out 2
            have hns117_0 := NB132_135.out
            have hns117_1 := NB133_135.out
            have hns117_2 := NB134_135.out
            have hms117_0 := NB135_132.out
            have hms117_1 := NB135_133.out
            have hms117_2 := NB135_134.out
            have hs118 : w106.cell? ⟨gb135, 3, none⟩ = some (.int .i64 0) := (blk_cell BK135.out 3).trans rfl
            have hfs118 := blk_frozen BK135.out 3
            have hns118_0 := NB132_135.out
            have hns118_1 := NB133_135.out
            have hns118_2 := NB134_135.out
            have hms118_0 := NB135_132.out
            have hms118_1 := NB135_133.out
            have hms118_2 := NB135_134.out
            have hs119 : w106.cell? ⟨gb135, 4, none⟩ = some (.int .i64 0) := (blk_cell BK135.out 4).trans rfl
            have hfs119 := blk_frozen BK135.out 4
            have hns119_0 := NB132_135.out
            have hns119_1 := NB133_135.out
            have hns119_2 := NB134_135.out
            have hms119_0 := NB135_132.out
            have hms119_1 := NB135_133.out
            have hms119_2 := NB135_134.out
            have hs120 : w106.cell? ⟨gb135, 5, none⟩ = some (.int .i64 0) := (blk_cell BK135.out 5).trans rfl
            have hfs120 := blk_frozen BK135.out 5
            have hns120_0 := NB132_135.out
            have hns120_1 := NB133_135.out
            have hns120_2 := NB134_135.out
            have hms120_0 := NB135_132.out
            have hms120_1 := NB135_133.out
            have hms120_2 := NB135_134.out
            have hs121 : w106.cell? ⟨gb135, 6, none⟩ = some (.int .i64 0) := (blk_cell BK135.out 6).trans rfl
            have hfs121 := blk_frozen BK135.out 6
            have hns121_0 := NB132_135.out
            have hns121_1 := NB133_135.out
            have hns121_2 := NB134_135.out
            have hms121_0 := NB135_132.out
            have hms121_1 := NB135_133.out
            have hms121_2 := NB135_134.out
            have hs122 : w106.cell? ⟨gb135, 7, none⟩ = some (.slice none 0 0) := (blk_cell BK135.out 7).trans rfl
            have hfs122 := blk_frozen BK135.out 7
            have hns122_0 := NB132_135.out
            have hns122_1 := NB133_135.out
            have hns122_2 := NB134_135.out
            have hms122_0 := NB135_132.out
            have hms122_1 := NB135_133.out
            have hms122_2 := NB135_134.out
            refine skip_ (w1 := ?_) ?_ ?_ ?_ ?_
            rotate_left
            · rfl
            · rfl
            · go_simp
              rfl
            refine hK.out _ _ ⟨(cfar_ hHeld.1), (cfar_ hHeld.2.1), (cfar_ hHeld.2.2.1), (cfar_ hHeld.2.2.2.1), (cfar_ hHeld.2.2.2.2.1), (cfar_ hHeld.2.2.2.2.2.1), (cfar_ hHeld.2.2.2.2.2.2.1), (cfar_ hHeld.2.2.2.2.2.2.2.1), (cfar_ hHeld.2.2.2.2.2.2.2.2.1), (cfar_ hHeld.2.2.2.2.2.2.2.2.2.1), (cfar_ hHeld.2.2.2.2.2.2.2.2.2.2.1), (cfar_ hHeld.2.2.2.2.2.2.2.2.2.2.2.1), (cfar_ hHeld.2.2.2.2.2.2.2.2.2.2.2.2.1), (cfar_ hHeld.2.2.2.2.2.2.2.2.2.2.2.2.2.1), (cfar_ hHeld.2.2.2.2.2.2.2.2.2.2.2.2.2.2.1), (cfar_ hHeld.2.2.2.2.2.2.2.2.2.2.2.2.2.2.2)⟩ (fun hHeld => ?_)
            clear hK K
            refine done_ (by kernel_rfl) ?_
            have hnb123 := NB134_132.out
            have hnc123 := NB132_134.out
            have hnb124 := NB134_133.out
            have hnc124 := NB133_134.out
            have hnb125 := NB134_135.out
            have hnc125 := NB135_134.out
            have hcz126_0 : w106.cell? ⟨gb134, 0, none⟩ = some (.int .i64 0) := bc_
            have hcz126_1 : w106.cell? ⟨gb134, 1, none⟩ = some (.int .i64 0) := bc_
            have hcz126_2 : w106.cell? ⟨gb134, 2, none⟩ = some (.int .i64 0) := bc_
            have hcz126_3 : w106.cell? ⟨gb134, 3, none⟩ = some (.int .i64 0) := bc_
            have hcz126_4 : w106.cell? ⟨gb134, 4, none⟩ = some (.int .i64 0) := bc_
            have hcz126_5 : w106.cell? ⟨gb134, 5, none⟩ = some (.int .i64 0) := bc_
            have hcz126_6 : w106.cell? ⟨gb134, 6, none⟩ = some (.int .i64 0) := bc_
            have hcz126_7 : w106.cell? ⟨gb134, 7, none⟩ = some (.slice none 0 0) := bc_
            have hfz126_0 := blk_frozen BK134.out 0
            have hfz126_1 := blk_frozen BK134.out 1
            have hfz126_2 := blk_frozen BK134.out 2
            have hfz126_3 := blk_frozen BK134.out 3
            have hfz126_4 := blk_frozen BK134.out 4
            have hfz126_5 := blk_frozen BK134.out 5
            have hfz126_6 := blk_frozen BK134.out 6
            have hfz126_7 := blk_frozen BK134.out 7
            have hnb127 := NB135_132.out
            have hnc127 := NB132_135.out
            have hnb128 := NB135_133.out
            have hnc128 := NB133_135.out
            have hcz129_0 : w106.cell? ⟨gb135, 0, none⟩ = some (.int .i64 0) := bc_
            have hcz129_1 : w106.cell? ⟨gb135, 1, none⟩ = some (.int .i64 0) := bc_
            have hcz129_2 : w106.cell? ⟨gb135, 2, none⟩ = some (.int .i64 0) := bc_
            have hcz129_3 : w106.cell? ⟨gb135, 3, none⟩ = some (.int .i64 0) := bc_
            have hcz129_4 : w106.cell? ⟨gb135, 4, none⟩ = some (.int .i64 0) := bc_
            have hcz129_5 : w106.cell? ⟨gb135, 5, none⟩ = some (.int .i64 0) := bc_
            have hcz129_6 : w106.cell? ⟨gb135, 6, none⟩ = some (.int .i64 0) := bc_
            have hcz129_7 : w106.cell? ⟨gb135, 7, none⟩ = some (.slice none 0 0) := bc_
            have hfz129_0 := blk_frozen BK135.out 0
            have hfz129_1 := blk_frozen BK135.out 1
            have hfz129_2 := blk_frozen BK135.out 2
            have hfz129_3 := blk_frozen BK135.out 3
            have hfz129_4 := blk_frozen BK135.out 4
            have hfz129_5 := blk_frozen BK135.out 5
            have hfz129_6 := blk_frozen BK135.out 6
            have hfz129_7 := blk_frozen BK135.out 7
            try go_wp2
            go_ret
            exact ⟨by first | rfl | (simp [errW_none, errW_some] <;> rfl) | (simp [*, errW_none, errW_some] <;> rfl), by repeat (first | (with_reducible first | exact HB.out | apply below_alloc | apply pw_below_drewN | apply below_drew1 | refine below_set ?_ GE132.out | refine below_set ?_ GE133.out | refine below_set ?_ GE134.out | refine below_set ?_ GE135.out) | exact HB.out)⟩
        · rw [if_neg c6] at H
          have c6b0 : (a0_3 == a1_3) = false := beq_eq_false_iff_ne.mpr c6
          have c6b1 : (a0_3 != a1_3) = true := bne_iff_ne.mpr c6
          obtain rfl := Option.some.inj H
          go_enter Try.func17, Try.ntmps17
          try go_wp2_with (first | ((with_reducible refine gate_dst (N := 2) rfl ?_); refine box_event ?hg (N := 2) ?hd (cs := #[.int .i64 a0_0, .int .i64 a0_1, .int .i64 a0_2, .int .i64 a0_3, .int .i64 a0_4, .int .i64 a0_5, .int .i64 a0_6, .slice A0_7 l0_7.length c0_7]) (t := 27) ?hr ?_; (case hd => rfl); (case hg => rfl); (case hr => first | (go_simp; done) | (go_simp; rfl)); intro gb132 hg w130 hbox hb; have n0_ := Aside0.mk (below_step bel_ hb); have n1_ := Aside0.mk (hbox); have n2_ := bs_ (w := w) hg; have n3_ := bs_ (w := w) hg; clear HB; have HB := n0_; have BK132 := n1_; have GW132 := n2_; have GE132 := n3_; clear n0_ n1_ n2_ n3_; clear hb hbox hg) | ((with_reducible refine gate_dst (N := 3) rfl ?_); refine box_event ?hg (N := 3) ?hd (cs := #[.int .i64 a1_0, .int .i64 a1_1, .int .i64 a1_2, .int .i64 a1_3, .int .i64 a1_4, .int .i64 a1_5, .int .i64 a1_6, .slice A1_7 l1_7.length c1_7]) (t := 27) ?hr ?_; (case hd => rfl); (case hg => rfl); (case hr => first | (go_simp; done) | (go_simp; rfl)); intro gb133 hg w131 hbox hb; have n0_ := bb_ (g := gb132) (o := .cells #[.int .i64 a0_0, .int .i64 a0_1, .int .i64 a0_2, .int .i64 a0_3, .int .i64 a0_4, .int .i64 a0_5, .int .i64 a0_6, .slice A0_7 l0_7.length c0_7] 27 (0, 0)) hb; have n1_ := Aside0.mk (below_step bel_ hb); have n2_ := Aside0.mk (hbox); have n3_ := bs_ (w := w) hg; have n4_ := bs_ (w := w) hg; have n5_ := nlt_ (g := gb132) (o := .cells #[.int .i64 a0_0, .int .i64 a0_1, .int .i64 a0_2, .int .i64 a0_3, .int .i64 a0_4, .int .i64 a0_5, .int .i64 a0_6, .slice A0_7 l0_7.length c0_7] 27 (0, 0)) hg; have n6_ := ngt_ (g := gb132) (o := .cells #[.int .i64 a0_0, .int .i64 a0_1, .int .i64 a0_2, .int .i64 a0_3, .int .i64 a0_4, .int .i64 a0_5, .int .i64 a0_6, .slice A0_7 l0_7.length c0_7] 27 (0, 0)) hg; clear BK132; clear HB; have BK132 := n0_; have HB := n1_; have BK133 := n2_; have GW133 := n3_; have GE133 := n4_; have NB132_133 := n5_; have NB133_132 := n6_; clear n0_ n1_ n2_ n3_ n4_ n5_ n6_; clear hb hbox hg))
          have n0_ := Aside0.mk (blk_drew BK132.out)
          have n1_ := Aside0.mk (blk_drew BK133.out)
          have n2_ := Aside0.mk (below_drew1 HB.out)
          clear BK132
          clear BK133
          clear HB
          have BK132 := n0_
          have BK133 := n1_
          have HB := n2_
          clear n0_ n1_ n2_
          refine start_ (n := 6) (S := fun w' => w'.cell? ⟨gb132, 0, none⟩ = some (.int .i64 a0_0) ∧ w'.cell? ⟨gb132, 1, none⟩ = some (.int .i64 a0_1) ∧ w'.cell? ⟨gb132, 2, none⟩ = some (.int .i64 a0_2) ∧ w'.cell? ⟨gb132, 3, none⟩ = some (.int .i64 a0_3) ∧ w'.cell? ⟨gb132, 4, none⟩ = some (.int .i64 a0_4) ∧ w'.cell? ⟨gb132, 5, none⟩ = some (.int .i64 a0_5) ∧ w'.cell? ⟨gb132, 6, none⟩ = some (.int .i64 a0_6) ∧ w'.cell? ⟨gb132, 7, none⟩ = some (.slice A0_7 l0_7.length c0_7) ∧ w'.cell? ⟨gb133, 0, none⟩ = some (.int .i64 a1_0) ∧ w'.cell? ⟨gb133, 1, none⟩ = some (.int .i64 a1_1) ∧ w'.cell? ⟨gb133, 2, none⟩ = some (.int .i64 a1_2) ∧ w'.cell? ⟨gb133, 3, none⟩ = some (.int .i64 a1_3) ∧ w'.cell? ⟨gb133, 4, none⟩ = some (.int .i64 a1_4) ∧ w'.cell? ⟨gb133, 5, none⟩ = some (.int .i64 a1_5) ∧ w'.cell? ⟨gb133, 6, none⟩ = some (.int .i64 a1_6) ∧ w'.cell? ⟨gb133, 7, none⟩ = some (.slice A1_7 l1_7.length c1_7)) (ds := []) #[false, false, false, false, false, false] (by kernel_rfl) rfl rfl ⟨bc_, bc_, bc_, bc_, bc_, bc_, bc_, bc_, bc_, bc_, bc_, bc_, bc_, bc_, bc_, bc_⟩ (fun hHeld => ?_)
          generalize w131.drew = w132 at BK132 BK133 HB hHeld ⊢
          refine take_ (i := 0) (N := some 7) (v := ?_) (a' := ?_) #[true, false, false, false, false, false] rfl rfl (by kernel_rfl) (fun _ _ _ h => h) (Or.inl ⟨by rfl, ?_⟩) hHeld ?_ ?_
          rotate_left
          · rintro w' ⟨s0, s1, s2, s3, s4, s5, s6, s7, s8, s9, s10, s11, s12, s13, s14, s15⟩
            go_simp
            with_reducible rfl
          rotate_left
          · simp only [Act.put, la_, lb_, lc_, i64_w, i32_w]
            rfl
          refine take_ (i := 1) (N := some 8) (v := ?_) (a' := ?_) #[true, true, false, false, false, false] rfl rfl (by kernel_rfl) (fun _ _ _ h => h) (Or.inl ⟨by rfl, ?_⟩) hHeld ?_ ?_
          rotate_left
          · rintro w' ⟨s0, s1, s2, s3, s4, s5, s6, s7, s8, s9, s10, s11, s12, s13, s14, s15⟩
            go_simp
            with_reducible rfl
          rotate_left
          · simp only [Act.put, la_, lb_, lc_, i64_w, i32_w]
            rfl
          refine join_ (σ := Nat × Nat) 2 #[true, true, true, true, false, false] (fun s_ => [(5, .pointer (some ⟨s_.1, 0, none⟩)), (6, .pointer (some ⟨s_.2, 0, none⟩))]) (fun s_ w' => (w'.cell? ⟨gb132, 0, none⟩ = some (.int .i64 a0_0) ∧ w'.cell? ⟨gb132, 1, none⟩ = some (.int .i64 a0_1) ∧ w'.cell? ⟨gb132, 2, none⟩ = some (.int .i64 a0_2) ∧ w'.cell? ⟨gb132, 3, none⟩ = some (.int .i64 a0_3) ∧ w'.cell? ⟨gb132, 4, none⟩ = some (.int .i64 a0_4) ∧ w'.cell? ⟨gb132, 5, none⟩ = some (.int .i64 a0_5) ∧ w'.cell? ⟨gb132, 6, none⟩ = some (.int .i64 a0_6) ∧ w'.cell? ⟨gb132, 7, none⟩ = some (.slice A0_7 l0_7.length c0_7) ∧ w'.cell? ⟨gb133, 0, none⟩ = some (.int .i64 a1_0) ∧ w'.cell? ⟨gb133, 1, none⟩ = some (.int .i64 a1_1) ∧ w'.cell? ⟨gb133, 2, none⟩ = some (.int .i64 a1_2) ∧ w'.cell? ⟨gb133, 3, none⟩ = some (.int .i64 a1_3) ∧ w'.cell? ⟨gb133, 4, none⟩ = some (.int .i64 a1_4) ∧ w'.cell? ⟨gb133, 5, none⟩ = some (.int .i64 a1_5) ∧ w'.cell? ⟨gb133, 6, none⟩ = some (.int .i64 a1_6) ∧ w'.cell? ⟨gb133, 7, none⟩ = some (.slice A1_7 l1_7.length c1_7)) ∧ (w'.heap[gb132]? = some (.cells #[.int .i64 a0_0, .int .i64 a0_1, .int .i64 a0_2, .int .i64 a0_3, .int .i64 a0_4, .int .i64 a0_5, .int .i64 a0_6, .slice A0_7 l0_7.length c0_7] 27 (0, 0))) ∧ (w'.heap[gb133]? = some (.cells #[.int .i64 a1_0, .int .i64 a1_1, .int .i64 a1_2, .int .i64 a1_3, .int .i64 a1_4, .int .i64 a1_5, .int .i64 a1_6, .slice A1_7 l1_7.length c1_7] 27 (0, 0))) ∧ (w'.heap[s_.1]? = some (.cells #[.int .i64 0, .int .i64 0, .int .i64 0, .int .i64 0, .int .i64 0, .int .i64 0, .int .i64 0, .slice none 0 0] 27 (0, 0))) ∧ (w'.heap[s_.2]? = some (.cells #[.int .i64 0, .int .i64 0, .int .i64 0, .int .i64 0, .int .i64 0, .int .i64 0, .int .i64 0, .slice none 0 0] 27 (0, 0))) ∧ (w.heap.size ≤ s_.1) ∧ (w.heap.size ≤ s_.1) ∧ (gb132 ≠ s_.1) ∧ (s_.1 ≠ gb132) ∧ (gb133 ≠ s_.1) ∧ (s_.1 ≠ gb133) ∧ (s_.2 ≠ s_.1) ∧ (s_.1 ≠ s_.2) ∧ (w.heap.size ≤ s_.2) ∧ (w.heap.size ≤ s_.2) ∧ (gb132 ≠ s_.2) ∧ (s_.2 ≠ gb132) ∧ (gb133 ≠ s_.2) ∧ (s_.2 ≠ gb133) ∧ (Below w.heap.size w w')) ?_ ?_
          rotate_left
          · intro hCont
            refine two_ (i := 2) (j := 3) (Ni := some 5) (Nj := some 6) #[true, true, true, false, false, false] #[true, true, false, true, false, false] rfl rfl rfl rfl (by kernel_rfl) (by decide) (by decide) (fun K hK => ?_) (fun K hK => ?_)
            · skip
              refine box_step ?hg (N := 5) ?hd (cs := #[.int .i64 0, .int .i64 0, .int .i64 0, .int .i64 0, .int .i64 0, .int .i64 0, .int .i64 0, .slice none 0 0]) (t := 27) ?hr ?_; (case hd => rfl); (case hg => rfl); (case hr => first | (go_simp; done) | (go_simp; rfl))
              intro gb134 hg w133 hbox hb
              have n0_ := bb_ (g := gb132) (o := .cells #[.int .i64 a0_0, .int .i64 a0_1, .int .i64 a0_2, .int .i64 a0_3, .int .i64 a0_4, .int .i64 a0_5, .int .i64 a0_6, .slice A0_7 l0_7.length c0_7] 27 (0, 0)) hb
              have n1_ := bb_ (g := gb133) (o := .cells #[.int .i64 a1_0, .int .i64 a1_1, .int .i64 a1_2, .int .i64 a1_3, .int .i64 a1_4, .int .i64 a1_5, .int .i64 a1_6, .slice A1_7 l1_7.length c1_7] 27 (0, 0)) hb
              have n2_ := Aside0.mk (below_step bel_ hb)
              have n3_ := Aside0.mk (hbox)
              have n4_ := bs_ (w := w) hg
              have n5_ := bs_ (w := w) hg
              have n6_ := nlt_ (g := gb132) (o := .cells #[.int .i64 a0_0, .int .i64 a0_1, .int .i64 a0_2, .int .i64 a0_3, .int .i64 a0_4, .int .i64 a0_5, .int .i64 a0_6, .slice A0_7 l0_7.length c0_7] 27 (0, 0)) hg
              have n7_ := ngt_ (g := gb132) (o := .cells #[.int .i64 a0_0, .int .i64 a0_1, .int .i64 a0_2, .int .i64 a0_3, .int .i64 a0_4, .int .i64 a0_5, .int .i64 a0_6, .slice A0_7 l0_7.length c0_7] 27 (0, 0)) hg
              have n8_ := nlt_ (g := gb133) (o := .cells #[.int .i64 a1_0, .int .i64 a1_1, .int .i64 a1_2, .int .i64 a1_3, .int .i64 a1_4, .int .i64 a1_5, .int .i64 a1_6, .slice A1_7 l1_7.length c1_7] 27 (0, 0)) hg
              have n9_ := ngt_ (g := gb133) (o := .cells #[.int .i64 a1_0, .int .i64 a1_1, .int .i64 a1_2, .int .i64 a1_3, .int .i64 a1_4, .int .i64 a1_5, .int .i64 a1_6, .slice A1_7 l1_7.length c1_7] 27 (0, 0)) hg
              clear BK132
              clear BK133
              clear HB
              have BK132 := n0_
              have BK133 := n1_
              have HB := n2_
              have BK134 := n3_
              have GW134 := n4_
              have GE134 := n5_
              have NB132_134 := n6_
              have NB134_132 := n7_
              have NB133_134 := n8_
              have NB134_133 := n9_
              clear n0_ n1_ n2_ n3_ n4_ n5_ n6_ n7_ n8_ n9_
              clear hb hbox hg
              refine hK.out _ _ ⟨bc_, bc_, bc_, bc_, bc_, bc_, bc_, bc_, bc_, bc_, bc_, bc_, bc_, bc_, bc_, bc_⟩ (fun hHeld => ?_)
              clear hK K
              refine norm_ (a' := ?_) ?_ ?_
              rotate_left
              · show Act.put _ (some 5) _ = _
                simp only [Act.put, la_, lb_, lc_, i64_w, i32_w]
                rfl
              refine one_ (i := 3) (N := some 6) #[true, true, true, true, false, false] rfl rfl (by kernel_rfl) (by decide) (fun K hK => ?_)
              refine box_step ?hg (N := 6) ?hd (cs := #[.int .i64 0, .int .i64 0, .int .i64 0, .int .i64 0, .int .i64 0, .int .i64 0, .int .i64 0, .slice none 0 0]) (t := 27) ?hr ?_; (case hd => rfl); (case hg => rfl); (case hr => first | (go_simp; done) | (go_simp; rfl))
              intro gb135 hg w134 hbox hb
              have n0_ := bb_ (g := gb132) (o := .cells #[.int .i64 a0_0, .int .i64 a0_1, .int .i64 a0_2, .int .i64 a0_3, .int .i64 a0_4, .int .i64 a0_5, .int .i64 a0_6, .slice A0_7 l0_7.length c0_7] 27 (0, 0)) hb
              have n1_ := bb_ (g := gb133) (o := .cells #[.int .i64 a1_0, .int .i64 a1_1, .int .i64 a1_2, .int .i64 a1_3, .int .i64 a1_4, .int .i64 a1_5, .int .i64 a1_6, .slice A1_7 l1_7.length c1_7] 27 (0, 0)) hb
              have n2_ := bb_ (g := gb134) (o := .cells #[.int .i64 0, .int .i64 0, .int .i64 0, .int .i64 0, .int .i64 0, .int .i64 0, .int .i64 0, .slice none 0 0] 27 (0, 0)) hb
              have n3_ := Aside0.mk (below_step bel_ hb)
              have n4_ := Aside0.mk (hbox)
              have n5_ := bs_ (w := w) hg
              have n6_ := bs_ (w := w) hg
              have n7_ := nlt_ (g := gb132) (o := .cells #[.int .i64 a0_0, .int .i64 a0_1, .int .i64 a0_2, .int .i64 a0_3, .int .i64 a0_4, .int .i64 a0_5, .int .i64 a0_6, .slice A0_7 l0_7.length c0_7] 27 (0, 0)) hg
              have n8_ := ngt_ (g := gb132) (o := .cells #[.int .i64 a0_0, .int .i64 a0_1, .int .i64 a0_2, .int .i64 a0_3, .int .i64 a0_4, .int .i64 a0_5, .int .i64 a0_6, .slice A0_7 l0_7.length c0_7] 27 (0, 0)) hg
              have n9_ := nlt_ (g := gb133) (o := .cells #[.int .i64 a1_0, .int .i64 a1_1, .int .i64 a1_2, .int .i64 a1_3, .int .i64 a1_4, .int .i64 a1_5, .int .i64 a1_6, .slice A1_7 l1_7.length c1_7] 27 (0, 0)) hg
              have n10_ := ngt_ (g := gb133) (o := .cells #[.int .i64 a1_0, .int .i64 a1_1, .int .i64 a1_2, .int .i64 a1_3, .int .i64 a1_4, .int .i64 a1_5, .int .i64 a1_6, .slice A1_7 l1_7.length c1_7] 27 (0, 0)) hg
              have n11_ := nlt_ (g := gb134) (o := .cells #[.int .i64 0, .int .i64 0, .int .i64 0, .int .i64 0, .int .i64 0, .int .i64 0, .int .i64 0, .slice none 0 0] 27 (0, 0)) hg
              have n12_ := ngt_ (g := gb134) (o := .cells #[.int .i64 0, .int .i64 0, .int .i64 0, .int .i64 0, .int .i64 0, .int .i64 0, .int .i64 0, .slice none 0 0] 27 (0, 0)) hg
              clear BK132
              clear BK133
              clear BK134
              clear HB
              have BK132 := n0_
              have BK133 := n1_
              have BK134 := n2_
              have HB := n3_
              have BK135 := n4_
              have GW135 := n5_
              have GE135 := n6_
              have NB132_135 := n7_
              have NB135_132 := n8_
              have NB133_135 := n9_
              have NB135_133 := n10_
              have NB134_135 := n11_
              have NB135_134 := n12_
              clear n0_ n1_ n2_ n3_ n4_ n5_ n6_ n7_ n8_ n9_ n10_ n11_ n12_
              clear hb hbox hg
              refine hK.out _ _ ⟨bc_, bc_, bc_, bc_, bc_, bc_, bc_, bc_, bc_, bc_, bc_, bc_, bc_, bc_, bc_, bc_⟩ (fun hHeld => ?_)
              clear hK K
              refine norm_ (a' := ?_) ?_ ?_
              rotate_left
              · show Act.put _ (some 6) _ = _
                simp only [Act.put, la_, lb_, lc_, i64_w, i32_w]
                rfl
              exact norm_ (by simp only [putAll, Act.put, la_, lb_, lc_]) (hCont (gb134, gb135) _ ⟨hHeld, bk_, bk_, bk_, bk_, GW134.out, GE134.out, NB132_134.out, NB134_132.out, NB133_134.out, NB134_133.out, NB135_134.out, NB134_135.out, GW135.out, GE135.out, NB132_135.out, NB135_132.out, NB133_135.out, NB135_133.out, bel_⟩)
            · skip
              refine box_step ?hg (N := 6) ?hd (cs := #[.int .i64 0, .int .i64 0, .int .i64 0, .int .i64 0, .int .i64 0, .int .i64 0, .int .i64 0, .slice none 0 0]) (t := 27) ?hr ?_; (case hd => rfl); (case hg => rfl); (case hr => first | (go_simp; done) | (go_simp; rfl))
              intro gb135 hg w133 hbox hb
              have n0_ := bb_ (g := gb132) (o := .cells #[.int .i64 a0_0, .int .i64 a0_1, .int .i64 a0_2, .int .i64 a0_3, .int .i64 a0_4, .int .i64 a0_5, .int .i64 a0_6, .slice A0_7 l0_7.length c0_7] 27 (0, 0)) hb
              have n1_ := bb_ (g := gb133) (o := .cells #[.int .i64 a1_0, .int .i64 a1_1, .int .i64 a1_2, .int .i64 a1_3, .int .i64 a1_4, .int .i64 a1_5, .int .i64 a1_6, .slice A1_7 l1_7.length c1_7] 27 (0, 0)) hb
              have n2_ := Aside0.mk (below_step bel_ hb)
              have n3_ := Aside0.mk (hbox)
              have n4_ := bs_ (w := w) hg
              have n5_ := bs_ (w := w) hg
              have n6_ := nlt_ (g := gb132) (o := .cells #[.int .i64 a0_0, .int .i64 a0_1, .int .i64 a0_2, .int .i64 a0_3, .int .i64 a0_4, .int .i64 a0_5, .int .i64 a0_6, .slice A0_7 l0_7.length c0_7] 27 (0, 0)) hg
              have n7_ := ngt_ (g := gb132) (o := .cells #[.int .i64 a0_0, .int .i64 a0_1, .int .i64 a0_2, .int .i64 a0_3, .int .i64 a0_4, .int .i64 a0_5, .int .i64 a0_6, .slice A0_7 l0_7.length c0_7] 27 (0, 0)) hg
              have n8_ := nlt_ (g := gb133) (o := .cells #[.int .i64 a1_0, .int .i64 a1_1, .int .i64 a1_2, .int .i64 a1_3, .int .i64 a1_4, .int .i64 a1_5, .int .i64 a1_6, .slice A1_7 l1_7.length c1_7] 27 (0, 0)) hg
              have n9_ := ngt_ (g := gb133) (o := .cells #[.int .i64 a1_0, .int .i64 a1_1, .int .i64 a1_2, .int .i64 a1_3, .int .i64 a1_4, .int .i64 a1_5, .int .i64 a1_6, .slice A1_7 l1_7.length c1_7] 27 (0, 0)) hg
              clear BK132
              clear BK133
              clear HB
              have BK132 := n0_
              have BK133 := n1_
              have HB := n2_
              have BK135 := n3_
              have GW135 := n4_
              have GE135 := n5_
              have NB132_135 := n6_
              have NB135_132 := n7_
              have NB133_135 := n8_
              have NB135_133 := n9_
              clear n0_ n1_ n2_ n3_ n4_ n5_ n6_ n7_ n8_ n9_
              clear hb hbox hg
              refine hK.out _ _ ⟨bc_, bc_, bc_, bc_, bc_, bc_, bc_, bc_, bc_, bc_, bc_, bc_, bc_, bc_, bc_, bc_⟩ (fun hHeld => ?_)
              clear hK K
              refine norm_ (a' := ?_) ?_ ?_
              rotate_left
              · show Act.put _ (some 6) _ = _
                simp only [Act.put, la_, lb_, lc_, i64_w, i32_w]
                rfl
              refine one_ (i := 2) (N := some 5) #[true, true, true, true, false, false] rfl rfl (by kernel_rfl) (by decide) (fun K hK => ?_)
              refine box_step ?hg (N := 5) ?hd (cs := #[.int .i64 0, .int .i64 0, .int .i64 0, .int .i64 0, .int .i64 0, .int .i64 0, .int .i64 0, .slice none 0 0]) (t := 27) ?hr ?_; (case hd => rfl); (case hg => rfl); (case hr => first | (go_simp; done) | (go_simp; rfl))
              intro gb134 hg w134 hbox hb
              have n0_ := bb_ (g := gb132) (o := .cells #[.int .i64 a0_0, .int .i64 a0_1, .int .i64 a0_2, .int .i64 a0_3, .int .i64 a0_4, .int .i64 a0_5, .int .i64 a0_6, .slice A0_7 l0_7.length c0_7] 27 (0, 0)) hb
              have n1_ := bb_ (g := gb133) (o := .cells #[.int .i64 a1_0, .int .i64 a1_1, .int .i64 a1_2, .int .i64 a1_3, .int .i64 a1_4, .int .i64 a1_5, .int .i64 a1_6, .slice A1_7 l1_7.length c1_7] 27 (0, 0)) hb
              have n2_ := bb_ (g := gb135) (o := .cells #[.int .i64 0, .int .i64 0, .int .i64 0, .int .i64 0, .int .i64 0, .int .i64 0, .int .i64 0, .slice none 0 0] 27 (0, 0)) hb
              have n3_ := Aside0.mk (below_step bel_ hb)
              have n4_ := Aside0.mk (hbox)
              have n5_ := bs_ (w := w) hg
              have n6_ := bs_ (w := w) hg
              have n7_ := nlt_ (g := gb132) (o := .cells #[.int .i64 a0_0, .int .i64 a0_1, .int .i64 a0_2, .int .i64 a0_3, .int .i64 a0_4, .int .i64 a0_5, .int .i64 a0_6, .slice A0_7 l0_7.length c0_7] 27 (0, 0)) hg
              have n8_ := ngt_ (g := gb132) (o := .cells #[.int .i64 a0_0, .int .i64 a0_1, .int .i64 a0_2, .int .i64 a0_3, .int .i64 a0_4, .int .i64 a0_5, .int .i64 a0_6, .slice A0_7 l0_7.length c0_7] 27 (0, 0)) hg
              have n9_ := nlt_ (g := gb133) (o := .cells #[.int .i64 a1_0, .int .i64 a1_1, .int .i64 a1_2, .int .i64 a1_3, .int .i64 a1_4, .int .i64 a1_5, .int .i64 a1_6, .slice A1_7 l1_7.length c1_7] 27 (0, 0)) hg
              have n10_ := ngt_ (g := gb133) (o := .cells #[.int .i64 a1_0, .int .i64 a1_1, .int .i64 a1_2, .int .i64 a1_3, .int .i64 a1_4, .int .i64 a1_5, .int .i64 a1_6, .slice A1_7 l1_7.length c1_7] 27 (0, 0)) hg
              have n11_ := nlt_ (g := gb135) (o := .cells #[.int .i64 0, .int .i64 0, .int .i64 0, .int .i64 0, .int .i64 0, .int .i64 0, .int .i64 0, .slice none 0 0] 27 (0, 0)) hg
              have n12_ := ngt_ (g := gb135) (o := .cells #[.int .i64 0, .int .i64 0, .int .i64 0, .int .i64 0, .int .i64 0, .int .i64 0, .int .i64 0, .slice none 0 0] 27 (0, 0)) hg
              clear BK132
              clear BK133
              clear BK135
              clear HB
              have BK132 := n0_
              have BK133 := n1_
              have BK135 := n2_
              have HB := n3_
              have BK134 := n4_
              have GW134 := n5_
              have GE134 := n6_
              have NB132_134 := n7_
              have NB134_132 := n8_
              have NB133_134 := n9_
              have NB134_133 := n10_
              have NB135_134 := n11_
              have NB134_135 := n12_
              clear n0_ n1_ n2_ n3_ n4_ n5_ n6_ n7_ n8_ n9_ n10_ n11_ n12_
              clear hb hbox hg
              refine hK.out _ _ ⟨bc_, bc_, bc_, bc_, bc_, bc_, bc_, bc_, bc_, bc_, bc_, bc_, bc_, bc_, bc_, bc_⟩ (fun hHeld => ?_)
              clear hK K
              refine norm_ (a' := ?_) ?_ ?_
              rotate_left
              · show Act.put _ (some 5) _ = _
                simp only [Act.put, la_, lb_, lc_, i64_w, i32_w]
                rfl
              exact norm_ (by simp only [putAll, Act.put, la_, lb_, lc_]) (hCont (gb134, gb135) _ ⟨hHeld, bk_, bk_, bk_, bk_, GW134.out, GE134.out, NB132_134.out, NB134_132.out, NB133_134.out, NB134_133.out, NB135_134.out, NB134_135.out, GW135.out, GE135.out, NB132_135.out, NB135_132.out, NB133_135.out, NB135_133.out, bel_⟩)
          rintro ⟨gb134, gb135⟩ w135 ⟨hS_, h0_, h1_, h2_, h3_, h4_, h5_, h6_, h7_, h8_, h9_, h10_, h11_, h12_, h13_, h14_, h15_, h16_, h17_, h18_⟩
          have n0_ : Aside0 (w135.heap[gb132]? = some (.cells #[.int .i64 a0_0, .int .i64 a0_1, .int .i64 a0_2, .int .i64 a0_3, .int .i64 a0_4, .int .i64 a0_5, .int .i64 a0_6, .slice A0_7 l0_7.length c0_7] 27 (0, 0))) := ⟨h0_⟩
          have n1_ : Aside0 (w135.heap[gb133]? = some (.cells #[.int .i64 a1_0, .int .i64 a1_1, .int .i64 a1_2, .int .i64 a1_3, .int .i64 a1_4, .int .i64 a1_5, .int .i64 a1_6, .slice A1_7 l1_7.length c1_7] 27 (0, 0))) := ⟨h1_⟩
          have n2_ : Aside0 (w135.heap[gb134]? = some (.cells #[.int .i64 0, .int .i64 0, .int .i64 0, .int .i64 0, .int .i64 0, .int .i64 0, .int .i64 0, .slice none 0 0] 27 (0, 0))) := ⟨h2_⟩
          have n3_ : Aside0 (w135.heap[gb135]? = some (.cells #[.int .i64 0, .int .i64 0, .int .i64 0, .int .i64 0, .int .i64 0, .int .i64 0, .int .i64 0, .slice none 0 0] 27 (0, 0))) := ⟨h3_⟩
          have n4_ : Aside0 (w.heap.size ≤ gb134) := ⟨h4_⟩
          have n5_ : Aside0 (w.heap.size ≤ gb134) := ⟨h5_⟩
          have n6_ : Aside0 (gb132 ≠ gb134) := ⟨h6_⟩
          have n7_ : Aside0 (gb134 ≠ gb132) := ⟨h7_⟩
          have n8_ : Aside0 (gb133 ≠ gb134) := ⟨h8_⟩
          have n9_ : Aside0 (gb134 ≠ gb133) := ⟨h9_⟩
          have n10_ : Aside0 (gb135 ≠ gb134) := ⟨h10_⟩
          have n11_ : Aside0 (gb134 ≠ gb135) := ⟨h11_⟩
          have n12_ : Aside0 (w.heap.size ≤ gb135) := ⟨h12_⟩
          have n13_ : Aside0 (w.heap.size ≤ gb135) := ⟨h13_⟩
          have n14_ : Aside0 (gb132 ≠ gb135) := ⟨h14_⟩
          have n15_ : Aside0 (gb135 ≠ gb132) := ⟨h15_⟩
          have n16_ : Aside0 (gb133 ≠ gb135) := ⟨h16_⟩
          have n17_ : Aside0 (gb135 ≠ gb133) := ⟨h17_⟩
          have n18_ : Aside0 (Below w.heap.size w w135) := ⟨h18_⟩
          clear BK132
          clear BK133
          clear HB
          clear h0_ h1_ h2_ h3_ h4_ h5_ h6_ h7_ h8_ h9_ h10_ h11_ h12_ h13_ h14_ h15_ h16_ h17_ h18_
          have BK132 := n0_
          have BK133 := n1_
          have BK134 := n2_
          have BK135 := n3_
          have GW134 := n4_
          have GE134 := n5_
          have NB132_134 := n6_
          have NB134_132 := n7_
          have NB133_134 := n8_
          have NB134_133 := n9_
          have NB135_134 := n10_
          have NB134_135 := n11_
          have GW135 := n12_
          have GE135 := n13_
          have NB132_135 := n14_
          have NB135_132 := n15_
          have NB133_135 := n16_
          have NB135_133 := n17_
          have HB := n18_
          clear n0_ n1_ n2_ n3_ n4_ n5_ n6_ n7_ n8_ n9_ n10_ n11_ n12_ n13_ n14_ n15_ n16_ n17_ n18_
          have hHeld : w135.cell? ⟨gb132, 0, none⟩ = some (.int .i64 a0_0) ∧ w135.cell? ⟨gb132, 1, none⟩ = some (.int .i64 a0_1) ∧ w135.cell? ⟨gb132, 2, none⟩ = some (.int .i64 a0_2) ∧ w135.cell? ⟨gb132, 3, none⟩ = some (.int .i64 a0_3) ∧ w135.cell? ⟨gb132, 4, none⟩ = some (.int .i64 a0_4) ∧ w135.cell? ⟨gb132, 5, none⟩ = some (.int .i64 a0_5) ∧ w135.cell? ⟨gb132, 6, none⟩ = some (.int .i64 a0_6) ∧ w135.cell? ⟨gb132, 7, none⟩ = some (.slice A0_7 l0_7.length c0_7) ∧ w135.cell? ⟨gb133, 0, none⟩ = some (.int .i64 a1_0) ∧ w135.cell? ⟨gb133, 1, none⟩ = some (.int .i64 a1_1) ∧ w135.cell? ⟨gb133, 2, none⟩ = some (.int .i64 a1_2) ∧ w135.cell? ⟨gb133, 3, none⟩ = some (.int .i64 a1_3) ∧ w135.cell? ⟨gb133, 4, none⟩ = some (.int .i64 a1_4) ∧ w135.cell? ⟨gb133, 5, none⟩ = some (.int .i64 a1_5) ∧ w135.cell? ⟨gb133, 6, none⟩ = some (.int .i64 a1_6) ∧ w135.cell? ⟨gb133, 7, none⟩ = some (.slice A1_7 l1_7.length c1_7) := hS_
          refine norm_ (a' := ?_) ?_ ?_
          rotate_left
          · simp only [putAll, Act.put, la_, lb_, lc_]
            rfl
          refine one_ (i := 4) (N := none) #[true, true, true, true, true, false] rfl rfl (by kernel_rfl) (by decide) (fun K hK => ?_)
          have hs136 : w135.cell? ⟨gb134, 0, none⟩ = some (.int .i64 0) := (blk_cell BK134.out 0).trans rfl
          have hfs136 := blk_frozen BK134.out 0
          have hns136_0 := NB132_134.out
          have hns136_1 := NB133_134.out
          have hns136_3 := NB135_134.out
          have hms136_0 := NB134_132.out
          have hms136_1 := NB134_133.out
          have hms136_3 := NB134_135.out
          have hs137 : w135.cell? ⟨gb134, 1, none⟩ = some (.int .i64 0) := (blk_cell BK134.out 1).trans rfl
          have hfs137 := blk_frozen BK134.out 1
          have hns137_0 := NB132_134.out
          have hns137_1 := NB133_134.out
          have hns137_3 := NB135_134.out
          have hms137_0 := NB134_132.out
          have hms137_1 := NB134_133.out
          have hms137_3 := NB134_135.out
          have hs138 : w135.cell? ⟨gb134, 2, none⟩ = some (.int .i64 0) := (blk_cell BK134.out 2).trans rfl
          have hfs138 := blk_frozen BK134.out 2
          have hns138_0 := NB132_134.out
          have hns138_1 := NB133_134.out
          have hns138_3 := NB135_134.out
          have hms138_0 := NB134_132.out
          have hms138_1 := NB134_133.out
          have hms138_3 := NB134_135.out
          have hs139 : w135.cell? ⟨gb134, 3, none⟩ = some (.int .i64 0) := (blk_cell BK134.out 3).trans rfl
          have hfs139 := blk_frozen BK134.out 3
          have hns139_0 := NB132_134.out
          have hns139_1 := NB133_134.out
          have hns139_3 := NB135_134.out
          have hms139_0 := NB134_132.out
          have hms139_1 := NB134_133.out
          have hms139_3 := NB134_135.out
          have hs140 : w135.cell? ⟨gb134, 4, none⟩ = some (.int .i64 0) := (blk_cell BK134.out 4).trans rfl
          have hfs140 := blk_frozen BK134.out 4
          have hns140_0 := NB132_134.out
          have hns140_1 := NB133_134.out
          have hns140_3 := NB135_134.out
          have hms140_0 := NB134_132.out
          have hms140_1 := NB134_133.out
          have hms140_3 := NB134_135.out
          have hs141 : w135.cell? ⟨gb134, 5, none⟩ = some (.int .i64 0) := (blk_cell BK134.out 5).trans rfl
          have hfs141 := blk_frozen BK134.out 5
          have hns141_0 := NB132_134.out
          have hns141_1 := NB133_134.out
          have hns141_3 := NB135_134.out
          have hms141_0 := NB134_132.out
          have hms141_1 := NB134_133.out
          have hms141_3 := NB134_135.out
          have hs142 : w135.cell? ⟨gb134, 6, none⟩ = some (.int .i64 0) := (blk_cell BK134.out 6).trans rfl
          have hfs142 := blk_frozen BK134.out 6
          have hns142_0 := NB132_134.out
          have hns142_1 := NB133_134.out
          have hns142_3 := NB135_134.out
          have hms142_0 := NB134_132.out
          have hms142_1 := NB134_133.out
          have hms142_3 := NB134_135.out
          have hs143 : w135.cell? ⟨gb134, 7, none⟩ = some (.slice none 0 0) := (blk_cell BK134.out 7).trans rfl
          have hfs143 := blk_frozen BK134.out 7
          have hns143_0 := NB132_134.out
          have hns143_1 := NB133_134.out
          have hns143_3 := NB135_134.out
          have hms143_0 := NB134_132.out
          have hms143_1 := NB134_133.out
          have hms143_3 := NB134_135.out
          refine skip_ (w1 := ?_) ?_ ?_ ?_ ?_
          rotate_left
          · rfl
          · rfl
          · go_simp
            rfl
          refine hK.out _ _ ⟨(cfar_ hHeld.1), (cfar_ hHeld.2.1), (cfar_ hHeld.2.2.1), (cfar_ hHeld.2.2.2.1), (cfar_ hHeld.2.2.2.2.1), (cfar_ hHeld.2.2.2.2.2.1), (cfar_ hHeld.2.2.2.2.2.2.1), (cfar_ hHeld.2.2.2.2.2.2.2.1), (cfar_ hHeld.2.2.2.2.2.2.2.2.1), (cfar_ hHeld.2.2.2.2.2.2.2.2.2.1), (cfar_ hHeld.2.2.2.2.2.2.2.2.2.2.1), (cfar_ hHeld.2.2.2.2.2.2.2.2.2.2.2.1), (cfar_ hHeld.2.2.2.2.2.2.2.2.2.2.2.2.1), (cfar_ hHeld.2.2.2.2.2.2.2.2.2.2.2.2.2.1), (cfar_ hHeld.2.2.2.2.2.2.2.2.2.2.2.2.2.2.1), (cfar_ hHeld.2.2.2.2.2.2.2.2.2.2.2.2.2.2.2)⟩ (fun hHeld => ?_)
          clear hK K
          refine one_ (i := 5) (N := none) #[true, true, true, true, true, true] rfl rfl (by kernel_rfl) (by decide) (fun K hK => ?_)
          have hs144 : w135.cell? ⟨gb135, 0, none⟩ = some (.int .i64 0) := (blk_cell BK135.out 0).trans rfl
          have hfs144 := blk_frozen BK135.out 0
          have hns144_0 := NB132_135.out
          have hns144_1 := NB133_135.out
          have hns144_2 := NB134_135.out
          have hms144_0 := NB135_132.out
          have hms144_1 := NB135_133.out
          have hms144_2 := NB135_134.out
          have hs145 : w135.cell? ⟨gb135, 1, none⟩ = some (.int .i64 0) := (blk_cell BK135.out 1).trans rfl
          have hfs145 := blk_frozen BK135.out 1
          have hns145_0 := NB132_135.out
          have hns145_1 := NB133_135.out
          have hns145_2 := NB134_135.out
          have hms145_0 := NB135_132.out
          have hms145_1 := NB135_133.out
          have hms145_2 := NB135_134.out
          have hs146 : w135.cell? ⟨gb135, 2, none⟩ = some (.int .i64 0) := (blk_cell BK135.out 2).trans rfl
          have hfs146 := blk_frozen BK135.out 2
          have hns146_0 := NB132_135.out
          have hns146_1 := NB133_135.out
          have hns146_2 := NB134_135.out
          have hms146_0 := NB135_132.out
          have hms146_1 := NB135_133.out
          have hms146_2 := NB135_134.out
          have hs147 : w135.cell? ⟨gb135, 3, none⟩ = some (.int .i64 0) := (blk_cell BK135.out 3).trans rfl
          have hfs147 := blk_frozen BK135.out 3
          have hns147_0 := NB132_135.out
          have hns147_1 := NB133_135.out
          have hns147_2 := NB134_135.out
          have hms147_0 := NB135_132.out
          have hms147_1 := NB135_133.out
          have hms147_2 := NB135_134.out
          have hs148 : w135.cell? ⟨gb135, 4, none⟩ = some (.int .i64 0) := (blk_cell BK135.out 4).trans rfl
          have hfs148 := blk_frozen BK135.out 4
          have hns148_0 := NB132_135.out
          have hns148_1 := NB133_135.out
          have hns148_2 := NB134_135.out
          have hms148_0 := NB135_132.out
          have hms148_1 := NB135_133.out
          have hms148_2 := NB135_134.out
          have hs149 : w135.cell? ⟨gb135, 5, none⟩ = some (.int .i64 0) := (blk_cell BK135.out 5).trans rfl
          have hfs149 := blk_frozen BK135.out 5
          have hns149_0 := NB132_135.out
          have hns149_1 := NB133_135.out
          have hns149_2 := NB134_135.out
          have hms149_0 := NB135_132.out
          have hms149_1 := NB135_133.out
          have hms149_2 := NB135_134.out
          have hs150 : w135.cell? ⟨gb135, 6, none⟩ = some (.int .i64 0) := (blk_cell BK135.out 6).trans rfl
          have hfs150 := blk_frozen BK135.out 6
          have hns150_0 := NB132_135.out
          have hns150_1 := NB133_135.out
          have hns150_2 := NB134_135.out
          have hms150_0 := NB135_132.out
          have hms150_1 := NB135_133.out
          have hms150_2 := NB135_134.out
          have hs151 : w135.cell? ⟨gb135, 7, none⟩ = some (.slice none 0 0) := (blk_cell BK135.out 7).trans rfl
          have hfs151 := blk_frozen BK135.out 7
          have hns151_0 := NB132_135.out
          have hns151_1 := NB133_135.out
          have hns151_2 := NB134_135.out
          have hms151_0 := NB135_132.out
          have hms151_1 := NB135_133.out
          have hms151_2 := NB135_134.out
          refine skip_ (w1 := ?_) ?_ ?_ ?_ ?_
          rotate_left
          · rfl
          · rfl
          · go_simp
            rfl
          refine hK.out _ _ ⟨(cfar_ hHeld.1), (cfar_ hHeld.2.1), (cfar_ hHeld.2.2.1), (cfar_ hHeld.2.2.2.1), (cfar_ hHeld.2.2.2.2.1), (cfar_ hHeld.2.2.2.2.2.1), (cfar_ hHeld.2.2.2.2.2.2.1), (cfar_ hHeld.2.2.2.2.2.2.2.1), (cfar_ hHeld.2.2.2.2.2.2.2.2.1), (cfar_ hHeld.2.2.2.2.2.2.2.2.2.1), (cfar_ hHeld.2.2.2.2.2.2.2.2.2.2.1), (cfar_ hHeld.2.2.2.2.2.2.2.2.2.2.2.1), (cfar_ hHeld.2.2.2.2.2.2.2.2.2.2.2.2.1), (cfar_ hHeld.2.2.2.2.2.2.2.2.2.2.2.2.2.1), (cfar_ hHeld.2.2.2.2.2.2.2.2.2.2.2.2.2.2.1), (cfar_ hHeld.2.2.2.2.2.2.2.2.2.2.2.2.2.2.2)⟩ (fun hHeld => ?_)
          clear hK K
          refine done_ (by kernel_rfl) ?_
          have hnb152 := NB134_132.out
          have hnc152 := NB132_134.out
          have hnb153 := NB134_133.out
          have hnc153 := NB133_134.out
          have hnb154 := NB134_135.out
          have hnc154 := NB135_134.out
          have hcz155_0 : w135.cell? ⟨gb134, 0, none⟩ = some (.int .i64 0) := bc_
          have hcz155_1 : w135.cell? ⟨gb134, 1, none⟩ = some (.int .i64 0) := bc_
          have hcz155_2 : w135.cell? ⟨gb134, 2, none⟩ = some (.int .i64 0) := bc_
          have hcz155_3 : w135.cell? ⟨gb134, 3, none⟩ = some (.int .i64 0) := bc_
          have hcz155_4 : w135.cell? ⟨gb134, 4, none⟩ = some (.int .i64 0) := bc_
          have hcz155_5 : w135.cell? ⟨gb134, 5, none⟩ = some (.int .i64 0) := bc_
          have hcz155_6 : w135.cell? ⟨gb134, 6, none⟩ = some (.int .i64 0) := bc_
          have hcz155_7 : w135.cell? ⟨gb134, 7, none⟩ = some (.slice none 0 0) := bc_
          have hfz155_0 := blk_frozen BK134.out 0
          have hfz155_1 := blk_frozen BK134.out 1
          have hfz155_2 := blk_frozen BK134.out 2
          have hfz155_3 := blk_frozen BK134.out 3
          have hfz155_4 := blk_frozen BK134.out 4
          have hfz155_5 := blk_frozen BK134.out 5
          have hfz155_6 := blk_frozen BK134.out 6
          have hfz155_7 := blk_frozen BK134.out 7
          have hnb156 := NB135_132.out
          have hnc156 := NB132_135.out
          have hnb157 := NB135_133.out
          have hnc157 := NB133_135.out
          have hcz158_0 : w135.cell? ⟨gb135, 0, none⟩ = some (.int .i64 0) := bc_
          have hcz158_1 : w135.cell? ⟨gb135, 1, none⟩ = some (.int .i64 0) := bc_
          have hcz158_2 : w135.cell? ⟨gb135, 2, none⟩ = some (.int .i64 0) := bc_
          have hcz158_3 : w135.cell? ⟨gb135, 3, none⟩ = some (.int .i64 0) := bc_
          have hcz158_4 : w135.cell? ⟨gb135, 4, none⟩ = some (.int .i64 0) := bc_
          have hcz158_5 : w135.cell? ⟨gb135, 5, none⟩ = some (.int .i64 0) := bc_
          have hcz158_6 : w135.cell? ⟨gb135, 6, none⟩ = some (.int .i64 0) := bc_
          have hcz158_7 : w135.cell? ⟨gb135, 7, none⟩ = some (.slice none 0 0) := bc_
          have hfz158_0 := blk_frozen BK135.out 0
          have hfz158_1 := blk_frozen BK135.out 1
          have hfz158_2 := blk_frozen BK135.out 2
          have hfz158_3 := blk_frozen BK135.out 3
          have hfz158_4 := blk_frozen BK135.out 4
          have hfz158_5 := blk_frozen BK135.out 5
          have hfz158_6 := blk_frozen BK135.out 6
          have hfz158_7 := blk_frozen BK135.out 7
          try go_wp2
          go_ret
          exact ⟨by first | rfl | (simp [errW_none, errW_some] <;> rfl) | (simp [*, errW_none, errW_some] <;> rfl), by repeat (first | (with_reducible first | exact HB.out | apply below_alloc | apply pw_below_drewN | apply below_drew1 | refine below_set ?_ GE132.out | refine below_set ?_ GE133.out | refine below_set ?_ GE134.out | refine below_set ?_ GE135.out) | exact HB.out)⟩
      · rw [if_neg c5] at H
        have c5b0 : (a0_2 == a1_2) = false := beq_eq_false_iff_ne.mpr c5
        have c5b1 : (a0_2 != a1_2) = true := bne_iff_ne.mpr c5
        obtain rfl := Option.some.inj H
        go_enter Try.func17, Try.ntmps17
        try go_wp2_with (first | ((with_reducible refine gate_dst (N := 2) rfl ?_); refine box_event ?hg (N := 2) ?hd (cs := #[.int .i64 a0_0, .int .i64 a0_1, .int .i64 a0_2, .int .i64 a0_3, .int .i64 a0_4, .int .i64 a0_5, .int .i64 a0_6, .slice A0_7 l0_7.length c0_7]) (t := 27) ?hr ?_; (case hd => rfl); (case hg => rfl); (case hr => first | (go_simp; done) | (go_simp; rfl)); intro gb132 hg w159 hbox hb; have n0_ := Aside0.mk (below_step bel_ hb); have n1_ := Aside0.mk (hbox); have n2_ := bs_ (w := w) hg; have n3_ := bs_ (w := w) hg; clear HB; have HB := n0_; have BK132 := n1_; have GW132 := n2_; have GE132 := n3_; clear n0_ n1_ n2_ n3_; clear hb hbox hg) | ((with_reducible refine gate_dst (N := 3) rfl ?_); refine box_event ?hg (N := 3) ?hd (cs := #[.int .i64 a1_0, .int .i64 a1_1, .int .i64 a1_2, .int .i64 a1_3, .int .i64 a1_4, .int .i64 a1_5, .int .i64 a1_6, .slice A1_7 l1_7.length c1_7]) (t := 27) ?hr ?_; (case hd => rfl); (case hg => rfl); (case hr => first | (go_simp; done) | (go_simp; rfl)); intro gb133 hg w160 hbox hb; have n0_ := bb_ (g := gb132) (o := .cells #[.int .i64 a0_0, .int .i64 a0_1, .int .i64 a0_2, .int .i64 a0_3, .int .i64 a0_4, .int .i64 a0_5, .int .i64 a0_6, .slice A0_7 l0_7.length c0_7] 27 (0, 0)) hb; have n1_ := Aside0.mk (below_step bel_ hb); have n2_ := Aside0.mk (hbox); have n3_ := bs_ (w := w) hg; have n4_ := bs_ (w := w) hg; have n5_ := nlt_ (g := gb132) (o := .cells #[.int .i64 a0_0, .int .i64 a0_1, .int .i64 a0_2, .int .i64 a0_3, .int .i64 a0_4, .int .i64 a0_5, .int .i64 a0_6, .slice A0_7 l0_7.length c0_7] 27 (0, 0)) hg; have n6_ := ngt_ (g := gb132) (o := .cells #[.int .i64 a0_0, .int .i64 a0_1, .int .i64 a0_2, .int .i64 a0_3, .int .i64 a0_4, .int .i64 a0_5, .int .i64 a0_6, .slice A0_7 l0_7.length c0_7] 27 (0, 0)) hg; clear BK132; clear HB; have BK132 := n0_; have HB := n1_; have BK133 := n2_; have GW133 := n3_; have GE133 := n4_; have NB132_133 := n5_; have NB133_132 := n6_; clear n0_ n1_ n2_ n3_ n4_ n5_ n6_; clear hb hbox hg))
        have n0_ := Aside0.mk (blk_drew BK132.out)
        have n1_ := Aside0.mk (blk_drew BK133.out)
        have n2_ := Aside0.mk (below_drew1 HB.out)
        clear BK132
        clear BK133
        clear HB
        have BK132 := n0_
        have BK133 := n1_
        have HB := n2_
        clear n0_ n1_ n2_
        refine start_ (n := 6) (S := fun w' => w'.cell? ⟨gb132, 0, none⟩ = some (.int .i64 a0_0) ∧ w'.cell? ⟨gb132, 1, none⟩ = some (.int .i64 a0_1) ∧ w'.cell? ⟨gb132, 2, none⟩ = some (.int .i64 a0_2) ∧ w'.cell? ⟨gb132, 3, none⟩ = some (.int .i64 a0_3) ∧ w'.cell? ⟨gb132, 4, none⟩ = some (.int .i64 a0_4) ∧ w'.cell? ⟨gb132, 5, none⟩ = some (.int .i64 a0_5) ∧ w'.cell? ⟨gb132, 6, none⟩ = some (.int .i64 a0_6) ∧ w'.cell? ⟨gb132, 7, none⟩ = some (.slice A0_7 l0_7.length c0_7) ∧ w'.cell? ⟨gb133, 0, none⟩ = some (.int .i64 a1_0) ∧ w'.cell? ⟨gb133, 1, none⟩ = some (.int .i64 a1_1) ∧ w'.cell? ⟨gb133, 2, none⟩ = some (.int .i64 a1_2) ∧ w'.cell? ⟨gb133, 3, none⟩ = some (.int .i64 a1_3) ∧ w'.cell? ⟨gb133, 4, none⟩ = some (.int .i64 a1_4) ∧ w'.cell? ⟨gb133, 5, none⟩ = some (.int .i64 a1_5) ∧ w'.cell? ⟨gb133, 6, none⟩ = some (.int .i64 a1_6) ∧ w'.cell? ⟨gb133, 7, none⟩ = some (.slice A1_7 l1_7.length c1_7)) (ds := []) #[false, false, false, false, false, false] (by kernel_rfl) rfl rfl ⟨bc_, bc_, bc_, bc_, bc_, bc_, bc_, bc_, bc_, bc_, bc_, bc_, bc_, bc_, bc_, bc_⟩ (fun hHeld => ?_)
        generalize w160.drew = w161 at BK132 BK133 HB hHeld ⊢
        refine take_ (i := 0) (N := some 7) (v := ?_) (a' := ?_) #[true, false, false, false, false, false] rfl rfl (by kernel_rfl) (fun _ _ _ h => h) (Or.inl ⟨by rfl, ?_⟩) hHeld ?_ ?_
        rotate_left
        · rintro w' ⟨s0, s1, s2, s3, s4, s5, s6, s7, s8, s9, s10, s11, s12, s13, s14, s15⟩
          go_simp
          with_reducible rfl
        rotate_left
        · simp only [Act.put, la_, lb_, lc_, i64_w, i32_w]
          rfl
        refine take_ (i := 1) (N := some 8) (v := ?_) (a' := ?_) #[true, true, false, false, false, false] rfl rfl (by kernel_rfl) (fun _ _ _ h => h) (Or.inl ⟨by rfl, ?_⟩) hHeld ?_ ?_
        rotate_left
        · rintro w' ⟨s0, s1, s2, s3, s4, s5, s6, s7, s8, s9, s10, s11, s12, s13, s14, s15⟩
          go_simp
          with_reducible rfl
        rotate_left
        · simp only [Act.put, la_, lb_, lc_, i64_w, i32_w]
          rfl
        refine join_ (σ := Nat × Nat) 2 #[true, true, true, true, false, false] (fun s_ => [(5, .pointer (some ⟨s_.1, 0, none⟩)), (6, .pointer (some ⟨s_.2, 0, none⟩))]) (fun s_ w' => (w'.cell? ⟨gb132, 0, none⟩ = some (.int .i64 a0_0) ∧ w'.cell? ⟨gb132, 1, none⟩ = some (.int .i64 a0_1) ∧ w'.cell? ⟨gb132, 2, none⟩ = some (.int .i64 a0_2) ∧ w'.cell? ⟨gb132, 3, none⟩ = some (.int .i64 a0_3) ∧ w'.cell? ⟨gb132, 4, none⟩ = some (.int .i64 a0_4) ∧ w'.cell? ⟨gb132, 5, none⟩ = some (.int .i64 a0_5) ∧ w'.cell? ⟨gb132, 6, none⟩ = some (.int .i64 a0_6) ∧ w'.cell? ⟨gb132, 7, none⟩ = some (.slice A0_7 l0_7.length c0_7) ∧ w'.cell? ⟨gb133, 0, none⟩ = some (.int .i64 a1_0) ∧ w'.cell? ⟨gb133, 1, none⟩ = some (.int .i64 a1_1) ∧ w'.cell? ⟨gb133, 2, none⟩ = some (.int .i64 a1_2) ∧ w'.cell? ⟨gb133, 3, none⟩ = some (.int .i64 a1_3) ∧ w'.cell? ⟨gb133, 4, none⟩ = some (.int .i64 a1_4) ∧ w'.cell? ⟨gb133, 5, none⟩ = some (.int .i64 a1_5) ∧ w'.cell? ⟨gb133, 6, none⟩ = some (.int .i64 a1_6) ∧ w'.cell? ⟨gb133, 7, none⟩ = some (.slice A1_7 l1_7.length c1_7)) ∧ (w'.heap[gb132]? = some (.cells #[.int .i64 a0_0, .int .i64 a0_1, .int .i64 a0_2, .int .i64 a0_3, .int .i64 a0_4, .int .i64 a0_5, .int .i64 a0_6, .slice A0_7 l0_7.length c0_7] 27 (0, 0))) ∧ (w'.heap[gb133]? = some (.cells #[.int .i64 a1_0, .int .i64 a1_1, .int .i64 a1_2, .int .i64 a1_3, .int .i64 a1_4, .int .i64 a1_5, .int .i64 a1_6, .slice A1_7 l1_7.length c1_7] 27 (0, 0))) ∧ (w'.heap[s_.1]? = some (.cells #[.int .i64 0, .int .i64 0, .int .i64 0, .int .i64 0, .int .i64 0, .int .i64 0, .int .i64 0, .slice none 0 0] 27 (0, 0))) ∧ (w'.heap[s_.2]? = some (.cells #[.int .i64 0, .int .i64 0, .int .i64 0, .int .i64 0, .int .i64 0, .int .i64 0, .int .i64 0, .slice none 0 0] 27 (0, 0))) ∧ (w.heap.size ≤ s_.1) ∧ (w.heap.size ≤ s_.1) ∧ (gb132 ≠ s_.1) ∧ (s_.1 ≠ gb132) ∧ (gb133 ≠ s_.1) ∧ (s_.1 ≠ gb133) ∧ (s_.2 ≠ s_.1) ∧ (s_.1 ≠ s_.2) ∧ (w.heap.size ≤ s_.2) ∧ (w.heap.size ≤ s_.2) ∧ (gb132 ≠ s_.2) ∧ (s_.2 ≠ gb132) ∧ (gb133 ≠ s_.2) ∧ (s_.2 ≠ gb133) ∧ (Below w.heap.size w w')) ?_ ?_
        rotate_left
        · intro hCont
          refine two_ (i := 2) (j := 3) (Ni := some 5) (Nj := some 6) #[true, true, true, false, false, false] #[true, true, false, true, false, false] rfl rfl rfl rfl (by kernel_rfl) (by decide) (by decide) (fun K hK => ?_) (fun K hK => ?_)
          · skip
            refine box_step ?hg (N := 5) ?hd (cs := #[.int .i64 0, .int .i64 0, .int .i64 0, .int .i64 0, .int .i64 0, .int .i64 0, .int .i64 0, .slice none 0 0]) (t := 27) ?hr ?_; (case hd => rfl); (case hg => rfl); (case hr => first | (go_simp; done) | (go_simp; rfl))
            intro gb134 hg w162 hbox hb
            have n0_ := bb_ (g := gb132) (o := .cells #[.int .i64 a0_0, .int .i64 a0_1, .int .i64 a0_2, .int .i64 a0_3, .int .i64 a0_4, .int .i64 a0_5, .int .i64 a0_6, .slice A0_7 l0_7.length c0_7] 27 (0, 0)) hb
            have n1_ := bb_ (g := gb133) (o := .cells #[.int .i64 a1_0, .int .i64 a1_1, .int .i64 a1_2, .int .i64 a1_3, .int .i64 a1_4, .int .i64 a1_5, .int .i64 a1_6, .slice A1_7 l1_7.length c1_7] 27 (0, 0)) hb
            have n2_ := Aside0.mk (below_step bel_ hb)
            have n3_ := Aside0.mk (hbox)
            have n4_ := bs_ (w := w) hg
            have n5_ := bs_ (w := w) hg
            have n6_ := nlt_ (g := gb132) (o := .cells #[.int .i64 a0_0, .int .i64 a0_1, .int .i64 a0_2, .int .i64 a0_3, .int .i64 a0_4, .int .i64 a0_5, .int .i64 a0_6, .slice A0_7 l0_7.length c0_7] 27 (0, 0)) hg
            have n7_ := ngt_ (g := gb132) (o := .cells #[.int .i64 a0_0, .int .i64 a0_1, .int .i64 a0_2, .int .i64 a0_3, .int .i64 a0_4, .int .i64 a0_5, .int .i64 a0_6, .slice A0_7 l0_7.length c0_7] 27 (0, 0)) hg
            have n8_ := nlt_ (g := gb133) (o := .cells #[.int .i64 a1_0, .int .i64 a1_1, .int .i64 a1_2, .int .i64 a1_3, .int .i64 a1_4, .int .i64 a1_5, .int .i64 a1_6, .slice A1_7 l1_7.length c1_7] 27 (0, 0)) hg
            have n9_ := ngt_ (g := gb133) (o := .cells #[.int .i64 a1_0, .int .i64 a1_1, .int .i64 a1_2, .int .i64 a1_3, .int .i64 a1_4, .int .i64 a1_5, .int .i64 a1_6, .slice A1_7 l1_7.length c1_7] 27 (0, 0)) hg
            clear BK132
            clear BK133
            clear HB
            have BK132 := n0_
            have BK133 := n1_
            have HB := n2_
            have BK134 := n3_
            have GW134 := n4_
            have GE134 := n5_
            have NB132_134 := n6_
            have NB134_132 := n7_
            have NB133_134 := n8_
            have NB134_133 := n9_
            clear n0_ n1_ n2_ n3_ n4_ n5_ n6_ n7_ n8_ n9_
            clear hb hbox hg
            refine hK.out _ _ ⟨bc_, bc_, bc_, bc_, bc_, bc_, bc_, bc_, bc_, bc_, bc_, bc_, bc_, bc_, bc_, bc_⟩ (fun hHeld => ?_)
            clear hK K
            refine norm_ (a' := ?_) ?_ ?_
            rotate_left
            · show Act.put _ (some 5) _ = _
              simp only [Act.put, la_, lb_, lc_, i64_w, i32_w]
              rfl
            refine one_ (i := 3) (N := some 6) #[true, true, true, true, false, false] rfl rfl (by kernel_rfl) (by decide) (fun K hK => ?_)
            refine box_step ?hg (N := 6) ?hd (cs := #[.int .i64 0, .int .i64 0, .int .i64 0, .int .i64 0, .int .i64 0, .int .i64 0, .int .i64 0, .slice none 0 0]) (t := 27) ?hr ?_; (case hd => rfl); (case hg => rfl); (case hr => first | (go_simp; done) | (go_simp; rfl))
            intro gb135 hg w163 hbox hb
            have n0_ := bb_ (g := gb132) (o := .cells #[.int .i64 a0_0, .int .i64 a0_1, .int .i64 a0_2, .int .i64 a0_3, .int .i64 a0_4, .int .i64 a0_5, .int .i64 a0_6, .slice A0_7 l0_7.length c0_7] 27 (0, 0)) hb
            have n1_ := bb_ (g := gb133) (o := .cells #[.int .i64 a1_0, .int .i64 a1_1, .int .i64 a1_2, .int .i64 a1_3, .int .i64 a1_4, .int .i64 a1_5, .int .i64 a1_6, .slice A1_7 l1_7.length c1_7] 27 (0, 0)) hb
            have n2_ := bb_ (g := gb134) (o := .cells #[.int .i64 0, .int .i64 0, .int .i64 0, .int .i64 0, .int .i64 0, .int .i64 0, .int .i64 0, .slice none 0 0] 27 (0, 0)) hb
            have n3_ := Aside0.mk (below_step bel_ hb)
            have n4_ := Aside0.mk (hbox)
            have n5_ := bs_ (w := w) hg
            have n6_ := bs_ (w := w) hg
            have n7_ := nlt_ (g := gb132) (o := .cells #[.int .i64 a0_0, .int .i64 a0_1, .int .i64 a0_2, .int .i64 a0_3, .int .i64 a0_4, .int .i64 a0_5, .int .i64 a0_6, .slice A0_7 l0_7.length c0_7] 27 (0, 0)) hg
            have n8_ := ngt_ (g := gb132) (o := .cells #[.int .i64 a0_0, .int .i64 a0_1, .int .i64 a0_2, .int .i64 a0_3, .int .i64 a0_4, .int .i64 a0_5, .int .i64 a0_6, .slice A0_7 l0_7.length c0_7] 27 (0, 0)) hg
            have n9_ := nlt_ (g := gb133) (o := .cells #[.int .i64 a1_0, .int .i64 a1_1, .int .i64 a1_2, .int .i64 a1_3, .int .i64 a1_4, .int .i64 a1_5, .int .i64 a1_6, .slice A1_7 l1_7.length c1_7] 27 (0, 0)) hg
            have n10_ := ngt_ (g := gb133) (o := .cells #[.int .i64 a1_0, .int .i64 a1_1, .int .i64 a1_2, .int .i64 a1_3, .int .i64 a1_4, .int .i64 a1_5, .int .i64 a1_6, .slice A1_7 l1_7.length c1_7] 27 (0, 0)) hg
            have n11_ := nlt_ (g := gb134) (o := .cells #[.int .i64 0, .int .i64 0, .int .i64 0, .int .i64 0, .int .i64 0, .int .i64 0, .int .i64 0, .slice none 0 0] 27 (0, 0)) hg
            have n12_ := ngt_ (g := gb134) (o := .cells #[.int .i64 0, .int .i64 0, .int .i64 0, .int .i64 0, .int .i64 0, .int .i64 0, .int .i64 0, .slice none 0 0] 27 (0, 0)) hg
            clear BK132
            clear BK133
            clear BK134
            clear HB
            have BK132 := n0_
            have BK133 := n1_
            have BK134 := n2_
            have HB := n3_
            have BK135 := n4_
            have GW135 := n5_
            have GE135 := n6_
            have NB132_135 := n7_
            have NB135_132 := n8_
            have NB133_135 := n9_
            have NB135_133 := n10_
            have NB134_135 := n11_
            have NB135_134 := n12_
            clear n0_ n1_ n2_ n3_ n4_ n5_ n6_ n7_ n8_ n9_ n10_ n11_ n12_
            clear hb hbox hg
            refine hK.out _ _ ⟨bc_, bc_, bc_, bc_, bc_, bc_, bc_, bc_, bc_, bc_, bc_, bc_, bc_, bc_, bc_, bc_⟩ (fun hHeld => ?_)
            clear hK K
            refine norm_ (a' := ?_) ?_ ?_
            rotate_left
            · show Act.put _ (some 6) _ = _
              simp only [Act.put, la_, lb_, lc_, i64_w, i32_w]
              rfl
            exact norm_ (by simp only [putAll, Act.put, la_, lb_, lc_]) (hCont (gb134, gb135) _ ⟨hHeld, bk_, bk_, bk_, bk_, GW134.out, GE134.out, NB132_134.out, NB134_132.out, NB133_134.out, NB134_133.out, NB135_134.out, NB134_135.out, GW135.out, GE135.out, NB132_135.out, NB135_132.out, NB133_135.out, NB135_133.out, bel_⟩)
          · skip
            refine box_step ?hg (N := 6) ?hd (cs := #[.int .i64 0, .int .i64 0, .int .i64 0, .int .i64 0, .int .i64 0, .int .i64 0, .int .i64 0, .slice none 0 0]) (t := 27) ?hr ?_; (case hd => rfl); (case hg => rfl); (case hr => first | (go_simp; done) | (go_simp; rfl))
            intro gb135 hg w162 hbox hb
            have n0_ := bb_ (g := gb132) (o := .cells #[.int .i64 a0_0, .int .i64 a0_1, .int .i64 a0_2, .int .i64 a0_3, .int .i64 a0_4, .int .i64 a0_5, .int .i64 a0_6, .slice A0_7 l0_7.length c0_7] 27 (0, 0)) hb
            have n1_ := bb_ (g := gb133) (o := .cells #[.int .i64 a1_0, .int .i64 a1_1, .int .i64 a1_2, .int .i64 a1_3, .int .i64 a1_4, .int .i64 a1_5, .int .i64 a1_6, .slice A1_7 l1_7.length c1_7] 27 (0, 0)) hb
            have n2_ := Aside0.mk (below_step bel_ hb)
            have n3_ := Aside0.mk (hbox)
            have n4_ := bs_ (w := w) hg
            have n5_ := bs_ (w := w) hg
            have n6_ := nlt_ (g := gb132) (o := .cells #[.int .i64 a0_0, .int .i64 a0_1, .int .i64 a0_2, .int .i64 a0_3, .int .i64 a0_4, .int .i64 a0_5, .int .i64 a0_6, .slice A0_7 l0_7.length c0_7] 27 (0, 0)) hg
            have n7_ := ngt_ (g := gb132) (o := .cells #[.int .i64 a0_0, .int .i64 a0_1, .int .i64 a0_2, .int .i64 a0_3, .int .i64 a0_4, .int .i64 a0_5, .int .i64 a0_6, .slice A0_7 l0_7.length c0_7] 27 (0, 0)) hg
            have n8_ := nlt_ (g := gb133) (o := .cells #[.int .i64 a1_0, .int .i64 a1_1, .int .i64 a1_2, .int .i64 a1_3, .int .i64 a1_4, .int .i64 a1_5, .int .i64 a1_6, .slice A1_7 l1_7.length c1_7] 27 (0, 0)) hg
            have n9_ := ngt_ (g := gb133) (o := .cells #[.int .i64 a1_0, .int .i64 a1_1, .int .i64 a1_2, .int .i64 a1_3, .int .i64 a1_4, .int .i64 a1_5, .int .i64 a1_6, .slice A1_7 l1_7.length c1_7] 27 (0, 0)) hg
            clear BK132
            clear BK133
            clear HB
            have BK132 := n0_
            have BK133 := n1_
            have HB := n2_
            have BK135 := n3_
            have GW135 := n4_
            have GE135 := n5_
            have NB132_135 := n6_
            have NB135_132 := n7_
            have NB133_135 := n8_
            have NB135_133 := n9_
            clear n0_ n1_ n2_ n3_ n4_ n5_ n6_ n7_ n8_ n9_
            clear hb hbox hg
            refine hK.out _ _ ⟨bc_, bc_, bc_, bc_, bc_, bc_, bc_, bc_, bc_, bc_, bc_, bc_, bc_, bc_, bc_, bc_⟩ (fun hHeld => ?_)
            clear hK K
            refine norm_ (a' := ?_) ?_ ?_
            rotate_left
            · show Act.put _ (some 6) _ = _
              simp only [Act.put, la_, lb_, lc_, i64_w, i32_w]
              rfl
            refine one_ (i := 2) (N := some 5) #[true, true, true, true, false, false] rfl rfl (by kernel_rfl) (by decide) (fun K hK => ?_)
            refine box_step ?hg (N := 5) ?hd (cs := #[.int .i64 0, .int .i64 0, .int .i64 0, .int .i64 0, .int .i64 0, .int .i64 0, .int .i64 0, .slice none 0 0]) (t := 27) ?hr ?_; (case hd => rfl); (case hg => rfl); (case hr => first | (go_simp; done) | (go_simp; rfl))
            intro gb134 hg w163 hbox hb
            have n0_ := bb_ (g := gb132) (o := .cells #[.int .i64 a0_0, .int .i64 a0_1, .int .i64 a0_2, .int .i64 a0_3, .int .i64 a0_4, .int .i64 a0_5, .int .i64 a0_6, .slice A0_7 l0_7.length c0_7] 27 (0, 0)) hb
            have n1_ := bb_ (g := gb133) (o := .cells #[.int .i64 a1_0, .int .i64 a1_1, .int .i64 a1_2, .int .i64 a1_3, .int .i64 a1_4, .int .i64 a1_5, .int .i64 a1_6, .slice A1_7 l1_7.length c1_7] 27 (0, 0)) hb
            have n2_ := bb_ (g := gb135) (o := .cells #[.int .i64 0, .int .i64 0, .int .i64 0, .int .i64 0, .int .i64 0, .int .i64 0, .int .i64 0, .slice none 0 0] 27 (0, 0)) hb
            have n3_ := Aside0.mk (below_step bel_ hb)
            have n4_ := Aside0.mk (hbox)
            have n5_ := bs_ (w := w) hg
            have n6_ := bs_ (w := w) hg
            have n7_ := nlt_ (g := gb132) (o := .cells #[.int .i64 a0_0, .int .i64 a0_1, .int .i64 a0_2, .int .i64 a0_3, .int .i64 a0_4, .int .i64 a0_5, .int .i64 a0_6, .slice A0_7 l0_7.length c0_7] 27 (0, 0)) hg
            have n8_ := ngt_ (g := gb132) (o := .cells #[.int .i64 a0_0, .int .i64 a0_1, .int .i64 a0_2, .int .i64 a0_3, .int .i64 a0_4, .int .i64 a0_5, .int .i64 a0_6, .slice A0_7 l0_7.length c0_7] 27 (0, 0)) hg
            have n9_ := nlt_ (g := gb133) (o := .cells #[.int .i64 a1_0, .int .i64 a1_1, .int .i64 a1_2, .int .i64 a1_3, .int .i64 a1_4, .int .i64 a1_5, .int .i64 a1_6, .slice A1_7 l1_7.length c1_7] 27 (0, 0)) hg
            have n10_ := ngt_ (g := gb133) (o := .cells #[.int .i64 a1_0, .int .i64 a1_1, .int .i64 a1_2, .int .i64 a1_3, .int .i64 a1_4, .int .i64 a1_5, .int .i64 a1_6, .slice A1_7 l1_7.length c1_7] 27 (0, 0)) hg
            have n11_ := nlt_ (g := gb135) (o := .cells #[.int .i64 0, .int .i64 0, .int .i64 0, .int .i64 0, .int .i64 0, .int .i64 0, .int .i64 0, .slice none 0 0] 27 (0, 0)) hg
            have n12_ := ngt_ (g := gb135) (o := .cells #[.int .i64 0, .int .i64 0, .int .i64 0, .int .i64 0, .int .i64 0, .int .i64 0, .int .i64 0, .slice none 0 0] 27 (0, 0)) hg
            clear BK132
            clear BK133
            clear BK135
            clear HB
            have BK132 := n0_
            have BK133 := n1_
            have BK135 := n2_
            have HB := n3_
            have BK134 := n4_
            have GW134 := n5_
            have GE134 := n6_
            have NB132_134 := n7_
            have NB134_132 := n8_
            have NB133_134 := n9_
            have NB134_133 := n10_
            have NB135_134 := n11_
            have NB134_135 := n12_
            clear n0_ n1_ n2_ n3_ n4_ n5_ n6_ n7_ n8_ n9_ n10_ n11_ n12_
            clear hb hbox hg
            refine hK.out _ _ ⟨bc_, bc_, bc_, bc_, bc_, bc_, bc_, bc_, bc_, bc_, bc_, bc_, bc_, bc_, bc_, bc_⟩ (fun hHeld => ?_)
            clear hK K
            refine norm_ (a' := ?_) ?_ ?_
            rotate_left
            · show Act.put _ (some 5) _ = _
              simp only [Act.put, la_, lb_, lc_, i64_w, i32_w]
              rfl
            exact norm_ (by simp only [putAll, Act.put, la_, lb_, lc_]) (hCont (gb134, gb135) _ ⟨hHeld, bk_, bk_, bk_, bk_, GW134.out, GE134.out, NB132_134.out, NB134_132.out, NB133_134.out, NB134_133.out, NB135_134.out, NB134_135.out, GW135.out, GE135.out, NB132_135.out, NB135_132.out, NB133_135.out, NB135_133.out, bel_⟩)
        rintro ⟨gb134, gb135⟩ w164 ⟨hS_, h0_, h1_, h2_, h3_, h4_, h5_, h6_, h7_, h8_, h9_, h10_, h11_, h12_, h13_, h14_, h15_, h16_, h17_, h18_⟩
        have n0_ : Aside0 (w164.heap[gb132]? = some (.cells #[.int .i64 a0_0, .int .i64 a0_1, .int .i64 a0_2, .int .i64 a0_3, .int .i64 a0_4, .int .i64 a0_5, .int .i64 a0_6, .slice A0_7 l0_7.length c0_7] 27 (0, 0))) := ⟨h0_⟩
        have n1_ : Aside0 (w164.heap[gb133]? = some (.cells #[.int .i64 a1_0, .int .i64 a1_1, .int .i64 a1_2, .int .i64 a1_3, .int .i64 a1_4, .int .i64 a1_5, .int .i64 a1_6, .slice A1_7 l1_7.length c1_7] 27 (0, 0))) := ⟨h1_⟩
        have n2_ : Aside0 (w164.heap[gb134]? = some (.cells #[.int .i64 0, .int .i64 0, .int .i64 0, .int .i64 0, .int .i64 0, .int .i64 0, .int .i64 0, .slice none 0 0] 27 (0, 0))) := ⟨h2_⟩
        have n3_ : Aside0 (w164.heap[gb135]? = some (.cells #[.int .i64 0, .int .i64 0, .int .i64 0, .int .i64 0, .int .i64 0, .int .i64 0, .int .i64 0, .slice none 0 0] 27 (0, 0))) := ⟨h3_⟩
        have n4_ : Aside0 (w.heap.size ≤ gb134) := ⟨h4_⟩
        have n5_ : Aside0 (w.heap.size ≤ gb134) := ⟨h5_⟩
        have n6_ : Aside0 (gb132 ≠ gb134) := ⟨h6_⟩
        have n7_ : Aside0 (gb134 ≠ gb132) := ⟨h7_⟩
        have n8_ : Aside0 (gb133 ≠ gb134) := ⟨h8_⟩
        have n9_ : Aside0 (gb134 ≠ gb133) := ⟨h9_⟩
        have n10_ : Aside0 (gb135 ≠ gb134) := ⟨h10_⟩
        have n11_ : Aside0 (gb134 ≠ gb135) := ⟨h11_⟩
        have n12_ : Aside0 (w.heap.size ≤ gb135) := ⟨h12_⟩
        have n13_ : Aside0 (w.heap.size ≤ gb135) := ⟨h13_⟩
        have n14_ : Aside0 (gb132 ≠ gb135) := ⟨h14_⟩
        have n15_ : Aside0 (gb135 ≠ gb132) := ⟨h15_⟩
        have n16_ : Aside0 (gb133 ≠ gb135) := ⟨h16_⟩
        have n17_ : Aside0 (gb135 ≠ gb133) := ⟨h17_⟩
        have n18_ : Aside0 (Below w.heap.size w w164) := ⟨h18_⟩
        clear BK132
        clear BK133
        clear HB
        clear h0_ h1_ h2_ h3_ h4_ h5_ h6_ h7_ h8_ h9_ h10_ h11_ h12_ h13_ h14_ h15_ h16_ h17_ h18_
        have BK132 := n0_
        have BK133 := n1_
        have BK134 := n2_
        have BK135 := n3_
        have GW134 := n4_
        have GE134 := n5_
        have NB132_134 := n6_
        have NB134_132 := n7_
        have NB133_134 := n8_
        have NB134_133 := n9_
        have NB135_134 := n10_
        have NB134_135 := n11_
        have GW135 := n12_
        have GE135 := n13_
        have NB132_135 := n14_
        have NB135_132 := n15_
        have NB133_135 := n16_
        have NB135_133 := n17_
        have HB := n18_
        clear n0_ n1_ n2_ n3_ n4_ n5_ n6_ n7_ n8_ n9_ n10_ n11_ n12_ n13_ n14_ n15_ n16_ n17_ n18_
        have hHeld : w164.cell? ⟨gb132, 0, none⟩ = some (.int .i64 a0_0) ∧ w164.cell? ⟨gb132, 1, none⟩ = some (.int .i64 a0_1) ∧ w164.cell? ⟨gb132, 2, none⟩ = some (.int .i64 a0_2) ∧ w164.cell? ⟨gb132, 3, none⟩ = some (.int .i64 a0_3) ∧ w164.cell? ⟨gb132, 4, none⟩ = some (.int .i64 a0_4) ∧ w164.cell? ⟨gb132, 5, none⟩ = some (.int .i64 a0_5) ∧ w164.cell? ⟨gb132, 6, none⟩ = some (.int .i64 a0_6) ∧ w164.cell? ⟨gb132, 7, none⟩ = some (.slice A0_7 l0_7.length c0_7) ∧ w164.cell? ⟨gb133, 0, none⟩ = some (.int .i64 a1_0) ∧ w164.cell? ⟨gb133, 1, none⟩ = some (.int .i64 a1_1) ∧ w164.cell? ⟨gb133, 2, none⟩ = some (.int .i64 a1_2) ∧ w164.cell? ⟨gb133, 3, none⟩ = some (.int .i64 a1_3) ∧ w164.cell? ⟨gb133, 4, none⟩ = some (.int .i64 a1_4) ∧ w164.cell? ⟨gb133, 5, none⟩ = some (.int .i64 a1_5) ∧ w164.cell? ⟨gb133, 6, none⟩ = some (.int .i64 a1_6) ∧ w164.cell? ⟨gb133, 7, none⟩ = some (.slice A1_7 l1_7.length c1_7) := hS_
        refine norm_ (a' := ?_) ?_ ?_
        rotate_left
        · simp only [putAll, Act.put, la_, lb_, lc_]
          rfl
        refine one_ (i := 4) (N := none) #[true, true, true, true, true, false] rfl rfl (by kernel_rfl) (by decide) (fun K hK => ?_)
        have hs165 : w164.cell? ⟨gb134, 0, none⟩ = some (.int .i64 0) := (blk_cell BK134.out 0).trans rfl
        have hfs165 := blk_frozen BK134.out 0
        have hns165_0 := NB132_134.out
        have hns165_1 := NB133_134.out
        have hns165_3 := NB135_134.out
        have hms165_0 := NB134_132.out
        have hms165_1 := NB134_133.out
        have hms165_3 := NB134_135.out
        have hs166 : w164.cell? ⟨gb134, 1, none⟩ = some (.int .i64 0) := (blk_cell BK134.out 1).trans rfl
        have hfs166 := blk_frozen BK134.out 1
        have hns166_0 := NB132_134.out
        have hns166_1 := NB133_134.out
        have hns166_3 := NB135_134.out
        have hms166_0 := NB134_132.out
        have hms166_1 := NB134_133.out
        have hms166_3 := NB134_135.out
        have hs167 : w164.cell? ⟨gb134, 2, none⟩ = some (.int .i64 0) := (blk_cell BK134.out 2).trans rfl
        have hfs167 := blk_frozen BK134.out 2
        have hns167_0 := NB132_134.out
        have hns167_1 := NB133_134.out
        have hns167_3 := NB135_134.out
        have hms167_0 := NB134_132.out
        have hms167_1 := NB134_133.out
        have hms167_3 := NB134_135.out
        have hs168 : w164.cell? ⟨gb134, 3, none⟩ = some (.int .i64 0) := (blk_cell BK134.out 3).trans rfl
        have hfs168 := blk_frozen BK134.out 3
        have hns168_0 := NB132_134.out
        have hns168_1 := NB133_134.out
        have hns168_3 := NB135_134.out
        have hms168_0 := NB134_132.out
        have hms168_1 := NB134_133.out
        have hms168_3 := NB134_135.out
        have hs169 : w164.cell? ⟨gb134, 4, none⟩ = some (.int .i64 0) := (blk_cell BK134.out 4).trans rfl
        have hfs169 := blk_frozen BK134.out 4
        have hns169_0 := NB132_134.out
        have hns169_1 := NB133_134.out
        have hns169_3 := NB135_134.out
        have hms169_0 := NB134_132.out
        have hms169_1 := NB134_133.out
        have hms169_3 := NB134_135.out
        have hs170 : w164.cell? ⟨gb134, 5, none⟩ = some (.int .i64 0) := (blk_cell BK134.out 5).trans rfl
        have hfs170 := blk_frozen BK134.out 5
        have hns170_0 := NB132_134.out
        have hns170_1 := NB133_134.out
        have hns170_3 := NB135_134.out
        have hms170_0 := NB134_132.out
        have hms170_1 := NB134_133.out
        have hms170_3 := NB134_135.out
        have hs171 : w164.cell? ⟨gb134, 6, none⟩ = some (.int .i64 0) := (blk_cell BK134.out 6).trans rfl
        have hfs171 := blk_frozen BK134.out 6
        have hns171_0 := NB132_134.out
        have hns171_1 := NB133_134.out
        have hns171_3 := NB135_134.out
        have hms171_0 := NB134_132.out
        have hms171_1 := NB134_133.out
        have hms171_3 := NB134_135.out
        have hs172 : w164.cell? ⟨gb134, 7, none⟩ = some (.slice none 0 0) := (blk_cell BK134.out 7).trans rfl
        have hfs172 := blk_frozen BK134.out 7
        have hns172_0 := NB132_134.out
        have hns172_1 := NB133_134.out
        have hns172_3 := NB135_134.out
        have hms172_0 := NB134_132.out
        have hms172_1 := NB134_133.out
        have hms172_3 := NB134_135.out
        refine skip_ (w1 := ?_) ?_ ?_ ?_ ?_
        rotate_left
        · rfl
        · rfl
        · go_simp
          rfl
        refine hK.out _ _ ⟨(cfar_ hHeld.1), (cfar_ hHeld.2.1), (cfar_ hHeld.2.2.1), (cfar_ hHeld.2.2.2.1), (cfar_ hHeld.2.2.2.2.1), (cfar_ hHeld.2.2.2.2.2.1), (cfar_ hHeld.2.2.2.2.2.2.1), (cfar_ hHeld.2.2.2.2.2.2.2.1), (cfar_ hHeld.2.2.2.2.2.2.2.2.1), (cfar_ hHeld.2.2.2.2.2.2.2.2.2.1), (cfar_ hHeld.2.2.2.2.2.2.2.2.2.2.1), (cfar_ hHeld.2.2.2.2.2.2.2.2.2.2.2.1), (cfar_ hHeld.2.2.2.2.2.2.2.2.2.2.2.2.1), (cfar_ hHeld.2.2.2.2.2.2.2.2.2.2.2.2.2.1), (cfar_ hHeld.2.2.2.2.2.2.2.2.2.2.2.2.2.2.1), (cfar_ hHeld.2.2.2.2.2.2.2.2.2.2.2.2.2.2.2)⟩ (fun hHeld => ?_)
        clear hK K
        refine one_ (i := 5) (N := none) #[true, true, true, true, true, true] rfl rfl (by kernel_rfl) (by decide) (fun K hK => ?_)
        have hs173 : w164.cell? ⟨gb135, 0, none⟩ = some (.int .i64 0) := (blk_cell BK135.out 0).trans rfl
        have hfs173 := blk_frozen BK135.out 0
        have hns173_0 := NB132_135.out
        have hns173_1 := NB133_135.out
        have hns173_2 := NB134_135.out
        have hms173_0 := NB135_132.out
        have hms173_1 := NB135_133.out
        have hms173_2 := NB135_134.out
        have hs174 : w164.cell? ⟨gb135, 1, none⟩ = some (.int .i64 0) := (blk_cell BK135.out 1).trans rfl
        have hfs174 := blk_frozen BK135.out 1
        have hns174_0 := NB132_135.out
        have hns174_1 := NB133_135.out
        have hns174_2 := NB134_135.out
        have hms174_0 := NB135_132.out
        have hms174_1 := NB135_133.out
        have hms174_2 := NB135_134.out
        have hs175 : w164.cell? ⟨gb135, 2, none⟩ = some (.int .i64 0) := (blk_cell BK135.out 2).trans rfl
        have hfs175 := blk_frozen BK135.out 2
        have hns175_0 := NB132_135.out
        have hns175_1 := NB133_135.out
        have hns175_2 := NB134_135.out
        have hms175_0 := NB135_132.out
        have hms175_1 := NB135_133.out
        have hms175_2 := NB135_134.out
        have hs176 : w164.cell? ⟨gb135, 3, none⟩ = some (.int .i64 0) := (blk_cell BK135.out 3).trans rfl
        have hfs176 := blk_frozen BK135.out 3
        have hns176_0 := NB132_135.out
        have hns176_1 := NB133_135.out
        have hns176_2 := NB134_135.out
        have hms176_0 := NB135_132.out
        have hms176_1 := NB135_133.out
        have hms176_2 := NB135_134.out
        have hs177 : w164.cell? ⟨gb135, 4, none⟩ = some (.int .i64 0) := (blk_cell BK135.out 4).trans rfl
        have hfs177 := blk_frozen BK135.out 4
        have hns177_0 := NB132_135.out
        have hns177_1 := NB133_135.out
        have hns177_2 := NB134_135.out
        have hms177_0 := NB135_132.out
        have hms177_1 := NB135_133.out
        have hms177_2 := NB135_134.out
        have hs178 : w164.cell? ⟨gb135, 5, none⟩ = some (.int .i64 0) := (blk_cell BK135.out 5).trans rfl
        have hfs178 := blk_frozen BK135.out 5
        have hns178_0 := NB132_135.out
        have hns178_1 := NB133_135.out
        have hns178_2 := NB134_135.out
        have hms178_0 := NB135_132.out
        have hms178_1 := NB135_133.out
        have hms178_2 := NB135_134.out
        have hs179 : w164.cell? ⟨gb135, 6, none⟩ = some (.int .i64 0) := (blk_cell BK135.out 6).trans rfl
        have hfs179 := blk_frozen BK135.out 6
        have hns179_0 := NB132_135.out
        have hns179_1 := NB133_135.out
        have hns179_2 := NB134_135.out
        have hms179_0 := NB135_132.out
        have hms179_1 := NB135_133.out
        have hms179_2 := NB135_134.out
        have hs180 : w164.cell? ⟨gb135, 7, none⟩ = some (.slice none 0 0) := (blk_cell BK135.out 7).trans rfl
        have hfs180 := blk_frozen BK135.out 7
        have hns180_0 := NB132_135.out
        have hns180_1 := NB133_135.out
        have hns180_2 := NB134_135.out
        have hms180_0 := NB135_132.out
        have hms180_1 := NB135_133.out
        have hms180_2 := NB135_134.out
        refine skip_ (w1 := ?_) ?_ ?_ ?_ ?_
        rotate_left
        · rfl
        · rfl
        · go_simp
          rfl
        refine hK.out _ _ ⟨(cfar_ hHeld.1), (cfar_ hHeld.2.1), (cfar_ hHeld.2.2.1), (cfar_ hHeld.2.2.2.1), (cfar_ hHeld.2.2.2.2.1), (cfar_ hHeld.2.2.2.2.2.1), (cfar_ hHeld.2.2.2.2.2.2.1), (cfar_ hHeld.2.2.2.2.2.2.2.1), (cfar_ hHeld.2.2.2.2.2.2.2.2.1), (cfar_ hHeld.2.2.2.2.2.2.2.2.2.1), (cfar_ hHeld.2.2.2.2.2.2.2.2.2.2.1), (cfar_ hHeld.2.2.2.2.2.2.2.2.2.2.2.1), (cfar_ hHeld.2.2.2.2.2.2.2.2.2.2.2.2.1), (cfar_ hHeld.2.2.2.2.2.2.2.2.2.2.2.2.2.1), (cfar_ hHeld.2.2.2.2.2.2.2.2.2.2.2.2.2.2.1), (cfar_ hHeld.2.2.2.2.2.2.2.2.2.2.2.2.2.2.2)⟩ (fun hHeld => ?_)
        clear hK K
        refine done_ (by kernel_rfl) ?_
        have hnb181 := NB134_132.out
        have hnc181 := NB132_134.out
        have hnb182 := NB134_133.out
        have hnc182 := NB133_134.out
        have hnb183 := NB134_135.out
        have hnc183 := NB135_134.out
        have hcz184_0 : w164.cell? ⟨gb134, 0, none⟩ = some (.int .i64 0) := bc_
        have hcz184_1 : w164.cell? ⟨gb134, 1, none⟩ = some (.int .i64 0) := bc_
        have hcz184_2 : w164.cell? ⟨gb134, 2, none⟩ = some (.int .i64 0) := bc_
        have hcz184_3 : w164.cell? ⟨gb134, 3, none⟩ = some (.int .i64 0) := bc_
        have hcz184_4 : w164.cell? ⟨gb134, 4, none⟩ = some (.int .i64 0) := bc_
        have hcz184_5 : w164.cell? ⟨gb134, 5, none⟩ = some (.int .i64 0) := bc_
        have hcz184_6 : w164.cell? ⟨gb134, 6, none⟩ = some (.int .i64 0) := bc_
        have hcz184_7 : w164.cell? ⟨gb134, 7, none⟩ = some (.slice none 0 0) := bc_
        have hfz184_0 := blk_frozen BK134.out 0
        have hfz184_1 := blk_frozen BK134.out 1
        have hfz184_2 := blk_frozen BK134.out 2
        have hfz184_3 := blk_frozen BK134.out 3
        have hfz184_4 := blk_frozen BK134.out 4
        have hfz184_5 := blk_frozen BK134.out 5
        have hfz184_6 := blk_frozen BK134.out 6
        have hfz184_7 := blk_frozen BK134.out 7
        have hnb185 := NB135_132.out
        have hnc185 := NB132_135.out
        have hnb186 := NB135_133.out
        have hnc186 := NB133_135.out
        have hcz187_0 : w164.cell? ⟨gb135, 0, none⟩ = some (.int .i64 0) := bc_
        have hcz187_1 : w164.cell? ⟨gb135, 1, none⟩ = some (.int .i64 0) := bc_
        have hcz187_2 : w164.cell? ⟨gb135, 2, none⟩ = some (.int .i64 0) := bc_
        have hcz187_3 : w164.cell? ⟨gb135, 3, none⟩ = some (.int .i64 0) := bc_
        have hcz187_4 : w164.cell? ⟨gb135, 4, none⟩ = some (.int .i64 0) := bc_
        have hcz187_5 : w164.cell? ⟨gb135, 5, none⟩ = some (.int .i64 0) := bc_
        have hcz187_6 : w164.cell? ⟨gb135, 6, none⟩ = some (.int .i64 0) := bc_
        have hcz187_7 : w164.cell? ⟨gb135, 7, none⟩ = some (.slice none 0 0) := bc_
        have hfz187_0 := blk_frozen BK135.out 0
        have hfz187_1 := blk_frozen BK135.out 1
        have hfz187_2 := blk_frozen BK135.out 2
        have hfz187_3 := blk_frozen BK135.out 3
        have hfz187_4 := blk_frozen BK135.out 4
        have hfz187_5 := blk_frozen BK135.out 5
        have hfz187_6 := blk_frozen BK135.out 6
        have hfz187_7 := blk_frozen BK135.out 7
        try go_wp2
        go_ret
        exact ⟨by first | rfl | (simp [errW_none, errW_some] <;> rfl) | (simp [*, errW_none, errW_some] <;> rfl), by repeat (first | (with_reducible first | exact HB.out | apply below_alloc | apply pw_below_drewN | apply below_drew1 | refine below_set ?_ GE132.out | refine below_set ?_ GE133.out | refine below_set ?_ GE134.out | refine below_set ?_ GE135.out) | exact HB.out)⟩
    · rw [if_neg c4] at H
      have c4b0 : (a0_1 == a1_1) = false := beq_eq_false_iff_ne.mpr c4
      have c4b1 : (a0_1 != a1_1) = true := bne_iff_ne.mpr c4
      obtain rfl := Option.some.inj H
      go_enter Try.func17, Try.ntmps17
      try go_wp2_with (first | ((with_reducible refine gate_dst (N := 2) rfl ?_); refine box_event ?hg (N := 2) ?hd (cs := #[.int .i64 a0_0, .int .i64 a0_1, .int .i64 a0_2, .int .i64 a0_3, .int .i64 a0_4, .int .i64 a0_5, .int .i64 a0_6, .slice A0_7 l0_7.length c0_7]) (t := 27) ?hr ?_; (case hd => rfl); (case hg => rfl); (case hr => first | (go_simp; done) | (go_simp; rfl)); intro gb132 hg w188 hbox hb; have n0_ := Aside0.mk (below_step bel_ hb); have n1_ := Aside0.mk (hbox); have n2_ := bs_ (w := w) hg; have n3_ := bs_ (w := w) hg; clear HB; have HB := n0_; have BK132 := n1_; have GW132 := n2_; have GE132 := n3_; clear n0_ n1_ n2_ n3_; clear hb hbox hg) | ((with_reducible refine gate_dst (N := 3) rfl ?_); refine box_event ?hg (N := 3) ?hd (cs := #[.int .i64 a1_0, .int .i64 a1_1, .int .i64 a1_2, .int .i64 a1_3, .int .i64 a1_4, .int .i64 a1_5, .int .i64 a1_6, .slice A1_7 l1_7.length c1_7]) (t := 27) ?hr ?_; (case hd => rfl); (case hg => rfl); (case hr => first | (go_simp; done) | (go_simp; rfl)); intro gb133 hg w189 hbox hb; have n0_ := bb_ (g := gb132) (o := .cells #[.int .i64 a0_0, .int .i64 a0_1, .int .i64 a0_2, .int .i64 a0_3, .int .i64 a0_4, .int .i64 a0_5, .int .i64 a0_6, .slice A0_7 l0_7.length c0_7] 27 (0, 0)) hb; have n1_ := Aside0.mk (below_step bel_ hb); have n2_ := Aside0.mk (hbox); have n3_ := bs_ (w := w) hg; have n4_ := bs_ (w := w) hg; have n5_ := nlt_ (g := gb132) (o := .cells #[.int .i64 a0_0, .int .i64 a0_1, .int .i64 a0_2, .int .i64 a0_3, .int .i64 a0_4, .int .i64 a0_5, .int .i64 a0_6, .slice A0_7 l0_7.length c0_7] 27 (0, 0)) hg; have n6_ := ngt_ (g := gb132) (o := .cells #[.int .i64 a0_0, .int .i64 a0_1, .int .i64 a0_2, .int .i64 a0_3, .int .i64 a0_4, .int .i64 a0_5, .int .i64 a0_6, .slice A0_7 l0_7.length c0_7] 27 (0, 0)) hg; clear BK132; clear HB; have BK132 := n0_; have HB := n1_; have BK133 := n2_; have GW133 := n3_; have GE133 := n4_; have NB132_133 := n5_; have NB133_132 := n6_; clear n0_ n1_ n2_ n3_ n4_ n5_ n6_; clear hb hbox hg))
      have n0_ := Aside0.mk (blk_drew BK132.out)
      have n1_ := Aside0.mk (blk_drew BK133.out)
      have n2_ := Aside0.mk (below_drew1 HB.out)
      clear BK132
      clear BK133
      clear HB
      have BK132 := n0_
      have BK133 := n1_
      have HB := n2_
      clear n0_ n1_ n2_
      refine start_ (n := 6) (S := fun w' => w'.cell? ⟨gb132, 0, none⟩ = some (.int .i64 a0_0) ∧ w'.cell? ⟨gb132, 1, none⟩ = some (.int .i64 a0_1) ∧ w'.cell? ⟨gb132, 2, none⟩ = some (.int .i64 a0_2) ∧ w'.cell? ⟨gb132, 3, none⟩ = some (.int .i64 a0_3) ∧ w'.cell? ⟨gb132, 4, none⟩ = some (.int .i64 a0_4) ∧ w'.cell? ⟨gb132, 5, none⟩ = some (.int .i64 a0_5) ∧ w'.cell? ⟨gb132, 6, none⟩ = some (.int .i64 a0_6) ∧ w'.cell? ⟨gb132, 7, none⟩ = some (.slice A0_7 l0_7.length c0_7) ∧ w'.cell? ⟨gb133, 0, none⟩ = some (.int .i64 a1_0) ∧ w'.cell? ⟨gb133, 1, none⟩ = some (.int .i64 a1_1) ∧ w'.cell? ⟨gb133, 2, none⟩ = some (.int .i64 a1_2) ∧ w'.cell? ⟨gb133, 3, none⟩ = some (.int .i64 a1_3) ∧ w'.cell? ⟨gb133, 4, none⟩ = some (.int .i64 a1_4) ∧ w'.cell? ⟨gb133, 5, none⟩ = some (.int .i64 a1_5) ∧ w'.cell? ⟨gb133, 6, none⟩ = some (.int .i64 a1_6) ∧ w'.cell? ⟨gb133, 7, none⟩ = some (.slice A1_7 l1_7.length c1_7)) (ds := []) #[false, false, false, false, false, false] (by kernel_rfl) rfl rfl ⟨bc_, bc_, bc_, bc_, bc_, bc_, bc_, bc_, bc_, bc_, bc_, bc_, bc_, bc_, bc_, bc_⟩ (fun hHeld => ?_)
      generalize w189.drew = w190 at BK132 BK133 HB hHeld ⊢
      refine take_ (i := 0) (N := some 7) (v := ?_) (a' := ?_) #[true, false, false, false, false, false] rfl rfl (by kernel_rfl) (fun _ _ _ h => h) (Or.inl ⟨by rfl, ?_⟩) hHeld ?_ ?_
      rotate_left
      · rintro w' ⟨s0, s1, s2, s3, s4, s5, s6, s7, s8, s9, s10, s11, s12, s13, s14, s15⟩
        go_simp
        with_reducible rfl
      rotate_left
      · simp only [Act.put, la_, lb_, lc_, i64_w, i32_w]
        rfl
      refine take_ (i := 1) (N := some 8) (v := ?_) (a' := ?_) #[true, true, false, false, false, false] rfl rfl (by kernel_rfl) (fun _ _ _ h => h) (Or.inl ⟨by rfl, ?_⟩) hHeld ?_ ?_
      rotate_left
      · rintro w' ⟨s0, s1, s2, s3, s4, s5, s6, s7, s8, s9, s10, s11, s12, s13, s14, s15⟩
        go_simp
        with_reducible rfl
      rotate_left
      · simp only [Act.put, la_, lb_, lc_, i64_w, i32_w]
        rfl
      refine join_ (σ := Nat × Nat) 2 #[true, true, true, true, false, false] (fun s_ => [(5, .pointer (some ⟨s_.1, 0, none⟩)), (6, .pointer (some ⟨s_.2, 0, none⟩))]) (fun s_ w' => (w'.cell? ⟨gb132, 0, none⟩ = some (.int .i64 a0_0) ∧ w'.cell? ⟨gb132, 1, none⟩ = some (.int .i64 a0_1) ∧ w'.cell? ⟨gb132, 2, none⟩ = some (.int .i64 a0_2) ∧ w'.cell? ⟨gb132, 3, none⟩ = some (.int .i64 a0_3) ∧ w'.cell? ⟨gb132, 4, none⟩ = some (.int .i64 a0_4) ∧ w'.cell? ⟨gb132, 5, none⟩ = some (.int .i64 a0_5) ∧ w'.cell? ⟨gb132, 6, none⟩ = some (.int .i64 a0_6) ∧ w'.cell? ⟨gb132, 7, none⟩ = some (.slice A0_7 l0_7.length c0_7) ∧ w'.cell? ⟨gb133, 0, none⟩ = some (.int .i64 a1_0) ∧ w'.cell? ⟨gb133, 1, none⟩ = some (.int .i64 a1_1) ∧ w'.cell? ⟨gb133, 2, none⟩ = some (.int .i64 a1_2) ∧ w'.cell? ⟨gb133, 3, none⟩ = some (.int .i64 a1_3) ∧ w'.cell? ⟨gb133, 4, none⟩ = some (.int .i64 a1_4) ∧ w'.cell? ⟨gb133, 5, none⟩ = some (.int .i64 a1_5) ∧ w'.cell? ⟨gb133, 6, none⟩ = some (.int .i64 a1_6) ∧ w'.cell? ⟨gb133, 7, none⟩ = some (.slice A1_7 l1_7.length c1_7)) ∧ (w'.heap[gb132]? = some (.cells #[.int .i64 a0_0, .int .i64 a0_1, .int .i64 a0_2, .int .i64 a0_3, .int .i64 a0_4, .int .i64 a0_5, .int .i64 a0_6, .slice A0_7 l0_7.length c0_7] 27 (0, 0))) ∧ (w'.heap[gb133]? = some (.cells #[.int .i64 a1_0, .int .i64 a1_1, .int .i64 a1_2, .int .i64 a1_3, .int .i64 a1_4, .int .i64 a1_5, .int .i64 a1_6, .slice A1_7 l1_7.length c1_7] 27 (0, 0))) ∧ (w'.heap[s_.1]? = some (.cells #[.int .i64 0, .int .i64 0, .int .i64 0, .int .i64 0, .int .i64 0, .int .i64 0, .int .i64 0, .slice none 0 0] 27 (0, 0))) ∧ (w'.heap[s_.2]? = some (.cells #[.int .i64 0, .int .i64 0, .int .i64 0, .int .i64 0, .int .i64 0, .int .i64 0, .int .i64 0, .slice none 0 0] 27 (0, 0))) ∧ (w.heap.size ≤ s_.1) ∧ (w.heap.size ≤ s_.1) ∧ (gb132 ≠ s_.1) ∧ (s_.1 ≠ gb132) ∧ (gb133 ≠ s_.1) ∧ (s_.1 ≠ gb133) ∧ (s_.2 ≠ s_.1) ∧ (s_.1 ≠ s_.2) ∧ (w.heap.size ≤ s_.2) ∧ (w.heap.size ≤ s_.2) ∧ (gb132 ≠ s_.2) ∧ (s_.2 ≠ gb132) ∧ (gb133 ≠ s_.2) ∧ (s_.2 ≠ gb133) ∧ (Below w.heap.size w w')) ?_ ?_
      rotate_left
      · intro hCont
        refine two_ (i := 2) (j := 3) (Ni := some 5) (Nj := some 6) #[true, true, true, false, false, false] #[true, true, false, true, false, false] rfl rfl rfl rfl (by kernel_rfl) (by decide) (by decide) (fun K hK => ?_) (fun K hK => ?_)
        · skip
          refine box_step ?hg (N := 5) ?hd (cs := #[.int .i64 0, .int .i64 0, .int .i64 0, .int .i64 0, .int .i64 0, .int .i64 0, .int .i64 0, .slice none 0 0]) (t := 27) ?hr ?_; (case hd => rfl); (case hg => rfl); (case hr => first | (go_simp; done) | (go_simp; rfl))
          intro gb134 hg w191 hbox hb
          have n0_ := bb_ (g := gb132) (o := .cells #[.int .i64 a0_0, .int .i64 a0_1, .int .i64 a0_2, .int .i64 a0_3, .int .i64 a0_4, .int .i64 a0_5, .int .i64 a0_6, .slice A0_7 l0_7.length c0_7] 27 (0, 0)) hb
          have n1_ := bb_ (g := gb133) (o := .cells #[.int .i64 a1_0, .int .i64 a1_1, .int .i64 a1_2, .int .i64 a1_3, .int .i64 a1_4, .int .i64 a1_5, .int .i64 a1_6, .slice A1_7 l1_7.length c1_7] 27 (0, 0)) hb
          have n2_ := Aside0.mk (below_step bel_ hb)
          have n3_ := Aside0.mk (hbox)
          have n4_ := bs_ (w := w) hg
          have n5_ := bs_ (w := w) hg
          have n6_ := nlt_ (g := gb132) (o := .cells #[.int .i64 a0_0, .int .i64 a0_1, .int .i64 a0_2, .int .i64 a0_3, .int .i64 a0_4, .int .i64 a0_5, .int .i64 a0_6, .slice A0_7 l0_7.length c0_7] 27 (0, 0)) hg
          have n7_ := ngt_ (g := gb132) (o := .cells #[.int .i64 a0_0, .int .i64 a0_1, .int .i64 a0_2, .int .i64 a0_3, .int .i64 a0_4, .int .i64 a0_5, .int .i64 a0_6, .slice A0_7 l0_7.length c0_7] 27 (0, 0)) hg
          have n8_ := nlt_ (g := gb133) (o := .cells #[.int .i64 a1_0, .int .i64 a1_1, .int .i64 a1_2, .int .i64 a1_3, .int .i64 a1_4, .int .i64 a1_5, .int .i64 a1_6, .slice A1_7 l1_7.length c1_7] 27 (0, 0)) hg
          have n9_ := ngt_ (g := gb133) (o := .cells #[.int .i64 a1_0, .int .i64 a1_1, .int .i64 a1_2, .int .i64 a1_3, .int .i64 a1_4, .int .i64 a1_5, .int .i64 a1_6, .slice A1_7 l1_7.length c1_7] 27 (0, 0)) hg
          clear BK132
          clear BK133
          clear HB
          have BK132 := n0_
          have BK133 := n1_
          have HB := n2_
          have BK134 := n3_
          have GW134 := n4_
          have GE134 := n5_
          have NB132_134 := n6_
          have NB134_132 := n7_
          have NB133_134 := n8_
          have NB134_133 := n9_
          clear n0_ n1_ n2_ n3_ n4_ n5_ n6_ n7_ n8_ n9_
          clear hb hbox hg
          refine hK.out _ _ ⟨bc_, bc_, bc_, bc_, bc_, bc_, bc_, bc_, bc_, bc_, bc_, bc_, bc_, bc_, bc_, bc_⟩ (fun hHeld => ?_)
          clear hK K
          refine norm_ (a' := ?_) ?_ ?_
          rotate_left
          · show Act.put _ (some 5) _ = _
            simp only [Act.put, la_, lb_, lc_, i64_w, i32_w]
            rfl
          refine one_ (i := 3) (N := some 6) #[true, true, true, true, false, false] rfl rfl (by kernel_rfl) (by decide) (fun K hK => ?_)
          refine box_step ?hg (N := 6) ?hd (cs := #[.int .i64 0, .int .i64 0, .int .i64 0, .int .i64 0, .int .i64 0, .int .i64 0, .int .i64 0, .slice none 0 0]) (t := 27) ?hr ?_; (case hd => rfl); (case hg => rfl); (case hr => first | (go_simp; done) | (go_simp; rfl))
          intro gb135 hg w192 hbox hb
          have n0_ := bb_ (g := gb132) (o := .cells #[.int .i64 a0_0, .int .i64 a0_1, .int .i64 a0_2, .int .i64 a0_3, .int .i64 a0_4, .int .i64 a0_5, .int .i64 a0_6, .slice A0_7 l0_7.length c0_7] 27 (0, 0)) hb
          have n1_ := bb_ (g := gb133) (o := .cells #[.int .i64 a1_0, .int .i64 a1_1, .int .i64 a1_2, .int .i64 a1_3, .int .i64 a1_4, .int .i64 a1_5, .int .i64 a1_6, .slice A1_7 l1_7.length c1_7] 27 (0, 0)) hb
          have n2_ := bb_ (g := gb134) (o := .cells #[.int .i64 0, .int .i64 0, .int .i64 0, .int .i64 0, .int .i64 0, .int .i64 0, .int .i64 0, .slice none 0 0] 27 (0, 0)) hb
          have n3_ := Aside0.mk (below_step bel_ hb)
          have n4_ := Aside0.mk (hbox)
          have n5_ := bs_ (w := w) hg
          have n6_ := bs_ (w := w) hg
          have n7_ := nlt_ (g := gb132) (o := .cells #[.int .i64 a0_0, .int .i64 a0_1, .int .i64 a0_2, .int .i64 a0_3, .int .i64 a0_4, .int .i64 a0_5, .int .i64 a0_6, .slice A0_7 l0_7.length c0_7] 27 (0, 0)) hg
          have n8_ := ngt_ (g := gb132) (o := .cells #[.int .i64 a0_0, .int .i64 a0_1, .int .i64 a0_2, .int .i64 a0_3, .int .i64 a0_4, .int .i64 a0_5, .int .i64 a0_6, .slice A0_7 l0_7.length c0_7] 27 (0, 0)) hg
          have n9_ := nlt_ (g := gb133) (o := .cells #[.int .i64 a1_0, .int .i64 a1_1, .int .i64 a1_2, .int .i64 a1_3, .int .i64 a1_4, .int .i64 a1_5, .int .i64 a1_6, .slice A1_7 l1_7.length c1_7] 27 (0, 0)) hg
          have n10_ := ngt_ (g := gb133) (o := .cells #[.int .i64 a1_0, .int .i64 a1_1, .int .i64 a1_2, .int .i64 a1_3, .int .i64 a1_4, .int .i64 a1_5, .int .i64 a1_6, .slice A1_7 l1_7.length c1_7] 27 (0, 0)) hg
          have n11_ := nlt_ (g := gb134) (o := .cells #[.int .i64 0, .int .i64 0, .int .i64 0, .int .i64 0, .int .i64 0, .int .i64 0, .int .i64 0, .slice none 0 0] 27 (0, 0)) hg
          have n12_ := ngt_ (g := gb134) (o := .cells #[.int .i64 0, .int .i64 0, .int .i64 0, .int .i64 0, .int .i64 0, .int .i64 0, .int .i64 0, .slice none 0 0] 27 (0, 0)) hg
          clear BK132
          clear BK133
          clear BK134
          clear HB
          have BK132 := n0_
          have BK133 := n1_
          have BK134 := n2_
          have HB := n3_
          have BK135 := n4_
          have GW135 := n5_
          have GE135 := n6_
          have NB132_135 := n7_
          have NB135_132 := n8_
          have NB133_135 := n9_
          have NB135_133 := n10_
          have NB134_135 := n11_
          have NB135_134 := n12_
          clear n0_ n1_ n2_ n3_ n4_ n5_ n6_ n7_ n8_ n9_ n10_ n11_ n12_
          clear hb hbox hg
          refine hK.out _ _ ⟨bc_, bc_, bc_, bc_, bc_, bc_, bc_, bc_, bc_, bc_, bc_, bc_, bc_, bc_, bc_, bc_⟩ (fun hHeld => ?_)
          clear hK K
          refine norm_ (a' := ?_) ?_ ?_
          rotate_left
          · show Act.put _ (some 6) _ = _
            simp only [Act.put, la_, lb_, lc_, i64_w, i32_w]
            rfl
          exact norm_ (by simp only [putAll, Act.put, la_, lb_, lc_]) (hCont (gb134, gb135) _ ⟨hHeld, bk_, bk_, bk_, bk_, GW134.out, GE134.out, NB132_134.out, NB134_132.out, NB133_134.out, NB134_133.out, NB135_134.out, NB134_135.out, GW135.out, GE135.out, NB132_135.out, NB135_132.out, NB133_135.out, NB135_133.out, bel_⟩)
        · skip
          refine box_step ?hg (N := 6) ?hd (cs := #[.int .i64 0, .int .i64 0, .int .i64 0, .int .i64 0, .int .i64 0, .int .i64 0, .int .i64 0, .slice none 0 0]) (t := 27) ?hr ?_; (case hd => rfl); (case hg => rfl); (case hr => first | (go_simp; done) | (go_simp; rfl))
          intro gb135 hg w191 hbox hb
          have n0_ := bb_ (g := gb132) (o := .cells #[.int .i64 a0_0, .int .i64 a0_1, .int .i64 a0_2, .int .i64 a0_3, .int .i64 a0_4, .int .i64 a0_5, .int .i64 a0_6, .slice A0_7 l0_7.length c0_7] 27 (0, 0)) hb
          have n1_ := bb_ (g := gb133) (o := .cells #[.int .i64 a1_0, .int .i64 a1_1, .int .i64 a1_2, .int .i64 a1_3, .int .i64 a1_4, .int .i64 a1_5, .int .i64 a1_6, .slice A1_7 l1_7.length c1_7] 27 (0, 0)) hb
          have n2_ := Aside0.mk (below_step bel_ hb)
          have n3_ := Aside0.mk (hbox)
          have n4_ := bs_ (w := w) hg
          have n5_ := bs_ (w := w) hg
          have n6_ := nlt_ (g := gb132) (o := .cells #[.int .i64 a0_0, .int .i64 a0_1, .int .i64 a0_2, .int .i64 a0_3, .int .i64 a0_4, .int .i64 a0_5, .int .i64 a0_6, .slice A0_7 l0_7.length c0_7] 27 (0, 0)) hg
          have n7_ := ngt_ (g := gb132) (o := .cells #[.int .i64 a0_0, .int .i64 a0_1, .int .i64 a0_2, .int .i64 a0_3, .int .i64 a0_4, .int .i64 a0_5, .int .i64 a0_6, .slice A0_7 l0_7.length c0_7] 27 (0, 0)) hg
          have n8_ := nlt_ (g := gb133) (o := .cells #[.int .i64 a1_0, .int .i64 a1_1, .int .i64 a1_2, .int .i64 a1_3, .int .i64 a1_4, .int .i64 a1_5, .int .i64 a1_6, .slice A1_7 l1_7.length c1_7] 27 (0, 0)) hg
          have n9_ := ngt_ (g := gb133) (o := .cells #[.int .i64 a1_0, .int .i64 a1_1, .int .i64 a1_2, .int .i64 a1_3, .int .i64 a1_4, .int .i64 a1_5, .int .i64 a1_6, .slice A1_7 l1_7.length c1_7] 27 (0, 0)) hg
          clear BK132
          clear BK133
          clear HB
          have BK132 := n0_
          have BK133 := n1_
          have HB := n2_
          have BK135 := n3_
          have GW135 := n4_
          have GE135 := n5_
          have NB132_135 := n6_
          have NB135_132 := n7_
          have NB133_135 := n8_
          have NB135_133 := n9_
          clear n0_ n1_ n2_ n3_ n4_ n5_ n6_ n7_ n8_ n9_
          clear hb hbox hg
          refine hK.out _ _ ⟨bc_, bc_, bc_, bc_, bc_, bc_, bc_, bc_, bc_, bc_, bc_, bc_, bc_, bc_, bc_, bc_⟩ (fun hHeld => ?_)
          clear hK K
          refine norm_ (a' := ?_) ?_ ?_
          rotate_left
          · show Act.put _ (some 6) _ = _
            simp only [Act.put, la_, lb_, lc_, i64_w, i32_w]
            rfl
          refine one_ (i := 2) (N := some 5) #[true, true, true, true, false, false] rfl rfl (by kernel_rfl) (by decide) (fun K hK => ?_)
          refine box_step ?hg (N := 5) ?hd (cs := #[.int .i64 0, .int .i64 0, .int .i64 0, .int .i64 0, .int .i64 0, .int .i64 0, .int .i64 0, .slice none 0 0]) (t := 27) ?hr ?_; (case hd => rfl); (case hg => rfl); (case hr => first | (go_simp; done) | (go_simp; rfl))
          intro gb134 hg w192 hbox hb
          have n0_ := bb_ (g := gb132) (o := .cells #[.int .i64 a0_0, .int .i64 a0_1, .int .i64 a0_2, .int .i64 a0_3, .int .i64 a0_4, .int .i64 a0_5, .int .i64 a0_6, .slice A0_7 l0_7.length c0_7] 27 (0, 0)) hb
          have n1_ := bb_ (g := gb133) (o := .cells #[.int .i64 a1_0, .int .i64 a1_1, .int .i64 a1_2, .int .i64 a1_3, .int .i64 a1_4, .int .i64 a1_5, .int .i64 a1_6, .slice A1_7 l1_7.length c1_7] 27 (0, 0)) hb
          have n2_ := bb_ (g := gb135) (o := .cells #[.int .i64 0, .int .i64 0, .int .i64 0, .int .i64 0, .int .i64 0, .int .i64 0, .int .i64 0, .slice none 0 0] 27 (0, 0)) hb
          have n3_ := Aside0.mk (below_step bel_ hb)
          have n4_ := Aside0.mk (hbox)
          have n5_ := bs_ (w := w) hg
          have n6_ := bs_ (w := w) hg
          have n7_ := nlt_ (g := gb132) (o := .cells #[.int .i64 a0_0, .int .i64 a0_1, .int .i64 a0_2, .int .i64 a0_3, .int .i64 a0_4, .int .i64 a0_5, .int .i64 a0_6, .slice A0_7 l0_7.length c0_7] 27 (0, 0)) hg
          have n8_ := ngt_ (g := gb132) (o := .cells #[.int .i64 a0_0, .int .i64 a0_1, .int .i64 a0_2, .int .i64 a0_3, .int .i64 a0_4, .int .i64 a0_5, .int .i64 a0_6, .slice A0_7 l0_7.length c0_7] 27 (0, 0)) hg
          have n9_ := nlt_ (g := gb133) (o := .cells #[.int .i64 a1_0, .int .i64 a1_1, .int .i64 a1_2, .int .i64 a1_3, .int .i64 a1_4, .int .i64 a1_5, .int .i64 a1_6, .slice A1_7 l1_7.length c1_7] 27 (0, 0)) hg
          have n10_ := ngt_ (g := gb133) (o := .cells #[.int .i64 a1_0, .int .i64 a1_1, .int .i64 a1_2, .int .i64 a1_3, .int .i64 a1_4, .int .i64 a1_5, .int .i64 a1_6, .slice A1_7 l1_7.length c1_7] 27 (0, 0)) hg
          have n11_ := nlt_ (g := gb135) (o := .cells #[.int .i64 0, .int .i64 0, .int .i64 0, .int .i64 0, .int .i64 0, .int .i64 0, .int .i64 0, .slice none 0 0] 27 (0, 0)) hg
          have n12_ := ngt_ (g := gb135) (o := .cells #[.int .i64 0, .int .i64 0, .int .i64 0, .int .i64 0, .int .i64 0, .int .i64 0, .int .i64 0, .slice none 0 0] 27 (0, 0)) hg
          clear BK132
          clear BK133
          clear BK135
          clear HB
          have BK132 := n0_
          have BK133 := n1_
          have BK135 := n2_
          have HB := n3_
          have BK134 := n4_
          have GW134 := n5_
          have GE134 := n6_
          have NB132_134 := n7_
          have NB134_132 := n8_
          have NB133_134 := n9_
          have NB134_133 := n10_
          have NB135_134 := n11_
          have NB134_135 := n12_
          clear n0_ n1_ n2_ n3_ n4_ n5_ n6_ n7_ n8_ n9_ n10_ n11_ n12_
          clear hb hbox hg
          refine hK.out _ _ ⟨bc_, bc_, bc_, bc_, bc_, bc_, bc_, bc_, bc_, bc_, bc_, bc_, bc_, bc_, bc_, bc_⟩ (fun hHeld => ?_)
          clear hK K
          refine norm_ (a' := ?_) ?_ ?_
          rotate_left
          · show Act.put _ (some 5) _ = _
            simp only [Act.put, la_, lb_, lc_, i64_w, i32_w]
            rfl
          exact norm_ (by simp only [putAll, Act.put, la_, lb_, lc_]) (hCont (gb134, gb135) _ ⟨hHeld, bk_, bk_, bk_, bk_, GW134.out, GE134.out, NB132_134.out, NB134_132.out, NB133_134.out, NB134_133.out, NB135_134.out, NB134_135.out, GW135.out, GE135.out, NB132_135.out, NB135_132.out, NB133_135.out, NB135_133.out, bel_⟩)
      rintro ⟨gb134, gb135⟩ w193 ⟨hS_, h0_, h1_, h2_, h3_, h4_, h5_, h6_, h7_, h8_, h9_, h10_, h11_, h12_, h13_, h14_, h15_, h16_, h17_, h18_⟩
      have n0_ : Aside0 (w193.heap[gb132]? = some (.cells #[.int .i64 a0_0, .int .i64 a0_1, .int .i64 a0_2, .int .i64 a0_3, .int .i64 a0_4, .int .i64 a0_5, .int .i64 a0_6, .slice A0_7 l0_7.length c0_7] 27 (0, 0))) := ⟨h0_⟩
      have n1_ : Aside0 (w193.heap[gb133]? = some (.cells #[.int .i64 a1_0, .int .i64 a1_1, .int .i64 a1_2, .int .i64 a1_3, .int .i64 a1_4, .int .i64 a1_5, .int .i64 a1_6, .slice A1_7 l1_7.length c1_7] 27 (0, 0))) := ⟨h1_⟩
      have n2_ : Aside0 (w193.heap[gb134]? = some (.cells #[.int .i64 0, .int .i64 0, .int .i64 0, .int .i64 0, .int .i64 0, .int .i64 0, .int .i64 0, .slice none 0 0] 27 (0, 0))) := ⟨h2_⟩
      have n3_ : Aside0 (w193.heap[gb135]? = some (.cells #[.int .i64 0, .int .i64 0, .int .i64 0, .int .i64 0, .int .i64 0, .int .i64 0, .int .i64 0, .slice none 0 0] 27 (0, 0))) := ⟨h3_⟩
      have n4_ : Aside0 (w.heap.size ≤ gb134) := ⟨h4_⟩
      have n5_ : Aside0 (w.heap.size ≤ gb134) := ⟨h5_⟩
      have n6_ : Aside0 (gb132 ≠ gb134) := ⟨h6_⟩
      have n7_ : Aside0 (gb134 ≠ gb132) := ⟨h7_⟩
      have n8_ : Aside0 (gb133 ≠ gb134) := ⟨h8_⟩
      have n9_ : Aside0 (gb134 ≠ gb133) := ⟨h9_⟩
      have n10_ : Aside0 (gb135 ≠ gb134) := ⟨h10_⟩
      have n11_ : Aside0 (gb134 ≠ gb135) := ⟨h11_⟩
      have n12_ : Aside0 (w.heap.size ≤ gb135) := ⟨h12_⟩
      have n13_ : Aside0 (w.heap.size ≤ gb135) := ⟨h13_⟩
      have n14_ : Aside0 (gb132 ≠ gb135) := ⟨h14_⟩
      have n15_ : Aside0 (gb135 ≠ gb132) := ⟨h15_⟩
      have n16_ : Aside0 (gb133 ≠ gb135) := ⟨h16_⟩
      have n17_ : Aside0 (gb135 ≠ gb133) := ⟨h17_⟩
      have n18_ : Aside0 (Below w.heap.size w w193) := ⟨h18_⟩
      clear BK132
      clear BK133
      clear HB
      clear h0_ h1_ h2_ h3_ h4_ h5_ h6_ h7_ h8_ h9_ h10_ h11_ h12_ h13_ h14_ h15_ h16_ h17_ h18_
      have BK132 := n0_
      have BK133 := n1_
      have BK134 := n2_
      have BK135 := n3_
      have GW134 := n4_
      have GE134 := n5_
      have NB132_134 := n6_
      have NB134_132 := n7_
      have NB133_134 := n8_
      have NB134_133 := n9_
      have NB135_134 := n10_
      have NB134_135 := n11_
      have GW135 := n12_
      have GE135 := n13_
      have NB132_135 := n14_
      have NB135_132 := n15_
      have NB133_135 := n16_
      have NB135_133 := n17_
      have HB := n18_
      clear n0_ n1_ n2_ n3_ n4_ n5_ n6_ n7_ n8_ n9_ n10_ n11_ n12_ n13_ n14_ n15_ n16_ n17_ n18_
      have hHeld : w193.cell? ⟨gb132, 0, none⟩ = some (.int .i64 a0_0) ∧ w193.cell? ⟨gb132, 1, none⟩ = some (.int .i64 a0_1) ∧ w193.cell? ⟨gb132, 2, none⟩ = some (.int .i64 a0_2) ∧ w193.cell? ⟨gb132, 3, none⟩ = some (.int .i64 a0_3) ∧ w193.cell? ⟨gb132, 4, none⟩ = some (.int .i64 a0_4) ∧ w193.cell? ⟨gb132, 5, none⟩ = some (.int .i64 a0_5) ∧ w193.cell? ⟨gb132, 6, none⟩ = some (.int .i64 a0_6) ∧ w193.cell? ⟨gb132, 7, none⟩ = some (.slice A0_7 l0_7.length c0_7) ∧ w193.cell? ⟨gb133, 0, none⟩ = some (.int .i64 a1_0) ∧ w193.cell? ⟨gb133, 1, none⟩ = some (.int .i64 a1_1) ∧ w193.cell? ⟨gb133, 2, none⟩ = some (.int .i64 a1_2) ∧ w193.cell? ⟨gb133, 3, none⟩ = some (.int .i64 a1_3) ∧ w193.cell? ⟨gb133, 4, none⟩ = some (.int .i64 a1_4) ∧ w193.cell? ⟨gb133, 5, none⟩ = some (.int .i64 a1_5) ∧ w193.cell? ⟨gb133, 6, none⟩ = some (.int .i64 a1_6) ∧ w193.cell? ⟨gb133, 7, none⟩ = some (.slice A1_7 l1_7.length c1_7) := hS_
      refine norm_ (a' := ?_) ?_ ?_
      rotate_left
      · simp only [putAll, Act.put, la_, lb_, lc_]
        rfl
      refine one_ (i := 4) (N := none) #[true, true, true, true, true, false] rfl rfl (by kernel_rfl) (by decide) (fun K hK => ?_)
      have hs194 : w193.cell? ⟨gb134, 0, none⟩ = some (.int .i64 0) := (blk_cell BK134.out 0).trans rfl
      have hfs194 := blk_frozen BK134.out 0
      have hns194_0 := NB132_134.out
      have hns194_1 := NB133_134.out
      have hns194_3 := NB135_134.out
      have hms194_0 := NB134_132.out
      have hms194_1 := NB134_133.out
      have hms194_3 := NB134_135.out
      have hs195 : w193.cell? ⟨gb134, 1, none⟩ = some (.int .i64 0) := (blk_cell BK134.out 1).trans rfl
      have hfs195 := blk_frozen BK134.out 1
      have hns195_0 := NB132_134.out
      have hns195_1 := NB133_134.out
      have hns195_3 := NB135_134.out
      have hms195_0 := NB134_132.out
      have hms195_1 := NB134_133.out
      have hms195_3 := NB134_135.out
      have hs196 : w193.cell? ⟨gb134, 2, none⟩ = some (.int .i64 0) := (blk_cell BK134.out 2).trans rfl
      have hfs196 := blk_frozen BK134.out 2
      have hns196_0 := NB132_134.out
      have hns196_1 := NB133_134.out
      have hns196_3 := NB135_134.out
      have hms196_0 := NB134_132.out
      have hms196_1 := NB134_133.out
      have hms196_3 := NB134_135.out
      have hs197 : w193.cell? ⟨gb134, 3, none⟩ = some (.int .i64 0) := (blk_cell BK134.out 3).trans rfl
      have hfs197 := blk_frozen BK134.out 3
      have hns197_0 := NB132_134.out
      have hns197_1 := NB133_134.out
      have hns197_3 := NB135_134.out
      have hms197_0 := NB134_132.out
      have hms197_1 := NB134_133.out
      have hms197_3 := NB134_135.out
      have hs198 : w193.cell? ⟨gb134, 4, none⟩ = some (.int .i64 0) := (blk_cell BK134.out 4).trans rfl
      have hfs198 := blk_frozen BK134.out 4
      have hns198_0 := NB132_134.out
      have hns198_1 := NB133_134.out
      have hns198_3 := NB135_134.out
      have hms198_0 := NB134_132.out
      have hms198_1 := NB134_133.out
      have hms198_3 := NB134_135.out
      have hs199 : w193.cell? ⟨gb134, 5, none⟩ = some (.int .i64 0) := (blk_cell BK134.out 5).trans rfl
      have hfs199 := blk_frozen BK134.out 5
      have hns199_0 := NB132_134.out
      have hns199_1 := NB133_134.out
      have hns199_3 := NB135_134.out
      have hms199_0 := NB134_132.out
      have hms199_1 := NB134_133.out
      have hms199_3 := NB134_135.out
      have hs200 : w193.cell? ⟨gb134, 6, none⟩ = some (.int .i64 0) := (blk_cell BK134.out 6).trans rfl
      have hfs200 := blk_frozen BK134.out 6
      have hns200_0 := NB132_134.out
      have hns200_1 := NB133_134.out
      have hns200_3 := NB135_134.out
      have hms200_0 := NB134_132.out
      have hms200_1 := NB134_133.out
      have hms200_3 := NB134_135.out
      have hs201 : w193.cell? ⟨gb134, 7, none⟩ = some (.slice none 0 0) := (blk_cell BK134.out 7).trans rfl
      have hfs201 := blk_frozen BK134.out 7
      have hns201_0 := NB132_134.out
      have hns201_1 := NB133_134.out
      have hns201_3 := NB135_134.out
      have hms201_0 := NB134_132.out
      have hms201_1 := NB134_133.out
      have hms201_3 := NB134_135.out
      refine skip_ (w1 := ?_) ?_ ?_ ?_ ?_
      rotate_left
      · rfl
      · rfl
      · go_simp
        rfl
      refine hK.out _ _ ⟨(cfar_ hHeld.1), (cfar_ hHeld.2.1), (cfar_ hHeld.2.2.1), (cfar_ hHeld.2.2.2.1), (cfar_ hHeld.2.2.2.2.1), (cfar_ hHeld.2.2.2.2.2.1), (cfar_ hHeld.2.2.2.2.2.2.1), (cfar_ hHeld.2.2.2.2.2.2.2.1), (cfar_ hHeld.2.2.2.2.2.2.2.2.1), (cfar_ hHeld.2.2.2.2.2.2.2.2.2.1), (cfar_ hHeld.2.2.2.2.2.2.2.2.2.2.1), (cfar_ hHeld.2.2.2.2.2.2.2.2.2.2.2.1), (cfar_ hHeld.2.2.2.2.2.2.2.2.2.2.2.2.1), (cfar_ hHeld.2.2.2.2.2.2.2.2.2.2.2.2.2.1), (cfar_ hHeld.2.2.2.2.2.2.2.2.2.2.2.2.2.2.1), (cfar_ hHeld.2.2.2.2.2.2.2.2.2.2.2.2.2.2.2)⟩ (fun hHeld => ?_)
      clear hK K
      refine one_ (i := 5) (N := none) #[true, true, true, true, true, true] rfl rfl (by kernel_rfl) (by decide) (fun K hK => ?_)
      have hs202 : w193.cell? ⟨gb135, 0, none⟩ = some (.int .i64 0) := (blk_cell BK135.out 0).trans rfl
      have hfs202 := blk_frozen BK135.out 0
      have hns202_0 := NB132_135.out
      have hns202_1 := NB133_135.out
      have hns202_2 := NB134_135.out
      have hms202_0 := NB135_132.out
      have hms202_1 := NB135_133.out
      have hms202_2 := NB135_134.out
      have hs203 : w193.cell? ⟨gb135, 1, none⟩ = some (.int .i64 0) := (blk_cell BK135.out 1).trans rfl
      have hfs203 := blk_frozen BK135.out 1
      have hns203_0 := NB132_135.out
      have hns203_1 := NB133_135.out
      have hns203_2 := NB134_135.out
      have hms203_0 := NB135_132.out
      have hms203_1 := NB135_133.out
      have hms203_2 := NB135_134.out
      have hs204 : w193.cell? ⟨gb135, 2, none⟩ = some (.int .i64 0) := (blk_cell BK135.out 2).trans rfl
      have hfs204 := blk_frozen BK135.out 2
      have hns204_0 := NB132_135.out
      have hns204_1 := NB133_135.out
      have hns204_2 := NB134_135.out
      have hms204_0 := NB135_132.out
      have hms204_1 := NB135_133.out
      have hms204_2 := NB135_134.out
      have hs205 : w193.cell? ⟨gb135, 3, none⟩ = some (.int .i64 0) := (blk_cell BK135.out 3).trans rfl
      have hfs205 := blk_frozen BK135.out 3
      have hns205_0 := NB132_135.out
      have hns205_1 := NB133_135.out
      have hns205_2 := NB134_135.out
      have hms205_0 := NB135_132.out
      have hms205_1 := NB135_133.out
      have hms205_2 := NB135_134.out
      have hs206 : w193.cell? ⟨gb135, 4, none⟩ = some (.int .i64 0) := (blk_cell BK135.out 4).trans rfl
      have hfs206 := blk_frozen BK135.out 4
      have hns206_0 := NB132_135.out
      have hns206_1 := NB133_135.out
      have hns206_2 := NB134_135.out
      have hms206_0 := NB135_132.out
      have hms206_1 := NB135_133.out
      have hms206_2 := NB135_134.out
      have hs207 : w193.cell? ⟨gb135, 5, none⟩ = some (.int .i64 0) := (blk_cell BK135.out 5).trans rfl
      have hfs207 := blk_frozen BK135.out 5
      have hns207_0 := NB132_135.out
      have hns207_1 := NB133_135.out
      have hns207_2 := NB134_135.out
      have hms207_0 := NB135_132.out
      have hms207_1 := NB135_133.out
      have hms207_2 := NB135_134.out
      have hs208 : w193.cell? ⟨gb135, 6, none⟩ = some (.int .i64 0) := (blk_cell BK135.out 6).trans rfl
      have hfs208 := blk_frozen BK135.out 6
      have hns208_0 := NB132_135.out
      have hns208_1 := NB133_135.out
      have hns208_2 := NB134_135.out
      have hms208_0 := NB135_132.out
      have hms208_1 := NB135_133.out
      have hms208_2 := NB135_134.out
      have hs209 : w193.cell? ⟨gb135, 7, none⟩ = some (.slice none 0 0) := (blk_cell BK135.out 7).trans rfl
      have hfs209 := blk_frozen BK135.out 7
      have hns209_0 := NB132_135.out
      have hns209_1 := NB133_135.out
      have hns209_2 := NB134_135.out
      have hms209_0 := NB135_132.out
      have hms209_1 := NB135_133.out
      have hms209_2 := NB135_134.out
      refine skip_ (w1 := ?_) ?_ ?_ ?_ ?_
      rotate_left
      · rfl
      · rfl
      · go_simp
        rfl
      refine hK.out _ _ ⟨(cfar_ hHeld.1), (cfar_ hHeld.2.1), (cfar_ hHeld.2.2.1), (cfar_ hHeld.2.2.2.1), (cfar_ hHeld.2.2.2.2.1), (cfar_ hHeld.2.2.2.2.2.1), (cfar_ hHeld.2.2.2.2.2.2.1), (cfar_ hHeld.2.2.2.2.2.2.2.1), (cfar_ hHeld.2.2.2.2.2.2.2.2.1), (cfar_ hHeld.2.2.2.2.2.2.2.2.2.1), (cfar_ hHeld.2.2.2.2.2.2.2.2.2.2.1), (cfar_ hHeld.2.2.2.2.2.2.2.2.2.2.2.1), (cfar_ hHeld.2.2.2.2.2.2.2.2.2.2.2.2.1), (cfar_ hHeld.2.2.2.2.2.2.2.2.2.2.2.2.2.1), (cfar_ hHeld.2.2.2.2.2.2.2.2.2.2.2.2.2.2.1), (cfar_ hHeld.2.2.2.2.2.2.2.2.2.2.2.2.2.2.2)⟩ (fun hHeld => ?_)
      clear hK K
      refine done_ (by kernel_rfl) ?_
      have hnb210 := NB134_132.out
      have hnc210 := NB132_134.out
      have hnb211 := NB134_133.out
      have hnc211 := NB133_134.out
      have hnb212 := NB134_135.out
      have hnc212 := NB135_134.out
      have hcz213_0 : w193.cell? ⟨gb134, 0, none⟩ = some (.int .i64 0) := bc_
      have hcz213_1 : w193.cell? ⟨gb134, 1, none⟩ = some (.int .i64 0) := bc_
      have hcz213_2 : w193.cell? ⟨gb134, 2, none⟩ = some (.int .i64 0) := bc_
      have hcz213_3 : w193.cell? ⟨gb134, 3, none⟩ = some (.int .i64 0) := bc_
      have hcz213_4 : w193.cell? ⟨gb134, 4, none⟩ = some (.int .i64 0) := bc_
      have hcz213_5 : w193.cell? ⟨gb134, 5, none⟩ = some (.int .i64 0) := bc_
      have hcz213_6 : w193.cell? ⟨gb134, 6, none⟩ = some (.int .i64 0) := bc_
      have hcz213_7 : w193.cell? ⟨gb134, 7, none⟩ = some (.slice none 0 0) := bc_
      have hfz213_0 := blk_frozen BK134.out 0
      have hfz213_1 := blk_frozen BK134.out 1
      have hfz213_2 := blk_frozen BK134.out 2
      have hfz213_3 := blk_frozen BK134.out 3
      have hfz213_4 := blk_frozen BK134.out 4
      have hfz213_5 := blk_frozen BK134.out 5
      have hfz213_6 := blk_frozen BK134.out 6
      have hfz213_7 := blk_frozen BK134.out 7
      have hnb214 := NB135_132.out
      have hnc214 := NB132_135.out
      have hnb215 := NB135_133.out
      have hnc215 := NB133_135.out
      have hcz216_0 : w193.cell? ⟨gb135, 0, none⟩ = some (.int .i64 0) := bc_
      have hcz216_1 : w193.cell? ⟨gb135, 1, none⟩ = some (.int .i64 0) := bc_
      have hcz216_2 : w193.cell? ⟨gb135, 2, none⟩ = some (.int .i64 0) := bc_
      have hcz216_3 : w193.cell? ⟨gb135, 3, none⟩ = some (.int .i64 0) := bc_
      have hcz216_4 : w193.cell? ⟨gb135, 4, none⟩ = some (.int .i64 0) := bc_
      have hcz216_5 : w193.cell? ⟨gb135, 5, none⟩ = some (.int .i64 0) := bc_
      have hcz216_6 : w193.cell? ⟨gb135, 6, none⟩ = some (.int .i64 0) := bc_
      have hcz216_7 : w193.cell? ⟨gb135, 7, none⟩ = some (.slice none 0 0) := bc_
      have hfz216_0 := blk_frozen BK135.out 0
      have hfz216_1 := blk_frozen BK135.out 1
      have hfz216_2 := blk_frozen BK135.out 2
      have hfz216_3 := blk_frozen BK135.out 3
      have hfz216_4 := blk_frozen BK135.out 4
      have hfz216_5 := blk_frozen BK135.out 5
      have hfz216_6 := blk_frozen BK135.out 6
      have hfz216_7 := blk_frozen BK135.out 7
      try go_wp2
      go_ret
      exact ⟨by first | rfl | (simp [errW_none, errW_some] <;> rfl) | (simp [*, errW_none, errW_some] <;> rfl), by repeat (first | (with_reducible first | exact HB.out | apply below_alloc | apply pw_below_drewN | apply below_drew1 | refine below_set ?_ GE132.out | refine below_set ?_ GE133.out | refine below_set ?_ GE134.out | refine below_set ?_ GE135.out) | exact HB.out)⟩
  · rw [if_neg c3] at H
    have c3b0 : (a0_0 == a1_0) = false := beq_eq_false_iff_ne.mpr c3
    have c3b1 : (a0_0 != a1_0) = true := bne_iff_ne.mpr c3
    obtain rfl := Option.some.inj H
    go_enter Try.func17, Try.ntmps17
    try go_wp2_with (first | ((with_reducible refine gate_dst (N := 2) rfl ?_); refine box_event ?hg (N := 2) ?hd (cs := #[.int .i64 a0_0, .int .i64 a0_1, .int .i64 a0_2, .int .i64 a0_3, .int .i64 a0_4, .int .i64 a0_5, .int .i64 a0_6, .slice A0_7 l0_7.length c0_7]) (t := 27) ?hr ?_; (case hd => rfl); (case hg => rfl); (case hr => first | (go_simp; done) | (go_simp; rfl)); intro gb132 hg w217 hbox hb; have n0_ := Aside0.mk (below_step bel_ hb); have n1_ := Aside0.mk (hbox); have n2_ := bs_ (w := w) hg; have n3_ := bs_ (w := w) hg; clear HB; have HB := n0_; have BK132 := n1_; have GW132 := n2_; have GE132 := n3_; clear n0_ n1_ n2_ n3_; clear hb hbox hg) | ((with_reducible refine gate_dst (N := 3) rfl ?_); refine box_event ?hg (N := 3) ?hd (cs := #[.int .i64 a1_0, .int .i64 a1_1, .int .i64 a1_2, .int .i64 a1_3, .int .i64 a1_4, .int .i64 a1_5, .int .i64 a1_6, .slice A1_7 l1_7.length c1_7]) (t := 27) ?hr ?_; (case hd => rfl); (case hg => rfl); (case hr => first | (go_simp; done) | (go_simp; rfl)); intro gb133 hg w218 hbox hb; have n0_ := bb_ (g := gb132) (o := .cells #[.int .i64 a0_0, .int .i64 a0_1, .int .i64 a0_2, .int .i64 a0_3, .int .i64 a0_4, .int .i64 a0_5, .int .i64 a0_6, .slice A0_7 l0_7.length c0_7] 27 (0, 0)) hb; have n1_ := Aside0.mk (below_step bel_ hb); have n2_ := Aside0.mk (hbox); have n3_ := bs_ (w := w) hg; have n4_ := bs_ (w := w) hg; have n5_ := nlt_ (g := gb132) (o := .cells #[.int .i64 a0_0, .int .i64 a0_1, .int .i64 a0_2, .int .i64 a0_3, .int .i64 a0_4, .int .i64 a0_5, .int .i64 a0_6, .slice A0_7 l0_7.length c0_7] 27 (0, 0)) hg; have n6_ := ngt_ (g := gb132) (o := .cells #[.int .i64 a0_0, .int .i64 a0_1, .int .i64 a0_2, .int .i64 a0_3, .int .i64 a0_4, .int .i64 a0_5, .int .i64 a0_6, .slice A0_7 l0_7.length c0_7] 27 (0, 0)) hg; clear BK132; clear HB; have BK132 := n0_; have HB := n1_; have BK133 := n2_; have GW133 := n3_; have GE133 := n4_; have NB132_133 := n5_; have NB133_132 := n6_; clear n0_ n1_ n2_ n3_ n4_ n5_ n6_; clear hb hbox hg))
    have n0_ := Aside0.mk (blk_drew BK132.out)
    have n1_ := Aside0.mk (blk_drew BK133.out)
    have n2_ := Aside0.mk (below_drew1 HB.out)
    clear BK132
    clear BK133
    clear HB
    have BK132 := n0_
    have BK133 := n1_
    have HB := n2_
    clear n0_ n1_ n2_
    refine start_ (n := 6) (S := fun w' => w'.cell? ⟨gb132, 0, none⟩ = some (.int .i64 a0_0) ∧ w'.cell? ⟨gb132, 1, none⟩ = some (.int .i64 a0_1) ∧ w'.cell? ⟨gb132, 2, none⟩ = some (.int .i64 a0_2) ∧ w'.cell? ⟨gb132, 3, none⟩ = some (.int .i64 a0_3) ∧ w'.cell? ⟨gb132, 4, none⟩ = some (.int .i64 a0_4) ∧ w'.cell? ⟨gb132, 5, none⟩ = some (.int .i64 a0_5) ∧ w'.cell? ⟨gb132, 6, none⟩ = some (.int .i64 a0_6) ∧ w'.cell? ⟨gb132, 7, none⟩ = some (.slice A0_7 l0_7.length c0_7) ∧ w'.cell? ⟨gb133, 0, none⟩ = some (.int .i64 a1_0) ∧ w'.cell? ⟨gb133, 1, none⟩ = some (.int .i64 a1_1) ∧ w'.cell? ⟨gb133, 2, none⟩ = some (.int .i64 a1_2) ∧ w'.cell? ⟨gb133, 3, none⟩ = some (.int .i64 a1_3) ∧ w'.cell? ⟨gb133, 4, none⟩ = some (.int .i64 a1_4) ∧ w'.cell? ⟨gb133, 5, none⟩ = some (.int .i64 a1_5) ∧ w'.cell? ⟨gb133, 6, none⟩ = some (.int .i64 a1_6) ∧ w'.cell? ⟨gb133, 7, none⟩ = some (.slice A1_7 l1_7.length c1_7)) (ds := []) #[false, false, false, false, false, false] (by kernel_rfl) rfl rfl ⟨bc_, bc_, bc_, bc_, bc_, bc_, bc_, bc_, bc_, bc_, bc_, bc_, bc_, bc_, bc_, bc_⟩ (fun hHeld => ?_)
    generalize w218.drew = w219 at BK132 BK133 HB hHeld ⊢
    refine take_ (i := 0) (N := some 7) (v := ?_) (a' := ?_) #[true, false, false, false, false, false] rfl rfl (by kernel_rfl) (fun _ _ _ h => h) (Or.inl ⟨by rfl, ?_⟩) hHeld ?_ ?_
    rotate_left
    · rintro w' ⟨s0, s1, s2, s3, s4, s5, s6, s7, s8, s9, s10, s11, s12, s13, s14, s15⟩
      go_simp
      with_reducible rfl
    rotate_left
    · simp only [Act.put, la_, lb_, lc_, i64_w, i32_w]
      rfl
    refine take_ (i := 1) (N := some 8) (v := ?_) (a' := ?_) #[true, true, false, false, false, false] rfl rfl (by kernel_rfl) (fun _ _ _ h => h) (Or.inl ⟨by rfl, ?_⟩) hHeld ?_ ?_
    rotate_left
    · rintro w' ⟨s0, s1, s2, s3, s4, s5, s6, s7, s8, s9, s10, s11, s12, s13, s14, s15⟩
      go_simp
      with_reducible rfl
    rotate_left
    · simp only [Act.put, la_, lb_, lc_, i64_w, i32_w]
      rfl
    refine join_ (σ := Nat × Nat) 2 #[true, true, true, true, false, false] (fun s_ => [(5, .pointer (some ⟨s_.1, 0, none⟩)), (6, .pointer (some ⟨s_.2, 0, none⟩))]) (fun s_ w' => (w'.cell? ⟨gb132, 0, none⟩ = some (.int .i64 a0_0) ∧ w'.cell? ⟨gb132, 1, none⟩ = some (.int .i64 a0_1) ∧ w'.cell? ⟨gb132, 2, none⟩ = some (.int .i64 a0_2) ∧ w'.cell? ⟨gb132, 3, none⟩ = some (.int .i64 a0_3) ∧ w'.cell? ⟨gb132, 4, none⟩ = some (.int .i64 a0_4) ∧ w'.cell? ⟨gb132, 5, none⟩ = some (.int .i64 a0_5) ∧ w'.cell? ⟨gb132, 6, none⟩ = some (.int .i64 a0_6) ∧ w'.cell? ⟨gb132, 7, none⟩ = some (.slice A0_7 l0_7.length c0_7) ∧ w'.cell? ⟨gb133, 0, none⟩ = some (.int .i64 a1_0) ∧ w'.cell? ⟨gb133, 1, none⟩ = some (.int .i64 a1_1) ∧ w'.cell? ⟨gb133, 2, none⟩ = some (.int .i64 a1_2) ∧ w'.cell? ⟨gb133, 3, none⟩ = some (.int .i64 a1_3) ∧ w'.cell? ⟨gb133, 4, none⟩ = some (.int .i64 a1_4) ∧ w'.cell? ⟨gb133, 5, none⟩ = some (.int .i64 a1_5) ∧ w'.cell? ⟨gb133, 6, none⟩ = some (.int .i64 a1_6) ∧ w'.cell? ⟨gb133, 7, none⟩ = some (.slice A1_7 l1_7.length c1_7)) ∧ (w'.heap[gb132]? = some (.cells #[.int .i64 a0_0, .int .i64 a0_1, .int .i64 a0_2, .int .i64 a0_3, .int .i64 a0_4, .int .i64 a0_5, .int .i64 a0_6, .slice A0_7 l0_7.length c0_7] 27 (0, 0))) ∧ (w'.heap[gb133]? = some (.cells #[.int .i64 a1_0, .int .i64 a1_1, .int .i64 a1_2, .int .i64 a1_3, .int .i64 a1_4, .int .i64 a1_5, .int .i64 a1_6, .slice A1_7 l1_7.length c1_7] 27 (0, 0))) ∧ (w'.heap[s_.1]? = some (.cells #[.int .i64 0, .int .i64 0, .int .i64 0, .int .i64 0, .int .i64 0, .int .i64 0, .int .i64 0, .slice none 0 0] 27 (0, 0))) ∧ (w'.heap[s_.2]? = some (.cells #[.int .i64 0, .int .i64 0, .int .i64 0, .int .i64 0, .int .i64 0, .int .i64 0, .int .i64 0, .slice none 0 0] 27 (0, 0))) ∧ (w.heap.size ≤ s_.1) ∧ (w.heap.size ≤ s_.1) ∧ (gb132 ≠ s_.1) ∧ (s_.1 ≠ gb132) ∧ (gb133 ≠ s_.1) ∧ (s_.1 ≠ gb133) ∧ (s_.2 ≠ s_.1) ∧ (s_.1 ≠ s_.2) ∧ (w.heap.size ≤ s_.2) ∧ (w.heap.size ≤ s_.2) ∧ (gb132 ≠ s_.2) ∧ (s_.2 ≠ gb132) ∧ (gb133 ≠ s_.2) ∧ (s_.2 ≠ gb133) ∧ (Below w.heap.size w w')) ?_ ?_
    rotate_left
    · intro hCont
      refine two_ (i := 2) (j := 3) (Ni := some 5) (Nj := some 6) #[true, true, true, false, false, false] #[true, true, false, true, false, false] rfl rfl rfl rfl (by kernel_rfl) (by decide) (by decide) (fun K hK => ?_) (fun K hK => ?_)
      · skip
        refine box_step ?hg (N := 5) ?hd (cs := #[.int .i64 0, .int .i64 0, .int .i64 0, .int .i64 0, .int .i64 0, .int .i64 0, .int .i64 0, .slice none 0 0]) (t := 27) ?hr ?_; (case hd => rfl); (case hg => rfl); (case hr => first | (go_simp; done) | (go_simp; rfl))
        intro gb134 hg w220 hbox hb
        have n0_ := bb_ (g := gb132) (o := .cells #[.int .i64 a0_0, .int .i64 a0_1, .int .i64 a0_2, .int .i64 a0_3, .int .i64 a0_4, .int .i64 a0_5, .int .i64 a0_6, .slice A0_7 l0_7.length c0_7] 27 (0, 0)) hb
        have n1_ := bb_ (g := gb133) (o := .cells #[.int .i64 a1_0, .int .i64 a1_1, .int .i64 a1_2, .int .i64 a1_3, .int .i64 a1_4, .int .i64 a1_5, .int .i64 a1_6, .slice A1_7 l1_7.length c1_7] 27 (0, 0)) hb
        have n2_ := Aside0.mk (below_step bel_ hb)
        have n3_ := Aside0.mk (hbox)
        have n4_ := bs_ (w := w) hg
        have n5_ := bs_ (w := w) hg
        have n6_ := nlt_ (g := gb132) (o := .cells #[.int .i64 a0_0, .int .i64 a0_1, .int .i64 a0_2, .int .i64 a0_3, .int .i64 a0_4, .int .i64 a0_5, .int .i64 a0_6, .slice A0_7 l0_7.length c0_7] 27 (0, 0)) hg
        have n7_ := ngt_ (g := gb132) (o := .cells #[.int .i64 a0_0, .int .i64 a0_1, .int .i64 a0_2, .int .i64 a0_3, .int .i64 a0_4, .int .i64 a0_5, .int .i64 a0_6, .slice A0_7 l0_7.length c0_7] 27 (0, 0)) hg
        have n8_ := nlt_ (g := gb133) (o := .cells #[.int .i64 a1_0, .int .i64 a1_1, .int .i64 a1_2, .int .i64 a1_3, .int .i64 a1_4, .int .i64 a1_5, .int .i64 a1_6, .slice A1_7 l1_7.length c1_7] 27 (0, 0)) hg
        have n9_ := ngt_ (g := gb133) (o := .cells #[.int .i64 a1_0, .int .i64 a1_1, .int .i64 a1_2, .int .i64 a1_3, .int .i64 a1_4, .int .i64 a1_5, .int .i64 a1_6, .slice A1_7 l1_7.length c1_7] 27 (0, 0)) hg
        clear BK132
        clear BK133
        clear HB
        have BK132 := n0_
        have BK133 := n1_
        have HB := n2_
        have BK134 := n3_
        have GW134 := n4_
        have GE134 := n5_
        have NB132_134 := n6_
        have NB134_132 := n7_
        have NB133_134 := n8_
        have NB134_133 := n9_
        clear n0_ n1_ n2_ n3_ n4_ n5_ n6_ n7_ n8_ n9_
        clear hb hbox hg
        refine hK.out _ _ ⟨bc_, bc_, bc_, bc_, bc_, bc_, bc_, bc_, bc_, bc_, bc_, bc_, bc_, bc_, bc_, bc_⟩ (fun hHeld => ?_)
        clear hK K
        refine norm_ (a' := ?_) ?_ ?_
        rotate_left
        · show Act.put _ (some 5) _ = _
          simp only [Act.put, la_, lb_, lc_, i64_w, i32_w]
          rfl
        refine one_ (i := 3) (N := some 6) #[true, true, true, true, false, false] rfl rfl (by kernel_rfl) (by decide) (fun K hK => ?_)
        refine box_step ?hg (N := 6) ?hd (cs := #[.int .i64 0, .int .i64 0, .int .i64 0, .int .i64 0, .int .i64 0, .int .i64 0, .int .i64 0, .slice none 0 0]) (t := 27) ?hr ?_; (case hd => rfl); (case hg => rfl); (case hr => first | (go_simp; done) | (go_simp; rfl))
        intro gb135 hg w221 hbox hb
        have n0_ := bb_ (g := gb132) (o := .cells #[.int .i64 a0_0, .int .i64 a0_1, .int .i64 a0_2, .int .i64 a0_3, .int .i64 a0_4, .int .i64 a0_5, .int .i64 a0_6, .slice A0_7 l0_7.length c0_7] 27 (0, 0)) hb
        have n1_ := bb_ (g := gb133) (o := .cells #[.int .i64 a1_0, .int .i64 a1_1, .int .i64 a1_2, .int .i64 a1_3, .int .i64 a1_4, .int .i64 a1_5, .int .i64 a1_6, .slice A1_7 l1_7.length c1_7] 27 (0, 0)) hb
        have n2_ := bb_ (g := gb134) (o := .cells #[.int .i64 0, .int .i64 0, .int .i64 0, .int .i64 0, .int .i64 0, .int .i64 0, .int .i64 0, .slice none 0 0] 27 (0, 0)) hb
        have n3_ := Aside0.mk (below_step bel_ hb)
        have n4_ := Aside0.mk (hbox)
        have n5_ := bs_ (w := w) hg
        have n6_ := bs_ (w := w) hg
        have n7_ := nlt_ (g := gb132) (o := .cells #[.int .i64 a0_0, .int .i64 a0_1, .int .i64 a0_2, .int .i64 a0_3, .int .i64 a0_4, .int .i64 a0_5, .int .i64 a0_6, .slice A0_7 l0_7.length c0_7] 27 (0, 0)) hg
        have n8_ := ngt_ (g := gb132) (o := .cells #[.int .i64 a0_0, .int .i64 a0_1, .int .i64 a0_2, .int .i64 a0_3, .int .i64 a0_4, .int .i64 a0_5, .int .i64 a0_6, .slice A0_7 l0_7.length c0_7] 27 (0, 0)) hg
        have n9_ := nlt_ (g := gb133) (o := .cells #[.int .i64 a1_0, .int .i64 a1_1, .int .i64 a1_2, .int .i64 a1_3, .int .i64 a1_4, .int .i64 a1_5, .int .i64 a1_6, .slice A1_7 l1_7.length c1_7] 27 (0, 0)) hg
        have n10_ := ngt_ (g := gb133) (o := .cells #[.int .i64 a1_0, .int .i64 a1_1, .int .i64 a1_2, .int .i64 a1_3, .int .i64 a1_4, .int .i64 a1_5, .int .i64 a1_6, .slice A1_7 l1_7.length c1_7] 27 (0, 0)) hg
        have n11_ := nlt_ (g := gb134) (o := .cells #[.int .i64 0, .int .i64 0, .int .i64 0, .int .i64 0, .int .i64 0, .int .i64 0, .int .i64 0, .slice none 0 0] 27 (0, 0)) hg
        have n12_ := ngt_ (g := gb134) (o := .cells #[.int .i64 0, .int .i64 0, .int .i64 0, .int .i64 0, .int .i64 0, .int .i64 0, .int .i64 0, .slice none 0 0] 27 (0, 0)) hg
        clear BK132
        clear BK133
        clear BK134
        clear HB
        have BK132 := n0_
        have BK133 := n1_
        have BK134 := n2_
        have HB := n3_
        have BK135 := n4_
        have GW135 := n5_
        have GE135 := n6_
        have NB132_135 := n7_
        have NB135_132 := n8_
        have NB133_135 := n9_
        have NB135_133 := n10_
        have NB134_135 := n11_
        have NB135_134 := n12_
        clear n0_ n1_ n2_ n3_ n4_ n5_ n6_ n7_ n8_ n9_ n10_ n11_ n12_
        clear hb hbox hg
        refine hK.out _ _ ⟨bc_, bc_, bc_, bc_, bc_, bc_, bc_, bc_, bc_, bc_, bc_, bc_, bc_, bc_, bc_, bc_⟩ (fun hHeld => ?_)
        clear hK K
        refine norm_ (a' := ?_) ?_ ?_
        rotate_left
        · show Act.put _ (some 6) _ = _
          simp only [Act.put, la_, lb_, lc_, i64_w, i32_w]
          rfl
        exact norm_ (by simp only [putAll, Act.put, la_, lb_, lc_]) (hCont (gb134, gb135) _ ⟨hHeld, bk_, bk_, bk_, bk_, GW134.out, GE134.out, NB132_134.out, NB134_132.out, NB133_134.out, NB134_133.out, NB135_134.out, NB134_135.out, GW135.out, GE135.out, NB132_135.out, NB135_132.out, NB133_135.out, NB135_133.out, bel_⟩)
      · skip
        refine box_step ?hg (N := 6) ?hd (cs := #[.int .i64 0, .int .i64 0, .int .i64 0, .int .i64 0, .int .i64 0, .int .i64 0, .int .i64 0, .slice none 0 0]) (t := 27) ?hr ?_; (case hd => rfl); (case hg => rfl); (case hr => first | (go_simp; done) | (go_simp; rfl))
        intro gb135 hg w220 hbox hb
        have n0_ := bb_ (g := gb132) (o := .cells #[.int .i64 a0_0, .int .i64 a0_1, .int .i64 a0_2, .int .i64 a0_3, .int .i64 a0_4, .int .i64 a0_5, .int .i64 a0_6, .slice A0_7 l0_7.length c0_7] 27 (0, 0)) hb
        have n1_ := bb_ (g := gb133) (o := .cells #[.int .i64 a1_0, .int .i64 a1_1, .int .i64 a1_2, .int .i64 a1_3, .int .i64 a1_4, .int .i64 a1_5, .int .i64 a1_6, .slice A1_7 l1_7.length c1_7] 27 (0, 0)) hb
        have n2_ := Aside0.mk (below_step bel_ hb)
        have n3_ := Aside0.mk (hbox)
        have n4_ := bs_ (w := w) hg
        have n5_ := bs_ (w := w) hg
        have n6_ := nlt_ (g := gb132) (o := .cells #[.int .i64 a0_0, .int .i64 a0_1, .int .i64 a0_2, .int .i64 a0_3, .int .i64 a0_4, .int .i64 a0_5, .int .i64 a0_6, .slice A0_7 l0_7.length c0_7] 27 (0, 0)) hg
        have n7_ := ngt_ (g := gb132) (o := .cells #[.int .i64 a0_0, .int .i64 a0_1, .int .i64 a0_2, .int .i64 a0_3, .int .i64 a0_4, .int .i64 a0_5, .int .i64 a0_6, .slice A0_7 l0_7.length c0_7] 27 (0, 0)) hg
        have n8_ := nlt_ (g := gb133) (o := .cells #[.int .i64 a1_0, .int .i64 a1_1, .int .i64 a1_2, .int .i64 a1_3, .int .i64 a1_4, .int .i64 a1_5, .int .i64 a1_6, .slice A1_7 l1_7.length c1_7] 27 (0, 0)) hg
        have n9_ := ngt_ (g := gb133) (o := .cells #[.int .i64 a1_0, .int .i64 a1_1, .int .i64 a1_2, .int .i64 a1_3, .int .i64 a1_4, .int .i64 a1_5, .int .i64 a1_6, .slice A1_7 l1_7.length c1_7] 27 (0, 0)) hg
        clear BK132
        clear BK133
        clear HB
        have BK132 := n0_
        have BK133 := n1_
        have HB := n2_
        have BK135 := n3_
        have GW135 := n4_
        have GE135 := n5_
        have NB132_135 := n6_
        have NB135_132 := n7_
        have NB133_135 := n8_
        have NB135_133 := n9_
        clear n0_ n1_ n2_ n3_ n4_ n5_ n6_ n7_ n8_ n9_
        clear hb hbox hg
        refine hK.out _ _ ⟨bc_, bc_, bc_, bc_, bc_, bc_, bc_, bc_, bc_, bc_, bc_, bc_, bc_, bc_, bc_, bc_⟩ (fun hHeld => ?_)
        clear hK K
        refine norm_ (a' := ?_) ?_ ?_
        rotate_left
        · show Act.put _ (some 6) _ = _
          simp only [Act.put, la_, lb_, lc_, i64_w, i32_w]
          rfl
        refine one_ (i := 2) (N := some 5) #[true, true, true, true, false, false] rfl rfl (by kernel_rfl) (by decide) (fun K hK => ?_)
        refine box_step ?hg (N := 5) ?hd (cs := #[.int .i64 0, .int .i64 0, .int .i64 0, .int .i64 0, .int .i64 0, .int .i64 0, .int .i64 0, .slice none 0 0]) (t := 27) ?hr ?_; (case hd => rfl); (case hg => rfl); (case hr => first | (go_simp; done) | (go_simp; rfl))
        intro gb134 hg w221 hbox hb
        have n0_ := bb_ (g := gb132) (o := .cells #[.int .i64 a0_0, .int .i64 a0_1, .int .i64 a0_2, .int .i64 a0_3, .int .i64 a0_4, .int .i64 a0_5, .int .i64 a0_6, .slice A0_7 l0_7.length c0_7] 27 (0, 0)) hb
        have n1_ := bb_ (g := gb133) (o := .cells #[.int .i64 a1_0, .int .i64 a1_1, .int .i64 a1_2, .int .i64 a1_3, .int .i64 a1_4, .int .i64 a1_5, .int .i64 a1_6, .slice A1_7 l1_7.length c1_7] 27 (0, 0)) hb
        have n2_ := bb_ (g := gb135) (o := .cells #[.int .i64 0, .int .i64 0, .int .i64 0, .int .i64 0, .int .i64 0, .int .i64 0, .int .i64 0, .slice none 0 0] 27 (0, 0)) hb
        have n3_ := Aside0.mk (below_step bel_ hb)
        have n4_ := Aside0.mk (hbox)
        have n5_ := bs_ (w := w) hg
        have n6_ := bs_ (w := w) hg
        have n7_ := nlt_ (g := gb132) (o := .cells #[.int .i64 a0_0, .int .i64 a0_1, .int .i64 a0_2, .int .i64 a0_3, .int .i64 a0_4, .int .i64 a0_5, .int .i64 a0_6, .slice A0_7 l0_7.length c0_7] 27 (0, 0)) hg
        have n8_ := ngt_ (g := gb132) (o := .cells #[.int .i64 a0_0, .int .i64 a0_1, .int .i64 a0_2, .int .i64 a0_3, .int .i64 a0_4, .int .i64 a0_5, .int .i64 a0_6, .slice A0_7 l0_7.length c0_7] 27 (0, 0)) hg
        have n9_ := nlt_ (g := gb133) (o := .cells #[.int .i64 a1_0, .int .i64 a1_1, .int .i64 a1_2, .int .i64 a1_3, .int .i64 a1_4, .int .i64 a1_5, .int .i64 a1_6, .slice A1_7 l1_7.length c1_7] 27 (0, 0)) hg
        have n10_ := ngt_ (g := gb133) (o := .cells #[.int .i64 a1_0, .int .i64 a1_1, .int .i64 a1_2, .int .i64 a1_3, .int .i64 a1_4, .int .i64 a1_5, .int .i64 a1_6, .slice A1_7 l1_7.length c1_7] 27 (0, 0)) hg
        have n11_ := nlt_ (g := gb135) (o := .cells #[.int .i64 0, .int .i64 0, .int .i64 0, .int .i64 0, .int .i64 0, .int .i64 0, .int .i64 0, .slice none 0 0] 27 (0, 0)) hg
        have n12_ := ngt_ (g := gb135) (o := .cells #[.int .i64 0, .int .i64 0, .int .i64 0, .int .i64 0, .int .i64 0, .int .i64 0, .int .i64 0, .slice none 0 0] 27 (0, 0)) hg
        clear BK132
        clear BK133
        clear BK135
        clear HB
        have BK132 := n0_
        have BK133 := n1_
        have BK135 := n2_
        have HB := n3_
        have BK134 := n4_
        have GW134 := n5_
        have GE134 := n6_
        have NB132_134 := n7_
        have NB134_132 := n8_
        have NB133_134 := n9_
        have NB134_133 := n10_
        have NB135_134 := n11_
        have NB134_135 := n12_
        clear n0_ n1_ n2_ n3_ n4_ n5_ n6_ n7_ n8_ n9_ n10_ n11_ n12_
        clear hb hbox hg
        refine hK.out _ _ ⟨bc_, bc_, bc_, bc_, bc_, bc_, bc_, bc_, bc_, bc_, bc_, bc_, bc_, bc_, bc_, bc_⟩ (fun hHeld => ?_)
        clear hK K
        refine norm_ (a' := ?_) ?_ ?_
        rotate_left
        · show Act.put _ (some 5) _ = _
          simp only [Act.put, la_, lb_, lc_, i64_w, i32_w]
          rfl
        exact norm_ (by simp only [putAll, Act.put, la_, lb_, lc_]) (hCont (gb134, gb135) _ ⟨hHeld, bk_, bk_, bk_, bk_, GW134.out, GE134.out, NB132_134.out, NB134_132.out, NB133_134.out, NB134_133.out, NB135_134.out, NB134_135.out, GW135.out, GE135.out, NB132_135.out, NB135_132.out, NB133_135.out, NB135_133.out, bel_⟩)
    rintro ⟨gb134, gb135⟩ w222 ⟨hS_, h0_, h1_, h2_, h3_, h4_, h5_, h6_, h7_, h8_, h9_, h10_, h11_, h12_, h13_, h14_, h15_, h16_, h17_, h18_⟩
    have n0_ : Aside0 (w222.heap[gb132]? = some (.cells #[.int .i64 a0_0, .int .i64 a0_1, .int .i64 a0_2, .int .i64 a0_3, .int .i64 a0_4, .int .i64 a0_5, .int .i64 a0_6, .slice A0_7 l0_7.length c0_7] 27 (0, 0))) := ⟨h0_⟩
    have n1_ : Aside0 (w222.heap[gb133]? = some (.cells #[.int .i64 a1_0, .int .i64 a1_1, .int .i64 a1_2, .int .i64 a1_3, .int .i64 a1_4, .int .i64 a1_5, .int .i64 a1_6, .slice A1_7 l1_7.length c1_7] 27 (0, 0))) := ⟨h1_⟩
    have n2_ : Aside0 (w222.heap[gb134]? = some (.cells #[.int .i64 0, .int .i64 0, .int .i64 0, .int .i64 0, .int .i64 0, .int .i64 0, .int .i64 0, .slice none 0 0] 27 (0, 0))) := ⟨h2_⟩
    have n3_ : Aside0 (w222.heap[gb135]? = some (.cells #[.int .i64 0, .int .i64 0, .int .i64 0, .int .i64 0, .int .i64 0, .int .i64 0, .int .i64 0, .slice none 0 0] 27 (0, 0))) := ⟨h3_⟩
    have n4_ : Aside0 (w.heap.size ≤ gb134) := ⟨h4_⟩
    have n5_ : Aside0 (w.heap.size ≤ gb134) := ⟨h5_⟩
    have n6_ : Aside0 (gb132 ≠ gb134) := ⟨h6_⟩
    have n7_ : Aside0 (gb134 ≠ gb132) := ⟨h7_⟩
    have n8_ : Aside0 (gb133 ≠ gb134) := ⟨h8_⟩
    have n9_ : Aside0 (gb134 ≠ gb133) := ⟨h9_⟩
    have n10_ : Aside0 (gb135 ≠ gb134) := ⟨h10_⟩
    have n11_ : Aside0 (gb134 ≠ gb135) := ⟨h11_⟩
    have n12_ : Aside0 (w.heap.size ≤ gb135) := ⟨h12_⟩
    have n13_ : Aside0 (w.heap.size ≤ gb135) := ⟨h13_⟩
    have n14_ : Aside0 (gb132 ≠ gb135) := ⟨h14_⟩
    have n15_ : Aside0 (gb135 ≠ gb132) := ⟨h15_⟩
    have n16_ : Aside0 (gb133 ≠ gb135) := ⟨h16_⟩
    have n17_ : Aside0 (gb135 ≠ gb133) := ⟨h17_⟩
    have n18_ : Aside0 (Below w.heap.size w w222) := ⟨h18_⟩
    clear BK132
    clear BK133
    clear HB
    clear h0_ h1_ h2_ h3_ h4_ h5_ h6_ h7_ h8_ h9_ h10_ h11_ h12_ h13_ h14_ h15_ h16_ h17_ h18_
    have BK132 := n0_
    have BK133 := n1_
    have BK134 := n2_
    have BK135 := n3_
    have GW134 := n4_
    have GE134 := n5_
    have NB132_134 := n6_
    have NB134_132 := n7_
    have NB133_134 := n8_
    have NB134_133 := n9_
    have NB135_134 := n10_
    have NB134_135 := n11_
    have GW135 := n12_
    have GE135 := n13_
    have NB132_135 := n14_
    have NB135_132 := n15_
    have NB133_135 := n16_
    have NB135_133 := n17_
    have HB := n18_
    clear n0_ n1_ n2_ n3_ n4_ n5_ n6_ n7_ n8_ n9_ n10_ n11_ n12_ n13_ n14_ n15_ n16_ n17_ n18_
    have hHeld : w222.cell? ⟨gb132, 0, none⟩ = some (.int .i64 a0_0) ∧ w222.cell? ⟨gb132, 1, none⟩ = some (.int .i64 a0_1) ∧ w222.cell? ⟨gb132, 2, none⟩ = some (.int .i64 a0_2) ∧ w222.cell? ⟨gb132, 3, none⟩ = some (.int .i64 a0_3) ∧ w222.cell? ⟨gb132, 4, none⟩ = some (.int .i64 a0_4) ∧ w222.cell? ⟨gb132, 5, none⟩ = some (.int .i64 a0_5) ∧ w222.cell? ⟨gb132, 6, none⟩ = some (.int .i64 a0_6) ∧ w222.cell? ⟨gb132, 7, none⟩ = some (.slice A0_7 l0_7.length c0_7) ∧ w222.cell? ⟨gb133, 0, none⟩ = some (.int .i64 a1_0) ∧ w222.cell? ⟨gb133, 1, none⟩ = some (.int .i64 a1_1) ∧ w222.cell? ⟨gb133, 2, none⟩ = some (.int .i64 a1_2) ∧ w222.cell? ⟨gb133, 3, none⟩ = some (.int .i64 a1_3) ∧ w222.cell? ⟨gb133, 4, none⟩ = some (.int .i64 a1_4) ∧ w222.cell? ⟨gb133, 5, none⟩ = some (.int .i64 a1_5) ∧ w222.cell? ⟨gb133, 6, none⟩ = some (.int .i64 a1_6) ∧ w222.cell? ⟨gb133, 7, none⟩ = some (.slice A1_7 l1_7.length c1_7) := hS_
    refine norm_ (a' := ?_) ?_ ?_
    rotate_left
    · simp only [putAll, Act.put, la_, lb_, lc_]
      rfl
    refine one_ (i := 4) (N := none) #[true, true, true, true, true, false] rfl rfl (by kernel_rfl) (by decide) (fun K hK => ?_)
    have hs223 : w222.cell? ⟨gb134, 0, none⟩ = some (.int .i64 0) := (blk_cell BK134.out 0).trans rfl
    have hfs223 := blk_frozen BK134.out 0
    have hns223_0 := NB132_134.out
    have hns223_1 := NB133_134.out
    have hns223_3 := NB135_134.out
    have hms223_0 := NB134_132.out
    have hms223_1 := NB134_133.out
    have hms223_3 := NB134_135.out
    have hs224 : w222.cell? ⟨gb134, 1, none⟩ = some (.int .i64 0) := (blk_cell BK134.out 1).trans rfl
    have hfs224 := blk_frozen BK134.out 1
    have hns224_0 := NB132_134.out
    have hns224_1 := NB133_134.out
    have hns224_3 := NB135_134.out
    have hms224_0 := NB134_132.out
    have hms224_1 := NB134_133.out
    have hms224_3 := NB134_135.out
    have hs225 : w222.cell? ⟨gb134, 2, none⟩ = some (.int .i64 0) := (blk_cell BK134.out 2).trans rfl
    have hfs225 := blk_frozen BK134.out 2
    have hns225_0 := NB132_134.out
    have hns225_1 := NB133_134.out
    have hns225_3 := NB135_134.out
    have hms225_0 := NB134_132.out
    have hms225_1 := NB134_133.out
    have hms225_3 := NB134_135.out
    have hs226 : w222.cell? ⟨gb134, 3, none⟩ = some (.int .i64 0) := (blk_cell BK134.out 3).trans rfl
    have hfs226 := blk_frozen BK134.out 3
    have hns226_0 := NB132_134.out
    have hns226_1 := NB133_134.out
    have hns226_3 := NB135_134.out
    have hms226_0 := NB134_132.out
    have hms226_1 := NB134_133.out
    have hms226_3 := NB134_135.out
    have hs227 : w222.cell? ⟨gb134, 4, none⟩ = some (.int .i64 0) := (blk_cell BK134.out 4).trans rfl
    have hfs227 := blk_frozen BK134.out 4
    have hns227_0 := NB132_134.out
    have hns227_1 := NB133_134.out
    have hns227_3 := NB135_134.out
    have hms227_0 := NB134_132.out
    have hms227_1 := NB134_133.out
    have hms227_3 := NB134_135.out
    have hs228 : w222.cell? ⟨gb134, 5, none⟩ = some (.int .i64 0) := (blk_cell BK134.out 5).trans rfl
    have hfs228 := blk_frozen BK134.out 5
    have hns228_0 := NB132_134.out
    have hns228_1 := NB133_134.out
    have hns228_3 := NB135_134.out
    have hms228_0 := NB134_132.out
    have hms228_1 := NB134_133.out
    have hms228_3 := NB134_135.out
    have hs229 : w222.cell? ⟨gb134, 6, none⟩ = some (.int .i64 0) := (blk_cell BK134.out 6).trans rfl
    have hfs229 := blk_frozen BK134.out 6
    have hns229_0 := NB132_134.out
    have hns229_1 := NB133_134.out
    have hns229_3 := NB135_134.out
    have hms229_0 := NB134_132.out
    have hms229_1 := NB134_133.out
    have hms229_3 := NB134_135.out
    have hs230 : w222.cell? ⟨gb134, 7, none⟩ = some (.slice none 0 0) := (blk_cell BK134.out 7).trans rfl
    have hfs230 := blk_frozen BK134.out 7
    have hns230_0 := NB132_134.out
    have hns230_1 := NB133_134.out
    have hns230_3 := NB135_134.out
    have hms230_0 := NB134_132.out
    have hms230_1 := NB134_133.out
    have hms230_3 := NB134_135.out
    refine skip_ (w1 := ?_) ?_ ?_ ?_ ?_
    rotate_left
    · rfl
    · rfl
    · go_simp
      rfl
    refine hK.out _ _ ⟨(cfar_ hHeld.1), (cfar_ hHeld.2.1), (cfar_ hHeld.2.2.1), (cfar_ hHeld.2.2.2.1), (cfar_ hHeld.2.2.2.2.1), (cfar_ hHeld.2.2.2.2.2.1), (cfar_ hHeld.2.2.2.2.2.2.1), (cfar_ hHeld.2.2.2.2.2.2.2.1), (cfar_ hHeld.2.2.2.2.2.2.2.2.1), (cfar_ hHeld.2.2.2.2.2.2.2.2.2.1), (cfar_ hHeld.2.2.2.2.2.2.2.2.2.2.1), (cfar_ hHeld.2.2.2.2.2.2.2.2.2.2.2.1), (cfar_ hHeld.2.2.2.2.2.2.2.2.2.2.2.2.1), (cfar_ hHeld.2.2.2.2.2.2.2.2.2.2.2.2.2.1), (cfar_ hHeld.2.2.2.2.2.2.2.2.2.2.2.2.2.2.1), (cfar_ hHeld.2.2.2.2.2.2.2.2.2.2.2.2.2.2.2)⟩ (fun hHeld => ?_)
    clear hK K
    refine one_ (i := 5) (N := none) #[true, true, true, true, true, true] rfl rfl (by kernel_rfl) (by decide) (fun K hK => ?_)
    have hs231 : w222.cell? ⟨gb135, 0, none⟩ = some (.int .i64 0) := (blk_cell BK135.out 0).trans rfl
    have hfs231 := blk_frozen BK135.out 0
    have hns231_0 := NB132_135.out
    have hns231_1 := NB133_135.out
    have hns231_2 := NB134_135.out
    have hms231_0 := NB135_132.out
    have hms231_1 := NB135_133.out
    have hms231_2 := NB135_134.out
    have hs232 : w222.cell? ⟨gb135, 1, none⟩ = some (.int .i64 0) := (blk_cell BK135.out 1).trans rfl
    have hfs232 := blk_frozen BK135.out 1
    have hns232_0 := NB132_135.out
    have hns232_1 := NB133_135.out
    have hns232_2 := NB134_135.out
    have hms232_0 := NB135_132.out
    have hms232_1 := NB135_133.out
    have hms232_2 := NB135_134.out
    have hs233 : w222.cell? ⟨gb135, 2, none⟩ = some (.int .i64 0) := (blk_cell BK135.out 2).trans rfl
    have hfs233 := blk_frozen BK135.out 2
    have hns233_0 := NB132_135.out
    have hns233_1 := NB133_135.out
    have hns233_2 := NB134_135.out
    have hms233_0 := NB135_132.out
    have hms233_1 := NB135_133.out
    have hms233_2 := NB135_134.out
    have hs234 : w222.cell? ⟨gb135, 3, none⟩ = some (.int .i64 0) := (blk_cell BK135.out 3).trans rfl
    have hfs234 := blk_frozen BK135.out 3
    have hns234_0 := NB132_135.out
    have hns234_1 := NB133_135.out
    have hns234_2 := NB134_135.out
    have hms234_0 := NB135_132.out
    have hms234_1 := NB135_133.out
    have hms234_2 := NB135_134.out
    have hs235 : w222.cell? ⟨gb135, 4, none⟩ = some (.int .i64 0) := (blk_cell BK135.out 4).trans rfl
    have hfs235 := blk_frozen BK135.out 4
    have hns235_0 := NB132_135.out
    have hns235_1 := NB133_135.out
    have hns235_2 := NB134_135.out
    have hms235_0 := NB135_132.out
    have hms235_1 := NB135_133.out
    have hms235_2 := NB135_134.out
    have hs236 : w222.cell? ⟨gb135, 5, none⟩ = some (.int .i64 0) := (blk_cell BK135.out 5).trans rfl
    have hfs236 := blk_frozen BK135.out 5
    have hns236_0 := NB132_135.out
    have hns236_1 := NB133_135.out
    have hns236_2 := NB134_135.out
    have hms236_0 := NB135_132.out
    have hms236_1 := NB135_133.out
    have hms236_2 := NB135_134.out
    have hs237 : w222.cell? ⟨gb135, 6, none⟩ = some (.int .i64 0) := (blk_cell BK135.out 6).trans rfl
    have hfs237 := blk_frozen BK135.out 6
    have hns237_0 := NB132_135.out
    have hns237_1 := NB133_135.out
    have hns237_2 := NB134_135.out
    have hms237_0 := NB135_132.out
    have hms237_1 := NB135_133.out
    have hms237_2 := NB135_134.out
    have hs238 : w222.cell? ⟨gb135, 7, none⟩ = some (.slice none 0 0) := (blk_cell BK135.out 7).trans rfl
    have hfs238 := blk_frozen BK135.out 7
    have hns238_0 := NB132_135.out
    have hns238_1 := NB133_135.out
    have hns238_2 := NB134_135.out
    have hms238_0 := NB135_132.out
    have hms238_1 := NB135_133.out
    have hms238_2 := NB135_134.out
    refine skip_ (w1 := ?_) ?_ ?_ ?_ ?_
    rotate_left
    · rfl
    · rfl
    · go_simp
      rfl
    refine hK.out _ _ ⟨(cfar_ hHeld.1), (cfar_ hHeld.2.1), (cfar_ hHeld.2.2.1), (cfar_ hHeld.2.2.2.1), (cfar_ hHeld.2.2.2.2.1), (cfar_ hHeld.2.2.2.2.2.1), (cfar_ hHeld.2.2.2.2.2.2.1), (cfar_ hHeld.2.2.2.2.2.2.2.1), (cfar_ hHeld.2.2.2.2.2.2.2.2.1), (cfar_ hHeld.2.2.2.2.2.2.2.2.2.1), (cfar_ hHeld.2.2.2.2.2.2.2.2.2.2.1), (cfar_ hHeld.2.2.2.2.2.2.2.2.2.2.2.1), (cfar_ hHeld.2.2.2.2.2.2.2.2.2.2.2.2.1), (cfar_ hHeld.2.2.2.2.2.2.2.2.2.2.2.2.2.1), (cfar_ hHeld.2.2.2.2.2.2.2.2.2.2.2.2.2.2.1), (cfar_ hHeld.2.2.2.2.2.2.2.2.2.2.2.2.2.2.2)⟩ (fun hHeld => ?_)
    clear hK K
    refine done_ (by kernel_rfl) ?_
    have hnb239 := NB134_132.out
    have hnc239 := NB132_134.out
    have hnb240 := NB134_133.out
    have hnc240 := NB133_134.out
    have hnb241 := NB134_135.out
    have hnc241 := NB135_134.out
    have hcz242_0 : w222.cell? ⟨gb134, 0, none⟩ = some (.int .i64 0) := bc_
    have hcz242_1 : w222.cell? ⟨gb134, 1, none⟩ = some (.int .i64 0) := bc_
    have hcz242_2 : w222.cell? ⟨gb134, 2, none⟩ = some (.int .i64 0) := bc_
    have hcz242_3 : w222.cell? ⟨gb134, 3, none⟩ = some (.int .i64 0) := bc_
    have hcz242_4 : w222.cell? ⟨gb134, 4, none⟩ = some (.int .i64 0) := bc_
    have hcz242_5 : w222.cell? ⟨gb134, 5, none⟩ = some (.int .i64 0) := bc_
    have hcz242_6 : w222.cell? ⟨gb134, 6, none⟩ = some (.int .i64 0) := bc_
    have hcz242_7 : w222.cell? ⟨gb134, 7, none⟩ = some (.slice none 0 0) := bc_
    have hfz242_0 := blk_frozen BK134.out 0
    have hfz242_1 := blk_frozen BK134.out 1
    have hfz242_2 := blk_frozen BK134.out 2
    have hfz242_3 := blk_frozen BK134.out 3
    have hfz242_4 := blk_frozen BK134.out 4
    have hfz242_5 := blk_frozen BK134.out 5
    have hfz242_6 := blk_frozen BK134.out 6
    have hfz242_7 := blk_frozen BK134.out 7
    have hnb243 := NB135_132.out
    have hnc243 := NB132_135.out
    have hnb244 := NB135_133.out
    have hnc244 := NB133_135.out
    have hcz245_0 : w222.cell? ⟨gb135, 0, none⟩ = some (.int .i64 0) := bc_
    have hcz245_1 : w222.cell? ⟨gb135, 1, none⟩ = some (.int .i64 0) := bc_
    have hcz245_2 : w222.cell? ⟨gb135, 2, none⟩ = some (.int .i64 0) := bc_
    have hcz245_3 : w222.cell? ⟨gb135, 3, none⟩ = some (.int .i64 0) := bc_
    have hcz245_4 : w222.cell? ⟨gb135, 4, none⟩ = some (.int .i64 0) := bc_
    have hcz245_5 : w222.cell? ⟨gb135, 5, none⟩ = some (.int .i64 0) := bc_
    have hcz245_6 : w222.cell? ⟨gb135, 6, none⟩ = some (.int .i64 0) := bc_
    have hcz245_7 : w222.cell? ⟨gb135, 7, none⟩ = some (.slice none 0 0) := bc_
    have hfz245_0 := blk_frozen BK135.out 0
    have hfz245_1 := blk_frozen BK135.out 1
    have hfz245_2 := blk_frozen BK135.out 2
    have hfz245_3 := blk_frozen BK135.out 3
    have hfz245_4 := blk_frozen BK135.out 4
    have hfz245_5 := blk_frozen BK135.out 5
    have hfz245_6 := blk_frozen BK135.out 6
    have hfz245_7 := blk_frozen BK135.out 7
    try go_wp2
    go_ret
    exact ⟨by first | rfl | (simp [errW_none, errW_some] <;> rfl) | (simp [*, errW_none, errW_some] <;> rfl), by repeat (first | (with_reducible first | exact HB.out | apply below_alloc | apply pw_below_drewN | apply below_drew1 | refine below_set ?_ GE132.out | refine below_set ?_ GE133.out | refine below_set ?_ GE134.out | refine below_set ?_ GE135.out) | exact HB.out)⟩

end Go.Proofs.Yteldfljjeofiaaa.PFnExactSameConfig
