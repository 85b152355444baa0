/- Contracts of Go functions, each with the Lean function that says what it computes: begun by the print, turned by this session. No condition beyond what each theorem states. -/
import Derived.Test.YteldfljjeofiaaaPFnExactCompareFracx0
import Derived.Test.YteldfljjeofiaaaPFnExactCompareFracx4
namespace Go.Proofs.Yteldfljjeofiaaa.PFnExactCompareFrac
open Go.RowKit Go.Proofs.YteldfljjeofiaaaW.PrintWords Go.Proofs.YteldfljjeofiaaaW.PrintLast Go.Proofs.YteldfljjeofiaaaW.PrintMore
attribute [local go_sem] max2_int min2_int max_two min_two max_three min_three max_four min_four   -- for this text's walks alone
set_option linter.unusedVariables false
set_option linter.unusedSimpArgs false

/-! ### impl_crossed: function 96 -/
def impl_crossed.j0 : Nat → Bool → Bool → Int → Int → Int → Bool → Int → Int → Int → Option (Bool × Int × Int × Bool × Int × Int × Bool)
  | 0, _, _, _, _, _, _, _, _, _ => none
  | k + 1, x18, x184000, x184001, x184002, x184003, x185000, x185001, x185002, x185003 => if x18 = true then (some (false, 0, 0, false, 0, 0, false)) else ((impl_ScaleWide.f x184000 x184001 x184002 x185003).bind fun bt189 => ((impl_ScaleWide.f x185000 x185001 x185002 x184003).bind fun bt194 => (if bt189.2.2.2 = true then (some (bt189.1, bt189.2.1, bt189.2.2.1, bt194.1, bt194.2.1, bt194.2.2.1, bt194.2.2.2)) else (some (bt189.1, bt189.2.1, bt189.2.2.1, bt194.1, bt194.2.1, bt194.2.2.1, false)))))
def impl_crossed.f (k : Nat) (a0_0 : Bool) (a0_1 : Int) (a0_2 : Int) (a0_3 : Int) (a1_0 : Bool) (a1_1 : Int) (a1_2 : Int) (a1_3 : Int) : Option (Bool × Int × Int × Bool × Int × Int × Bool) := (impl_FracOk.f a0_0 a0_1 a0_2 a0_3).bind fun t187 => (if t187 = true then ((impl_FracOk.f a1_0 a1_1 a1_2 a1_3).bind fun t188 => (impl_crossed.j0 k (!t188) a0_0 a0_1 a0_2 a0_3 a1_0 a1_1 a1_2 a1_3)) else (impl_crossed.j0 k true a0_0 a0_1 a0_2 a0_3 a1_0 a1_1 a1_2 a1_3))
theorem impl_crossed.mono_l : ∀ k, (∀ y0 y1 y2 y3 y4 y5 y6 y7 y8, LeO (impl_crossed.j0 k y0 y1 y2 y3 y4 y5 y6 y7 y8) (impl_crossed.j0 (k + 1) y0 y1 y2 y3 y4 y5 y6 y7 y8))
  | 0 => fun _ _ _ _ _ _ _ _ _ r h => by simp [impl_crossed.j0] at h
  | k + 1 => by
    have ih0 := impl_crossed.mono_l k
    · intro y0 y1 y2 y3 y4 y5 y6 y7 y8
      unfold impl_crossed.j0
      repeat' first
      | (with_reducible exact ih0 _ _ _ _ _ _ _ _ _)
      | (with_reducible exact LeO.refl _)
      | (with_reducible exact LeO.none _)
      | (with_reducible refine LeO.ite ?_ ?_)
      | (with_reducible refine LeO.bind ?_ (fun _ => ?_))
      | exact ih0 _ _ _ _ _ _ _ _ _
      | exact LeO.none _
      | refine LeO.ite ?_ ?_
      | refine LeO.bind ?_ (fun _ => ?_)
theorem impl_crossed.mono : ∀ a0 a1 a2 a3 a4 a5 a6 a7 k, LeO (impl_crossed.f k a0 a1 a2 a3 a4 a5 a6 a7) (impl_crossed.f (k + 1) a0 a1 a2 a3 a4 a5 a6 a7) := by
  intro a0 a1 a2 a3 a4 a5 a6 a7 k
  have ih0 := impl_crossed.mono_l k
  unfold impl_crossed.f
  repeat' first
      | (with_reducible exact ih0 _ _ _ _ _ _ _ _ _)
      | (with_reducible exact LeO.refl _)
      | (with_reducible exact LeO.none _)
      | (with_reducible refine LeO.ite ?_ ?_)
      | (with_reducible refine LeO.bind ?_ (fun _ => ?_))
      | exact ih0 _ _ _ _ _ _ _ _ _
      | exact LeO.none _
      | refine LeO.ite ?_ ?_
      | refine LeO.bind ?_ (fun _ => ?_)
def impl_crossed.T5 : Bool × List (List Nat × List Nat) := (true, [([], []), ([], []), ([], []), ([2], [2]), ([3], [3]), ([3, 4], [3, 4]), ([0, 3, 0], [0]), ([1, 6, 0, 1, 6], [1]), ([5, 7, 0, 1, 2, 3, 4, 5, 6, 7], [5])])
def impl_crossed.B5 : List Nat := [0, 0, 0, 4, 12, 28, 13, 79, 255]
theorem impl_crossed.tab5 : rtab .any (opsOf Try.f96 5) = impl_crossed.T5 := by kernel_rfl
theorem impl_crossed.bits5 : waitsOk impl_crossed.T5.2 impl_crossed.B5 = true := by kernel_rfl
set_option maxHeartbeats 8000000 in
set_option maxRecDepth 100000 in
theorem impl_crossed.calls (k : Nat) (a0_0 : Bool) (a0_1 : Int) (a0_2 : Int) (a0_3 : Int) (a1_0 : Bool) (a1_1 : Int) (a1_2 : Int) (a1_3 : Int) (r1 : Bool) (r2 : Int) (r3 : Int) (r4 : Bool) (r5 : Int) (r6 : Int) (r7 : Bool) (w : World) (h : impl_crossed.f k a0_0 a0_1 a0_2 a0_3 a1_0 a1_1 a1_2 a1_3 = some (r1, r2, r3, r4, r5, r6, r7)) :
    Calls Try.prog 96 #[.agg #[.bool a0_0, .int .u64 a0_1, .int .u64 a0_2, .int .i64 a0_3], .agg #[.bool a1_0, .int .u64 a1_1, .int .u64 a1_2, .int .i64 a1_3]] w fun e w' => e = .returned (.tuple #[.agg #[.bool r1, .int .u64 r2, .int .u64 r3], .agg #[.bool r4, .int .u64 r5, .int .u64 r6], .bool r7]) ∧ Below w.heap.size w w' := by
  have hu70 := Try.underlying70
  have hu33 := Try.underlying33
  have HB := Aside0.mk (Below.refl w.heap.size w)
  have H : ((impl_FracOk.f a0_0 a0_1 a0_2 a0_3).bind fun t187 => (if t187 = true then ((impl_FracOk.f a1_0 a1_1 a1_2 a1_3).bind fun t188 => (impl_crossed.j0 k (!t188) a0_0 a0_1 a0_2 a0_3 a1_0 a1_1 a1_2 a1_3)) else (impl_crossed.j0 k true a0_0 a0_1 a0_2 a0_3 a1_0 a1_1 a1_2 a1_3))) = some (r1, r2, r3, r4, r5, r6, r7) := h
  clear h
  have HC3 := Aside0.mk H
  clear H
  go_enter Try.func96, Try.ntmps96
  go_upto_region 1 with (first | ((with_reducible refine gate_dst (N := 2) rfl ?_); refine box_event ?hg (N := 2) ?hd (cs := #[.bool a0_0, .int .u64 a0_1, .int .u64 a0_2, .int .i64 a0_3]) (t := 70) ?hr ?_; (case hd => rfl); (case hg => rfl); (case hr => first | (go_simp; done) | (go_simp; rfl)); intro gb183 hg w4 hbox hb; have n0_ := Aside0.mk (below_step bel_ hb); have n1_ := Aside0.mk (hbox); have n2_ := Aside0.mk ((by rw [hg]; exact (below_size bel_) : w.heap.size ≤ gb183)); have n3_ := Aside0.mk ((by rw [hg]; exact (below_size bel_) : w.heap.size ≤ gb183)); clear HB; have HB := n0_; have BK183 := n1_; have GW183 := n2_; have GE183 := n3_; clear n0_ n1_ n2_ n3_; clear hb hbox hg) | ((with_reducible refine gate_dst (N := 3) rfl ?_); refine box_event ?hg (N := 3) ?hd (cs := #[.bool a1_0, .int .u64 a1_1, .int .u64 a1_2, .int .i64 a1_3]) (t := 70) ?hr ?_; (case hd => rfl); (case hg => rfl); (case hr => first | (go_simp; done) | (go_simp; rfl)); intro gb184 hg w5 hbox hb; have n0_ := bb_ (g := gb183) (o := .cells #[.bool a0_0, .int .u64 a0_1, .int .u64 a0_2, .int .i64 a0_3] 70 (0, 0)) hb; have n1_ := Aside0.mk (below_step bel_ hb); have n2_ := Aside0.mk (hbox); have n3_ := Aside0.mk ((by rw [hg]; exact (below_size bel_) : w.heap.size ≤ gb184)); have n4_ := Aside0.mk ((by rw [hg]; exact (below_size bel_) : w.heap.size ≤ gb184)); have n5_ := nlt_ (g := gb183) (o := .cells #[.bool a0_0, .int .u64 a0_1, .int .u64 a0_2, .int .i64 a0_3] 70 (0, 0)) hg; have n6_ := ngt_ (g := gb183) (o := .cells #[.bool a0_0, .int .u64 a0_1, .int .u64 a0_2, .int .i64 a0_3] 70 (0, 0)) hg; clear BK183; clear HB; have BK183 := n0_; have HB := n1_; have BK184 := n2_; have GW184 := n3_; have GE184 := n4_; have NB183_184 := n5_; have NB184_183 := n6_; clear n0_ n1_ n2_ n3_ n4_ n5_ n6_; clear hb hbox hg) | ((with_reducible refine gate_dst (N := 4) rfl ?_); refine box_event ?hg (N := 4) ?hd (cs := #[.bool false, .int .u64 0, .int .u64 0]) (t := 33) ?hr ?_; (case hd => rfl); (case hg => rfl); (case hr => first | (go_simp; done) | (go_simp; rfl)); intro gb185 hg w6 hbox hb; have n0_ := bb_ (g := gb183) (o := .cells #[.bool a0_0, .int .u64 a0_1, .int .u64 a0_2, .int .i64 a0_3] 70 (0, 0)) hb; have n1_ := bb_ (g := gb184) (o := .cells #[.bool a1_0, .int .u64 a1_1, .int .u64 a1_2, .int .i64 a1_3] 70 (0, 0)) hb; have n2_ := Aside0.mk (below_step bel_ hb); have n3_ := Aside0.mk (hbox); have n4_ := Aside0.mk ((by rw [hg]; exact (below_size bel_) : w.heap.size ≤ gb185)); have n5_ := Aside0.mk ((by rw [hg]; exact (below_size bel_) : w.heap.size ≤ gb185)); have n6_ := nlt_ (g := gb183) (o := .cells #[.bool a0_0, .int .u64 a0_1, .int .u64 a0_2, .int .i64 a0_3] 70 (0, 0)) hg; have n7_ := ngt_ (g := gb183) (o := .cells #[.bool a0_0, .int .u64 a0_1, .int .u64 a0_2, .int .i64 a0_3] 70 (0, 0)) hg; have n8_ := nlt_ (g := gb184) (o := .cells #[.bool a1_0, .int .u64 a1_1, .int .u64 a1_2, .int .i64 a1_3] 70 (0, 0)) hg; have n9_ := ngt_ (g := gb184) (o := .cells #[.bool a1_0, .int .u64 a1_1, .int .u64 a1_2, .int .i64 a1_3] 70 (0, 0)) hg; clear BK183; clear BK184; clear HB; have BK183 := n0_; have BK184 := n1_; have HB := n2_; have BK185 := n3_; have GW185 := n4_; have GE185 := n5_; have NB183_185 := n6_; have NB185_183 := n7_; have NB184_185 := n8_; have NB185_184 := n9_; clear n0_ n1_ n2_ n3_ n4_ n5_ n6_ n7_ n8_ n9_; clear hb hbox hg) | ((with_reducible refine gate_dst (N := 5) rfl ?_); refine box_event ?hg (N := 5) ?hd (cs := #[.bool false, .int .u64 0, .int .u64 0]) (t := 33) ?hr ?_; (case hd => rfl); (case hg => rfl); (case hr => first | (go_simp; done) | (go_simp; rfl)); intro gb186 hg w7 hbox hb; have n0_ := bb_ (g := gb183) (o := .cells #[.bool a0_0, .int .u64 a0_1, .int .u64 a0_2, .int .i64 a0_3] 70 (0, 0)) hb; have n1_ := bb_ (g := gb184) (o := .cells #[.bool a1_0, .int .u64 a1_1, .int .u64 a1_2, .int .i64 a1_3] 70 (0, 0)) hb; have n2_ := bb_ (g := gb185) (o := .cells #[.bool false, .int .u64 0, .int .u64 0] 33 (0, 0)) hb; have n3_ := Aside0.mk (below_step bel_ hb); have n4_ := Aside0.mk (hbox); have n5_ := Aside0.mk ((by rw [hg]; exact (below_size bel_) : w.heap.size ≤ gb186)); have n6_ := Aside0.mk ((by rw [hg]; exact (below_size bel_) : w.heap.size ≤ gb186)); have n7_ := nlt_ (g := gb183) (o := .cells #[.bool a0_0, .int .u64 a0_1, .int .u64 a0_2, .int .i64 a0_3] 70 (0, 0)) hg; have n8_ := ngt_ (g := gb183) (o := .cells #[.bool a0_0, .int .u64 a0_1, .int .u64 a0_2, .int .i64 a0_3] 70 (0, 0)) hg; have n9_ := nlt_ (g := gb184) (o := .cells #[.bool a1_0, .int .u64 a1_1, .int .u64 a1_2, .int .i64 a1_3] 70 (0, 0)) hg; have n10_ := ngt_ (g := gb184) (o := .cells #[.bool a1_0, .int .u64 a1_1, .int .u64 a1_2, .int .i64 a1_3] 70 (0, 0)) hg; have n11_ := nlt_ (g := gb185) (o := .cells #[.bool false, .int .u64 0, .int .u64 0] 33 (0, 0)) hg; have n12_ := ngt_ (g := gb185) (o := .cells #[.bool false, .int .u64 0, .int .u64 0] 33 (0, 0)) hg; clear BK183; clear BK184; clear BK185; clear HB; have BK183 := n0_; have BK184 := n1_; have BK185 := n2_; have HB := n3_; have BK186 := n4_; have GW186 := n5_; have GE186 := n6_; have NB183_186 := n7_; have NB186_183 := n8_; have NB184_186 := n9_; have NB186_184 := n10_; have NB185_186 := n11_; have NB186_185 := n12_; clear n0_ n1_ n2_ n3_ n4_ n5_ n6_ n7_ n8_ n9_ n10_ n11_ n12_; clear hb hbox hg))
  (try simp only [Act.put, la_, lb_, lc_])
  go_cut [18] (fun v18 wc => ∃ (kq : Nat) (x18_2 : Bool), v18 = .bool x18_2 ∧ Aside0 (impl_crossed.j0 kq x18_2 a0_0 a0_1 a0_2 a0_3 a1_0 a1_1 a1_2 a1_3 = some (r1, r2, r3, r4, r5, r6, r7)) ∧ Aside0 (kq ≤ k) ∧ Aside0 (wc.heap[gb183]? = some (.cells #[.bool a0_0, .int .u64 a0_1, .int .u64 a0_2, .int .i64 a0_3] 70 (0, 0))) ∧ Aside0 (wc.heap[gb184]? = some (.cells #[.bool a1_0, .int .u64 a1_1, .int .u64 a1_2, .int .i64 a1_3] 70 (0, 0))) ∧ Aside0 (wc.heap[gb185]? = some (.cells #[.bool false, .int .u64 0, .int .u64 0] 33 (0, 0))) ∧ Aside0 (wc.heap[gb186]? = some (.cells #[.bool false, .int .u64 0, .int .u64 0] 33 (0, 0))) ∧ Aside0 (Below w.heap.size w wc))
  case first =>
    have H := HC3.out
    clear HC3
    replace H := Option.bind_eq_some_iff.mp H
    obtain ⟨t187, A80, H⟩ := H
    replace H : (if t187 = true then ((impl_FracOk.f a1_0 a1_1 a1_2 a1_3).bind fun t188 => (impl_crossed.j0 k (!t188) a0_0 a0_1 a0_2 a0_3 a1_0 a1_1 a1_2 a1_3)) else (impl_crossed.j0 k true a0_0 a0_1 a0_2 a0_3 a1_0 a1_1 a1_2 a1_3)) = some (r1, r2, r3, r4, r5, r6, r7) := H
    have A8 := Aside0.mk A80
    clear A80
    by_cases c9 : t187 = true
    · subst c9
      have H1 : ((impl_FracOk.f a1_0 a1_1 a1_2 a1_3).bind fun t188 => (impl_crossed.j0 k (!t188) a0_0 a0_1 a0_2 a0_3 a1_0 a1_1 a1_2 a1_3)) = some (r1, r2, r3, r4, r5, r6, r7) := by rw [if_pos rfl] at H; exact H
      clear H
      have H := H1
      clear H1
      replace H := Option.bind_eq_some_iff.mp H
      obtain ⟨t188, A100, H⟩ := H
      replace H : (impl_crossed.j0 k (!t188) a0_0 a0_1 a0_2 a0_3 a1_0 a1_1 a1_2 a1_3) = some (r1, r2, r3, r4, r5, r6, r7) := H
      have A10 := Aside0.mk A100
      clear A100
      have H' := Aside0.mk H
      clear H
      have hnb11 := NB183_184.out
      have hnc11 := NB184_183.out
      have hnb12 := NB183_185.out
      have hnc12 := NB185_183.out
      have hnb13 := NB183_186.out
      have hnc13 := NB186_183.out
      have hcz14_0 : w7.cell? ⟨gb183, 0, none⟩ = some (.bool a0_0) := bc_
      have hcz14_1 : w7.cell? ⟨gb183, 1, none⟩ = some (.int .u64 a0_1) := bc_
      have hcz14_2 : w7.cell? ⟨gb183, 2, none⟩ = some (.int .u64 a0_2) := bc_
      have hcz14_3 : w7.cell? ⟨gb183, 3, none⟩ = some (.int .i64 a0_3) := bc_
      have hfz14_0 := blk_frozen BK183.out 0
      have hfz14_1 := blk_frozen BK183.out 1
      have hfz14_2 := blk_frozen BK183.out 2
      have hfz14_3 := blk_frozen BK183.out 3
      go_wp2_with (first | ((with_reducible refine gate_callee (f := 107) rfl ?_); refine goesL_ (some 12) rfl rfl Try.func107 (by kernel_rfl) rfl #[.agg #[.bool a0_0, .int .u64 a0_1, .int .u64 a0_2, .int .i64 a0_3]] rfl mp_ ?_; (with_reducible refine (impl_FracOk.calls a0_0 a0_1 a0_2 a0_3 true _ A8.out).mono ?_); rintro e w15 ⟨rfl, hb⟩; refine ⟨_, rfl, ?_⟩; have n0_ := bb_ (g := gb183) (o := .cells #[.bool a0_0, .int .u64 a0_1, .int .u64 a0_2, .int .i64 a0_3] 70 (0, 0)) hb; have n1_ := bb_ (g := gb184) (o := .cells #[.bool a1_0, .int .u64 a1_1, .int .u64 a1_2, .int .i64 a1_3] 70 (0, 0)) hb; have n2_ := bb_ (g := gb185) (o := .cells #[.bool false, .int .u64 0, .int .u64 0] 33 (0, 0)) hb; have n3_ := bb_ (g := gb186) (o := .cells #[.bool false, .int .u64 0, .int .u64 0] 33 (0, 0)) hb; have n4_ := Aside0.mk (below_step bel_ hb); clear BK183; clear BK184; clear BK185; clear BK186; clear HB; have BK183 := n0_; have BK184 := n1_; have BK185 := n2_; have BK186 := n3_; have HB := n4_; clear n0_ n1_ n2_ n3_ n4_; (try clear hb); (try clear hb2); (try clear hk); (try clear hi); have hnb16 := NB184_185.out; have hnc16 := NB185_184.out; have hnb17 := NB184_186.out; have hnc17 := NB186_184.out; have hcz18_0 : w15.cell? ⟨gb184, 0, none⟩ = some (.bool a1_0) := bc_; have hcz18_1 : w15.cell? ⟨gb184, 1, none⟩ = some (.int .u64 a1_1) := bc_; have hcz18_2 : w15.cell? ⟨gb184, 2, none⟩ = some (.int .u64 a1_2) := bc_; have hcz18_3 : w15.cell? ⟨gb184, 3, none⟩ = some (.int .i64 a1_3) := bc_; have hfz18_0 := blk_frozen BK184.out 0; have hfz18_1 := blk_frozen BK184.out 1; have hfz18_2 := blk_frozen BK184.out 2; have hfz18_3 := blk_frozen BK184.out 3) | (go_at_call 107; (with_reducible refine (impl_FracOk.calls a1_0 a1_1 a1_2 a1_3 t188 _ A10.out).mono ?_); rintro e w19 ⟨rfl, hb⟩; have n0_ := bb_ (g := gb183) (o := .cells #[.bool a0_0, .int .u64 a0_1, .int .u64 a0_2, .int .i64 a0_3] 70 (0, 0)) hb; have n1_ := bb_ (g := gb184) (o := .cells #[.bool a1_0, .int .u64 a1_1, .int .u64 a1_2, .int .i64 a1_3] 70 (0, 0)) hb; have n2_ := bb_ (g := gb185) (o := .cells #[.bool false, .int .u64 0, .int .u64 0] 33 (0, 0)) hb; have n3_ := bb_ (g := gb186) (o := .cells #[.bool false, .int .u64 0, .int .u64 0] 33 (0, 0)) hb; have n4_ := Aside0.mk (below_step bel_ hb); clear BK183; clear BK184; clear BK185; clear BK186; clear HB; have BK183 := n0_; have BK184 := n1_; have BK185 := n2_; have BK186 := n3_; have HB := n4_; clear n0_ n1_ n2_ n3_ n4_; (try clear hb); (try clear hb2); (try clear hk); (try clear hi)))
      go_meet
      case rel => exact ⟨_, (!t188), (by first | rfl | (simp; done) | (simp [*]; done)), H', ⟨by first | omega | exact Nat.le_refl _⟩, ⟨by (with_reducible repeat (first | refine bN_ _ ?_ | refine bd_ ?_ | refine ba_ _ ?_)); exact BK183.out⟩, ⟨by (with_reducible repeat (first | refine bN_ _ ?_ | refine bd_ ?_ | refine ba_ _ ?_)); exact BK184.out⟩, ⟨by (with_reducible repeat (first | refine bN_ _ ?_ | refine bd_ ?_ | refine ba_ _ ?_)); exact BK185.out⟩, ⟨by (with_reducible repeat (first | refine bN_ _ ?_ | refine bd_ ?_ | refine ba_ _ ?_)); exact BK186.out⟩, ⟨by repeat (first | (with_reducible first | exact HB.out | apply below_alloc | apply pw_below_drewN | apply below_drew1 | refine below_set ?_ GE183.out | refine below_set ?_ GE184.out | refine below_set ?_ GE185.out | refine below_set ?_ GE186.out) | exact HB.out)⟩⟩
    · replace c9 := Bool.eq_false_iff.mpr c9
      subst c9
      have H1 : (impl_crossed.j0 k true a0_0 a0_1 a0_2 a0_3 a1_0 a1_1 a1_2 a1_3) = some (r1, r2, r3, r4, r5, r6, r7) := by rw [if_neg (show ¬ (false = true) by decide)] at H; exact H
      clear H
      have H := H1
      clear H1
      have H' := Aside0.mk H
      clear H
      have hnb20 := NB183_184.out
      have hnc20 := NB184_183.out
      have hnb21 := NB183_185.out
      have hnc21 := NB185_183.out
      have hnb22 := NB183_186.out
      have hnc22 := NB186_183.out
      have hcz23_0 : w7.cell? ⟨gb183, 0, none⟩ = some (.bool a0_0) := bc_
      have hcz23_1 : w7.cell? ⟨gb183, 1, none⟩ = some (.int .u64 a0_1) := bc_
      have hcz23_2 : w7.cell? ⟨gb183, 2, none⟩ = some (.int .u64 a0_2) := bc_
      have hcz23_3 : w7.cell? ⟨gb183, 3, none⟩ = some (.int .i64 a0_3) := bc_
      have hfz23_0 := blk_frozen BK183.out 0
      have hfz23_1 := blk_frozen BK183.out 1
      have hfz23_2 := blk_frozen BK183.out 2
      have hfz23_3 := blk_frozen BK183.out 3
      go_wp2_with (first | ((with_reducible refine gate_callee (f := 107) rfl ?_); refine goesL_ (some 12) rfl rfl Try.func107 (by kernel_rfl) rfl #[.agg #[.bool a0_0, .int .u64 a0_1, .int .u64 a0_2, .int .i64 a0_3]] rfl mp_ ?_; (with_reducible refine (impl_FracOk.calls a0_0 a0_1 a0_2 a0_3 false _ A8.out).mono ?_); rintro e w24 ⟨rfl, hb⟩; refine ⟨_, rfl, ?_⟩; have n0_ := bb_ (g := gb183) (o := .cells #[.bool a0_0, .int .u64 a0_1, .int .u64 a0_2, .int .i64 a0_3] 70 (0, 0)) hb; have n1_ := bb_ (g := gb184) (o := .cells #[.bool a1_0, .int .u64 a1_1, .int .u64 a1_2, .int .i64 a1_3] 70 (0, 0)) hb; have n2_ := bb_ (g := gb185) (o := .cells #[.bool false, .int .u64 0, .int .u64 0] 33 (0, 0)) hb; have n3_ := bb_ (g := gb186) (o := .cells #[.bool false, .int .u64 0, .int .u64 0] 33 (0, 0)) hb; have n4_ := Aside0.mk (below_step bel_ hb); clear BK183; clear BK184; clear BK185; clear BK186; clear HB; have BK183 := n0_; have BK184 := n1_; have BK185 := n2_; have BK186 := n3_; have HB := n4_; clear n0_ n1_ n2_ n3_ n4_; (try clear hb); (try clear hb2); (try clear hk); (try clear hi)))
      go_meet
      case rel => exact ⟨_, (true), (by first | rfl | (simp; done) | (simp [*]; done)), H', ⟨by first | omega | exact Nat.le_refl _⟩, ⟨by (with_reducible repeat (first | refine bN_ _ ?_ | refine bd_ ?_ | refine ba_ _ ?_)); exact BK183.out⟩, ⟨by (with_reducible repeat (first | refine bN_ _ ?_ | refine bd_ ?_ | refine ba_ _ ?_)); exact BK184.out⟩, ⟨by (with_reducible repeat (first | refine bN_ _ ?_ | refine bd_ ?_ | refine ba_ _ ?_)); exact BK185.out⟩, ⟨by (with_reducible repeat (first | refine bN_ _ ?_ | refine bd_ ?_ | refine ba_ _ ?_)); exact BK186.out⟩, ⟨by repeat (first | (with_reducible first | exact HB.out | apply below_alloc | apply pw_below_drewN | apply below_drew1 | refine below_set ?_ GE183.out | refine below_set ?_ GE184.out | refine below_set ?_ GE185.out | refine below_set ?_ GE186.out) | exact HB.out)⟩⟩
  case rest =>
    clear HC3
    try clear c1
    try clear c2
    try clear p2
    try clear c9
    try clear c10
    try clear c11
    try clear c12
    try clear c13
    try clear c16
    try clear c17
    try clear c20
    try clear c21
    try clear c22
    try clear hcz14_0
    try clear hcz14_1
    try clear hcz14_2
    try clear hcz14_3
    try clear hcz18_0
    try clear hcz18_1
    try clear hcz18_2
    try clear hcz18_3
    try clear hcz23_0
    try clear hcz23_1
    try clear hcz23_2
    try clear hcz23_3
    try clear hfz14_0
    try clear hfz14_1
    try clear hfz14_2
    try clear hfz14_3
    try clear hfz18_0
    try clear hfz18_1
    try clear hfz18_2
    try clear hfz18_3
    try clear hfz23_0
    try clear hfz23_1
    try clear hfz23_2
    try clear hfz23_3
    obtain ⟨kq, x18_2, rfl, HA, HJ2, BK183, BK184, BK185, BK186, HB⟩ := hcut
    cases kq with
    | zero => exact absurd HA.out (by simp [impl_crossed.j0])
    | succ kj2 =>
      have H := HA.out
      clear HA
      simp only [impl_crossed.j0] at H
      by_cases c25 : x18_2 = true
      · subst c25
        have H1 : (some (false, 0, 0, false, 0, 0, false)) = some (r1, r2, r3, r4, r5, r6, r7) := by rw [if_pos rfl] at H; exact H
        clear H
        have H := H1
        clear H1
        simp only [Option.some.injEq, Prod.mk.injEq] at H
        obtain ⟨rfl, rfl, rfl, rfl, rfl, rfl, rfl⟩ := H
        have hnb26 := NB185_183.out
        have hnc26 := NB183_185.out
        have hnb27 := NB185_184.out
        have hnc27 := NB184_185.out
        have hnb28 := NB185_186.out
        have hnc28 := NB186_185.out
        have hcz29_0 : wc.cell? ⟨gb185, 0, none⟩ = some (.bool false) := bc_
        have hcz29_1 : wc.cell? ⟨gb185, 1, none⟩ = some (.int .u64 0) := bc_
        have hcz29_2 : wc.cell? ⟨gb185, 2, none⟩ = some (.int .u64 0) := bc_
        have hfz29_0 := blk_frozen BK185.out 0
        have hfz29_1 := blk_frozen BK185.out 1
        have hfz29_2 := blk_frozen BK185.out 2
        have hnb30 := NB186_183.out
        have hnc30 := NB183_186.out
        have hnb31 := NB186_184.out
        have hnc31 := NB184_186.out
        have hcz32_0 : wc.cell? ⟨gb186, 0, none⟩ = some (.bool false) := bc_
        have hcz32_1 : wc.cell? ⟨gb186, 1, none⟩ = some (.int .u64 0) := bc_
        have hcz32_2 : wc.cell? ⟨gb186, 2, none⟩ = some (.int .u64 0) := bc_
        have hfz32_0 := blk_frozen BK186.out 0
        have hfz32_1 := blk_frozen BK186.out 1
        have hfz32_2 := blk_frozen BK186.out 2
        go_wp2
        refine bodyPost_ret (results_list (rs := [.cell 4 33, .cell 5 33, .tmp 6]) rfl (by simp) (.cell gb185 33 #[.bool false, .int .u64 0, .int .u64 0] (0, 0) _ rfl (by (with_reducible repeat (first | refine bN_ _ ?_ | refine bd_ ?_ | refine ba_ _ ?_)); refine blk_far ?_ NB185_186.out _; (with_reducible repeat (first | refine bN_ _ ?_ | refine bd_ ?_ | refine ba_ _ ?_)); refine blk_far ?_ NB185_186.out _; (with_reducible repeat (first | refine bN_ _ ?_ | refine bd_ ?_ | refine ba_ _ ?_)); refine blk_far ?_ NB185_186.out _; (with_reducible repeat (first | refine bN_ _ ?_ | refine bd_ ?_ | refine ba_ _ ?_)); refine blk_put (cs := #[.bool false, .int .u64 0, .int .u64 0]) ?_ 2 _ rfl; (with_reducible repeat (first | refine bN_ _ ?_ | refine bd_ ?_ | refine ba_ _ ?_)); refine blk_put (cs := #[.bool false, .int .u64 0, .int .u64 0]) ?_ 1 _ rfl; (with_reducible repeat (first | refine bN_ _ ?_ | refine bd_ ?_ | refine ba_ _ ?_)); refine blk_put (cs := #[.bool false, .int .u64 0, .int .u64 0]) ?_ 0 _ rfl; (with_reducible repeat (first | refine bN_ _ ?_ | refine bd_ ?_ | refine ba_ _ ?_)); exact BK185.out) Try.underlying33 rfl (by kernel_rfl) (.cell gb186 33 #[.bool false, .int .u64 0, .int .u64 0] (0, 0) _ rfl (by (with_reducible repeat (first | refine bN_ _ ?_ | refine bd_ ?_ | refine ba_ _ ?_)); refine blk_put (cs := #[.bool false, .int .u64 0, .int .u64 0]) ?_ 2 _ rfl; (with_reducible repeat (first | refine bN_ _ ?_ | refine bd_ ?_ | refine ba_ _ ?_)); refine blk_put (cs := #[.bool false, .int .u64 0, .int .u64 0]) ?_ 1 _ rfl; (with_reducible repeat (first | refine bN_ _ ?_ | refine bd_ ?_ | refine ba_ _ ?_)); refine blk_put (cs := #[.bool false, .int .u64 0, .int .u64 0]) ?_ 0 _ rfl; (with_reducible repeat (first | refine bN_ _ ?_ | refine bd_ ?_ | refine ba_ _ ?_)); refine blk_far ?_ NB186_185.out _; (with_reducible repeat (first | refine bN_ _ ?_ | refine bd_ ?_ | refine ba_ _ ?_)); refine blk_far ?_ NB186_185.out _; (with_reducible repeat (first | refine bN_ _ ?_ | refine bd_ ?_ | refine ba_ _ ?_)); refine blk_far ?_ NB186_185.out _; (with_reducible repeat (first | refine bN_ _ ?_ | refine bd_ ?_ | refine ba_ _ ?_)); exact BK186.out) Try.underlying33 rfl (by kernel_rfl) (.tmp .nil)))) rfl ?_
        exact ⟨by first | rfl | (simp [errW_none, errW_some] <;> rfl) | (simp [*, errW_none, errW_some] <;> rfl), by repeat (first | (with_reducible first | exact HB.out | apply below_alloc | apply pw_below_drewN | apply below_drew1 | refine below_set ?_ GE183.out | refine below_set ?_ GE184.out | refine below_set ?_ GE185.out | refine below_set ?_ GE186.out) | exact HB.out)⟩
      · replace c25 := Bool.eq_false_iff.mpr c25
        subst c25
        have H1 : ((impl_ScaleWide.f a0_0 a0_1 a0_2 a1_3).bind fun bt189 => ((impl_ScaleWide.f a1_0 a1_1 a1_2 a0_3).bind fun bt194 => (if bt189.2.2.2 = true then (some (bt189.1, bt189.2.1, bt189.2.2.1, bt194.1, bt194.2.1, bt194.2.2.1, bt194.2.2.2)) else (some (bt189.1, bt189.2.1, bt189.2.2.1, bt194.1, bt194.2.1, bt194.2.2.1, false))))) = some (r1, r2, r3, r4, r5, r6, r7) := by rw [if_neg (show ¬ (false = true) by decide)] at H; exact H
        clear H
        have H := H1
        clear H1
        replace H := Option.bind_eq_some_iff.mp H
        obtain ⟨⟨t189, t190, t191, t192⟩, A330, H⟩ := H
        replace H : ((impl_ScaleWide.f a1_0 a1_1 a1_2 a0_3).bind fun bt194 => (if t192 = true then (some (t189, t190, t191, bt194.1, bt194.2.1, bt194.2.2.1, bt194.2.2.2)) else (some (t189, t190, t191, bt194.1, bt194.2.1, bt194.2.2.1, false)))) = some (r1, r2, r3, r4, r5, r6, r7) := H
        have A33 := Aside0.mk A330
        clear A330
        replace H := Option.bind_eq_some_iff.mp H
        obtain ⟨⟨t194, t195, t196, t197⟩, A340, H⟩ := H
        replace H : (if t192 = true then (some (t189, t190, t191, t194, t195, t196, t197)) else (some (t189, t190, t191, t194, t195, t196, false))) = some (r1, r2, r3, r4, r5, r6, r7) := H
        have A34 := Aside0.mk A340
        clear A340
        by_cases c35 : t192 = true
        · subst c35
          have H1 : (some (t189, t190, t191, t194, t195, t196, t197)) = some (r1, r2, r3, r4, r5, r6, r7) := by rw [if_pos rfl] at H; exact H
          clear H
          have H := H1
          clear H1
          simp only [Option.some.injEq, Prod.mk.injEq] at H
          obtain ⟨rfl, rfl, rfl, rfl, rfl, rfl, rfl⟩ := H
          have hnb36 := NB183_184.out
          have hnc36 := NB184_183.out
          have hnb37 := NB183_185.out
          have hnc37 := NB185_183.out
          have hnb38 := NB183_186.out
          have hnc38 := NB186_183.out
          have hcz39_0 : wc.cell? ⟨gb183, 0, none⟩ = some (.bool a0_0) := bc_
          have hcz39_1 : wc.cell? ⟨gb183, 1, none⟩ = some (.int .u64 a0_1) := bc_
          have hcz39_2 : wc.cell? ⟨gb183, 2, none⟩ = some (.int .u64 a0_2) := bc_
          have hcz39_3 : wc.cell? ⟨gb183, 3, none⟩ = some (.int .i64 a0_3) := bc_
          have hfz39_0 := blk_frozen BK183.out 0
          have hfz39_1 := blk_frozen BK183.out 1
          have hfz39_2 := blk_frozen BK183.out 2
          have hfz39_3 := blk_frozen BK183.out 3
          have hnb40 := NB184_185.out
          have hnc40 := NB185_184.out
          have hnb41 := NB184_186.out
          have hnc41 := NB186_184.out
          have hcz42_0 : wc.cell? ⟨gb184, 0, none⟩ = some (.bool a1_0) := bc_
          have hcz42_1 : wc.cell? ⟨gb184, 1, none⟩ = some (.int .u64 a1_1) := bc_
          have hcz42_2 : wc.cell? ⟨gb184, 2, none⟩ = some (.int .u64 a1_2) := bc_
          have hcz42_3 : wc.cell? ⟨gb184, 3, none⟩ = some (.int .i64 a1_3) := bc_
          have hfz42_0 := blk_frozen BK184.out 0
          have hfz42_1 := blk_frozen BK184.out 1
          have hfz42_2 := blk_frozen BK184.out 2
          have hfz42_3 := blk_frozen BK184.out 3
          try go_wp2_with (first | ((with_reducible refine gate_callee (f := 21) rfl ?_); refine goesL_ (some 26) rfl rfl Try.func21 (by kernel_rfl) rfl #[.agg #[.bool a0_0, .int .u64 a0_1, .int .u64 a0_2], .int .i64 a1_3] rfl mp_ ?_; (with_reducible refine (impl_ScaleWide.calls a0_0 a0_1 a0_2 a1_3 t189 t190 t191 true _ A33.out).mono ?_); rintro e w43 ⟨rfl, hb⟩; refine ⟨_, rfl, ?_⟩; have n0_ := bb_ (g := gb183) (o := .cells #[.bool a0_0, .int .u64 a0_1, .int .u64 a0_2, .int .i64 a0_3] 70 (0, 0)) hb; have n1_ := bb_ (g := gb184) (o := .cells #[.bool a1_0, .int .u64 a1_1, .int .u64 a1_2, .int .i64 a1_3] 70 (0, 0)) hb; have n2_ := bb_ (g := gb185) (o := .cells #[.bool false, .int .u64 0, .int .u64 0] 33 (0, 0)) hb; have n3_ := bb_ (g := gb186) (o := .cells #[.bool false, .int .u64 0, .int .u64 0] 33 (0, 0)) hb; have n4_ := Aside0.mk (below_step bel_ hb); clear BK183; clear BK184; clear BK185; clear BK186; clear HB; have BK183 := n0_; have BK184 := n1_; have BK185 := n2_; have BK186 := n3_; have HB := n4_; clear n0_ n1_ n2_ n3_ n4_; (try clear hb); (try clear hb2); (try clear hk); (try clear hi)) | ((with_reducible refine gate_dst (N := 7) rfl ?_); refine box_event ?hg (N := 7) ?hd (cs := #[.bool false, .int .u64 0, .int .u64 0]) (t := 33) ?hr ?_; (case hd => rfl); (case hg => rfl); (case hr => first | (go_simp; done) | (go_simp; rfl)); intro gb193 hg w44 hbox hb; have n0_ := bb_ (g := gb183) (o := .cells #[.bool a0_0, .int .u64 a0_1, .int .u64 a0_2, .int .i64 a0_3] 70 (0, 0)) hb; have n1_ := bb_ (g := gb184) (o := .cells #[.bool a1_0, .int .u64 a1_1, .int .u64 a1_2, .int .i64 a1_3] 70 (0, 0)) hb; have n2_ := bb_ (g := gb185) (o := .cells #[.bool false, .int .u64 0, .int .u64 0] 33 (0, 0)) hb; have n3_ := bb_ (g := gb186) (o := .cells #[.bool false, .int .u64 0, .int .u64 0] 33 (0, 0)) hb; have n4_ := Aside0.mk (below_step bel_ hb); have n5_ := Aside0.mk (hbox); have n6_ := Aside0.mk ((by rw [hg]; exact (below_size bel_) : w.heap.size ≤ gb193)); have n7_ := Aside0.mk ((by rw [hg]; exact (below_size bel_) : w.heap.size ≤ gb193)); have n8_ := nlt_ (g := gb183) (o := .cells #[.bool a0_0, .int .u64 a0_1, .int .u64 a0_2, .int .i64 a0_3] 70 (0, 0)) hg; have n9_ := ngt_ (g := gb183) (o := .cells #[.bool a0_0, .int .u64 a0_1, .int .u64 a0_2, .int .i64 a0_3] 70 (0, 0)) hg; have n10_ := nlt_ (g := gb184) (o := .cells #[.bool a1_0, .int .u64 a1_1, .int .u64 a1_2, .int .i64 a1_3] 70 (0, 0)) hg; have n11_ := ngt_ (g := gb184) (o := .cells #[.bool a1_0, .int .u64 a1_1, .int .u64 a1_2, .int .i64 a1_3] 70 (0, 0)) hg; have n12_ := nlt_ (g := gb185) (o := .cells #[.bool false, .int .u64 0, .int .u64 0] 33 (0, 0)) hg; have n13_ := ngt_ (g := gb185) (o := .cells #[.bool false, .int .u64 0, .int .u64 0] 33 (0, 0)) hg; have n14_ := nlt_ (g := gb186) (o := .cells #[.bool false, .int .u64 0, .int .u64 0] 33 (0, 0)) hg; have n15_ := ngt_ (g := gb186) (o := .cells #[.bool false, .int .u64 0, .int .u64 0] 33 (0, 0)) hg; clear BK183; clear BK184; clear BK185; clear BK186; clear HB; have BK183 := n0_; have BK184 := n1_; have BK185 := n2_; have BK186 := n3_; have HB := n4_; have BK193 := n5_; have GW193 := n6_; have GE193 := n7_; have NB183_193 := n8_; have NB193_183 := n9_; have NB184_193 := n10_; have NB193_184 := n11_; have NB185_193 := n12_; have NB193_185 := n13_; have NB186_193 := n14_; have NB193_186 := n15_; clear n0_ n1_ n2_ n3_ n4_ n5_ n6_ n7_ n8_ n9_ n10_ n11_ n12_ n13_ n14_ n15_; clear hb hbox hg; have hnb45 := NB193_183.out; have hnc45 := NB183_193.out; have hnb46 := NB193_184.out; have hnc46 := NB184_193.out; have hnb47 := NB193_185.out; have hnc47 := NB185_193.out; have hnb48 := NB193_186.out; have hnc48 := NB186_193.out; have hcz49_0 : w44.cell? ⟨gb193, 0, none⟩ = some (.bool false) := bc_; have hcz49_1 : w44.cell? ⟨gb193, 1, none⟩ = some (.int .u64 0) := bc_; have hcz49_2 : w44.cell? ⟨gb193, 2, none⟩ = some (.int .u64 0) := bc_; have hfz49_0 := blk_frozen BK193.out 0; have hfz49_1 := blk_frozen BK193.out 1; have hfz49_2 := blk_frozen BK193.out 2; have hcz50_0 : w44.cell? ⟨gb184, 0, none⟩ = some (.bool a1_0) := bc_; have hcz50_1 : w44.cell? ⟨gb184, 1, none⟩ = some (.int .u64 a1_1) := bc_; have hcz50_2 : w44.cell? ⟨gb184, 2, none⟩ = some (.int .u64 a1_2) := bc_; have hcz50_3 : w44.cell? ⟨gb184, 3, none⟩ = some (.int .i64 a1_3) := bc_; have hfz50_0 := blk_frozen BK184.out 0; have hfz50_1 := blk_frozen BK184.out 1; have hfz50_2 := blk_frozen BK184.out 2; have hfz50_3 := blk_frozen BK184.out 3; have hcz51_0 : w44.cell? ⟨gb183, 0, none⟩ = some (.bool a0_0) := bc_; have hcz51_1 : w44.cell? ⟨gb183, 1, none⟩ = some (.int .u64 a0_1) := bc_; have hcz51_2 : w44.cell? ⟨gb183, 2, none⟩ = some (.int .u64 a0_2) := bc_; have hcz51_3 : w44.cell? ⟨gb183, 3, none⟩ = some (.int .i64 a0_3) := bc_; have hfz51_0 := blk_frozen BK183.out 0; have hfz51_1 := blk_frozen BK183.out 1; have hfz51_2 := blk_frozen BK183.out 2; have hfz51_3 := blk_frozen BK183.out 3) | ((with_reducible refine gate_callee (f := 21) rfl ?_); refine goesL_ (some 34) rfl rfl Try.func21 (by kernel_rfl) rfl #[.agg #[.bool a1_0, .int .u64 a1_1, .int .u64 a1_2], .int .i64 a0_3] rfl mp_ ?_; (with_reducible refine (impl_ScaleWide.calls a1_0 a1_1 a1_2 a0_3 t194 t195 t196 t197 _ A34.out).mono ?_); rintro e w52 ⟨rfl, hb⟩; refine ⟨_, rfl, ?_⟩; have n0_ := Aside0.mk (blk_below (g := gb183) (o := .cells #[.bool a0_0, .int .u64 a0_1, .int .u64 a0_2, .int .i64 a0_3] 70 (0, 0)) (by (with_reducible repeat (first | refine bN_ _ ?_ | refine bd_ ?_ | refine ba_ _ ?_)); refine blk_far ?_ NB183_193.out _; (with_reducible repeat (first | refine bN_ _ ?_ | refine bd_ ?_ | refine ba_ _ ?_)); refine blk_far ?_ NB183_193.out _; (with_reducible repeat (first | refine bN_ _ ?_ | refine bd_ ?_ | refine ba_ _ ?_)); refine blk_far ?_ NB183_193.out _; (with_reducible repeat (first | refine bN_ _ ?_ | refine bd_ ?_ | refine ba_ _ ?_)); exact BK183.out) hb); have n1_ := Aside0.mk (blk_below (g := gb184) (o := .cells #[.bool a1_0, .int .u64 a1_1, .int .u64 a1_2, .int .i64 a1_3] 70 (0, 0)) (by (with_reducible repeat (first | refine bN_ _ ?_ | refine bd_ ?_ | refine ba_ _ ?_)); refine blk_far ?_ NB184_193.out _; (with_reducible repeat (first | refine bN_ _ ?_ | refine bd_ ?_ | refine ba_ _ ?_)); refine blk_far ?_ NB184_193.out _; (with_reducible repeat (first | refine bN_ _ ?_ | refine bd_ ?_ | refine ba_ _ ?_)); refine blk_far ?_ NB184_193.out _; (with_reducible repeat (first | refine bN_ _ ?_ | refine bd_ ?_ | refine ba_ _ ?_)); exact BK184.out) hb); have n2_ := Aside0.mk (blk_below (g := gb185) (o := .cells #[.bool false, .int .u64 0, .int .u64 0] 33 (0, 0)) (by (with_reducible repeat (first | refine bN_ _ ?_ | refine bd_ ?_ | refine ba_ _ ?_)); refine blk_far ?_ NB185_193.out _; (with_reducible repeat (first | refine bN_ _ ?_ | refine bd_ ?_ | refine ba_ _ ?_)); refine blk_far ?_ NB185_193.out _; (with_reducible repeat (first | refine bN_ _ ?_ | refine bd_ ?_ | refine ba_ _ ?_)); refine blk_far ?_ NB185_193.out _; (with_reducible repeat (first | refine bN_ _ ?_ | refine bd_ ?_ | refine ba_ _ ?_)); exact BK185.out) hb); have n3_ := Aside0.mk (blk_below (g := gb186) (o := .cells #[.bool false, .int .u64 0, .int .u64 0] 33 (0, 0)) (by (with_reducible repeat (first | refine bN_ _ ?_ | refine bd_ ?_ | refine ba_ _ ?_)); refine blk_far ?_ NB186_193.out _; (with_reducible repeat (first | refine bN_ _ ?_ | refine bd_ ?_ | refine ba_ _ ?_)); refine blk_far ?_ NB186_193.out _; (with_reducible repeat (first | refine bN_ _ ?_ | refine bd_ ?_ | refine ba_ _ ?_)); refine blk_far ?_ NB186_193.out _; (with_reducible repeat (first | refine bN_ _ ?_ | refine bd_ ?_ | refine ba_ _ ?_)); exact BK186.out) hb); have n4_ := Aside0.mk (blk_below (g := gb193) (o := .cells #[.bool t189, .int .u64 t190, .int .u64 t191] 33 (0, 0)) (by (with_reducible repeat (first | refine bN_ _ ?_ | refine bd_ ?_ | refine ba_ _ ?_)); refine blk_put (cs := #[.bool t189, .int .u64 t190, .int .u64 0]) ?_ 2 _ rfl; (with_reducible repeat (first | refine bN_ _ ?_ | refine bd_ ?_ | refine ba_ _ ?_)); refine blk_put (cs := #[.bool t189, .int .u64 0, .int .u64 0]) ?_ 1 _ rfl; (with_reducible repeat (first | refine bN_ _ ?_ | refine bd_ ?_ | refine ba_ _ ?_)); refine blk_put (cs := #[.bool false, .int .u64 0, .int .u64 0]) ?_ 0 _ rfl; (with_reducible repeat (first | refine bN_ _ ?_ | refine bd_ ?_ | refine ba_ _ ?_)); exact BK193.out) hb); have n5_ := Aside0.mk (below_step bel_ hb); clear BK183; clear BK184; clear BK185; clear BK186; clear BK193; clear HB; have BK183 := n0_; have BK184 := n1_; have BK185 := n2_; have BK186 := n3_; have BK193 := n4_; have HB := n5_; clear n0_ n1_ n2_ n3_ n4_ n5_; (try clear hb); (try clear hb2); (try clear hk); (try clear hi)) | ((with_reducible refine gate_dst (N := 9) rfl ?_); refine box_event ?hg (N := 9) ?hd (cs := #[.bool false, .int .u64 0, .int .u64 0]) (t := 33) ?hr ?_; (case hd => rfl); (case hg => rfl); (case hr => first | (go_simp; done) | (go_simp; rfl)); intro gb198 hg w53 hbox hb; have n0_ := bb_ (g := gb183) (o := .cells #[.bool a0_0, .int .u64 a0_1, .int .u64 a0_2, .int .i64 a0_3] 70 (0, 0)) hb; have n1_ := bb_ (g := gb184) (o := .cells #[.bool a1_0, .int .u64 a1_1, .int .u64 a1_2, .int .i64 a1_3] 70 (0, 0)) hb; have n2_ := bb_ (g := gb185) (o := .cells #[.bool false, .int .u64 0, .int .u64 0] 33 (0, 0)) hb; have n3_ := bb_ (g := gb186) (o := .cells #[.bool false, .int .u64 0, .int .u64 0] 33 (0, 0)) hb; have n4_ := bb_ (g := gb193) (o := .cells #[.bool t189, .int .u64 t190, .int .u64 t191] 33 (0, 0)) hb; have n5_ := Aside0.mk (below_step bel_ hb); have n6_ := Aside0.mk (hbox); have n7_ := Aside0.mk ((by rw [hg]; exact (below_size bel_) : w.heap.size ≤ gb198)); have n8_ := Aside0.mk ((by rw [hg]; exact (below_size bel_) : w.heap.size ≤ gb198)); have n9_ := nlt_ (g := gb183) (o := .cells #[.bool a0_0, .int .u64 a0_1, .int .u64 a0_2, .int .i64 a0_3] 70 (0, 0)) hg; have n10_ := ngt_ (g := gb183) (o := .cells #[.bool a0_0, .int .u64 a0_1, .int .u64 a0_2, .int .i64 a0_3] 70 (0, 0)) hg; have n11_ := nlt_ (g := gb184) (o := .cells #[.bool a1_0, .int .u64 a1_1, .int .u64 a1_2, .int .i64 a1_3] 70 (0, 0)) hg; have n12_ := ngt_ (g := gb184) (o := .cells #[.bool a1_0, .int .u64 a1_1, .int .u64 a1_2, .int .i64 a1_3] 70 (0, 0)) hg; have n13_ := nlt_ (g := gb185) (o := .cells #[.bool false, .int .u64 0, .int .u64 0] 33 (0, 0)) hg; have n14_ := ngt_ (g := gb185) (o := .cells #[.bool false, .int .u64 0, .int .u64 0] 33 (0, 0)) hg; have n15_ := nlt_ (g := gb186) (o := .cells #[.bool false, .int .u64 0, .int .u64 0] 33 (0, 0)) hg; have n16_ := ngt_ (g := gb186) (o := .cells #[.bool false, .int .u64 0, .int .u64 0] 33 (0, 0)) hg; have n17_ := nlt_ (g := gb193) (o := .cells #[.bool t189, .int .u64 t190, .int .u64 t191] 33 (0, 0)) hg; have n18_ := ngt_ (g := gb193) (o := .cells #[.bool t189, .int .u64 t190, .int .u64 t191] 33 (0, 0)) hg; clear BK183; clear BK184; clear BK185; clear BK186; clear BK193; clear HB; have BK183 := n0_; have BK184 := n1_; have BK185 := n2_; have BK186 := n3_; have BK193 := n4_; have HB := n5_; have BK198 := n6_; have GW198 := n7_; have GE198 := n8_; have NB183_198 := n9_; have NB198_183 := n10_; have NB184_198 := n11_; have NB198_184 := n12_; have NB185_198 := n13_; have NB198_185 := n14_; have NB186_198 := n15_; have NB198_186 := n16_; have NB193_198 := n17_; have NB198_193 := n18_; clear n0_ n1_ n2_ n3_ n4_ n5_ n6_ n7_ n8_ n9_ n10_ n11_ n12_ n13_ n14_ n15_ n16_ n17_ n18_; clear hb hbox hg; have hnb54 := NB198_183.out; have hnc54 := NB183_198.out; have hnb55 := NB198_184.out; have hnc55 := NB184_198.out; have hnb56 := NB198_185.out; have hnc56 := NB185_198.out; have hnb57 := NB198_186.out; have hnc57 := NB186_198.out; have hnb58 := NB198_193.out; have hnc58 := NB193_198.out; have hcz59_0 : w53.cell? ⟨gb198, 0, none⟩ = some (.bool false) := bc_; have hcz59_1 : w53.cell? ⟨gb198, 1, none⟩ = some (.int .u64 0) := bc_; have hcz59_2 : w53.cell? ⟨gb198, 2, none⟩ = some (.int .u64 0) := bc_; have hfz59_0 := blk_frozen BK198.out 0; have hfz59_1 := blk_frozen BK198.out 1; have hfz59_2 := blk_frozen BK198.out 2))
          have n0_ : Aside0 ((((w53.setCell ⟨gb198, 0, none⟩ (.bool t194)).setCell ⟨gb198, 1, none⟩ (.int .u64 t195)).setCell ⟨gb198, 2, none⟩ (.int .u64 t196)).heap[gb183]? = some (.cells #[.bool a0_0, .int .u64 a0_1, .int .u64 a0_2, .int .i64 a0_3] 70 (0, 0))) := ⟨by (with_reducible repeat (first | refine bN_ _ ?_ | refine bd_ ?_ | refine ba_ _ ?_)); refine blk_far ?_ NB183_198.out _; (with_reducible repeat (first | refine bN_ _ ?_ | refine bd_ ?_ | refine ba_ _ ?_)); refine blk_far ?_ NB183_198.out _; (with_reducible repeat (first | refine bN_ _ ?_ | refine bd_ ?_ | refine ba_ _ ?_)); refine blk_far ?_ NB183_198.out _; (with_reducible repeat (first | refine bN_ _ ?_ | refine bd_ ?_ | refine ba_ _ ?_)); exact BK183.out⟩
          have n1_ : Aside0 ((((w53.setCell ⟨gb198, 0, none⟩ (.bool t194)).setCell ⟨gb198, 1, none⟩ (.int .u64 t195)).setCell ⟨gb198, 2, none⟩ (.int .u64 t196)).heap[gb184]? = some (.cells #[.bool a1_0, .int .u64 a1_1, .int .u64 a1_2, .int .i64 a1_3] 70 (0, 0))) := ⟨by (with_reducible repeat (first | refine bN_ _ ?_ | refine bd_ ?_ | refine ba_ _ ?_)); refine blk_far ?_ NB184_198.out _; (with_reducible repeat (first | refine bN_ _ ?_ | refine bd_ ?_ | refine ba_ _ ?_)); refine blk_far ?_ NB184_198.out _; (with_reducible repeat (first | refine bN_ _ ?_ | refine bd_ ?_ | refine ba_ _ ?_)); refine blk_far ?_ NB184_198.out _; (with_reducible repeat (first | refine bN_ _ ?_ | refine bd_ ?_ | refine ba_ _ ?_)); exact BK184.out⟩
          have n2_ : Aside0 ((((w53.setCell ⟨gb198, 0, none⟩ (.bool t194)).setCell ⟨gb198, 1, none⟩ (.int .u64 t195)).setCell ⟨gb198, 2, none⟩ (.int .u64 t196)).heap[gb185]? = some (.cells #[.bool false, .int .u64 0, .int .u64 0] 33 (0, 0))) := ⟨by (with_reducible repeat (first | refine bN_ _ ?_ | refine bd_ ?_ | refine ba_ _ ?_)); refine blk_far ?_ NB185_198.out _; (with_reducible repeat (first | refine bN_ _ ?_ | refine bd_ ?_ | refine ba_ _ ?_)); refine blk_far ?_ NB185_198.out _; (with_reducible repeat (first | refine bN_ _ ?_ | refine bd_ ?_ | refine ba_ _ ?_)); refine blk_far ?_ NB185_198.out _; (with_reducible repeat (first | refine bN_ _ ?_ | refine bd_ ?_ | refine ba_ _ ?_)); exact BK185.out⟩
          have n3_ : Aside0 ((((w53.setCell ⟨gb198, 0, none⟩ (.bool t194)).setCell ⟨gb198, 1, none⟩ (.int .u64 t195)).setCell ⟨gb198, 2, none⟩ (.int .u64 t196)).heap[gb186]? = some (.cells #[.bool false, .int .u64 0, .int .u64 0] 33 (0, 0))) := ⟨by (with_reducible repeat (first | refine bN_ _ ?_ | refine bd_ ?_ | refine ba_ _ ?_)); refine blk_far ?_ NB186_198.out _; (with_reducible repeat (first | refine bN_ _ ?_ | refine bd_ ?_ | refine ba_ _ ?_)); refine blk_far ?_ NB186_198.out _; (with_reducible repeat (first | refine bN_ _ ?_ | refine bd_ ?_ | refine ba_ _ ?_)); refine blk_far ?_ NB186_198.out _; (with_reducible repeat (first | refine bN_ _ ?_ | refine bd_ ?_ | refine ba_ _ ?_)); exact BK186.out⟩
          have n4_ : Aside0 ((((w53.setCell ⟨gb198, 0, none⟩ (.bool t194)).setCell ⟨gb198, 1, none⟩ (.int .u64 t195)).setCell ⟨gb198, 2, none⟩ (.int .u64 t196)).heap[gb193]? = some (.cells #[.bool t189, .int .u64 t190, .int .u64 t191] 33 (0, 0))) := ⟨by (with_reducible repeat (first | refine bN_ _ ?_ | refine bd_ ?_ | refine ba_ _ ?_)); refine blk_far ?_ NB193_198.out _; (with_reducible repeat (first | refine bN_ _ ?_ | refine bd_ ?_ | refine ba_ _ ?_)); refine blk_far ?_ NB193_198.out _; (with_reducible repeat (first | refine bN_ _ ?_ | refine bd_ ?_ | refine ba_ _ ?_)); refine blk_far ?_ NB193_198.out _; (with_reducible repeat (first | refine bN_ _ ?_ | refine bd_ ?_ | refine ba_ _ ?_)); exact BK193.out⟩
          have n5_ : Aside0 ((((w53.setCell ⟨gb198, 0, none⟩ (.bool t194)).setCell ⟨gb198, 1, none⟩ (.int .u64 t195)).setCell ⟨gb198, 2, none⟩ (.int .u64 t196)).heap[gb198]? = some (.cells #[.bool t194, .int .u64 t195, .int .u64 t196] 33 (0, 0))) := ⟨by (with_reducible repeat (first | refine bN_ _ ?_ | refine bd_ ?_ | refine ba_ _ ?_)); refine blk_put (cs := #[.bool t194, .int .u64 t195, .int .u64 0]) ?_ 2 _ rfl; (with_reducible repeat (first | refine bN_ _ ?_ | refine bd_ ?_ | refine ba_ _ ?_)); refine blk_put (cs := #[.bool t194, .int .u64 0, .int .u64 0]) ?_ 1 _ rfl; (with_reducible repeat (first | refine bN_ _ ?_ | refine bd_ ?_ | refine ba_ _ ?_)); refine blk_put (cs := #[.bool false, .int .u64 0, .int .u64 0]) ?_ 0 _ rfl; (with_reducible repeat (first | refine bN_ _ ?_ | refine bd_ ?_ | refine ba_ _ ?_)); exact BK198.out⟩
          have n6_ : Aside0 (Below w.heap.size w (((w53.setCell ⟨gb198, 0, none⟩ (.bool t194)).setCell ⟨gb198, 1, none⟩ (.int .u64 t195)).setCell ⟨gb198, 2, none⟩ (.int .u64 t196))) := ⟨by repeat (first | (with_reducible first | exact HB.out | apply below_alloc | apply pw_below_drewN | apply below_drew1 | refine below_set ?_ GE183.out | refine below_set ?_ GE184.out | refine below_set ?_ GE185.out | refine below_set ?_ GE186.out | refine below_set ?_ GE193.out | refine below_set ?_ GE198.out) | exact HB.out)⟩
          (try clear BK183)
          (try clear BK184)
          (try clear BK185)
          (try clear BK186)
          (try clear BK193)
          (try clear BK198)
          (try clear HB)
          generalize (((w53.setCell ⟨gb198, 0, none⟩ (.bool t194)).setCell ⟨gb198, 1, none⟩ (.int .u64 t195)).setCell ⟨gb198, 2, none⟩ (.int .u64 t196)) = w60 at n0_ n1_ n2_ n3_ n4_ n5_ n6_ ⊢
          have BK183 := n0_
          have BK184 := n1_
          have BK185 := n2_
          have BK186 := n3_
          have BK193 := n4_
          have BK198 := n5_
          have HB := n6_
          clear n0_ n1_ n2_ n3_ n4_ n5_ n6_
          have n0_ := Aside0.mk (blk_drew BK183.out)
          have n1_ := Aside0.mk (blk_drew BK184.out)
          have n2_ := Aside0.mk (blk_drew BK185.out)
          have n3_ := Aside0.mk (blk_drew BK186.out)
          have n4_ := Aside0.mk (blk_drew BK193.out)
          have n5_ := Aside0.mk (blk_drew BK198.out)
          have n6_ := Aside0.mk (below_drew1 HB.out)
          clear BK183
          clear BK184
          clear BK185
          clear BK186
          clear BK193
          clear BK198
          clear HB
          have BK183 := n0_
          have BK184 := n1_
          have BK185 := n2_
          have BK186 := n3_
          have BK193 := n4_
          have BK198 := n5_
          have HB := n6_
          clear n0_ n1_ n2_ n3_ n4_ n5_ n6_
          refine start_ (n := 9) (S := fun w' => w'.cell? ⟨gb193, 0, none⟩ = some (.bool t189) ∧ w'.cell? ⟨gb193, 1, none⟩ = some (.int .u64 t190) ∧ w'.cell? ⟨gb193, 2, none⟩ = some (.int .u64 t191) ∧ w'.cell? ⟨gb198, 0, none⟩ = some (.bool t194) ∧ w'.cell? ⟨gb198, 1, none⟩ = some (.int .u64 t195) ∧ w'.cell? ⟨gb198, 2, none⟩ = some (.int .u64 t196)) (ds := []) #[false, false, false, false, false, false, false, false, false] (by kernel_rfl) rfl rfl ⟨bc_, bc_, bc_, bc_, bc_, bc_⟩ (fun hHeld => ?_); refine with_tabW impl_crossed.tab5 impl_crossed.bits5 (fun HT_ HW_ => ?_)
          generalize w60.drew = w61 at BK183 BK184 BK185 BK186 BK193 BK198 HB hHeld ⊢
          refine pure_ (i := 2) (N := some 39) (v := ?_) (a' := ?_) #[false, false, true, false, false, false, false, false, false] rfl rfl (any_of HT_.out (by kernel_rfl)) (fun _ _ _ h => h) (Or.inl ⟨by rfl, ?_⟩) ?_ ?_
          rotate_left
          · intro w'
            go_simp
            with_reducible rfl
          rotate_left
          · simp only [Act.put, la_, lb_, lc_, i64_w, i32_w]
            rfl
          refine pure_ (i := 3) (N := some 40) (v := ?_) (a' := ?_) #[false, false, true, true, false, false, false, false, false] rfl rfl (any_of HT_.out (by kernel_rfl)) (fun _ _ _ h => h) (Or.inl ⟨by rfl, ?_⟩) ?_ ?_
          rotate_left
          · intro w'
            go_simp
            with_reducible rfl
          rotate_left
          · simp only [Act.put, la_, lb_, lc_, i64_w, i32_w]
            rfl
          refine pure_ (i := 4) (N := some 41) (v := ?_) (a' := ?_) #[false, false, true, true, true, false, false, false, false] rfl rfl (any_of HT_.out (by kernel_rfl)) (fun _ _ _ h => h) (Or.inl ⟨by rfl, ?_⟩) ?_ ?_
          rotate_left
          · intro w'
            go_simp
            with_reducible rfl
          rotate_left
          · simp only [Act.put, la_, lb_, lc_, i64_w, i32_w]
            rfl
          refine pure_ (i := 5) (N := some 42) (v := ?_) (a' := ?_) #[false, false, true, true, true, true, false, false, false] rfl rfl (any_of HT_.out (by kernel_rfl)) (fun _ _ _ h => h) (Or.inl ⟨by rfl, ?_⟩) ?_ ?_
          rotate_left
          · intro w'
            go_simp
            with_reducible rfl
          rotate_left
          · simp only [Act.put, la_, lb_, lc_, i64_w, i32_w]
            rfl
          refine take_ (i := 0) (N := some 37) (v := ?_) (a' := ?_) #[true, false, true, true, true, true, false, false, false] rfl rfl (take_ofW HT_.out HW_.out (by kernel_rfl)) (fun _ _ _ h => h) (Or.inl ⟨by rfl, ?_⟩) hHeld ?_ ?_
          rotate_left
          · rintro w' ⟨s0, s1, s2, s3, s4, s5⟩
            go_simp
            with_reducible rfl
          rotate_left
          · simp only [Act.put, la_, lb_, lc_, i64_w, i32_w]
            rfl
          refine take_ (i := 1) (N := some 38) (v := ?_) (a' := ?_) #[true, true, true, true, true, true, false, false, false] rfl rfl (take_ofW HT_.out HW_.out (by kernel_rfl)) (fun _ _ _ h => h) (Or.inl ⟨by rfl, ?_⟩) hHeld ?_ ?_
          rotate_left
          · rintro w' ⟨s0, s1, s2, s3, s4, s5⟩
            go_simp
            with_reducible rfl
          rotate_left
          · simp only [Act.put, la_, lb_, lc_, i64_w, i32_w]
            rfl
          refine one_ (i := 6) (N := none) #[true, true, true, true, true, true, true, false, false] rfl rfl (one_of HT_.out (by kernel_rfl)) (by decide) (fun K hK => ?_)
          have hs62 : w61.cell? ⟨gb185, 0, none⟩ = some (.bool false) := (blk_cell BK185.out 0).trans rfl
          have hfs62 := blk_frozen BK185.out 0
          have hns62_0 := NB183_185.out
          have hns62_1 := NB184_185.out
          have hns62_3 := NB186_185.out
          have hns62_4 := NB193_185.out
          have hns62_5 := NB198_185.out
          have hms62_0 := NB185_183.out
          have hms62_1 := NB185_184.out
          have hms62_3 := NB185_186.out
          have hms62_4 := NB185_193.out
          have hms62_5 := NB185_198.out
          have hs63 : w61.cell? ⟨gb185, 1, none⟩ = some (.int .u64 0) := (blk_cell BK185.out 1).trans rfl
          have hfs63 := blk_frozen BK185.out 1
          have hns63_0 := NB183_185.out
          have hns63_1 := NB184_185.out
          have hns63_3 := NB186_185.out
          have hns63_4 := NB193_185.out
          have hns63_5 := NB198_185.out
          have hms63_0 := NB185_183.out
          have hms63_1 := NB185_184.out
          have hms63_3 := NB185_186.out
          have hms63_4 := NB185_193.out
          have hms63_5 := NB185_198.out
          have hs64 : w61.cell? ⟨gb185, 2, none⟩ = some (.int .u64 0) := (blk_cell BK185.out 2).trans rfl
          have hfs64 := blk_frozen BK185.out 2
          have hns64_0 := NB183_185.out
          have hns64_1 := NB184_185.out
          have hns64_3 := NB186_185.out
          have hns64_4 := NB193_185.out
          have hns64_5 := NB198_185.out
          have hms64_0 := NB185_183.out
          have hms64_1 := NB185_184.out
          have hms64_3 := NB185_186.out
          have hms64_4 := NB185_193.out
          have hms64_5 := NB185_198.out
          refine skip_ (w1 := ?_) (by rfl) rfl ?_ ?_
          rotate_left
          · go_simp
            rfl
          refine hK.out _ _ ⟨((cell_far (p := ⟨gb185, _, none⟩) NB193_185.out _).trans (((cell_far (p := ⟨gb185, _, none⟩) NB193_185.out _).trans (((cell_far (p := ⟨gb185, _, none⟩) NB193_185.out _).trans (hHeld.1)))))), ((cell_far (p := ⟨gb185, _, none⟩) NB193_185.out _).trans (((cell_far (p := ⟨gb185, _, none⟩) NB193_185.out _).trans (((cell_far (p := ⟨gb185, _, none⟩) NB193_185.out _).trans (hHeld.2.1)))))), ((cell_far (p := ⟨gb185, _, none⟩) NB193_185.out _).trans (((cell_far (p := ⟨gb185, _, none⟩) NB193_185.out _).trans (((cell_far (p := ⟨gb185, _, none⟩) NB193_185.out _).trans (hHeld.2.2.1)))))), ((cell_far (p := ⟨gb185, _, none⟩) NB198_185.out _).trans (((cell_far (p := ⟨gb185, _, none⟩) NB198_185.out _).trans (((cell_far (p := ⟨gb185, _, none⟩) NB198_185.out _).trans (hHeld.2.2.2.1)))))), ((cell_far (p := ⟨gb185, _, none⟩) NB198_185.out _).trans (((cell_far (p := ⟨gb185, _, none⟩) NB198_185.out _).trans (((cell_far (p := ⟨gb185, _, none⟩) NB198_185.out _).trans (hHeld.2.2.2.2.1)))))), ((cell_far (p := ⟨gb185, _, none⟩) NB198_185.out _).trans (((cell_far (p := ⟨gb185, _, none⟩) NB198_185.out _).trans (((cell_far (p := ⟨gb185, _, none⟩) NB198_185.out _).trans (hHeld.2.2.2.2.2))))))⟩ (fun hHeld => ?_)
          clear hK K
          refine one_ (i := 7) (N := none) #[true, true, true, true, true, true, true, true, false] rfl rfl (one_of HT_.out (by kernel_rfl)) (by decide) (fun K hK => ?_)
          have hs65 : w61.cell? ⟨gb186, 0, none⟩ = some (.bool false) := (blk_cell BK186.out 0).trans rfl
          have hfs65 := blk_frozen BK186.out 0
          have hns65_0 := NB183_186.out
          have hns65_1 := NB184_186.out
          have hns65_2 := NB185_186.out
          have hns65_4 := NB193_186.out
          have hns65_5 := NB198_186.out
          have hms65_0 := NB186_183.out
          have hms65_1 := NB186_184.out
          have hms65_2 := NB186_185.out
          have hms65_4 := NB186_193.out
          have hms65_5 := NB186_198.out
          have hs66 : w61.cell? ⟨gb186, 1, none⟩ = some (.int .u64 0) := (blk_cell BK186.out 1).trans rfl
          have hfs66 := blk_frozen BK186.out 1
          have hns66_0 := NB183_186.out
          have hns66_1 := NB184_186.out
          have hns66_2 := NB185_186.out
          have hns66_4 := NB193_186.out
          have hns66_5 := NB198_186.out
          have hms66_0 := NB186_183.out
          have hms66_1 := NB186_184.out
          have hms66_2 := NB186_185.out
          have hms66_4 := NB186_193.out
          have hms66_5 := NB186_198.out
          have hs67 : w61.cell? ⟨gb186, 2, none⟩ = some (.int .u64 0) := (blk_cell BK186.out 2).trans rfl
          have hfs67 := blk_frozen BK186.out 2
          have hns67_0 := NB183_186.out
          have hns67_1 := NB184_186.out
          have hns67_2 := NB185_186.out
          have hns67_4 := NB193_186.out
          have hns67_5 := NB198_186.out
          have hms67_0 := NB186_183.out
          have hms67_1 := NB186_184.out
          have hms67_2 := NB186_185.out
          have hms67_4 := NB186_193.out
          have hms67_5 := NB186_198.out
          refine skip_ (w1 := ?_) (by rfl) rfl ?_ ?_
          rotate_left
          · go_simp
            rfl
          refine hK.out _ _ ⟨((cell_far (p := ⟨gb186, _, none⟩) NB193_186.out _).trans (((cell_far (p := ⟨gb186, _, none⟩) NB193_186.out _).trans (((cell_far (p := ⟨gb186, _, none⟩) NB193_186.out _).trans (hHeld.1)))))), ((cell_far (p := ⟨gb186, _, none⟩) NB193_186.out _).trans (((cell_far (p := ⟨gb186, _, none⟩) NB193_186.out _).trans (((cell_far (p := ⟨gb186, _, none⟩) NB193_186.out _).trans (hHeld.2.1)))))), ((cell_far (p := ⟨gb186, _, none⟩) NB193_186.out _).trans (((cell_far (p := ⟨gb186, _, none⟩) NB193_186.out _).trans (((cell_far (p := ⟨gb186, _, none⟩) NB193_186.out _).trans (hHeld.2.2.1)))))), ((cell_far (p := ⟨gb186, _, none⟩) NB198_186.out _).trans (((cell_far (p := ⟨gb186, _, none⟩) NB198_186.out _).trans (((cell_far (p := ⟨gb186, _, none⟩) NB198_186.out _).trans (hHeld.2.2.2.1)))))), ((cell_far (p := ⟨gb186, _, none⟩) NB198_186.out _).trans (((cell_far (p := ⟨gb186, _, none⟩) NB198_186.out _).trans (((cell_far (p := ⟨gb186, _, none⟩) NB198_186.out _).trans (hHeld.2.2.2.2.1)))))), ((cell_far (p := ⟨gb186, _, none⟩) NB198_186.out _).trans (((cell_far (p := ⟨gb186, _, none⟩) NB198_186.out _).trans (((cell_far (p := ⟨gb186, _, none⟩) NB198_186.out _).trans (hHeld.2.2.2.2.2))))))⟩ (fun hHeld => ?_)
          clear hK K
          refine pure_ (i := 8) (N := some 6) (v := ?_) (a' := ?_) #[true, true, true, true, true, true, true, true, true] rfl rfl (any_of HT_.out (by kernel_rfl)) (fun _ _ _ h => h) (Or.inl ⟨by rfl, ?_⟩) ?_ ?_
          rotate_left
          · intro w'
            go_simp
            with_reducible rfl
          rotate_left
          · simp only [Act.put, la_, lb_, lc_, i64_w, i32_w]
            rfl
          refine done_ (done_of HT_.out (by kernel_rfl)) ?_
          try go_wp2
          refine bodyPost_ret (results_list (rs := [.cell 4 33, .cell 5 33, .tmp 6]) rfl (by simp) (.cell gb185 33 #[.bool t189, .int .u64 t190, .int .u64 t191] (0, 0) _ rfl (by (with_reducible repeat (first | refine bN_ _ ?_ | refine bd_ ?_ | refine ba_ _ ?_)); refine blk_far ?_ NB185_186.out _; (with_reducible repeat (first | refine bN_ _ ?_ | refine bd_ ?_ | refine ba_ _ ?_)); refine blk_far ?_ NB185_186.out _; (with_reducible repeat (first | refine bN_ _ ?_ | refine bd_ ?_ | refine ba_ _ ?_)); refine blk_far ?_ NB185_186.out _; (with_reducible repeat (first | refine bN_ _ ?_ | refine bd_ ?_ | refine ba_ _ ?_)); refine blk_put (cs := #[.bool t189, .int .u64 t190, .int .u64 0]) ?_ 2 _ rfl; (with_reducible repeat (first | refine bN_ _ ?_ | refine bd_ ?_ | refine ba_ _ ?_)); refine blk_put (cs := #[.bool t189, .int .u64 0, .int .u64 0]) ?_ 1 _ rfl; (with_reducible repeat (first | refine bN_ _ ?_ | refine bd_ ?_ | refine ba_ _ ?_)); refine blk_put (cs := #[.bool false, .int .u64 0, .int .u64 0]) ?_ 0 _ rfl; (with_reducible repeat (first | refine bN_ _ ?_ | refine bd_ ?_ | refine ba_ _ ?_)); exact BK185.out) Try.underlying33 rfl (by kernel_rfl) (.cell gb186 33 #[.bool t194, .int .u64 t195, .int .u64 t196] (0, 0) _ rfl (by (with_reducible repeat (first | refine bN_ _ ?_ | refine bd_ ?_ | refine ba_ _ ?_)); refine blk_put (cs := #[.bool t194, .int .u64 t195, .int .u64 0]) ?_ 2 _ rfl; (with_reducible repeat (first | refine bN_ _ ?_ | refine bd_ ?_ | refine ba_ _ ?_)); refine blk_put (cs := #[.bool t194, .int .u64 0, .int .u64 0]) ?_ 1 _ rfl; (with_reducible repeat (first | refine bN_ _ ?_ | refine bd_ ?_ | refine ba_ _ ?_)); refine blk_put (cs := #[.bool false, .int .u64 0, .int .u64 0]) ?_ 0 _ rfl; (with_reducible repeat (first | refine bN_ _ ?_ | refine bd_ ?_ | refine ba_ _ ?_)); refine blk_far ?_ NB186_185.out _; (with_reducible repeat (first | refine bN_ _ ?_ | refine bd_ ?_ | refine ba_ _ ?_)); refine blk_far ?_ NB186_185.out _; (with_reducible repeat (first | refine bN_ _ ?_ | refine bd_ ?_ | refine ba_ _ ?_)); refine blk_far ?_ NB186_185.out _; (with_reducible repeat (first | refine bN_ _ ?_ | refine bd_ ?_ | refine ba_ _ ?_)); exact BK186.out) Try.underlying33 rfl (by kernel_rfl) (.tmp .nil)))) rfl ?_
          exact ⟨by first | rfl | (simp [errW_none, errW_some] <;> rfl) | (simp [*, errW_none, errW_some] <;> rfl), by repeat (first | (with_reducible first | exact HB.out | apply below_alloc | apply pw_below_drewN | apply below_drew1 | refine below_set ?_ GE183.out | refine below_set ?_ GE184.out | refine below_set ?_ GE185.out | refine below_set ?_ GE186.out | refine below_set ?_ GE193.out | refine below_set ?_ GE198.out) | exact HB.out)⟩
        · replace c35 := Bool.eq_false_iff.mpr c35
          subst c35
          have H1 : (some (t189, t190, t191, t194, t195, t196, false)) = some (r1, r2, r3, r4, r5, r6, r7) := by rw [if_neg (show ¬ (false = true) by decide)] at H; exact H
          clear H
          have H := H1
          clear H1
          simp only [Option.some.injEq, Prod.mk.injEq] at H
          obtain ⟨rfl, rfl, rfl, rfl, rfl, rfl, rfl⟩ := H
          have hnb68 := NB183_184.out
          have hnc68 := NB184_183.out
          have hnb69 := NB183_185.out
          have hnc69 := NB185_183.out
          have hnb70 := NB183_186.out
          have hnc70 := NB186_183.out
          have hcz71_0 : wc.cell? ⟨gb183, 0, none⟩ = some (.bool a0_0) := bc_
          have hcz71_1 : wc.cell? ⟨gb183, 1, none⟩ = some (.int .u64 a0_1) := bc_
          have hcz71_2 : wc.cell? ⟨gb183, 2, none⟩ = some (.int .u64 a0_2) := bc_
          have hcz71_3 : wc.cell? ⟨gb183, 3, none⟩ = some (.int .i64 a0_3) := bc_
          have hfz71_0 := blk_frozen BK183.out 0
          have hfz71_1 := blk_frozen BK183.out 1
          have hfz71_2 := blk_frozen BK183.out 2
          have hfz71_3 := blk_frozen BK183.out 3
          have hnb72 := NB184_185.out
          have hnc72 := NB185_184.out
          have hnb73 := NB184_186.out
          have hnc73 := NB186_184.out
          have hcz74_0 : wc.cell? ⟨gb184, 0, none⟩ = some (.bool a1_0) := bc_
          have hcz74_1 : wc.cell? ⟨gb184, 1, none⟩ = some (.int .u64 a1_1) := bc_
          have hcz74_2 : wc.cell? ⟨gb184, 2, none⟩ = some (.int .u64 a1_2) := bc_
          have hcz74_3 : wc.cell? ⟨gb184, 3, none⟩ = some (.int .i64 a1_3) := bc_
          have hfz74_0 := blk_frozen BK184.out 0
          have hfz74_1 := blk_frozen BK184.out 1
          have hfz74_2 := blk_frozen BK184.out 2
          have hfz74_3 := blk_frozen BK184.out 3
          try go_wp2_with (first | ((with_reducible refine gate_callee (f := 21) rfl ?_); refine goesL_ (some 26) rfl rfl Try.func21 (by kernel_rfl) rfl #[.agg #[.bool a0_0, .int .u64 a0_1, .int .u64 a0_2], .int .i64 a1_3] rfl mp_ ?_; (with_reducible refine (impl_ScaleWide.calls a0_0 a0_1 a0_2 a1_3 t189 t190 t191 false _ A33.out).mono ?_); rintro e w75 ⟨rfl, hb⟩; refine ⟨_, rfl, ?_⟩; have n0_ := bb_ (g := gb183) (o := .cells #[.bool a0_0, .int .u64 a0_1, .int .u64 a0_2, .int .i64 a0_3] 70 (0, 0)) hb; have n1_ := bb_ (g := gb184) (o := .cells #[.bool a1_0, .int .u64 a1_1, .int .u64 a1_2, .int .i64 a1_3] 70 (0, 0)) hb; have n2_ := bb_ (g := gb185) (o := .cells #[.bool false, .int .u64 0, .int .u64 0] 33 (0, 0)) hb; have n3_ := bb_ (g := gb186) (o := .cells #[.bool false, .int .u64 0, .int .u64 0] 33 (0, 0)) hb; have n4_ := Aside0.mk (below_step bel_ hb); clear BK183; clear BK184; clear BK185; clear BK186; clear HB; have BK183 := n0_; have BK184 := n1_; have BK185 := n2_; have BK186 := n3_; have HB := n4_; clear n0_ n1_ n2_ n3_ n4_; (try clear hb); (try clear hb2); (try clear hk); (try clear hi)) | ((with_reducible refine gate_dst (N := 7) rfl ?_); refine box_event ?hg (N := 7) ?hd (cs := #[.bool false, .int .u64 0, .int .u64 0]) (t := 33) ?hr ?_; (case hd => rfl); (case hg => rfl); (case hr => first | (go_simp; done) | (go_simp; rfl)); intro gb193 hg w76 hbox hb; have n0_ := bb_ (g := gb183) (o := .cells #[.bool a0_0, .int .u64 a0_1, .int .u64 a0_2, .int .i64 a0_3] 70 (0, 0)) hb; have n1_ := bb_ (g := gb184) (o := .cells #[.bool a1_0, .int .u64 a1_1, .int .u64 a1_2, .int .i64 a1_3] 70 (0, 0)) hb; have n2_ := bb_ (g := gb185) (o := .cells #[.bool false, .int .u64 0, .int .u64 0] 33 (0, 0)) hb; have n3_ := bb_ (g := gb186) (o := .cells #[.bool false, .int .u64 0, .int .u64 0] 33 (0, 0)) hb; have n4_ := Aside0.mk (below_step bel_ hb); have n5_ := Aside0.mk (hbox); have n6_ := Aside0.mk ((by rw [hg]; exact (below_size bel_) : w.heap.size ≤ gb193)); have n7_ := Aside0.mk ((by rw [hg]; exact (below_size bel_) : w.heap.size ≤ gb193)); have n8_ := nlt_ (g := gb183) (o := .cells #[.bool a0_0, .int .u64 a0_1, .int .u64 a0_2, .int .i64 a0_3] 70 (0, 0)) hg; have n9_ := ngt_ (g := gb183) (o := .cells #[.bool a0_0, .int .u64 a0_1, .int .u64 a0_2, .int .i64 a0_3] 70 (0, 0)) hg; have n10_ := nlt_ (g := gb184) (o := .cells #[.bool a1_0, .int .u64 a1_1, .int .u64 a1_2, .int .i64 a1_3] 70 (0, 0)) hg; have n11_ := ngt_ (g := gb184) (o := .cells #[.bool a1_0, .int .u64 a1_1, .int .u64 a1_2, .int .i64 a1_3] 70 (0, 0)) hg; have n12_ := nlt_ (g := gb185) (o := .cells #[.bool false, .int .u64 0, .int .u64 0] 33 (0, 0)) hg; have n13_ := ngt_ (g := gb185) (o := .cells #[.bool false, .int .u64 0, .int .u64 0] 33 (0, 0)) hg; have n14_ := nlt_ (g := gb186) (o := .cells #[.bool false, .int .u64 0, .int .u64 0] 33 (0, 0)) hg; have n15_ := ngt_ (g := gb186) (o := .cells #[.bool false, .int .u64 0, .int .u64 0] 33 (0, 0)) hg; clear BK183; clear BK184; clear BK185; clear BK186; clear HB; have BK183 := n0_; have BK184 := n1_; have BK185 := n2_; have BK186 := n3_; have HB := n4_; have BK193 := n5_; have GW193 := n6_; have GE193 := n7_; have NB183_193 := n8_; have NB193_183 := n9_; have NB184_193 := n10_; have NB193_184 := n11_; have NB185_193 := n12_; have NB193_185 := n13_; have NB186_193 := n14_; have NB193_186 := n15_; clear n0_ n1_ n2_ n3_ n4_ n5_ n6_ n7_ n8_ n9_ n10_ n11_ n12_ n13_ n14_ n15_; clear hb hbox hg; have hnb77 := NB193_183.out; have hnc77 := NB183_193.out; have hnb78 := NB193_184.out; have hnc78 := NB184_193.out; have hnb79 := NB193_185.out; have hnc79 := NB185_193.out; have hnb80 := NB193_186.out; have hnc80 := NB186_193.out; have hcz81_0 : w76.cell? ⟨gb193, 0, none⟩ = some (.bool false) := bc_; have hcz81_1 : w76.cell? ⟨gb193, 1, none⟩ = some (.int .u64 0) := bc_; have hcz81_2 : w76.cell? ⟨gb193, 2, none⟩ = some (.int .u64 0) := bc_; have hfz81_0 := blk_frozen BK193.out 0; have hfz81_1 := blk_frozen BK193.out 1; have hfz81_2 := blk_frozen BK193.out 2; have hcz82_0 : w76.cell? ⟨gb184, 0, none⟩ = some (.bool a1_0) := bc_; have hcz82_1 : w76.cell? ⟨gb184, 1, none⟩ = some (.int .u64 a1_1) := bc_; have hcz82_2 : w76.cell? ⟨gb184, 2, none⟩ = some (.int .u64 a1_2) := bc_; have hcz82_3 : w76.cell? ⟨gb184, 3, none⟩ = some (.int .i64 a1_3) := bc_; have hfz82_0 := blk_frozen BK184.out 0; have hfz82_1 := blk_frozen BK184.out 1; have hfz82_2 := blk_frozen BK184.out 2; have hfz82_3 := blk_frozen BK184.out 3; have hcz83_0 : w76.cell? ⟨gb183, 0, none⟩ = some (.bool a0_0) := bc_; have hcz83_1 : w76.cell? ⟨gb183, 1, none⟩ = some (.int .u64 a0_1) := bc_; have hcz83_2 : w76.cell? ⟨gb183, 2, none⟩ = some (.int .u64 a0_2) := bc_; have hcz83_3 : w76.cell? ⟨gb183, 3, none⟩ = some (.int .i64 a0_3) := bc_; have hfz83_0 := blk_frozen BK183.out 0; have hfz83_1 := blk_frozen BK183.out 1; have hfz83_2 := blk_frozen BK183.out 2; have hfz83_3 := blk_frozen BK183.out 3) | ((with_reducible refine gate_callee (f := 21) rfl ?_); refine goesL_ (some 34) rfl rfl Try.func21 (by kernel_rfl) rfl #[.agg #[.bool a1_0, .int .u64 a1_1, .int .u64 a1_2], .int .i64 a0_3] rfl mp_ ?_; (with_reducible refine (impl_ScaleWide.calls a1_0 a1_1 a1_2 a0_3 t194 t195 t196 t197 _ A34.out).mono ?_); rintro e w84 ⟨rfl, hb⟩; refine ⟨_, rfl, ?_⟩; have n0_ := Aside0.mk (blk_below (g := gb183) (o := .cells #[.bool a0_0, .int .u64 a0_1, .int .u64 a0_2, .int .i64 a0_3] 70 (0, 0)) (by (with_reducible repeat (first | refine bN_ _ ?_ | refine bd_ ?_ | refine ba_ _ ?_)); refine blk_far ?_ NB183_193.out _; (with_reducible repeat (first | refine bN_ _ ?_ | refine bd_ ?_ | refine ba_ _ ?_)); refine blk_far ?_ NB183_193.out _; (with_reducible repeat (first | refine bN_ _ ?_ | refine bd_ ?_ | refine ba_ _ ?_)); refine blk_far ?_ NB183_193.out _; (with_reducible repeat (first | refine bN_ _ ?_ | refine bd_ ?_ | refine ba_ _ ?_)); exact BK183.out) hb); have n1_ := Aside0.mk (blk_below (g := gb184) (o := .cells #[.bool a1_0, .int .u64 a1_1, .int .u64 a1_2, .int .i64 a1_3] 70 (0, 0)) (by (with_reducible repeat (first | refine bN_ _ ?_ | refine bd_ ?_ | refine ba_ _ ?_)); refine blk_far ?_ NB184_193.out _; (with_reducible repeat (first | refine bN_ _ ?_ | refine bd_ ?_ | refine ba_ _ ?_)); refine blk_far ?_ NB184_193.out _; (with_reducible repeat (first | refine bN_ _ ?_ | refine bd_ ?_ | refine ba_ _ ?_)); refine blk_far ?_ NB184_193.out _; (with_reducible repeat (first | refine bN_ _ ?_ | refine bd_ ?_ | refine ba_ _ ?_)); exact BK184.out) hb); have n2_ := Aside0.mk (blk_below (g := gb185) (o := .cells #[.bool false, .int .u64 0, .int .u64 0] 33 (0, 0)) (by (with_reducible repeat (first | refine bN_ _ ?_ | refine bd_ ?_ | refine ba_ _ ?_)); refine blk_far ?_ NB185_193.out _; (with_reducible repeat (first | refine bN_ _ ?_ | refine bd_ ?_ | refine ba_ _ ?_)); refine blk_far ?_ NB185_193.out _; (with_reducible repeat (first | refine bN_ _ ?_ | refine bd_ ?_ | refine ba_ _ ?_)); refine blk_far ?_ NB185_193.out _; (with_reducible repeat (first | refine bN_ _ ?_ | refine bd_ ?_ | refine ba_ _ ?_)); exact BK185.out) hb); have n3_ := Aside0.mk (blk_below (g := gb186) (o := .cells #[.bool false, .int .u64 0, .int .u64 0] 33 (0, 0)) (by (with_reducible repeat (first | refine bN_ _ ?_ | refine bd_ ?_ | refine ba_ _ ?_)); refine blk_far ?_ NB186_193.out _; (with_reducible repeat (first | refine bN_ _ ?_ | refine bd_ ?_ | refine ba_ _ ?_)); refine blk_far ?_ NB186_193.out _; (with_reducible repeat (first | refine bN_ _ ?_ | refine bd_ ?_ | refine ba_ _ ?_)); refine blk_far ?_ NB186_193.out _; (with_reducible repeat (first | refine bN_ _ ?_ | refine bd_ ?_ | refine ba_ _ ?_)); exact BK186.out) hb); have n4_ := Aside0.mk (blk_below (g := gb193) (o := .cells #[.bool t189, .int .u64 t190, .int .u64 t191] 33 (0, 0)) (by (with_reducible repeat (first | refine bN_ _ ?_ | refine bd_ ?_ | refine ba_ _ ?_)); refine blk_put (cs := #[.bool t189, .int .u64 t190, .int .u64 0]) ?_ 2 _ rfl; (with_reducible repeat (first | refine bN_ _ ?_ | refine bd_ ?_ | refine ba_ _ ?_)); refine blk_put (cs := #[.bool t189, .int .u64 0, .int .u64 0]) ?_ 1 _ rfl; (with_reducible repeat (first | refine bN_ _ ?_ | refine bd_ ?_ | refine ba_ _ ?_)); refine blk_put (cs := #[.bool false, .int .u64 0, .int .u64 0]) ?_ 0 _ rfl; (with_reducible repeat (first | refine bN_ _ ?_ | refine bd_ ?_ | refine ba_ _ ?_)); exact BK193.out) hb); have n5_ := Aside0.mk (below_step bel_ hb); clear BK183; clear BK184; clear BK185; clear BK186; clear BK193; clear HB; have BK183 := n0_; have BK184 := n1_; have BK185 := n2_; have BK186 := n3_; have BK193 := n4_; have HB := n5_; clear n0_ n1_ n2_ n3_ n4_ n5_; (try clear hb); (try clear hb2); (try clear hk); (try clear hi)) | ((with_reducible refine gate_dst (N := 9) rfl ?_); refine box_event ?hg (N := 9) ?hd (cs := #[.bool false, .int .u64 0, .int .u64 0]) (t := 33) ?hr ?_; (case hd => rfl); (case hg => rfl); (case hr => first | (go_simp; done) | (go_simp; rfl)); intro gb198 hg w85 hbox hb; have n0_ := bb_ (g := gb183) (o := .cells #[.bool a0_0, .int .u64 a0_1, .int .u64 a0_2, .int .i64 a0_3] 70 (0, 0)) hb; have n1_ := bb_ (g := gb184) (o := .cells #[.bool a1_0, .int .u64 a1_1, .int .u64 a1_2, .int .i64 a1_3] 70 (0, 0)) hb; have n2_ := bb_ (g := gb185) (o := .cells #[.bool false, .int .u64 0, .int .u64 0] 33 (0, 0)) hb; have n3_ := bb_ (g := gb186) (o := .cells #[.bool false, .int .u64 0, .int .u64 0] 33 (0, 0)) hb; have n4_ := bb_ (g := gb193) (o := .cells #[.bool t189, .int .u64 t190, .int .u64 t191] 33 (0, 0)) hb; have n5_ := Aside0.mk (below_step bel_ hb); have n6_ := Aside0.mk (hbox); have n7_ := Aside0.mk ((by rw [hg]; exact (below_size bel_) : w.heap.size ≤ gb198)); have n8_ := Aside0.mk ((by rw [hg]; exact (below_size bel_) : w.heap.size ≤ gb198)); have n9_ := nlt_ (g := gb183) (o := .cells #[.bool a0_0, .int .u64 a0_1, .int .u64 a0_2, .int .i64 a0_3] 70 (0, 0)) hg; have n10_ := ngt_ (g := gb183) (o := .cells #[.bool a0_0, .int .u64 a0_1, .int .u64 a0_2, .int .i64 a0_3] 70 (0, 0)) hg; have n11_ := nlt_ (g := gb184) (o := .cells #[.bool a1_0, .int .u64 a1_1, .int .u64 a1_2, .int .i64 a1_3] 70 (0, 0)) hg; have n12_ := ngt_ (g := gb184) (o := .cells #[.bool a1_0, .int .u64 a1_1, .int .u64 a1_2, .int .i64 a1_3] 70 (0, 0)) hg; have n13_ := nlt_ (g := gb185) (o := .cells #[.bool false, .int .u64 0, .int .u64 0] 33 (0, 0)) hg; have n14_ := ngt_ (g := gb185) (o := .cells #[.bool false, .int .u64 0, .int .u64 0] 33 (0, 0)) hg; have n15_ := nlt_ (g := gb186) (o := .cells #[.bool false, .int .u64 0, .int .u64 0] 33 (0, 0)) hg; have n16_ := ngt_ (g := gb186) (o := .cells #[.bool false, .int .u64 0, .int .u64 0] 33 (0, 0)) hg; have n17_ := nlt_ (g := gb193) (o := .cells #[.bool t189, .int .u64 t190, .int .u64 t191] 33 (0, 0)) hg; have n18_ := ngt_ (g := gb193) (o := .cells #[.bool t189, .int .u64 t190, .int .u64 t191] 33 (0, 0)) hg; clear BK183; clear BK184; clear BK185; clear BK186; clear BK193; clear HB; have BK183 := n0_; have BK184 := n1_; have BK185 := n2_; have BK186 := n3_; have BK193 := n4_; have HB := n5_; have BK198 := n6_; have GW198 := n7_; have GE198 := n8_; have NB183_198 := n9_; have NB198_183 := n10_; have NB184_198 := n11_; have NB198_184 := n12_; have NB185_198 := n13_; have NB198_185 := n14_; have NB186_198 := n15_; have NB198_186 := n16_; have NB193_198 := n17_; have NB198_193 := n18_; clear n0_ n1_ n2_ n3_ n4_ n5_ n6_ n7_ n8_ n9_ n10_ n11_ n12_ n13_ n14_ n15_ n16_ n17_ n18_; clear hb hbox hg; have hnb86 := NB198_183.out; have hnc86 := NB183_198.out; have hnb87 := NB198_184.out; have hnc87 := NB184_198.out; have hnb88 := NB198_185.out; have hnc88 := NB185_198.out; have hnb89 := NB198_186.out; have hnc89 := NB186_198.out; have hnb90 := NB198_193.out; have hnc90 := NB193_198.out; have hcz91_0 : w85.cell? ⟨gb198, 0, none⟩ = some (.bool false) := bc_; have hcz91_1 : w85.cell? ⟨gb198, 1, none⟩ = some (.int .u64 0) := bc_; have hcz91_2 : w85.cell? ⟨gb198, 2, none⟩ = some (.int .u64 0) := bc_; have hfz91_0 := blk_frozen BK198.out 0; have hfz91_1 := blk_frozen BK198.out 1; have hfz91_2 := blk_frozen BK198.out 2))
          have n0_ : Aside0 ((((w85.setCell ⟨gb198, 0, none⟩ (.bool t194)).setCell ⟨gb198, 1, none⟩ (.int .u64 t195)).setCell ⟨gb198, 2, none⟩ (.int .u64 t196)).heap[gb183]? = some (.cells #[.bool a0_0, .int .u64 a0_1, .int .u64 a0_2, .int .i64 a0_3] 70 (0, 0))) := ⟨by (with_reducible repeat (first | refine bN_ _ ?_ | refine bd_ ?_ | refine ba_ _ ?_)); refine blk_far ?_ NB183_198.out _; (with_reducible repeat (first | refine bN_ _ ?_ | refine bd_ ?_ | refine ba_ _ ?_)); refine blk_far ?_ NB183_198.out _; (with_reducible repeat (first | refine bN_ _ ?_ | refine bd_ ?_ | refine ba_ _ ?_)); refine blk_far ?_ NB183_198.out _; (with_reducible repeat (first | refine bN_ _ ?_ | refine bd_ ?_ | refine ba_ _ ?_)); exact BK183.out⟩
          have n1_ : Aside0 ((((w85.setCell ⟨gb198, 0, none⟩ (.bool t194)).setCell ⟨gb198, 1, none⟩ (.int .u64 t195)).setCell ⟨gb198, 2, none⟩ (.int .u64 t196)).heap[gb184]? = some (.cells #[.bool a1_0, .int .u64 a1_1, .int .u64 a1_2, .int .i64 a1_3] 70 (0, 0))) := ⟨by (with_reducible repeat (first | refine bN_ _ ?_ | refine bd_ ?_ | refine ba_ _ ?_)); refine blk_far ?_ NB184_198.out _; (with_reducible repeat (first | refine bN_ _ ?_ | refine bd_ ?_ | refine ba_ _ ?_)); refine blk_far ?_ NB184_198.out _; (with_reducible repeat (first | refine bN_ _ ?_ | refine bd_ ?_ | refine ba_ _ ?_)); refine blk_far ?_ NB184_198.out _; (with_reducible repeat (first | refine bN_ _ ?_ | refine bd_ ?_ | refine ba_ _ ?_)); exact BK184.out⟩
          have n2_ : Aside0 ((((w85.setCell ⟨gb198, 0, none⟩ (.bool t194)).setCell ⟨gb198, 1, none⟩ (.int .u64 t195)).setCell ⟨gb198, 2, none⟩ (.int .u64 t196)).heap[gb185]? = some (.cells #[.bool false, .int .u64 0, .int .u64 0] 33 (0, 0))) := ⟨by (with_reducible repeat (first | refine bN_ _ ?_ | refine bd_ ?_ | refine ba_ _ ?_)); refine blk_far ?_ NB185_198.out _; (with_reducible repeat (first | refine bN_ _ ?_ | refine bd_ ?_ | refine ba_ _ ?_)); refine blk_far ?_ NB185_198.out _; (with_reducible repeat (first | refine bN_ _ ?_ | refine bd_ ?_ | refine ba_ _ ?_)); refine blk_far ?_ NB185_198.out _; (with_reducible repeat (first | refine bN_ _ ?_ | refine bd_ ?_ | refine ba_ _ ?_)); exact BK185.out⟩
          have n3_ : Aside0 ((((w85.setCell ⟨gb198, 0, none⟩ (.bool t194)).setCell ⟨gb198, 1, none⟩ (.int .u64 t195)).setCell ⟨gb198, 2, none⟩ (.int .u64 t196)).heap[gb186]? = some (.cells #[.bool false, .int .u64 0, .int .u64 0] 33 (0, 0))) := ⟨by (with_reducible repeat (first | refine bN_ _ ?_ | refine bd_ ?_ | refine ba_ _ ?_)); refine blk_far ?_ NB186_198.out _; (with_reducible repeat (first | refine bN_ _ ?_ | refine bd_ ?_ | refine ba_ _ ?_)); refine blk_far ?_ NB186_198.out _; (with_reducible repeat (first | refine bN_ _ ?_ | refine bd_ ?_ | refine ba_ _ ?_)); refine blk_far ?_ NB186_198.out _; (with_reducible repeat (first | refine bN_ _ ?_ | refine bd_ ?_ | refine ba_ _ ?_)); exact BK186.out⟩
          have n4_ : Aside0 ((((w85.setCell ⟨gb198, 0, none⟩ (.bool t194)).setCell ⟨gb198, 1, none⟩ (.int .u64 t195)).setCell ⟨gb198, 2, none⟩ (.int .u64 t196)).heap[gb193]? = some (.cells #[.bool t189, .int .u64 t190, .int .u64 t191] 33 (0, 0))) := ⟨by (with_reducible repeat (first | refine bN_ _ ?_ | refine bd_ ?_ | refine ba_ _ ?_)); refine blk_far ?_ NB193_198.out _; (with_reducible repeat (first | refine bN_ _ ?_ | refine bd_ ?_ | refine ba_ _ ?_)); refine blk_far ?_ NB193_198.out _; (with_reducible repeat (first | refine bN_ _ ?_ | refine bd_ ?_ | refine ba_ _ ?_)); refine blk_far ?_ NB193_198.out _; (with_reducible repeat (first | refine bN_ _ ?_ | refine bd_ ?_ | refine ba_ _ ?_)); exact BK193.out⟩
          have n5_ : Aside0 ((((w85.setCell ⟨gb198, 0, none⟩ (.bool t194)).setCell ⟨gb198, 1, none⟩ (.int .u64 t195)).setCell ⟨gb198, 2, none⟩ (.int .u64 t196)).heap[gb198]? = some (.cells #[.bool t194, .int .u64 t195, .int .u64 t196] 33 (0, 0))) := ⟨by (with_reducible repeat (first | refine bN_ _ ?_ | refine bd_ ?_ | refine ba_ _ ?_)); refine blk_put (cs := #[.bool t194, .int .u64 t195, .int .u64 0]) ?_ 2 _ rfl; (with_reducible repeat (first | refine bN_ _ ?_ | refine bd_ ?_ | refine ba_ _ ?_)); refine blk_put (cs := #[.bool t194, .int .u64 0, .int .u64 0]) ?_ 1 _ rfl; (with_reducible repeat (first | refine bN_ _ ?_ | refine bd_ ?_ | refine ba_ _ ?_)); refine blk_put (cs := #[.bool false, .int .u64 0, .int .u64 0]) ?_ 0 _ rfl; (with_reducible repeat (first | refine bN_ _ ?_ | refine bd_ ?_ | refine ba_ _ ?_)); exact BK198.out⟩
          have n6_ : Aside0 (Below w.heap.size w (((w85.setCell ⟨gb198, 0, none⟩ (.bool t194)).setCell ⟨gb198, 1, none⟩ (.int .u64 t195)).setCell ⟨gb198, 2, none⟩ (.int .u64 t196))) := ⟨by repeat (first | (with_reducible first | exact HB.out | apply below_alloc | apply pw_below_drewN | apply below_drew1 | refine below_set ?_ GE183.out | refine below_set ?_ GE184.out | refine below_set ?_ GE185.out | refine below_set ?_ GE186.out | refine below_set ?_ GE193.out | refine below_set ?_ GE198.out) | exact HB.out)⟩
          (try clear BK183)
          (try clear BK184)
          (try clear BK185)
          (try clear BK186)
          (try clear BK193)
          (try clear BK198)
          (try clear HB)
          generalize (((w85.setCell ⟨gb198, 0, none⟩ (.bool t194)).setCell ⟨gb198, 1, none⟩ (.int .u64 t195)).setCell ⟨gb198, 2, none⟩ (.int .u64 t196)) = w92 at n0_ n1_ n2_ n3_ n4_ n5_ n6_ ⊢
          have BK183 := n0_
          have BK184 := n1_
          have BK185 := n2_
          have BK186 := n3_
          have BK193 := n4_
          have BK198 := n5_
          have HB := n6_
          clear n0_ n1_ n2_ n3_ n4_ n5_ n6_
          have n0_ := Aside0.mk (blk_drew BK183.out)
          have n1_ := Aside0.mk (blk_drew BK184.out)
          have n2_ := Aside0.mk (blk_drew BK185.out)
          have n3_ := Aside0.mk (blk_drew BK186.out)
          have n4_ := Aside0.mk (blk_drew BK193.out)
          have n5_ := Aside0.mk (blk_drew BK198.out)
          have n6_ := Aside0.mk (below_drew1 HB.out)
          clear BK183
          clear BK184
          clear BK185
          clear BK186
          clear BK193
          clear BK198
          clear HB
          have BK183 := n0_
          have BK184 := n1_
          have BK185 := n2_
          have BK186 := n3_
          have BK193 := n4_
          have BK198 := n5_
          have HB := n6_
          clear n0_ n1_ n2_ n3_ n4_ n5_ n6_
          refine start_ (n := 9) (S := fun w' => w'.cell? ⟨gb193, 0, none⟩ = some (.bool t189) ∧ w'.cell? ⟨gb193, 1, none⟩ = some (.int .u64 t190) ∧ w'.cell? ⟨gb193, 2, none⟩ = some (.int .u64 t191) ∧ w'.cell? ⟨gb198, 0, none⟩ = some (.bool t194) ∧ w'.cell? ⟨gb198, 1, none⟩ = some (.int .u64 t195) ∧ w'.cell? ⟨gb198, 2, none⟩ = some (.int .u64 t196)) (ds := []) #[false, false, false, false, false, false, false, false, false] (by kernel_rfl) rfl rfl ⟨bc_, bc_, bc_, bc_, bc_, bc_⟩ (fun hHeld => ?_); refine with_tabW impl_crossed.tab5 impl_crossed.bits5 (fun HT_ HW_ => ?_)
          generalize w92.drew = w93 at BK183 BK184 BK185 BK186 BK193 BK198 HB hHeld ⊢
          refine pure_ (i := 2) (N := some 39) (v := ?_) (a' := ?_) #[false, false, true, false, false, false, false, false, false] rfl rfl (any_of HT_.out (by kernel_rfl)) (fun _ _ _ h => h) (Or.inl ⟨by rfl, ?_⟩) ?_ ?_
          rotate_left
          · intro w'
            go_simp
            with_reducible rfl
          rotate_left
          · simp only [Act.put, la_, lb_, lc_, i64_w, i32_w]
            rfl
          refine pure_ (i := 3) (N := some 40) (v := ?_) (a' := ?_) #[false, false, true, true, false, false, false, false, false] rfl rfl (any_of HT_.out (by kernel_rfl)) (fun _ _ _ h => h) (Or.inl ⟨by rfl, ?_⟩) ?_ ?_
          rotate_left
          · intro w'
            go_simp
            with_reducible rfl
          rotate_left
          · simp only [Act.put, la_, lb_, lc_, i64_w, i32_w]
            rfl
          refine pure_ (i := 4) (N := some 41) (v := undef) (a' := ?_) #[false, false, true, true, true, false, false, false, false] rfl rfl (any_of HT_.out (by kernel_rfl)) (fun _ _ _ h => h) (Or.inr ⟨by rfl, rfl⟩) ?_ ?_
          rotate_left
          · simp only [Act.put, la_, lb_, lc_, i64_w, i32_w]
            rfl
          refine pure_ (i := 5) (N := some 42) (v := ?_) (a' := ?_) #[false, false, true, true, true, true, false, false, false] rfl rfl (any_of HT_.out (by kernel_rfl)) (fun _ _ _ h => h) (Or.inl ⟨by rfl, ?_⟩) ?_ ?_
          rotate_left
          · intro w'
            go_simp
            with_reducible rfl
          rotate_left
          · simp only [Act.put, la_, lb_, lc_, i64_w, i32_w]
            rfl
          refine take_ (i := 0) (N := some 37) (v := ?_) (a' := ?_) #[true, false, true, true, true, true, false, false, false] rfl rfl (take_ofW HT_.out HW_.out (by kernel_rfl)) (fun _ _ _ h => h) (Or.inl ⟨by rfl, ?_⟩) hHeld ?_ ?_
          rotate_left
          · rintro w' ⟨s0, s1, s2, s3, s4, s5⟩
            go_simp
            with_reducible rfl
          rotate_left
          · simp only [Act.put, la_, lb_, lc_, i64_w, i32_w]
            rfl
          refine take_ (i := 1) (N := some 38) (v := ?_) (a' := ?_) #[true, true, true, true, true, true, false, false, false] rfl rfl (take_ofW HT_.out HW_.out (by kernel_rfl)) (fun _ _ _ h => h) (Or.inl ⟨by rfl, ?_⟩) hHeld ?_ ?_
          rotate_left
          · rintro w' ⟨s0, s1, s2, s3, s4, s5⟩
            go_simp
            with_reducible rfl
          rotate_left
          · simp only [Act.put, la_, lb_, lc_, i64_w, i32_w]
            rfl
          refine one_ (i := 6) (N := none) #[true, true, true, true, true, true, true, false, false] rfl rfl (one_of HT_.out (by kernel_rfl)) (by decide) (fun K hK => ?_)
          have hs94 : w93.cell? ⟨gb185, 0, none⟩ = some (.bool false) := (blk_cell BK185.out 0).trans rfl
          have hfs94 := blk_frozen BK185.out 0
          have hns94_0 := NB183_185.out
          have hns94_1 := NB184_185.out
          have hns94_3 := NB186_185.out
          have hns94_4 := NB193_185.out
          have hns94_5 := NB198_185.out
          have hms94_0 := NB185_183.out
          have hms94_1 := NB185_184.out
          have hms94_3 := NB185_186.out
          have hms94_4 := NB185_193.out
          have hms94_5 := NB185_198.out
          have hs95 : w93.cell? ⟨gb185, 1, none⟩ = some (.int .u64 0) := (blk_cell BK185.out 1).trans rfl
          have hfs95 := blk_frozen BK185.out 1
          have hns95_0 := NB183_185.out
          have hns95_1 := NB184_185.out
          have hns95_3 := NB186_185.out
          have hns95_4 := NB193_185.out
          have hns95_5 := NB198_185.out
          have hms95_0 := NB185_183.out
          have hms95_1 := NB185_184.out
          have hms95_3 := NB185_186.out
          have hms95_4 := NB185_193.out
          have hms95_5 := NB185_198.out
          have hs96 : w93.cell? ⟨gb185, 2, none⟩ = some (.int .u64 0) := (blk_cell BK185.out 2).trans rfl
          have hfs96 := blk_frozen BK185.out 2
          have hns96_0 := NB183_185.out
          have hns96_1 := NB184_185.out
          have hns96_3 := NB186_185.out
          have hns96_4 := NB193_185.out
          have hns96_5 := NB198_185.out
          have hms96_0 := NB185_183.out
          have hms96_1 := NB185_184.out
          have hms96_3 := NB185_186.out
          have hms96_4 := NB185_193.out
          have hms96_5 := NB185_198.out
          refine skip_ (w1 := ?_) (by rfl) rfl ?_ ?_
          rotate_left
          · go_simp
            rfl
          refine hK.out _ _ ⟨((cell_far (p := ⟨gb185, _, none⟩) NB193_185.out _).trans (((cell_far (p := ⟨gb185, _, none⟩) NB193_185.out _).trans (((cell_far (p := ⟨gb185, _, none⟩) NB193_185.out _).trans (hHeld.1)))))), ((cell_far (p := ⟨gb185, _, none⟩) NB193_185.out _).trans (((cell_far (p := ⟨gb185, _, none⟩) NB193_185.out _).trans (((cell_far (p := ⟨gb185, _, none⟩) NB193_185.out _).trans (hHeld.2.1)))))), ((cell_far (p := ⟨gb185, _, none⟩) NB193_185.out _).trans (((cell_far (p := ⟨gb185, _, none⟩) NB193_185.out _).trans (((cell_far (p := ⟨gb185, _, none⟩) NB193_185.out _).trans (hHeld.2.2.1)))))), ((cell_far (p := ⟨gb185, _, none⟩) NB198_185.out _).trans (((cell_far (p := ⟨gb185, _, none⟩) NB198_185.out _).trans (((cell_far (p := ⟨gb185, _, none⟩) NB198_185.out _).trans (hHeld.2.2.2.1)))))), ((cell_far (p := ⟨gb185, _, none⟩) NB198_185.out _).trans (((cell_far (p := ⟨gb185, _, none⟩) NB198_185.out _).trans (((cell_far (p := ⟨gb185, _, none⟩) NB198_185.out _).trans (hHeld.2.2.2.2.1)))))), ((cell_far (p := ⟨gb185, _, none⟩) NB198_185.out _).trans (((cell_far (p := ⟨gb185, _, none⟩) NB198_185.out _).trans (((cell_far (p := ⟨gb185, _, none⟩) NB198_185.out _).trans (hHeld.2.2.2.2.2))))))⟩ (fun hHeld => ?_)
          clear hK K
          refine one_ (i := 7) (N := none) #[true, true, true, true, true, true, true, true, false] rfl rfl (one_of HT_.out (by kernel_rfl)) (by decide) (fun K hK => ?_)
          have hs97 : w93.cell? ⟨gb186, 0, none⟩ = some (.bool false) := (blk_cell BK186.out 0).trans rfl
          have hfs97 := blk_frozen BK186.out 0
          have hns97_0 := NB183_186.out
          have hns97_1 := NB184_186.out
          have hns97_2 := NB185_186.out
          have hns97_4 := NB193_186.out
          have hns97_5 := NB198_186.out
          have hms97_0 := NB186_183.out
          have hms97_1 := NB186_184.out
          have hms97_2 := NB186_185.out
          have hms97_4 := NB186_193.out
          have hms97_5 := NB186_198.out
          have hs98 : w93.cell? ⟨gb186, 1, none⟩ = some (.int .u64 0) := (blk_cell BK186.out 1).trans rfl
          have hfs98 := blk_frozen BK186.out 1
          have hns98_0 := NB183_186.out
          have hns98_1 := NB184_186.out
          have hns98_2 := NB185_186.out
          have hns98_4 := NB193_186.out
          have hns98_5 := NB198_186.out
          have hms98_0 := NB186_183.out
          have hms98_1 := NB186_184.out
          have hms98_2 := NB186_185.out
          have hms98_4 := NB186_193.out
          have hms98_5 := NB186_198.out
          have hs99 : w93.cell? ⟨gb186, 2, none⟩ = some (.int .u64 0) := (blk_cell BK186.out 2).trans rfl
          have hfs99 := blk_frozen BK186.out 2
          have hns99_0 := NB183_186.out
          have hns99_1 := NB184_186.out
          have hns99_2 := NB185_186.out
          have hns99_4 := NB193_186.out
          have hns99_5 := NB198_186.out
          have hms99_0 := NB186_183.out
          have hms99_1 := NB186_184.out
          have hms99_2 := NB186_185.out
          have hms99_4 := NB186_193.out
          have hms99_5 := NB186_198.out
          refine skip_ (w1 := ?_) (by rfl) rfl ?_ ?_
          rotate_left
          · go_simp
            rfl
          refine hK.out _ _ ⟨((cell_far (p := ⟨gb186, _, none⟩) NB193_186.out _).trans (((cell_far (p := ⟨gb186, _, none⟩) NB193_186.out _).trans (((cell_far (p := ⟨gb186, _, none⟩) NB193_186.out _).trans (hHeld.1)))))), ((cell_far (p := ⟨gb186, _, none⟩) NB193_186.out _).trans (((cell_far (p := ⟨gb186, _, none⟩) NB193_186.out _).trans (((cell_far (p := ⟨gb186, _, none⟩) NB193_186.out _).trans (hHeld.2.1)))))), ((cell_far (p := ⟨gb186, _, none⟩) NB193_186.out _).trans (((cell_far (p := ⟨gb186, _, none⟩) NB193_186.out _).trans (((cell_far (p := ⟨gb186, _, none⟩) NB193_186.out _).trans (hHeld.2.2.1)))))), ((cell_far (p := ⟨gb186, _, none⟩) NB198_186.out _).trans (((cell_far (p := ⟨gb186, _, none⟩) NB198_186.out _).trans (((cell_far (p := ⟨gb186, _, none⟩) NB198_186.out _).trans (hHeld.2.2.2.1)))))), ((cell_far (p := ⟨gb186, _, none⟩) NB198_186.out _).trans (((cell_far (p := ⟨gb186, _, none⟩) NB198_186.out _).trans (((cell_far (p := ⟨gb186, _, none⟩) NB198_186.out _).trans (hHeld.2.2.2.2.1)))))), ((cell_far (p := ⟨gb186, _, none⟩) NB198_186.out _).trans (((cell_far (p := ⟨gb186, _, none⟩) NB198_186.out _).trans (((cell_far (p := ⟨gb186, _, none⟩) NB198_186.out _).trans (hHeld.2.2.2.2.2))))))⟩ (fun hHeld => ?_)
          clear hK K
          refine pure_ (i := 8) (N := some 6) (v := ?_) (a' := ?_) #[true, true, true, true, true, true, true, true, true] rfl rfl (any_of HT_.out (by kernel_rfl)) (fun _ _ _ h => h) (Or.inl ⟨by rfl, ?_⟩) ?_ ?_
          rotate_left
          · intro w'
            go_simp
            with_reducible rfl
          rotate_left
          · simp only [Act.put, la_, lb_, lc_, i64_w, i32_w]
            rfl
          refine done_ (done_of HT_.out (by kernel_rfl)) ?_
          try go_wp2
          refine bodyPost_ret (results_list (rs := [.cell 4 33, .cell 5 33, .tmp 6]) rfl (by simp) (.cell gb185 33 #[.bool t189, .int .u64 t190, .int .u64 t191] (0, 0) _ rfl (by (with_reducible repeat (first | refine bN_ _ ?_ | refine bd_ ?_ | refine ba_ _ ?_)); refine blk_far ?_ NB185_186.out _; (with_reducible repeat (first | refine bN_ _ ?_ | refine bd_ ?_ | refine ba_ _ ?_)); refine blk_far ?_ NB185_186.out _; (with_reducible repeat (first | refine bN_ _ ?_ | refine bd_ ?_ | refine ba_ _ ?_)); refine blk_far ?_ NB185_186.out _; (with_reducible repeat (first | refine bN_ _ ?_ | refine bd_ ?_ | refine ba_ _ ?_)); refine blk_put (cs := #[.bool t189, .int .u64 t190, .int .u64 0]) ?_ 2 _ rfl; (with_reducible repeat (first | refine bN_ _ ?_ | refine bd_ ?_ | refine ba_ _ ?_)); refine blk_put (cs := #[.bool t189, .int .u64 0, .int .u64 0]) ?_ 1 _ rfl; (with_reducible repeat (first | refine bN_ _ ?_ | refine bd_ ?_ | refine ba_ _ ?_)); refine blk_put (cs := #[.bool false, .int .u64 0, .int .u64 0]) ?_ 0 _ rfl; (with_reducible repeat (first | refine bN_ _ ?_ | refine bd_ ?_ | refine ba_ _ ?_)); exact BK185.out) Try.underlying33 rfl (by kernel_rfl) (.cell gb186 33 #[.bool t194, .int .u64 t195, .int .u64 t196] (0, 0) _ rfl (by (with_reducible repeat (first | refine bN_ _ ?_ | refine bd_ ?_ | refine ba_ _ ?_)); refine blk_put (cs := #[.bool t194, .int .u64 t195, .int .u64 0]) ?_ 2 _ rfl; (with_reducible repeat (first | refine bN_ _ ?_ | refine bd_ ?_ | refine ba_ _ ?_)); refine blk_put (cs := #[.bool t194, .int .u64 0, .int .u64 0]) ?_ 1 _ rfl; (with_reducible repeat (first | refine bN_ _ ?_ | refine bd_ ?_ | refine ba_ _ ?_)); refine blk_put (cs := #[.bool false, .int .u64 0, .int .u64 0]) ?_ 0 _ rfl; (with_reducible repeat (first | refine bN_ _ ?_ | refine bd_ ?_ | refine ba_ _ ?_)); refine blk_far ?_ NB186_185.out _; (with_reducible repeat (first | refine bN_ _ ?_ | refine bd_ ?_ | refine ba_ _ ?_)); refine blk_far ?_ NB186_185.out _; (with_reducible repeat (first | refine bN_ _ ?_ | refine bd_ ?_ | refine ba_ _ ?_)); refine blk_far ?_ NB186_185.out _; (with_reducible repeat (first | refine bN_ _ ?_ | refine bd_ ?_ | refine ba_ _ ?_)); exact BK186.out) Try.underlying33 rfl (by kernel_rfl) (.tmp .nil)))) rfl ?_
          exact ⟨by first | rfl | (simp [errW_none, errW_some] <;> rfl) | (simp [*, errW_none, errW_some] <;> rfl), by repeat (first | (with_reducible first | exact HB.out | apply below_alloc | apply pw_below_drewN | apply below_drew1 | refine below_set ?_ GE183.out | refine below_set ?_ GE184.out | refine below_set ?_ GE185.out | refine below_set ?_ GE186.out | refine below_set ?_ GE193.out | refine below_set ?_ GE198.out) | exact HB.out)⟩

/-! ### cmp_Or_int: function 104 -/
def cmp_Or_int.l0 : Nat → Int → List Int → Int → Int → Option (Int)
  | 0, _, _, _, _ => none
  | k + 1, x3, x6, x7, x8 => if x8 < x7 then (if 0 ≤ x8 then (if x8 < (x6.length : Int) then (if (rd x6 x8) = x3 then (cmp_Or_int.l0 k x3 x6 x7 (wrap64 (x8 + 1))) else (some (rd x6 x8))) else (none)) else (none)) else (some x3)
def cmp_Or_int.f (k : Nat) (l0 : List Int) : Option (Int) := cmp_Or_int.l0 k 0 l0 (l0.length : Int) 0
theorem cmp_Or_int.mono_l : ∀ k, (∀ y0 y1 y2 y3, LeO (cmp_Or_int.l0 k y0 y1 y2 y3) (cmp_Or_int.l0 (k + 1) y0 y1 y2 y3))
  | 0 => fun _ _ _ _ r h => by simp [cmp_Or_int.l0] at h
  | k + 1 => by
    have ih0 := cmp_Or_int.mono_l k
    · intro y0 y1 y2 y3
      unfold cmp_Or_int.l0
      repeat' first
      | (with_reducible exact ih0 _ _ _ _)
      | (with_reducible exact LeO.refl _)
      | (with_reducible exact LeO.none _)
      | (with_reducible refine LeO.ite ?_ ?_)
      | (with_reducible refine LeO.bind ?_ (fun _ => ?_))
      | exact ih0 _ _ _ _
      | exact LeO.none _
      | refine LeO.ite ?_ ?_
      | refine LeO.bind ?_ (fun _ => ?_)
theorem cmp_Or_int.mono : ∀ a0 k, LeO (cmp_Or_int.f k a0) (cmp_Or_int.f (k + 1) a0) := by
  intro a0 k
  have ih0 := cmp_Or_int.mono_l k
  unfold cmp_Or_int.f
  repeat' first
      | (with_reducible exact ih0 _ _ _ _)
      | (with_reducible exact LeO.refl _)
      | (with_reducible exact LeO.none _)
      | (with_reducible refine LeO.ite ?_ ?_)
      | (with_reducible refine LeO.bind ?_ (fun _ => ?_))
      | exact ih0 _ _ _ _
      | exact LeO.none _
      | refine LeO.ite ?_ ?_
      | refine LeO.bind ?_ (fun _ => ?_)
set_option maxHeartbeats 8000000 in
set_option maxRecDepth 100000 in
theorem cmp_Or_int.calls (k : Nat) (A0 : Option Addr) (c0 : Nat) (l0 : List Int) (r : Int) (w : World) (hr0 : Kd.C (Kd.int .i64) w A0 l0.length l0) (hc0 : l0.length ≤ c0) (h : cmp_Or_int.f k l0 = some r) :
    Calls Try.prog 104 #[.slice A0 l0.length c0] w fun e w' => e = .returned (.int .i64 r) ∧ Drawn0 w w' := by
  have HR0 := Aside0.mk hr0
  have HC0 := Aside0.mk hc0
  clear hr0 hc0
  have H : (cmp_Or_int.l0 k 0 l0 (l0.length : Int) 0) = some r := h
  clear h
  have H' := Aside0.mk H
  clear H
  go_enter Try.func104, Try.ntmps104
  go_wp2
  go_loopg [8] k (fun kq v8 w' => ∃ (x8_1 : Int), v8 = .int .i64 x8_1 ∧ Aside0 (cmp_Or_int.l0 kq 0 l0 (l0.length : Int) x8_1 = some r) ∧ Aside0 (kq ≤ k) ∧ Drawn0 w w')
  case atStart => exact ⟨(0), (by first | rfl | (simp; done) | (simp [*]; done)), H', ⟨Nat.le_refl _⟩, by repeat (first | exact Drawn0.refl _ | apply Drawn0.step)⟩
  case round =>
    clear H'
    try clear c1
    obtain ⟨x8_1, rfl, HA, HK1, ⟨m1, rfl⟩⟩ := hrel
    cases gk with
    | zero => exact absurd HA.out (by simp [cmp_Or_int.l0])
    | succ k1 =>
      have H := HA.out
      clear HA
      simp only [cmp_Or_int.l0] at H
      by_cases c2 : x8_1 < (l0.length : Int)
      · rw [if_pos c2] at H
        have c2b0 : decide (x8_1 < (l0.length : Int)) = true := decide_eq_true c2
        clear c2
        by_cases c3 : 0 ≤ x8_1
        · rw [if_pos c3] at H
          have c3b0 : decide (0 ≤ x8_1) = true := decide_eq_true c3
          clear c3
          by_cases c4 : x8_1 < (l0.length : Int)
          · rw [if_pos c4] at H
            have c4b0 : decide (x8_1 < (l0.length : Int)) = true := decide_eq_true c4
            clear c4
            by_cases c5 : (rd l0 x8_1) = 0
            · rw [if_pos c5] at H
              have c5b0 : ((rd l0 x8_1) == 0) = true := beq_iff_eq.mpr c5
              have c5b1 : ((rd l0 x8_1) != 0) = false := bne_eq_false_iff_eq.mpr c5
              clear c5
              have H' := Aside0.mk H
              clear H
              have p199 : 0 ≤ (x8_1 : Int) := of_decide_eq_true (by first | (with_reducible assumption) | assumption)
              have q199 : x8_1 < (l0.length : Int) := of_decide_eq_true (by first | (with_reducible assumption) | assumption)
              obtain ⟨ad199, e199, hx199_0⟩ := Kd.at_int HR0.out x8_1 p199 q199
              cases e199
              replace p199 := eq_true p199
              replace q199 := eq_true q199
              go_wp2
              go_roundg k1
              case measure => have := HK1.out; omega
              case rel => exact ⟨(wrap64 (x8_1 + 1)), (by first | rfl | (simp; done) | (simp [*]; done)), H', ⟨by have := HK1.out; omega⟩, by repeat (first | exact Drawn0.refl _ | apply Drawn0.step)⟩
            · rw [if_neg c5] at H
              have c5b0 : ((rd l0 x8_1) == 0) = false := beq_eq_false_iff_ne.mpr c5
              have c5b1 : ((rd l0 x8_1) != 0) = true := bne_iff_ne.mpr c5
              obtain rfl := Option.some.inj H
              have p199 : 0 ≤ (x8_1 : Int) := of_decide_eq_true (by first | (with_reducible assumption) | assumption)
              have q199 : x8_1 < (l0.length : Int) := of_decide_eq_true (by first | (with_reducible assumption) | assumption)
              obtain ⟨ad199, e199, hx199_0⟩ := Kd.at_int HR0.out x8_1 p199 q199
              cases e199
              replace p199 := eq_true p199
              replace q199 := eq_true q199
              go_wp2
              go_ret
              exact ⟨by first | rfl | (simp; done) | (simp [*]; done), by repeat (first | exact Drawn0.refl _ | apply Drawn0.step)⟩
          · rw [if_neg c4] at H
            exact absurd H (by simp)
        · rw [if_neg c3] at H
          exact absurd H (by simp)
      · rw [if_neg c2] at H
        have c2b0 : decide (x8_1 < (l0.length : Int)) = false := decide_eq_false c2
        clear c2
        obtain rfl := Option.some.inj H
        go_wp2
        go_ret
        exact ⟨by first | rfl | (simp; done) | (simp [*]; done), by repeat (first | exact Drawn0.refl _ | apply Drawn0.step)⟩

/-! ### cmp_isNaN_uint64: function 110 -/
def cmp_isNaN_uint64.f (a0 : Int) : Option (Bool) := some (a0 != a0)
set_option maxHeartbeats 8000000 in
set_option maxRecDepth 100000 in
theorem cmp_isNaN_uint64.calls (a0 : Int) (r : Bool) (w : World) (h : cmp_isNaN_uint64.f a0 = some r) :
    Calls Try.prog 110 #[.int .u64 a0] w fun e w' => e = .returned (.bool r) ∧ Drawn0 w w' := by
  have H : (some (a0 != a0)) = some r := h
  clear h
  obtain rfl := Option.some.inj H
  go_enter Try.func110, Try.ntmps110
  go_wp2
  go_ret
  exact ⟨by first | rfl | (simp; done) | (simp [*]; done), by repeat (first | exact Drawn0.refl _ | apply Drawn0.step)⟩

/-! ### cmp_Compare_uint64: function 105 -/
def cmp_Compare_uint64.f (a0 : Int) (a1 : Int) : Option (Int) := (cmp_isNaN_uint64.f a0).bind fun t200 => ((cmp_isNaN_uint64.f a1).bind fun t201 => (if t200 = true then (if t201 = true then (some 0) else (some (-1))) else (if t201 = true then (some 1) else (if a0 < a1 then (some (-1)) else (if a0 > a1 then (some 1) else (some 0))))))
set_option maxHeartbeats 8000000 in
set_option maxRecDepth 100000 in
theorem cmp_Compare_uint64.calls (a0 : Int) (a1 : Int) (r : Int) (w : World) (h : cmp_Compare_uint64.f a0 a1 = some r) :
    Calls Try.prog 105 #[.int .u64 a0, .int .u64 a1] w fun e w' => e = .returned (.int .i64 r) ∧ Drawn0 w w' := by
  have H : ((cmp_isNaN_uint64.f a0).bind fun t200 => ((cmp_isNaN_uint64.f a1).bind fun t201 => (if t200 = true then (if t201 = true then (some 0) else (some (-1))) else (if t201 = true then (some 1) else (if a0 < a1 then (some (-1)) else (if a0 > a1 then (some 1) else (some 0))))))) = some r := h
  clear h
  replace H := Option.bind_eq_some_iff.mp H
  obtain ⟨t200, A30, H⟩ := H
  replace H : ((cmp_isNaN_uint64.f a1).bind fun t201 => (if t200 = true then (if t201 = true then (some 0) else (some (-1))) else (if t201 = true then (some 1) else (if a0 < a1 then (some (-1)) else (if a0 > a1 then (some 1) else (some 0)))))) = some r := H
  have A3 := Aside0.mk A30
  clear A30
  replace H := Option.bind_eq_some_iff.mp H
  obtain ⟨t201, A40, H⟩ := H
  replace H : (if t200 = true then (if t201 = true then (some 0) else (some (-1))) else (if t201 = true then (some 1) else (if a0 < a1 then (some (-1)) else (if a0 > a1 then (some 1) else (some 0))))) = some r := H
  have A4 := Aside0.mk A40
  clear A40
  by_cases c5 : t200 = true
  · subst c5
    have H1 : (if t201 = true then (some 0) else (some (-1))) = some r := by rw [if_pos rfl] at H; exact H
    clear H
    have H := H1
    clear H1
    by_cases c6 : t201 = true
    · subst c6
      have H1 : (some 0) = some r := by rw [if_pos rfl] at H; exact H
      clear H
      have H := H1
      clear H1
      obtain rfl := Option.some.inj H
      go_enter Try.func105, Try.ntmps105
      go_wp2_with (first | ((with_reducible refine gate_callee (f := 110) rfl ?_); refine goesL_ (some 8) rfl rfl Try.func110 (by kernel_rfl) rfl #[.int .u64 a0] rfl mp_ ?_; (with_reducible refine (cmp_isNaN_uint64.calls a0 true _ A3.out).mono ?_); rintro e w' ⟨rfl, ⟨nd, rfl⟩⟩; refine ⟨_, rfl, ?_⟩) | ((with_reducible refine gate_callee (f := 110) rfl ?_); refine goesL_ (some 10) rfl rfl Try.func110 (by kernel_rfl) rfl #[.int .u64 a1] rfl mp_ ?_; (with_reducible refine (cmp_isNaN_uint64.calls a1 true _ A4.out).mono ?_); rintro e w' ⟨rfl, ⟨nd, rfl⟩⟩; refine ⟨_, rfl, ?_⟩))
      go_ret
      exact ⟨by first | rfl | (simp; done) | (simp [*]; done), by repeat (first | exact Drawn0.refl _ | apply Drawn0.step)⟩
    · replace c6 := Bool.eq_false_iff.mpr c6
      subst c6
      have H1 : (some (-1)) = some r := by rw [if_neg (show ¬ (false = true) by decide)] at H; exact H
      clear H
      have H := H1
      clear H1
      obtain rfl := Option.some.inj H
      go_enter Try.func105, Try.ntmps105
      go_wp2_with (first | ((with_reducible refine gate_callee (f := 110) rfl ?_); refine goesL_ (some 8) rfl rfl Try.func110 (by kernel_rfl) rfl #[.int .u64 a0] rfl mp_ ?_; (with_reducible refine (cmp_isNaN_uint64.calls a0 true _ A3.out).mono ?_); rintro e w' ⟨rfl, ⟨nd, rfl⟩⟩; refine ⟨_, rfl, ?_⟩) | ((with_reducible refine gate_callee (f := 110) rfl ?_); refine goesL_ (some 10) rfl rfl Try.func110 (by kernel_rfl) rfl #[.int .u64 a1] rfl mp_ ?_; (with_reducible refine (cmp_isNaN_uint64.calls a1 false _ A4.out).mono ?_); rintro e w' ⟨rfl, ⟨nd, rfl⟩⟩; refine ⟨_, rfl, ?_⟩))
      go_ret
      exact ⟨by first | rfl | (simp; done) | (simp [*]; done), by repeat (first | exact Drawn0.refl _ | apply Drawn0.step)⟩
  · replace c5 := Bool.eq_false_iff.mpr c5
    subst c5
    have H1 : (if t201 = true then (some 1) else (if a0 < a1 then (some (-1)) else (if a0 > a1 then (some 1) else (some 0)))) = some r := by rw [if_neg (show ¬ (false = true) by decide)] at H; exact H
    clear H
    have H := H1
    clear H1
    by_cases c7 : t201 = true
    · subst c7
      have H1 : (some 1) = some r := by rw [if_pos rfl] at H; exact H
      clear H
      have H := H1
      clear H1
      obtain rfl := Option.some.inj H
      go_enter Try.func105, Try.ntmps105
      go_wp2_with (first | ((with_reducible refine gate_callee (f := 110) rfl ?_); refine goesL_ (some 8) rfl rfl Try.func110 (by kernel_rfl) rfl #[.int .u64 a0] rfl mp_ ?_; (with_reducible refine (cmp_isNaN_uint64.calls a0 false _ A3.out).mono ?_); rintro e w' ⟨rfl, ⟨nd, rfl⟩⟩; refine ⟨_, rfl, ?_⟩) | ((with_reducible refine gate_callee (f := 110) rfl ?_); refine goesL_ (some 10) rfl rfl Try.func110 (by kernel_rfl) rfl #[.int .u64 a1] rfl mp_ ?_; (with_reducible refine (cmp_isNaN_uint64.calls a1 true _ A4.out).mono ?_); rintro e w' ⟨rfl, ⟨nd, rfl⟩⟩; refine ⟨_, rfl, ?_⟩))
      go_ret
      exact ⟨by first | rfl | (simp; done) | (simp [*]; done), by repeat (first | exact Drawn0.refl _ | apply Drawn0.step)⟩
    · replace c7 := Bool.eq_false_iff.mpr c7
      subst c7
      have H1 : (if a0 < a1 then (some (-1)) else (if a0 > a1 then (some 1) else (some 0))) = some r := by rw [if_neg (show ¬ (false = true) by decide)] at H; exact H
      clear H
      have H := H1
      clear H1
      by_cases c8 : a0 < a1
      · rw [if_pos c8] at H
        have c8b0 : decide (a0 < a1) = true := decide_eq_true c8
        clear c8
        obtain rfl := Option.some.inj H
        go_enter Try.func105, Try.ntmps105
        go_wp2_with (first | ((with_reducible refine gate_callee (f := 110) rfl ?_); refine goesL_ (some 8) rfl rfl Try.func110 (by kernel_rfl) rfl #[.int .u64 a0] rfl mp_ ?_; (with_reducible refine (cmp_isNaN_uint64.calls a0 false _ A3.out).mono ?_); rintro e w' ⟨rfl, ⟨nd, rfl⟩⟩; refine ⟨_, rfl, ?_⟩) | ((with_reducible refine gate_callee (f := 110) rfl ?_); refine goesL_ (some 10) rfl rfl Try.func110 (by kernel_rfl) rfl #[.int .u64 a1] rfl mp_ ?_; (with_reducible refine (cmp_isNaN_uint64.calls a1 false _ A4.out).mono ?_); rintro e w' ⟨rfl, ⟨nd, rfl⟩⟩; refine ⟨_, rfl, ?_⟩))
        go_ret
        exact ⟨by first | rfl | (simp; done) | (simp [*]; done), by repeat (first | exact Drawn0.refl _ | apply Drawn0.step)⟩
      · rw [if_neg c8] at H
        have c8b0 : decide (a0 < a1) = false := decide_eq_false c8
        clear c8
        by_cases c9 : a0 > a1
        · rw [if_pos c9] at H
          have c9b0 : decide (a1 < a0) = true := decide_eq_true c9
          clear c9
          obtain rfl := Option.some.inj H
          go_enter Try.func105, Try.ntmps105
          go_wp2_with (first | ((with_reducible refine gate_callee (f := 110) rfl ?_); refine goesL_ (some 8) rfl rfl Try.func110 (by kernel_rfl) rfl #[.int .u64 a0] rfl mp_ ?_; (with_reducible refine (cmp_isNaN_uint64.calls a0 false _ A3.out).mono ?_); rintro e w' ⟨rfl, ⟨nd, rfl⟩⟩; refine ⟨_, rfl, ?_⟩) | ((with_reducible refine gate_callee (f := 110) rfl ?_); refine goesL_ (some 10) rfl rfl Try.func110 (by kernel_rfl) rfl #[.int .u64 a1] rfl mp_ ?_; (with_reducible refine (cmp_isNaN_uint64.calls a1 false _ A4.out).mono ?_); rintro e w' ⟨rfl, ⟨nd, rfl⟩⟩; refine ⟨_, rfl, ?_⟩))
          go_ret
          exact ⟨by first | rfl | (simp; done) | (simp [*]; done), by repeat (first | exact Drawn0.refl _ | apply Drawn0.step)⟩
        · rw [if_neg c9] at H
          have c9b0 : decide (a1 < a0) = false := decide_eq_false c9
          clear c9
          obtain rfl := Option.some.inj H
          go_enter Try.func105, Try.ntmps105
          go_wp2_with (first | ((with_reducible refine gate_callee (f := 110) rfl ?_); refine goesL_ (some 8) rfl rfl Try.func110 (by kernel_rfl) rfl #[.int .u64 a0] rfl mp_ ?_; (with_reducible refine (cmp_isNaN_uint64.calls a0 false _ A3.out).mono ?_); rintro e w' ⟨rfl, ⟨nd, rfl⟩⟩; refine ⟨_, rfl, ?_⟩) | ((with_reducible refine gate_callee (f := 110) rfl ?_); refine goesL_ (some 10) rfl rfl Try.func110 (by kernel_rfl) rfl #[.int .u64 a1] rfl mp_ ?_; (with_reducible refine (cmp_isNaN_uint64.calls a1 false _ A4.out).mono ?_); rintro e w' ⟨rfl, ⟨nd, rfl⟩⟩; refine ⟨_, rfl, ?_⟩))
          go_ret
          exact ⟨by first | rfl | (simp; done) | (simp [*]; done), by repeat (first | exact Drawn0.refl _ | apply Drawn0.step)⟩

end Go.Proofs.Yteldfljjeofiaaa.PFnExactCompareFrac
