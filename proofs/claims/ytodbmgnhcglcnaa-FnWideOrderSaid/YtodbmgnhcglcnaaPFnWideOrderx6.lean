/- Contracts of Go functions, each with the Lean function that says what it computes: begun by the print, turned by this session. No condition beyond what each theorem states. -/
import Derived.Test.YtodbmgnhcglcnaaPFnWideOrderx0
import Derived.Test.YtodbmgnhcglcnaaPFnWideOrderx2
namespace Go.Proofs.Ytodbmgnhcglcnaa.PFnWideOrder
open Go.RowKit Go.Proofs.YtodbmgnhcglcnaaW.PrintWords Go.Proofs.YtodbmgnhcglcnaaW.PrintLast Go.Proofs.YtodbmgnhcglcnaaW.PrintMore
attribute [local go_sem] max2_int min2_int max_two min_two max_three min_three max_four min_four   -- for this text's walks alone
set_option linter.unusedVariables false
set_option linter.unusedSimpArgs false

/-! ### impl_CompareWide: function 17 -/
mutual
def impl_CompareWide.j0 : Nat → Bool → Bool → Int → Int → Bool → Int → Int → Option (Int)
  | 0, _, _, _, _, _, _, _ => none
  | k + 1, x19, x282000, x282001, x282002, x283000, x283001, x283002 => if x19 = true then (some (-1)) else (if x283000 = true then (impl_CompareWide.j1 k (!x282000) x282000 x282001 x282002 x283000 x283001 x283002) else (impl_CompareWide.j1 k false x282000 x282001 x282002 x283000 x283001 x283002))
def impl_CompareWide.j1 : Nat → Bool → Bool → Int → Int → Bool → Int → Int → Option (Int)
  | 0, _, _, _, _, _, _, _ => none
  | k + 1, x27, x282000, x282001, x282002, x283000, x283001, x283002 => if x27 = true then (some 1) else (if x282000 = true then ((impl_compareSizes.f k x283000 x283001 x283002 x282000 x282001 x282002).bind fun t289 => (some t289)) else ((impl_compareSizes.f k x282000 x282001 x282002 x283000 x283001 x283002).bind fun t290 => (some t290)))
end
def impl_CompareWide.f (k : Nat) (a0_0 : Bool) (a0_1 : Int) (a0_2 : Int) (a1_0 : Bool) (a1_1 : Int) (a1_2 : Int) : Option (Int) := (impl_wideOf.f a0_0 a0_1 a0_2).bind fun bt283 => ((impl_wideOf.f a1_0 a1_1 a1_2).bind fun bt286 => (if bt283.1 = true then (impl_CompareWide.j0 k (!bt286.1) bt283.1 bt283.2.1 bt283.2.2 bt286.1 bt286.2.1 bt286.2.2) else (impl_CompareWide.j0 k false bt283.1 bt283.2.1 bt283.2.2 bt286.1 bt286.2.1 bt286.2.2)))
theorem impl_CompareWide.mono_l : ∀ k, (∀ y0 y1 y2 y3 y4 y5 y6, LeO (impl_CompareWide.j0 k y0 y1 y2 y3 y4 y5 y6) (impl_CompareWide.j0 (k + 1) y0 y1 y2 y3 y4 y5 y6)) ∧ (∀ y0 y1 y2 y3 y4 y5 y6, LeO (impl_CompareWide.j1 k y0 y1 y2 y3 y4 y5 y6) (impl_CompareWide.j1 (k + 1) y0 y1 y2 y3 y4 y5 y6))
  | 0 => ⟨fun _ _ _ _ _ _ _ r h => by simp [impl_CompareWide.j0] at h, fun _ _ _ _ _ _ _ r h => by simp [impl_CompareWide.j1] at h⟩
  | k + 1 => by
    obtain ⟨ih0, ih1⟩ := impl_CompareWide.mono_l k
    refine ⟨?_, ?_⟩
    · intro y0 y1 y2 y3 y4 y5 y6
      unfold impl_CompareWide.j0
      repeat' first
      | (with_reducible exact ih0 _ _ _ _ _ _ _)
      | (with_reducible exact ih1 _ _ _ _ _ _ _)
      | (with_reducible exact impl_compareSizes.mono _ _ _ _ _ _ _)
      | (with_reducible exact LeO.refl _)
      | (with_reducible exact LeO.none _)
      | (with_reducible refine LeO.ite ?_ ?_)
      | (with_reducible refine LeO.bind ?_ (fun _ => ?_))
      | exact ih0 _ _ _ _ _ _ _
      | exact ih1 _ _ _ _ _ _ _
      | exact impl_compareSizes.mono _ _ _ _ _ _ _
      | exact LeO.none _
      | refine LeO.ite ?_ ?_
      | refine LeO.bind ?_ (fun _ => ?_)
    · intro y0 y1 y2 y3 y4 y5 y6
      unfold impl_CompareWide.j1
      repeat' first
      | (with_reducible exact ih0 _ _ _ _ _ _ _)
      | (with_reducible exact ih1 _ _ _ _ _ _ _)
      | (with_reducible exact impl_compareSizes.mono _ _ _ _ _ _ _)
      | (with_reducible exact LeO.refl _)
      | (with_reducible exact LeO.none _)
      | (with_reducible refine LeO.ite ?_ ?_)
      | (with_reducible refine LeO.bind ?_ (fun _ => ?_))
      | exact ih0 _ _ _ _ _ _ _
      | exact ih1 _ _ _ _ _ _ _
      | exact impl_compareSizes.mono _ _ _ _ _ _ _
      | exact LeO.none _
      | refine LeO.ite ?_ ?_
      | refine LeO.bind ?_ (fun _ => ?_)
theorem impl_CompareWide.mono : ∀ a0 a1 a2 a3 a4 a5 k, LeO (impl_CompareWide.f k a0 a1 a2 a3 a4 a5) (impl_CompareWide.f (k + 1) a0 a1 a2 a3 a4 a5) := by
  intro a0 a1 a2 a3 a4 a5 k
  obtain ⟨ih0, ih1⟩ := impl_CompareWide.mono_l k
  unfold impl_CompareWide.f
  repeat' first
      | (with_reducible exact ih0 _ _ _ _ _ _ _)
      | (with_reducible exact ih1 _ _ _ _ _ _ _)
      | (with_reducible exact impl_compareSizes.mono _ _ _ _ _ _ _)
      | (with_reducible exact LeO.refl _)
      | (with_reducible exact LeO.none _)
      | (with_reducible refine LeO.ite ?_ ?_)
      | (with_reducible refine LeO.bind ?_ (fun _ => ?_))
      | exact ih0 _ _ _ _ _ _ _
      | exact ih1 _ _ _ _ _ _ _
      | exact impl_compareSizes.mono _ _ _ _ _ _ _
      | exact LeO.none _
      | refine LeO.ite ?_ ?_
      | refine LeO.bind ?_ (fun _ => ?_)
def impl_CompareWide.T1 : Bool × List (List Nat × List Nat) := (true, [([], []), ([0], [0]), ([], []), ([2], [2]), ([], []), ([4], [4]), ([1, 3, 5], [1, 3, 5]), ([], []), ([7], [7]), ([], []), ([9], [9]), ([], []), ([11], [11]), ([8, 10, 12, 6], [8, 10, 12]), ([6, 13, 0, 1, 2, 3, 4, 5, 6], [6]), ([13, 14, 0, 1, 2, 3, 4, 5, 6, 7, 8, 9, 10, 11, 12, 13, 14], [13])])
def impl_CompareWide.B1 : List Nat := [0, 1, 0, 4, 0, 16, 63, 0, 128, 0, 512, 0, 2048, 8191, 16383, 32767]
theorem impl_CompareWide.tab1 : rtab .any (opsOf Try.f17 1) = impl_CompareWide.T1 := by kernel_rfl
theorem impl_CompareWide.bits1 : waitsOk impl_CompareWide.T1.2 impl_CompareWide.B1 = true := by kernel_rfl
set_option maxHeartbeats 8000000 in
set_option maxRecDepth 100000 in
theorem impl_CompareWide.calls (k : Nat) (a0_0 : Bool) (a0_1 : Int) (a0_2 : Int) (a1_0 : Bool) (a1_1 : Int) (a1_2 : Int) (r : Int) (w : World) (h : impl_CompareWide.f k a0_0 a0_1 a0_2 a1_0 a1_1 a1_2 = some r) :
    Calls Try.prog 17 #[.agg #[.bool a0_0, .int .u64 a0_1, .int .u64 a0_2], .agg #[.bool a1_0, .int .u64 a1_1, .int .u64 a1_2]] w fun e w' => e = .returned (.int .i64 r) ∧ Below w.heap.size w w' := by
  have hu30 := Try.underlying30
  have HB := Aside0.mk (Below.refl w.heap.size w)
  have H : ((impl_wideOf.f a0_0 a0_1 a0_2).bind fun bt283 => ((impl_wideOf.f a1_0 a1_1 a1_2).bind fun bt286 => (if bt283.1 = true then (impl_CompareWide.j0 k (!bt286.1) bt283.1 bt283.2.1 bt283.2.2 bt286.1 bt286.2.1 bt286.2.2) else (impl_CompareWide.j0 k false bt283.1 bt283.2.1 bt283.2.2 bt286.1 bt286.2.1 bt286.2.2)))) = some r := h
  clear h
  replace H := Option.bind_eq_some_iff.mp H
  obtain ⟨⟨t283, t284, t285⟩, A30, H⟩ := H
  replace H : ((impl_wideOf.f a1_0 a1_1 a1_2).bind fun bt286 => (if t283 = true then (impl_CompareWide.j0 k (!bt286.1) t283 t284 t285 bt286.1 bt286.2.1 bt286.2.2) else (impl_CompareWide.j0 k false t283 t284 t285 bt286.1 bt286.2.1 bt286.2.2))) = some r := H
  have A3 := Aside0.mk A30
  clear A30
  replace H := Option.bind_eq_some_iff.mp H
  obtain ⟨⟨t286, t287, t288⟩, A40, H⟩ := H
  replace H : (if t283 = true then (impl_CompareWide.j0 k (!t286) t283 t284 t285 t286 t287 t288) else (impl_CompareWide.j0 k false t283 t284 t285 t286 t287 t288)) = some r := H
  have A4 := Aside0.mk A40
  clear A40
  have HC5 := Aside0.mk H
  clear H
  go_enter Try.func17, Try.ntmps17
  try go_wp2_with (first | ((with_reducible refine gate_dst (N := 2) rfl ?_); refine box_event ?hg (N := 2) ?hd (cs := #[.bool a0_0, .int .u64 a0_1, .int .u64 a0_2]) (t := 30) ?hr ?_; (case hd => rfl); (case hg => rfl); (case hr => first | (go_simp; done) | (go_simp; rfl)); intro gb281 hg w6 hbox hb; have n0_ := Aside0.mk (below_step bel_ hb); have n1_ := Aside0.mk (hbox); have n2_ := Aside0.mk ((by rw [hg]; exact (below_size bel_) : w.heap.size ≤ gb281)); have n3_ := Aside0.mk ((by rw [hg]; exact (below_size bel_) : w.heap.size ≤ gb281)); clear HB; have HB := n0_; have BK281 := n1_; have GW281 := n2_; have GE281 := n3_; clear n0_ n1_ n2_ n3_; clear hb hbox hg) | ((with_reducible refine gate_dst (N := 3) rfl ?_); refine box_event ?hg (N := 3) ?hd (cs := #[.bool a1_0, .int .u64 a1_1, .int .u64 a1_2]) (t := 30) ?hr ?_; (case hd => rfl); (case hg => rfl); (case hr => first | (go_simp; done) | (go_simp; rfl)); intro gb282 hg w7 hbox hb; have n0_ := bb_ (g := gb281) (o := .cells #[.bool a0_0, .int .u64 a0_1, .int .u64 a0_2] 30 (0, 0)) hb; have n1_ := Aside0.mk (below_step bel_ hb); have n2_ := Aside0.mk (hbox); have n3_ := Aside0.mk ((by rw [hg]; exact (below_size bel_) : w.heap.size ≤ gb282)); have n4_ := Aside0.mk ((by rw [hg]; exact (below_size bel_) : w.heap.size ≤ gb282)); have n5_ := nlt_ (g := gb281) (o := .cells #[.bool a0_0, .int .u64 a0_1, .int .u64 a0_2] 30 (0, 0)) hg; have n6_ := ngt_ (g := gb281) (o := .cells #[.bool a0_0, .int .u64 a0_1, .int .u64 a0_2] 30 (0, 0)) hg; clear BK281; clear HB; have BK281 := n0_; have HB := n1_; have BK282 := n2_; have GW282 := n3_; have GE282 := n4_; have NB281_282 := n5_; have NB282_281 := n6_; clear n0_ n1_ n2_ n3_ n4_ n5_ n6_; clear hb hbox hg))
  have n0_ := Aside0.mk (blk_drew BK281.out)
  have n1_ := Aside0.mk (blk_drew BK282.out)
  have n2_ := Aside0.mk (below_drew1 HB.out)
  clear BK281
  clear BK282
  clear HB
  have BK281 := n0_
  have BK282 := n1_
  have HB := n2_
  clear n0_ n1_ n2_
  refine start_ (n := 16) (S := fun w' => w'.cell? ⟨gb281, 0, none⟩ = some (.bool a0_0) ∧ w'.cell? ⟨gb281, 1, none⟩ = some (.int .u64 a0_1) ∧ w'.cell? ⟨gb281, 2, none⟩ = some (.int .u64 a0_2) ∧ w'.cell? ⟨gb282, 0, none⟩ = some (.bool a1_0) ∧ w'.cell? ⟨gb282, 1, none⟩ = some (.int .u64 a1_1) ∧ w'.cell? ⟨gb282, 2, none⟩ = some (.int .u64 a1_2)) (ds := [14, 15]) #[false, false, false, false, false, false, false, false, false, false, false, false, false, false, false, false] (by kernel_rfl) rfl rfl ⟨bc_, bc_, bc_, bc_, bc_, bc_⟩ (fun hHeld => ?_); refine with_tabW impl_CompareWide.tab1 impl_CompareWide.bits1 (fun HT_ HW_ => ?_)
  generalize w7.drew = w8 at BK281 BK282 HB hHeld ⊢
  refine pure_ (i := 0) (N := some 5) (v := ?_) (a' := ?_) #[true, false, false, false, false, false, false, false, false, false, false, false, false, false, false, false] rfl rfl (any_of HT_.out (by kernel_rfl)) (fun _ _ _ h => h) (Or.inl ⟨by rfl, ?_⟩) ?_ ?_
  rotate_left
  · intro w'
    go_simp
    with_reducible rfl
  rotate_left
  · simp only [Act.put, la_, lb_, lc_, i64_w, i32_w]
    rfl
  refine pure_ (i := 2) (N := some 7) (v := ?_) (a' := ?_) #[true, false, true, false, false, false, false, false, false, false, false, false, false, false, false, false] rfl rfl (any_of HT_.out (by kernel_rfl)) (fun _ _ _ h => h) (Or.inl ⟨by rfl, ?_⟩) ?_ ?_
  rotate_left
  · intro w'
    go_simp
    with_reducible rfl
  rotate_left
  · simp only [Act.put, la_, lb_, lc_, i64_w, i32_w]
    rfl
  refine pure_ (i := 4) (N := some 9) (v := ?_) (a' := ?_) #[true, false, true, false, true, false, false, false, false, false, false, false, false, false, false, false] rfl rfl (any_of HT_.out (by kernel_rfl)) (fun _ _ _ h => h) (Or.inl ⟨by rfl, ?_⟩) ?_ ?_
  rotate_left
  · intro w'
    go_simp
    with_reducible rfl
  rotate_left
  · simp only [Act.put, la_, lb_, lc_, i64_w, i32_w]
    rfl
  refine pure_ (i := 7) (N := some 12) (v := ?_) (a' := ?_) #[true, false, true, false, true, false, false, true, false, false, false, false, false, false, false, false] rfl rfl (any_of HT_.out (by kernel_rfl)) (fun _ _ _ h => h) (Or.inl ⟨by rfl, ?_⟩) ?_ ?_
  rotate_left
  · intro w'
    go_simp
    with_reducible rfl
  rotate_left
  · simp only [Act.put, la_, lb_, lc_, i64_w, i32_w]
    rfl
  refine pure_ (i := 9) (N := some 14) (v := ?_) (a' := ?_) #[true, false, true, false, true, false, false, true, false, true, false, false, false, false, false, false] rfl rfl (any_of HT_.out (by kernel_rfl)) (fun _ _ _ h => h) (Or.inl ⟨by rfl, ?_⟩) ?_ ?_
  rotate_left
  · intro w'
    go_simp
    with_reducible rfl
  rotate_left
  · simp only [Act.put, la_, lb_, lc_, i64_w, i32_w]
    rfl
  refine pure_ (i := 11) (N := some 16) (v := ?_) (a' := ?_) #[true, false, true, false, true, false, false, true, false, true, false, true, false, false, false, false] rfl rfl (any_of HT_.out (by kernel_rfl)) (fun _ _ _ h => h) (Or.inl ⟨by rfl, ?_⟩) ?_ ?_
  rotate_left
  · intro w'
    go_simp
    with_reducible rfl
  rotate_left
  · simp only [Act.put, la_, lb_, lc_, i64_w, i32_w]
    rfl
  refine take_ (i := 1) (N := some 6) (v := ?_) (a' := ?_) #[true, true, true, false, true, false, false, true, false, true, false, true, false, false, false, false] rfl rfl (take_ofW HT_.out HW_.out (by kernel_rfl)) (fun _ _ _ h => h) (Or.inl ⟨by rfl, ?_⟩) hHeld ?_ ?_
  rotate_left
  · rintro w' ⟨s0, s1, s2, s3, s4, s5⟩
    go_simp
    with_reducible rfl
  rotate_left
  · simp only [Act.put, la_, lb_, lc_, i64_w, i32_w]
    rfl
  refine take_ (i := 3) (N := some 8) (v := ?_) (a' := ?_) #[true, true, true, true, true, false, false, true, false, true, false, true, false, false, false, false] rfl rfl (take_ofW HT_.out HW_.out (by kernel_rfl)) (fun _ _ _ h => h) (Or.inl ⟨by rfl, ?_⟩) hHeld ?_ ?_
  rotate_left
  · rintro w' ⟨s0, s1, s2, s3, s4, s5⟩
    go_simp
    with_reducible rfl
  rotate_left
  · simp only [Act.put, la_, lb_, lc_, i64_w, i32_w]
    rfl
  refine take_ (i := 5) (N := some 10) (v := ?_) (a' := ?_) #[true, true, true, true, true, true, false, true, false, true, false, true, false, false, false, false] rfl rfl (take_ofW HT_.out HW_.out (by kernel_rfl)) (fun _ _ _ h => h) (Or.inl ⟨by rfl, ?_⟩) hHeld ?_ ?_
  rotate_left
  · rintro w' ⟨s0, s1, s2, s3, s4, s5⟩
    go_simp
    with_reducible rfl
  rotate_left
  · simp only [Act.put, la_, lb_, lc_, i64_w, i32_w]
    rfl
  refine take_ (i := 8) (N := some 13) (v := ?_) (a' := ?_) #[true, true, true, true, true, true, false, true, true, true, false, true, false, false, false, false] rfl rfl (take_ofW HT_.out HW_.out (by kernel_rfl)) (fun _ _ _ h => h) (Or.inl ⟨by rfl, ?_⟩) hHeld ?_ ?_
  rotate_left
  · rintro w' ⟨s0, s1, s2, s3, s4, s5⟩
    go_simp
    with_reducible rfl
  rotate_left
  · simp only [Act.put, la_, lb_, lc_, i64_w, i32_w]
    rfl
  refine take_ (i := 10) (N := some 15) (v := ?_) (a' := ?_) #[true, true, true, true, true, true, false, true, true, true, true, true, false, false, false, false] rfl rfl (take_ofW HT_.out HW_.out (by kernel_rfl)) (fun _ _ _ h => h) (Or.inl ⟨by rfl, ?_⟩) hHeld ?_ ?_
  rotate_left
  · rintro w' ⟨s0, s1, s2, s3, s4, s5⟩
    go_simp
    with_reducible rfl
  rotate_left
  · simp only [Act.put, la_, lb_, lc_, i64_w, i32_w]
    rfl
  refine take_ (i := 12) (N := some 17) (v := ?_) (a' := ?_) #[true, true, true, true, true, true, false, true, true, true, true, true, true, false, false, false] rfl rfl (take_ofW HT_.out HW_.out (by kernel_rfl)) (fun _ _ _ h => h) (Or.inl ⟨by rfl, ?_⟩) hHeld ?_ ?_
  rotate_left
  · rintro w' ⟨s0, s1, s2, s3, s4, s5⟩
    go_simp
    with_reducible rfl
  rotate_left
  · simp only [Act.put, la_, lb_, lc_, i64_w, i32_w]
    rfl
  refine one_ (i := 6) (N := some 11) #[true, true, true, true, true, true, true, true, true, true, true, true, true, false, false, false] rfl rfl (one_of HT_.out (by kernel_rfl)) (by decide) (fun K hK => ?_)
  refine goes_ Try.func42 (by kernel_rfl) rfl #[.bool a0_0, .int .u64 a0_1, .int .u64 a0_2] (by rfl) rfl rfl mp_ ?_
  with_reducible refine (impl_wideOf.calls a0_0 a0_1 a0_2 t283 t284 t285 _ A3.out).mono ?_
  rintro e w9 ⟨rfl, hb⟩
  refine ⟨_, rfl, ?_⟩
  have n0_ := bb_ (g := gb281) (o := .cells #[.bool a0_0, .int .u64 a0_1, .int .u64 a0_2] 30 (0, 0)) hb
  have n1_ := bb_ (g := gb282) (o := .cells #[.bool a1_0, .int .u64 a1_1, .int .u64 a1_2] 30 (0, 0)) hb
  have n2_ := Aside0.mk (below_step bel_ hb)
  clear BK281
  clear BK282
  clear HB
  have BK281 := n0_
  have BK282 := n1_
  have HB := n2_
  clear n0_ n1_ n2_
  (try clear hb)
  (try clear hb2)
  (try clear hk)
  (try clear hi)
  refine hK.out _ _ ⟨bc_, bc_, bc_, bc_, bc_, bc_⟩ (fun hHeld => ?_)
  clear hK K
  refine norm_ (a' := ?_) ?_ ?_
  rotate_left
  · show Act.put _ (some 11) _ = _
    simp only [Act.put, la_, lb_, lc_, i64_w, i32_w]
    rfl
  refine one_ (i := 13) (N := some 18) #[true, true, true, true, true, true, true, true, true, true, true, true, true, true, false, false] rfl rfl (one_of HT_.out (by kernel_rfl)) (by decide) (fun K hK => ?_)
  refine goes_ Try.func42 (by kernel_rfl) rfl #[.bool a1_0, .int .u64 a1_1, .int .u64 a1_2] (by rfl) rfl rfl mp_ ?_
  with_reducible refine (impl_wideOf.calls a1_0 a1_1 a1_2 t286 t287 t288 _ A4.out).mono ?_
  rintro e w10 ⟨rfl, hb⟩
  refine ⟨_, rfl, ?_⟩
  have n0_ := bb_ (g := gb281) (o := .cells #[.bool a0_0, .int .u64 a0_1, .int .u64 a0_2] 30 (0, 0)) hb
  have n1_ := bb_ (g := gb282) (o := .cells #[.bool a1_0, .int .u64 a1_1, .int .u64 a1_2] 30 (0, 0)) hb
  have n2_ := Aside0.mk (below_step bel_ hb)
  clear BK281
  clear BK282
  clear HB
  have BK281 := n0_
  have BK282 := n1_
  have HB := n2_
  clear n0_ n1_ n2_
  (try clear hb)
  (try clear hb2)
  (try clear hk)
  (try clear hi)
  refine hK.out _ _ ⟨bc_, bc_, bc_, bc_, bc_, bc_⟩ (fun hHeld => ?_)
  clear hK K
  refine norm_ (a' := ?_) ?_ ?_
  rotate_left
  · show Act.put _ (some 18) _ = _
    simp only [Act.put, la_, lb_, lc_, i64_w, i32_w]
    rfl
  refine last_ (i := 14) (N := none) #[true, true, true, true, true, true, true, true, true, true, true, true, true, true, true, false] rfl rfl (one_of HT_.out (by kernel_rfl)) (by decide) (fun K hK => ?_)
  have hs11 : w10.cell? ⟨gb281, 0, none⟩ = some (.bool a0_0) := (blk_cell BK281.out 0).trans rfl
  have hfs11 := blk_frozen BK281.out 0
  have hns11_1 := NB282_281.out
  have hms11_1 := NB281_282.out
  have hs12 : w10.cell? ⟨gb281, 1, none⟩ = some (.int .u64 a0_1) := (blk_cell BK281.out 1).trans rfl
  have hfs12 := blk_frozen BK281.out 1
  have hns12_1 := NB282_281.out
  have hms12_1 := NB281_282.out
  have hs13 : w10.cell? ⟨gb281, 2, none⟩ = some (.int .u64 a0_2) := (blk_cell BK281.out 2).trans rfl
  have hfs13 := blk_frozen BK281.out 2
  have hns13_1 := NB282_281.out
  have hms13_1 := NB281_282.out
  refine skip_ (w1 := ?_) (by rfl) rfl ?_ ?_
  rotate_left
  · go_simp
    rfl
  refine hK.out _ _ ?_
  clear hK K
  refine last_ (i := 15) (N := none) #[true, true, true, true, true, true, true, true, true, true, true, true, true, true, true, true] rfl rfl (one_of HT_.out (by kernel_rfl)) (by decide) (fun K hK => ?_)
  have hs14 : w10.cell? ⟨gb282, 0, none⟩ = some (.bool a1_0) := (blk_cell BK282.out 0).trans rfl
  have hfs14 := blk_frozen BK282.out 0
  have hns14_0 := NB281_282.out
  have hms14_0 := NB282_281.out
  have hs15 : w10.cell? ⟨gb282, 1, none⟩ = some (.int .u64 a1_1) := (blk_cell BK282.out 1).trans rfl
  have hfs15 := blk_frozen BK282.out 1
  have hns15_0 := NB281_282.out
  have hms15_0 := NB282_281.out
  have hs16 : w10.cell? ⟨gb282, 2, none⟩ = some (.int .u64 a1_2) := (blk_cell BK282.out 2).trans rfl
  have hfs16 := blk_frozen BK282.out 2
  have hns16_0 := NB281_282.out
  have hms16_0 := NB282_281.out
  refine skip_ (w1 := ?_) (by rfl) rfl ?_ ?_
  rotate_left
  · go_simp
    rfl
  refine hK.out _ _ ?_
  clear hK K
  refine done_ (done_of HT_.out (by kernel_rfl)) ?_
  go_upto_region 2 with (fail)
  go_cut [19] (fun v19 wc => ∃ (kq : Nat) (x19_4 : Bool), v19 = .bool x19_4 ∧ Aside0 (impl_CompareWide.j0 kq x19_4 t283 t284 t285 t286 t287 t288 = some r) ∧ Aside0 (kq ≤ k) ∧ Aside0 (wc.heap[gb281]? = some (.cells #[.bool t283, .int .u64 t284, .int .u64 t285] 30 (0, 0))) ∧ Aside0 (wc.heap[gb282]? = some (.cells #[.bool t286, .int .u64 t287, .int .u64 t288] 30 (0, 0))) ∧ Aside0 (Below w.heap.size w wc))
  case first =>
    have H := HC5.out
    clear HC5
    by_cases c17 : t283 = true
    · subst c17
      have H1 : (impl_CompareWide.j0 k (!t286) true t284 t285 t286 t287 t288) = some r := by rw [if_pos rfl] at H; exact H
      clear H
      have H := H1
      clear H1
      have H' := Aside0.mk H
      clear H
      have hnb18 := NB281_282.out
      have hnc18 := NB282_281.out
      have hcz19_0 : w10.cell? ⟨gb281, 0, none⟩ = some (.bool a0_0) := bc_
      have hcz19_1 : w10.cell? ⟨gb281, 1, none⟩ = some (.int .u64 a0_1) := bc_
      have hcz19_2 : w10.cell? ⟨gb281, 2, none⟩ = some (.int .u64 a0_2) := bc_
      have hfz19_0 := blk_frozen BK281.out 0
      have hfz19_1 := blk_frozen BK281.out 1
      have hfz19_2 := blk_frozen BK281.out 2
      have hcz20_0 : w10.cell? ⟨gb282, 0, none⟩ = some (.bool a1_0) := bc_
      have hcz20_1 : w10.cell? ⟨gb282, 1, none⟩ = some (.int .u64 a1_1) := bc_
      have hcz20_2 : w10.cell? ⟨gb282, 2, none⟩ = some (.int .u64 a1_2) := bc_
      have hfz20_0 := blk_frozen BK282.out 0
      have hfz20_1 := blk_frozen BK282.out 1
      have hfz20_2 := blk_frozen BK282.out 2
      go_wp2
      go_meet
      case rel => exact ⟨_, (!t286), (by first | rfl | (simp; done) | (simp [*]; done)), H', ⟨by first | omega | exact Nat.le_refl _⟩, ⟨by (with_reducible repeat (first | refine bN_ _ ?_ | refine bd_ ?_ | refine ba_ _ ?_)); refine blk_far ?_ NB281_282.out _; (with_reducible repeat (first | refine bN_ _ ?_ | refine bd_ ?_ | refine ba_ _ ?_)); refine blk_far ?_ NB281_282.out _; (with_reducible repeat (first | refine bN_ _ ?_ | refine bd_ ?_ | refine ba_ _ ?_)); refine blk_far ?_ NB281_282.out _; (with_reducible repeat (first | refine bN_ _ ?_ | refine bd_ ?_ | refine ba_ _ ?_)); refine blk_put (cs := #[.bool true, .int .u64 t284, .int .u64 a0_2]) ?_ 2 _ rfl; (with_reducible repeat (first | refine bN_ _ ?_ | refine bd_ ?_ | refine ba_ _ ?_)); refine blk_put (cs := #[.bool true, .int .u64 a0_1, .int .u64 a0_2]) ?_ 1 _ rfl; (with_reducible repeat (first | refine bN_ _ ?_ | refine bd_ ?_ | refine ba_ _ ?_)); refine blk_put (cs := #[.bool a0_0, .int .u64 a0_1, .int .u64 a0_2]) ?_ 0 _ rfl; (with_reducible repeat (first | refine bN_ _ ?_ | refine bd_ ?_ | refine ba_ _ ?_)); exact BK281.out⟩, ⟨by (with_reducible repeat (first | refine bN_ _ ?_ | refine bd_ ?_ | refine ba_ _ ?_)); refine blk_put (cs := #[.bool t286, .int .u64 t287, .int .u64 a1_2]) ?_ 2 _ rfl; (with_reducible repeat (first | refine bN_ _ ?_ | refine bd_ ?_ | refine ba_ _ ?_)); refine blk_put (cs := #[.bool t286, .int .u64 a1_1, .int .u64 a1_2]) ?_ 1 _ rfl; (with_reducible repeat (first | refine bN_ _ ?_ | refine bd_ ?_ | refine ba_ _ ?_)); refine blk_put (cs := #[.bool a1_0, .int .u64 a1_1, .int .u64 a1_2]) ?_ 0 _ rfl; (with_reducible repeat (first | refine bN_ _ ?_ | refine bd_ ?_ | refine ba_ _ ?_)); refine blk_far ?_ NB282_281.out _; (with_reducible repeat (first | refine bN_ _ ?_ | refine bd_ ?_ | refine ba_ _ ?_)); refine blk_far ?_ NB282_281.out _; (with_reducible repeat (first | refine bN_ _ ?_ | refine bd_ ?_ | refine ba_ _ ?_)); refine blk_far ?_ NB282_281.out _; (with_reducible repeat (first | refine bN_ _ ?_ | refine bd_ ?_ | refine ba_ _ ?_)); exact BK282.out⟩, ⟨by repeat (first | (with_reducible first | exact HB.out | apply below_alloc | apply pw_below_drewN | apply below_drew1 | refine below_set ?_ GE281.out | refine below_set ?_ GE282.out) | exact HB.out)⟩⟩
    · replace c17 := Bool.eq_false_iff.mpr c17
      subst c17
      have H1 : (impl_CompareWide.j0 k false false t284 t285 t286 t287 t288) = some r := by rw [if_neg (show ¬ (false = true) by decide)] at H; exact H
      clear H
      have H := H1
      clear H1
      have H' := Aside0.mk H
      clear H
      have hnb21 := NB281_282.out
      have hnc21 := NB282_281.out
      have hcz22_0 : w10.cell? ⟨gb281, 0, none⟩ = some (.bool a0_0) := bc_
      have hcz22_1 : w10.cell? ⟨gb281, 1, none⟩ = some (.int .u64 a0_1) := bc_
      have hcz22_2 : w10.cell? ⟨gb281, 2, none⟩ = some (.int .u64 a0_2) := bc_
      have hfz22_0 := blk_frozen BK281.out 0
      have hfz22_1 := blk_frozen BK281.out 1
      have hfz22_2 := blk_frozen BK281.out 2
      go_wp2
      go_meet
      case rel => exact ⟨_, (false), (by first | rfl | (simp; done) | (simp [*]; done)), H', ⟨by first | omega | exact Nat.le_refl _⟩, ⟨by (with_reducible repeat (first | refine bN_ _ ?_ | refine bd_ ?_ | refine ba_ _ ?_)); refine blk_far ?_ NB281_282.out _; (with_reducible repeat (first | refine bN_ _ ?_ | refine bd_ ?_ | refine ba_ _ ?_)); refine blk_far ?_ NB281_282.out _; (with_reducible repeat (first | refine bN_ _ ?_ | refine bd_ ?_ | refine ba_ _ ?_)); refine blk_far ?_ NB281_282.out _; (with_reducible repeat (first | refine bN_ _ ?_ | refine bd_ ?_ | refine ba_ _ ?_)); refine blk_put (cs := #[.bool false, .int .u64 t284, .int .u64 a0_2]) ?_ 2 _ rfl; (with_reducible repeat (first | refine bN_ _ ?_ | refine bd_ ?_ | refine ba_ _ ?_)); refine blk_put (cs := #[.bool false, .int .u64 a0_1, .int .u64 a0_2]) ?_ 1 _ rfl; (with_reducible repeat (first | refine bN_ _ ?_ | refine bd_ ?_ | refine ba_ _ ?_)); refine blk_put (cs := #[.bool a0_0, .int .u64 a0_1, .int .u64 a0_2]) ?_ 0 _ rfl; (with_reducible repeat (first | refine bN_ _ ?_ | refine bd_ ?_ | refine ba_ _ ?_)); exact BK281.out⟩, ⟨by (with_reducible repeat (first | refine bN_ _ ?_ | refine bd_ ?_ | refine ba_ _ ?_)); refine blk_put (cs := #[.bool t286, .int .u64 t287, .int .u64 a1_2]) ?_ 2 _ rfl; (with_reducible repeat (first | refine bN_ _ ?_ | refine bd_ ?_ | refine ba_ _ ?_)); refine blk_put (cs := #[.bool t286, .int .u64 a1_1, .int .u64 a1_2]) ?_ 1 _ rfl; (with_reducible repeat (first | refine bN_ _ ?_ | refine bd_ ?_ | refine ba_ _ ?_)); refine blk_put (cs := #[.bool a1_0, .int .u64 a1_1, .int .u64 a1_2]) ?_ 0 _ rfl; (with_reducible repeat (first | refine bN_ _ ?_ | refine bd_ ?_ | refine ba_ _ ?_)); refine blk_far ?_ NB282_281.out _; (with_reducible repeat (first | refine bN_ _ ?_ | refine bd_ ?_ | refine ba_ _ ?_)); refine blk_far ?_ NB282_281.out _; (with_reducible repeat (first | refine bN_ _ ?_ | refine bd_ ?_ | refine ba_ _ ?_)); refine blk_far ?_ NB282_281.out _; (with_reducible repeat (first | refine bN_ _ ?_ | refine bd_ ?_ | refine ba_ _ ?_)); exact BK282.out⟩, ⟨by repeat (first | (with_reducible first | exact HB.out | apply below_alloc | apply pw_below_drewN | apply below_drew1 | refine below_set ?_ GE281.out | refine below_set ?_ GE282.out) | exact HB.out)⟩⟩
  case rest =>
    clear HC5
    try clear c1
    try clear c2
    try clear p2
    try clear c4
    try clear c17
    try clear c18
    try clear c21
    try clear hcz19_0
    try clear hcz19_1
    try clear hcz19_2
    try clear hcz20_0
    try clear hcz20_1
    try clear hcz20_2
    try clear hcz22_0
    try clear hcz22_1
    try clear hcz22_2
    try clear hfz19_0
    try clear hfz19_1
    try clear hfz19_2
    try clear hfz20_0
    try clear hfz20_1
    try clear hfz20_2
    try clear hfz22_0
    try clear hfz22_1
    try clear hfz22_2
    obtain ⟨kq, x19_4, rfl, HA, HJ4, BK281, BK282, HB⟩ := hcut
    cases kq with
    | zero => exact absurd HA.out (by simp [impl_CompareWide.j0])
    | succ kj4 =>
      have H := HA.out
      clear HA
      simp only [impl_CompareWide.j0] at H
      by_cases c23 : x19_4 = true
      · subst c23
        have H1 : (some (-1)) = some r := by rw [if_pos rfl] at H; exact H
        clear H
        have H := H1
        clear H1
        obtain rfl := Option.some.inj H
        go_wp2
        go_ret
        exact ⟨by first | rfl | (simp [errW_none, errW_some] <;> rfl) | (simp [*, errW_none, errW_some] <;> rfl), by repeat (first | (with_reducible first | exact HB.out | apply below_alloc | apply pw_below_drewN | apply below_drew1 | refine below_set ?_ GE281.out | refine below_set ?_ GE282.out) | exact HB.out)⟩
      · replace c23 := Bool.eq_false_iff.mpr c23
        subst c23
        have H1 : (if t286 = true then (impl_CompareWide.j1 kj4 (!t283) t283 t284 t285 t286 t287 t288) else (impl_CompareWide.j1 kj4 false t283 t284 t285 t286 t287 t288)) = some r := by rw [if_neg (show ¬ (false = true) by decide)] at H; exact H
        clear H
        have H := H1
        clear H1
        have HC24 := Aside0.mk H
        clear H
        go_upto_region 4 with (fail)
        go_cut [27] (fun v27 wc => ∃ (kq : Nat) (x27_23 : Bool), v27 = .bool x27_23 ∧ Aside0 (impl_CompareWide.j1 kq x27_23 t283 t284 t285 t286 t287 t288 = some r) ∧ Aside0 (kq ≤ kj4) ∧ Aside0 (wc.heap[gb281]? = some (.cells #[.bool t283, .int .u64 t284, .int .u64 t285] 30 (0, 0))) ∧ Aside0 (wc.heap[gb282]? = some (.cells #[.bool t286, .int .u64 t287, .int .u64 t288] 30 (0, 0))) ∧ Aside0 (Below w.heap.size w wc))
        case first =>
          have H := HC24.out
          clear HC24
          by_cases c25 : t286 = true
          · subst c25
            have H1 : (impl_CompareWide.j1 kj4 (!t283) t283 t284 t285 true t287 t288) = some r := by rw [if_pos rfl] at H; exact H
            clear H
            have H := H1
            clear H1
            have H' := Aside0.mk H
            clear H
            have hnb26 := NB282_281.out
            have hnc26 := NB281_282.out
            have hcz27_0 : wc.cell? ⟨gb282, 0, none⟩ = some (.bool true) := bc_
            have hcz27_1 : wc.cell? ⟨gb282, 1, none⟩ = some (.int .u64 t287) := bc_
            have hcz27_2 : wc.cell? ⟨gb282, 2, none⟩ = some (.int .u64 t288) := bc_
            have hfz27_0 := blk_frozen BK282.out 0
            have hfz27_1 := blk_frozen BK282.out 1
            have hfz27_2 := blk_frozen BK282.out 2
            have hcz28_0 : wc.cell? ⟨gb281, 0, none⟩ = some (.bool t283) := bc_
            have hcz28_1 : wc.cell? ⟨gb281, 1, none⟩ = some (.int .u64 t284) := bc_
            have hcz28_2 : wc.cell? ⟨gb281, 2, none⟩ = some (.int .u64 t285) := bc_
            have hfz28_0 := blk_frozen BK281.out 0
            have hfz28_1 := blk_frozen BK281.out 1
            have hfz28_2 := blk_frozen BK281.out 2
            go_wp2
            go_meet
            case rel => exact ⟨_, (!t283), (by first | rfl | (simp; done) | (simp [*]; done)), H', ⟨by have := HJ4.out; first | omega | exact Nat.le_refl _⟩, ⟨by (with_reducible repeat (first | refine bN_ _ ?_ | refine bd_ ?_ | refine ba_ _ ?_)); exact BK281.out⟩, ⟨by (with_reducible repeat (first | refine bN_ _ ?_ | refine bd_ ?_ | refine ba_ _ ?_)); exact BK282.out⟩, ⟨by repeat (first | (with_reducible first | exact HB.out | apply below_alloc | apply pw_below_drewN | apply below_drew1 | refine below_set ?_ GE281.out | refine below_set ?_ GE282.out) | exact HB.out)⟩⟩
          · replace c25 := Bool.eq_false_iff.mpr c25
            subst c25
            have H1 : (impl_CompareWide.j1 kj4 false t283 t284 t285 false t287 t288) = some r := by rw [if_neg (show ¬ (false = true) by decide)] at H; exact H
            clear H
            have H := H1
            clear H1
            have H' := Aside0.mk H
            clear H
            have hnb29 := NB282_281.out
            have hnc29 := NB281_282.out
            have hcz30_0 : wc.cell? ⟨gb282, 0, none⟩ = some (.bool false) := bc_
            have hcz30_1 : wc.cell? ⟨gb282, 1, none⟩ = some (.int .u64 t287) := bc_
            have hcz30_2 : wc.cell? ⟨gb282, 2, none⟩ = some (.int .u64 t288) := bc_
            have hfz30_0 := blk_frozen BK282.out 0
            have hfz30_1 := blk_frozen BK282.out 1
            have hfz30_2 := blk_frozen BK282.out 2
            go_wp2
            go_meet
            case rel => exact ⟨_, (false), (by first | rfl | (simp; done) | (simp [*]; done)), H', ⟨by have := HJ4.out; first | omega | exact Nat.le_refl _⟩, ⟨by (with_reducible repeat (first | refine bN_ _ ?_ | refine bd_ ?_ | refine ba_ _ ?_)); exact BK281.out⟩, ⟨by (with_reducible repeat (first | refine bN_ _ ?_ | refine bd_ ?_ | refine ba_ _ ?_)); exact BK282.out⟩, ⟨by repeat (first | (with_reducible first | exact HB.out | apply below_alloc | apply pw_below_drewN | apply below_drew1 | refine below_set ?_ GE281.out | refine below_set ?_ GE282.out) | exact HB.out)⟩⟩
        case rest =>
          clear HC24
          try clear c1
          try clear c2
          try clear p2
          try clear c4
          try clear c17
          try clear c18
          try clear c21
          try clear c23
          try clear c25
          try clear c26
          try clear c29
          try clear hcz19_0
          try clear hcz19_1
          try clear hcz19_2
          try clear hcz20_0
          try clear hcz20_1
          try clear hcz20_2
          try clear hcz22_0
          try clear hcz22_1
          try clear hcz22_2
          try clear hcz27_0
          try clear hcz27_1
          try clear hcz27_2
          try clear hcz28_0
          try clear hcz28_1
          try clear hcz28_2
          try clear hcz30_0
          try clear hcz30_1
          try clear hcz30_2
          try clear hfz19_0
          try clear hfz19_1
          try clear hfz19_2
          try clear hfz20_0
          try clear hfz20_1
          try clear hfz20_2
          try clear hfz22_0
          try clear hfz22_1
          try clear hfz22_2
          try clear hfz27_0
          try clear hfz27_1
          try clear hfz27_2
          try clear hfz28_0
          try clear hfz28_1
          try clear hfz28_2
          try clear hfz30_0
          try clear hfz30_1
          try clear hfz30_2
          try clear p2
          obtain ⟨kq, x27_23, rfl, HA, HJ23, BK281, BK282, HB⟩ := hcut
          cases kq with
          | zero => exact absurd HA.out (by simp [impl_CompareWide.j1])
          | succ kj23 =>
            have H := HA.out
            clear HA
            simp only [impl_CompareWide.j1] at H
            by_cases c31 : x27_23 = true
            · subst c31
              have H1 : (some 1) = some r := by rw [if_pos rfl] at H; exact H
              clear H
              have H := H1
              clear H1
              obtain rfl := Option.some.inj H
              go_wp2
              go_ret
              exact ⟨by first | rfl | (simp [errW_none, errW_some] <;> rfl) | (simp [*, errW_none, errW_some] <;> rfl), by repeat (first | (with_reducible first | exact HB.out | apply below_alloc | apply pw_below_drewN | apply below_drew1 | refine below_set ?_ GE281.out | refine below_set ?_ GE282.out) | exact HB.out)⟩
            · replace c31 := Bool.eq_false_iff.mpr c31
              subst c31
              have H1 : (if t283 = true then ((impl_compareSizes.f kj23 t286 t287 t288 t283 t284 t285).bind fun t289 => (some t289)) else ((impl_compareSizes.f kj23 t283 t284 t285 t286 t287 t288).bind fun t290 => (some t290))) = some r := by rw [if_neg (show ¬ (false = true) by decide)] at H; exact H
              clear H
              have H := H1
              clear H1
              by_cases c32 : t283 = true
              · subst c32
                have H1 : ((impl_compareSizes.f kj23 t286 t287 t288 true t284 t285).bind fun t289 => (some t289)) = some r := by rw [if_pos rfl] at H; exact H
                clear H
                have H := H1
                clear H1
                replace H := Option.bind_eq_some_iff.mp H
                obtain ⟨t289, A330, H⟩ := H
                replace H : (some t289) = some r := H
                have A33 := Aside0.mk A330
                clear A330
                obtain rfl := Option.some.inj H
                have hnb34 := NB281_282.out
                have hnc34 := NB282_281.out
                have hcz35_0 : wc.cell? ⟨gb281, 0, none⟩ = some (.bool true) := bc_
                have hcz35_1 : wc.cell? ⟨gb281, 1, none⟩ = some (.int .u64 t284) := bc_
                have hcz35_2 : wc.cell? ⟨gb281, 2, none⟩ = some (.int .u64 t285) := bc_
                have hfz35_0 := blk_frozen BK281.out 0
                have hfz35_1 := blk_frozen BK281.out 1
                have hfz35_2 := blk_frozen BK281.out 2
                have hcz36_0 : wc.cell? ⟨gb282, 0, none⟩ = some (.bool t286) := bc_
                have hcz36_1 : wc.cell? ⟨gb282, 1, none⟩ = some (.int .u64 t287) := bc_
                have hcz36_2 : wc.cell? ⟨gb282, 2, none⟩ = some (.int .u64 t288) := bc_
                have hfz36_0 := blk_frozen BK282.out 0
                have hfz36_1 := blk_frozen BK282.out 1
                have hfz36_2 := blk_frozen BK282.out 2
                go_wp2_with (first | ((with_reducible refine gate_callee (f := 43) rfl ?_); refine goesL_ (some 40) rfl rfl Try.func43 (by kernel_rfl) rfl #[.agg #[.bool t286, .int .u64 t287, .int .u64 t288], .agg #[.bool true, .int .u64 t284, .int .u64 t285]] rfl mp_ ?_; (with_reducible refine (impl_compareSizes.calls kj23 t286 t287 t288 true t284 t285 t289 _ A33.out).mono ?_); rintro e w37 ⟨rfl, hb⟩; refine ⟨_, rfl, ?_⟩; have n0_ := bb_ (g := gb281) (o := .cells #[.bool true, .int .u64 t284, .int .u64 t285] 30 (0, 0)) hb; have n1_ := bb_ (g := gb282) (o := .cells #[.bool t286, .int .u64 t287, .int .u64 t288] 30 (0, 0)) hb; have n2_ := Aside0.mk (below_step bel_ hb); clear BK281; clear BK282; clear HB; have BK281 := n0_; have BK282 := n1_; have HB := n2_; clear n0_ n1_ n2_; (try clear hb); (try clear hb2); (try clear hk); (try clear hi)))
                go_ret
                exact ⟨by first | rfl | (simp [errW_none, errW_some] <;> rfl) | (simp [*, errW_none, errW_some] <;> rfl), by repeat (first | (with_reducible first | exact HB.out | apply below_alloc | apply pw_below_drewN | apply below_drew1 | refine below_set ?_ GE281.out | refine below_set ?_ GE282.out) | exact HB.out)⟩
              · replace c32 := Bool.eq_false_iff.mpr c32
                subst c32
                have H1 : ((impl_compareSizes.f kj23 false t284 t285 t286 t287 t288).bind fun t290 => (some t290)) = some r := by rw [if_neg (show ¬ (false = true) by decide)] at H; exact H
                clear H
                have H := H1
                clear H1
                replace H := Option.bind_eq_some_iff.mp H
                obtain ⟨t290, A380, H⟩ := H
                replace H : (some t290) = some r := H
                have A38 := Aside0.mk A380
                clear A380
                obtain rfl := Option.some.inj H
                have hnb39 := NB281_282.out
                have hnc39 := NB282_281.out
                have hcz40_0 : wc.cell? ⟨gb281, 0, none⟩ = some (.bool false) := bc_
                have hcz40_1 : wc.cell? ⟨gb281, 1, none⟩ = some (.int .u64 t284) := bc_
                have hcz40_2 : wc.cell? ⟨gb281, 2, none⟩ = some (.int .u64 t285) := bc_
                have hfz40_0 := blk_frozen BK281.out 0
                have hfz40_1 := blk_frozen BK281.out 1
                have hfz40_2 := blk_frozen BK281.out 2
                have hcz41_0 : wc.cell? ⟨gb282, 0, none⟩ = some (.bool t286) := bc_
                have hcz41_1 : wc.cell? ⟨gb282, 1, none⟩ = some (.int .u64 t287) := bc_
                have hcz41_2 : wc.cell? ⟨gb282, 2, none⟩ = some (.int .u64 t288) := bc_
                have hfz41_0 := blk_frozen BK282.out 0
                have hfz41_1 := blk_frozen BK282.out 1
                have hfz41_2 := blk_frozen BK282.out 2
                go_wp2_with (first | ((with_reducible refine gate_callee (f := 43) rfl ?_); refine goesL_ (some 43) rfl rfl Try.func43 (by kernel_rfl) rfl #[.agg #[.bool false, .int .u64 t284, .int .u64 t285], .agg #[.bool t286, .int .u64 t287, .int .u64 t288]] rfl mp_ ?_; (with_reducible refine (impl_compareSizes.calls kj23 false t284 t285 t286 t287 t288 t290 _ A38.out).mono ?_); rintro e w42 ⟨rfl, hb⟩; refine ⟨_, rfl, ?_⟩; have n0_ := bb_ (g := gb281) (o := .cells #[.bool false, .int .u64 t284, .int .u64 t285] 30 (0, 0)) hb; have n1_ := bb_ (g := gb282) (o := .cells #[.bool t286, .int .u64 t287, .int .u64 t288] 30 (0, 0)) hb; have n2_ := Aside0.mk (below_step bel_ hb); clear BK281; clear BK282; clear HB; have BK281 := n0_; have BK282 := n1_; have HB := n2_; clear n0_ n1_ n2_; (try clear hb); (try clear hb2); (try clear hk); (try clear hi)))
                go_ret
                exact ⟨by first | rfl | (simp [errW_none, errW_some] <;> rfl) | (simp [*, errW_none, errW_some] <;> rfl), by repeat (first | (with_reducible first | exact HB.out | apply below_alloc | apply pw_below_drewN | apply below_drew1 | refine below_set ?_ GE281.out | refine below_set ?_ GE282.out) | exact HB.out)⟩

/-! ### spec_l3Zero: function 37 -/
def spec_l3Zero.f (a0_0 : Bool) (a0_1 : Int) (a0_2 : Int) : Option (Bool) := if a0_1 = 0 then (some (a0_2 == 0)) else (some false)
set_option maxHeartbeats 8000000 in
set_option maxRecDepth 100000 in
theorem spec_l3Zero.calls (a0_0 : Bool) (a0_1 : Int) (a0_2 : Int) (r : Bool) (w : World) (h : spec_l3Zero.f a0_0 a0_1 a0_2 = some r) :
    Calls Try.prog 37 #[.agg #[.bool a0_0, .int .u64 a0_1, .int .u64 a0_2]] w fun e w' => e = .returned (.bool r) ∧ Below w.heap.size w w' := by
  have hu30 := Try.underlying30
  have HB := Aside0.mk (Below.refl w.heap.size w)
  have H : (if a0_1 = 0 then (some (a0_2 == 0)) else (some false)) = some r := h
  clear h
  by_cases c2 : a0_1 = 0
  · rw [if_pos c2] at H
    have c2b0 : (a0_1 == 0) = true := beq_iff_eq.mpr c2
    have c2b1 : (a0_1 != 0) = false := bne_eq_false_iff_eq.mpr c2
    clear c2
    obtain rfl := Option.some.inj H
    go_enter Try.func37, Try.ntmps37
    go_wp2_with (first | ((with_reducible refine gate_dst (N := 1) rfl ?_); refine box_event ?hg (N := 1) ?hd (cs := #[.bool a0_0, .int .u64 a0_1, .int .u64 a0_2]) (t := 30) ?hr ?_; (case hd => rfl); (case hg => rfl); (case hr => first | (go_simp; done) | (go_simp; rfl)); intro gb291 hg w3 hbox hb; have n0_ := Aside0.mk (below_step bel_ hb); have n1_ := Aside0.mk (hbox); have n2_ := Aside0.mk ((by rw [hg]; exact (below_size bel_) : w.heap.size ≤ gb291)); have n3_ := Aside0.mk ((by rw [hg]; exact (below_size bel_) : w.heap.size ≤ gb291)); clear HB; have HB := n0_; have BK291 := n1_; have GW291 := n2_; have GE291 := n3_; clear n0_ n1_ n2_ n3_; clear hb hbox hg; have hcz4_0 : w3.cell? ⟨gb291, 0, none⟩ = some (.bool a0_0) := bc_; have hcz4_1 : w3.cell? ⟨gb291, 1, none⟩ = some (.int .u64 a0_1) := bc_; have hcz4_2 : w3.cell? ⟨gb291, 2, none⟩ = some (.int .u64 a0_2) := bc_; have hfz4_0 := blk_frozen BK291.out 0; have hfz4_1 := blk_frozen BK291.out 1; have hfz4_2 := blk_frozen BK291.out 2))
    go_ret
    exact ⟨by first | rfl | (simp [errW_none, errW_some] <;> rfl) | (simp [*, errW_none, errW_some] <;> rfl), by repeat (first | (with_reducible first | exact HB.out | apply below_alloc | apply pw_below_drewN | apply below_drew1 | refine below_set ?_ GE291.out) | exact HB.out)⟩
  · rw [if_neg c2] at H
    have c2b0 : (a0_1 == 0) = false := beq_eq_false_iff_ne.mpr c2
    have c2b1 : (a0_1 != 0) = true := bne_iff_ne.mpr c2
    obtain rfl := Option.some.inj H
    go_enter Try.func37, Try.ntmps37
    go_wp2_with (first | ((with_reducible refine gate_dst (N := 1) rfl ?_); refine box_event ?hg (N := 1) ?hd (cs := #[.bool a0_0, .int .u64 a0_1, .int .u64 a0_2]) (t := 30) ?hr ?_; (case hd => rfl); (case hg => rfl); (case hr => first | (go_simp; done) | (go_simp; rfl)); intro gb291 hg w5 hbox hb; have n0_ := Aside0.mk (below_step bel_ hb); have n1_ := Aside0.mk (hbox); have n2_ := Aside0.mk ((by rw [hg]; exact (below_size bel_) : w.heap.size ≤ gb291)); have n3_ := Aside0.mk ((by rw [hg]; exact (below_size bel_) : w.heap.size ≤ gb291)); clear HB; have HB := n0_; have BK291 := n1_; have GW291 := n2_; have GE291 := n3_; clear n0_ n1_ n2_ n3_; clear hb hbox hg; have hcz6_0 : w5.cell? ⟨gb291, 0, none⟩ = some (.bool a0_0) := bc_; have hcz6_1 : w5.cell? ⟨gb291, 1, none⟩ = some (.int .u64 a0_1) := bc_; have hcz6_2 : w5.cell? ⟨gb291, 2, none⟩ = some (.int .u64 a0_2) := bc_; have hfz6_0 := blk_frozen BK291.out 0; have hfz6_1 := blk_frozen BK291.out 1; have hfz6_2 := blk_frozen BK291.out 2))
    go_ret
    exact ⟨by first | rfl | (simp [errW_none, errW_some] <;> rfl) | (simp [*, errW_none, errW_some] <;> rfl), by repeat (first | (with_reducible first | exact HB.out | apply below_alloc | apply pw_below_drewN | apply below_drew1 | refine below_set ?_ GE291.out) | exact HB.out)⟩

/-! ### spec_l3Order: function 44 -/
def spec_l3Order.j0 : Nat → Bool → Bool → Int → Int → Bool → Int → Int → Option (Int)
  | 0, _, _, _, _, _, _, _ => none
  | k + 1, x5, x293000, x293001, x293002, x294000, x294001, x294002 => if x5 = true then (some (-1)) else (if x293001 > x294001 then (some 1) else (if x293002 > x294002 then (some 1) else (some 0)))
def spec_l3Order.f (k : Nat) (a0_0 : Bool) (a0_1 : Int) (a0_2 : Int) (a1_0 : Bool) (a1_1 : Int) (a1_2 : Int) : Option (Int) := if a0_1 < a1_1 then (spec_l3Order.j0 k true a0_0 a0_1 a0_2 a1_0 a1_1 a1_2) else (if a0_1 = a1_1 then (spec_l3Order.j0 k (decide (a0_2 < a1_2)) a0_0 a0_1 a0_2 a1_0 a1_1 a1_2) else (spec_l3Order.j0 k false a0_0 a0_1 a0_2 a1_0 a1_1 a1_2))
theorem spec_l3Order.mono_l : ∀ k, (∀ y0 y1 y2 y3 y4 y5 y6, LeO (spec_l3Order.j0 k y0 y1 y2 y3 y4 y5 y6) (spec_l3Order.j0 (k + 1) y0 y1 y2 y3 y4 y5 y6))
  | 0 => fun _ _ _ _ _ _ _ r h => by simp [spec_l3Order.j0] at h
  | k + 1 => by
    have ih0 := spec_l3Order.mono_l k
    · intro y0 y1 y2 y3 y4 y5 y6
      unfold spec_l3Order.j0
      repeat' first
      | (with_reducible exact ih0 _ _ _ _ _ _ _)
      | (with_reducible exact LeO.refl _)
      | (with_reducible exact LeO.none _)
      | (with_reducible refine LeO.ite ?_ ?_)
      | (with_reducible refine LeO.bind ?_ (fun _ => ?_))
      | exact ih0 _ _ _ _ _ _ _
      | exact LeO.none _
      | refine LeO.ite ?_ ?_
      | refine LeO.bind ?_ (fun _ => ?_)
theorem spec_l3Order.mono : ∀ a0 a1 a2 a3 a4 a5 k, LeO (spec_l3Order.f k a0 a1 a2 a3 a4 a5) (spec_l3Order.f (k + 1) a0 a1 a2 a3 a4 a5) := by
  intro a0 a1 a2 a3 a4 a5 k
  have ih0 := spec_l3Order.mono_l k
  unfold spec_l3Order.f
  repeat' first
      | (with_reducible exact ih0 _ _ _ _ _ _ _)
      | (with_reducible exact LeO.refl _)
      | (with_reducible exact LeO.none _)
      | (with_reducible refine LeO.ite ?_ ?_)
      | (with_reducible refine LeO.bind ?_ (fun _ => ?_))
      | exact ih0 _ _ _ _ _ _ _
      | exact LeO.none _
      | refine LeO.ite ?_ ?_
      | refine LeO.bind ?_ (fun _ => ?_)
set_option maxHeartbeats 8000000 in
set_option maxRecDepth 100000 in
theorem spec_l3Order.calls (k : Nat) (a0_0 : Bool) (a0_1 : Int) (a0_2 : Int) (a1_0 : Bool) (a1_1 : Int) (a1_2 : Int) (r : Int) (w : World) (h : spec_l3Order.f k a0_0 a0_1 a0_2 a1_0 a1_1 a1_2 = some r) :
    Calls Try.prog 44 #[.agg #[.bool a0_0, .int .u64 a0_1, .int .u64 a0_2], .agg #[.bool a1_0, .int .u64 a1_1, .int .u64 a1_2]] w fun e w' => e = .returned (.int .i64 r) ∧ Below w.heap.size w w' := by
  have hu30 := Try.underlying30
  have HB := Aside0.mk (Below.refl w.heap.size w)
  have H : (if a0_1 < a1_1 then (spec_l3Order.j0 k true a0_0 a0_1 a0_2 a1_0 a1_1 a1_2) else (if a0_1 = a1_1 then (spec_l3Order.j0 k (decide (a0_2 < a1_2)) a0_0 a0_1 a0_2 a1_0 a1_1 a1_2) else (spec_l3Order.j0 k false a0_0 a0_1 a0_2 a1_0 a1_1 a1_2))) = some r := h
  clear h
  have HC3 := Aside0.mk H
  clear H
  go_enter Try.func44, Try.ntmps44
  go_upto_region 1 with (first | ((with_reducible refine gate_dst (N := 2) rfl ?_); refine box_event ?hg (N := 2) ?hd (cs := #[.bool a0_0, .int .u64 a0_1, .int .u64 a0_2]) (t := 30) ?hr ?_; (case hd => rfl); (case hg => rfl); (case hr => first | (go_simp; done) | (go_simp; rfl)); intro gb292 hg w4 hbox hb; have n0_ := Aside0.mk (below_step bel_ hb); have n1_ := Aside0.mk (hbox); have n2_ := Aside0.mk ((by rw [hg]; exact (below_size bel_) : w.heap.size ≤ gb292)); have n3_ := Aside0.mk ((by rw [hg]; exact (below_size bel_) : w.heap.size ≤ gb292)); clear HB; have HB := n0_; have BK292 := n1_; have GW292 := n2_; have GE292 := n3_; clear n0_ n1_ n2_ n3_; clear hb hbox hg) | ((with_reducible refine gate_dst (N := 3) rfl ?_); refine box_event ?hg (N := 3) ?hd (cs := #[.bool a1_0, .int .u64 a1_1, .int .u64 a1_2]) (t := 30) ?hr ?_; (case hd => rfl); (case hg => rfl); (case hr => first | (go_simp; done) | (go_simp; rfl)); intro gb293 hg w5 hbox hb; have n0_ := bb_ (g := gb292) (o := .cells #[.bool a0_0, .int .u64 a0_1, .int .u64 a0_2] 30 (0, 0)) hb; have n1_ := Aside0.mk (below_step bel_ hb); have n2_ := Aside0.mk (hbox); have n3_ := Aside0.mk ((by rw [hg]; exact (below_size bel_) : w.heap.size ≤ gb293)); have n4_ := Aside0.mk ((by rw [hg]; exact (below_size bel_) : w.heap.size ≤ gb293)); have n5_ := nlt_ (g := gb292) (o := .cells #[.bool a0_0, .int .u64 a0_1, .int .u64 a0_2] 30 (0, 0)) hg; have n6_ := ngt_ (g := gb292) (o := .cells #[.bool a0_0, .int .u64 a0_1, .int .u64 a0_2] 30 (0, 0)) hg; clear BK292; clear HB; have BK292 := n0_; have HB := n1_; have BK293 := n2_; have GW293 := n3_; have GE293 := n4_; have NB292_293 := n5_; have NB293_292 := n6_; clear n0_ n1_ n2_ n3_ n4_ n5_ n6_; clear hb hbox hg))
  (try simp only [Act.put, la_, lb_, lc_])
  go_cut [5] (fun v5 wc => ∃ (kq : Nat) (x5_2 : Bool), v5 = .bool x5_2 ∧ Aside0 (spec_l3Order.j0 kq x5_2 a0_0 a0_1 a0_2 a1_0 a1_1 a1_2 = some r) ∧ Aside0 (kq ≤ k) ∧ Aside0 (wc.heap[gb292]? = some (.cells #[.bool a0_0, .int .u64 a0_1, .int .u64 a0_2] 30 (0, 0))) ∧ Aside0 (wc.heap[gb293]? = some (.cells #[.bool a1_0, .int .u64 a1_1, .int .u64 a1_2] 30 (0, 0))) ∧ Aside0 (Below w.heap.size w wc))
  case first =>
    have H := HC3.out
    clear HC3
    by_cases c6 : a0_1 < a1_1
    · rw [if_pos c6] at H
      have c6b0 : decide (a0_1 < a1_1) = true := decide_eq_true c6
      clear c6
      (first | rw [c6b0] | (simp only [i64_w, i32_w]; rw [c6b0]) | skip)
      have H' := Aside0.mk H
      clear H
      have hnb7 := NB292_293.out
      have hnc7 := NB293_292.out
      have hcz8_0 : w5.cell? ⟨gb292, 0, none⟩ = some (.bool a0_0) := bc_
      have hcz8_1 : w5.cell? ⟨gb292, 1, none⟩ = some (.int .u64 a0_1) := bc_
      have hcz8_2 : w5.cell? ⟨gb292, 2, none⟩ = some (.int .u64 a0_2) := bc_
      have hfz8_0 := blk_frozen BK292.out 0
      have hfz8_1 := blk_frozen BK292.out 1
      have hfz8_2 := blk_frozen BK292.out 2
      have hcz9_0 : w5.cell? ⟨gb293, 0, none⟩ = some (.bool a1_0) := bc_
      have hcz9_1 : w5.cell? ⟨gb293, 1, none⟩ = some (.int .u64 a1_1) := bc_
      have hcz9_2 : w5.cell? ⟨gb293, 2, none⟩ = some (.int .u64 a1_2) := bc_
      have hfz9_0 := blk_frozen BK293.out 0
      have hfz9_1 := blk_frozen BK293.out 1
      have hfz9_2 := blk_frozen BK293.out 2
      go_wp2
      go_meet
      case rel => exact ⟨_, (true), (by first | rfl | (simp; done) | (simp [*]; done)), H', ⟨by first | omega | exact Nat.le_refl _⟩, ⟨by (with_reducible repeat (first | refine bN_ _ ?_ | refine bd_ ?_ | refine ba_ _ ?_)); exact BK292.out⟩, ⟨by (with_reducible repeat (first | refine bN_ _ ?_ | refine bd_ ?_ | refine ba_ _ ?_)); exact BK293.out⟩, ⟨by repeat (first | (with_reducible first | exact HB.out | apply below_alloc | apply pw_below_drewN | apply below_drew1 | refine below_set ?_ GE292.out | refine below_set ?_ GE293.out) | exact HB.out)⟩⟩
    · rw [if_neg c6] at H
      have c6b0 : decide (a0_1 < a1_1) = false := decide_eq_false c6
      clear c6
      (first | rw [c6b0] | (simp only [i64_w, i32_w]; rw [c6b0]) | skip)
      by_cases c10 : a0_1 = a1_1
      · rw [if_pos c10] at H
        have c10b0 : (a0_1 == a1_1) = true := beq_iff_eq.mpr c10
        have c10b1 : (a0_1 != a1_1) = false := bne_eq_false_iff_eq.mpr c10
        clear c10
        have H' := Aside0.mk H
        clear H
        have hnb11 := NB292_293.out
        have hnc11 := NB293_292.out
        have hcz12_0 : w5.cell? ⟨gb292, 0, none⟩ = some (.bool a0_0) := bc_
        have hcz12_1 : w5.cell? ⟨gb292, 1, none⟩ = some (.int .u64 a0_1) := bc_
        have hcz12_2 : w5.cell? ⟨gb292, 2, none⟩ = some (.int .u64 a0_2) := bc_
        have hfz12_0 := blk_frozen BK292.out 0
        have hfz12_1 := blk_frozen BK292.out 1
        have hfz12_2 := blk_frozen BK292.out 2
        have hcz13_0 : w5.cell? ⟨gb293, 0, none⟩ = some (.bool a1_0) := bc_
        have hcz13_1 : w5.cell? ⟨gb293, 1, none⟩ = some (.int .u64 a1_1) := bc_
        have hcz13_2 : w5.cell? ⟨gb293, 2, none⟩ = some (.int .u64 a1_2) := bc_
        have hfz13_0 := blk_frozen BK293.out 0
        have hfz13_1 := blk_frozen BK293.out 1
        have hfz13_2 := blk_frozen BK293.out 2
        go_wp2
        go_meet
        case rel => exact ⟨_, (decide (a0_2 < a1_2)), (by first | rfl | (simp; done) | (simp [*]; done)), H', ⟨by first | omega | exact Nat.le_refl _⟩, ⟨by (with_reducible repeat (first | refine bN_ _ ?_ | refine bd_ ?_ | refine ba_ _ ?_)); exact BK292.out⟩, ⟨by (with_reducible repeat (first | refine bN_ _ ?_ | refine bd_ ?_ | refine ba_ _ ?_)); exact BK293.out⟩, ⟨by repeat (first | (with_reducible first | exact HB.out | apply below_alloc | apply pw_below_drewN | apply below_drew1 | refine below_set ?_ GE292.out | refine below_set ?_ GE293.out) | exact HB.out)⟩⟩
      · rw [if_neg c10] at H
        have c10b0 : (a0_1 == a1_1) = false := beq_eq_false_iff_ne.mpr c10
        have c10b1 : (a0_1 != a1_1) = true := bne_iff_ne.mpr c10
        have H' := Aside0.mk H
        clear H
        have hnb14 := NB292_293.out
        have hnc14 := NB293_292.out
        have hcz15_0 : w5.cell? ⟨gb292, 0, none⟩ = some (.bool a0_0) := bc_
        have hcz15_1 : w5.cell? ⟨gb292, 1, none⟩ = some (.int .u64 a0_1) := bc_
        have hcz15_2 : w5.cell? ⟨gb292, 2, none⟩ = some (.int .u64 a0_2) := bc_
        have hfz15_0 := blk_frozen BK292.out 0
        have hfz15_1 := blk_frozen BK292.out 1
        have hfz15_2 := blk_frozen BK292.out 2
        have hcz16_0 : w5.cell? ⟨gb293, 0, none⟩ = some (.bool a1_0) := bc_
        have hcz16_1 : w5.cell? ⟨gb293, 1, none⟩ = some (.int .u64 a1_1) := bc_
        have hcz16_2 : w5.cell? ⟨gb293, 2, none⟩ = some (.int .u64 a1_2) := bc_
        have hfz16_0 := blk_frozen BK293.out 0
        have hfz16_1 := blk_frozen BK293.out 1
        have hfz16_2 := blk_frozen BK293.out 2
        go_wp2
        go_meet
        case rel => exact ⟨_, (false), (by first | rfl | (simp; done) | (simp [*]; done)), H', ⟨by first | omega | exact Nat.le_refl _⟩, ⟨by (with_reducible repeat (first | refine bN_ _ ?_ | refine bd_ ?_ | refine ba_ _ ?_)); exact BK292.out⟩, ⟨by (with_reducible repeat (first | refine bN_ _ ?_ | refine bd_ ?_ | refine ba_ _ ?_)); exact BK293.out⟩, ⟨by repeat (first | (with_reducible first | exact HB.out | apply below_alloc | apply pw_below_drewN | apply below_drew1 | refine below_set ?_ GE292.out | refine below_set ?_ GE293.out) | exact HB.out)⟩⟩
  case rest =>
    clear HC3
    try clear c1
    try clear p2
    try clear c4
    try clear c6
    try clear c6b0
    try clear c7
    try clear c10
    try clear c10b0
    try clear c10b1
    try clear c11
    try clear c14
    try clear hcz12_0
    try clear hcz12_1
    try clear hcz12_2
    try clear hcz13_0
    try clear hcz13_1
    try clear hcz13_2
    try clear hcz15_0
    try clear hcz15_1
    try clear hcz15_2
    try clear hcz16_0
    try clear hcz16_1
    try clear hcz16_2
    try clear hcz8_0
    try clear hcz8_1
    try clear hcz8_2
    try clear hcz9_0
    try clear hcz9_1
    try clear hcz9_2
    try clear hfz12_0
    try clear hfz12_1
    try clear hfz12_2
    try clear hfz13_0
    try clear hfz13_1
    try clear hfz13_2
    try clear hfz15_0
    try clear hfz15_1
    try clear hfz15_2
    try clear hfz16_0
    try clear hfz16_1
    try clear hfz16_2
    try clear hfz8_0
    try clear hfz8_1
    try clear hfz8_2
    try clear hfz9_0
    try clear hfz9_1
    try clear hfz9_2
    obtain ⟨kq, x5_2, rfl, HA, HJ2, BK292, BK293, HB⟩ := hcut
    cases kq with
    | zero => exact absurd HA.out (by simp [spec_l3Order.j0])
    | succ kj2 =>
      have H := HA.out
      clear HA
      simp only [spec_l3Order.j0] at H
      by_cases c17 : x5_2 = true
      · subst c17
        have H1 : (some (-1)) = some r := by rw [if_pos rfl] at H; exact H
        clear H
        have H := H1
        clear H1
        obtain rfl := Option.some.inj H
        go_wp2
        go_ret
        exact ⟨by first | rfl | (simp [errW_none, errW_some] <;> rfl) | (simp [*, errW_none, errW_some] <;> rfl), by repeat (first | (with_reducible first | exact HB.out | apply below_alloc | apply pw_below_drewN | apply below_drew1 | refine below_set ?_ GE292.out | refine below_set ?_ GE293.out) | exact HB.out)⟩
      · replace c17 := Bool.eq_false_iff.mpr c17
        subst c17
        have H1 : (if a0_1 > a1_1 then (some 1) else (if a0_2 > a1_2 then (some 1) else (some 0))) = some r := by rw [if_neg (show ¬ (false = true) by decide)] at H; exact H
        clear H
        have H := H1
        clear H1
        by_cases c18 : a0_1 > a1_1
        · rw [if_pos c18] at H
          have c18b0 : decide (a1_1 < a0_1) = true := decide_eq_true c18
          clear c18
          obtain rfl := Option.some.inj H
          have hnb19 := NB292_293.out
          have hnc19 := NB293_292.out
          have hcz20_0 : wc.cell? ⟨gb292, 0, none⟩ = some (.bool a0_0) := bc_
          have hcz20_1 : wc.cell? ⟨gb292, 1, none⟩ = some (.int .u64 a0_1) := bc_
          have hcz20_2 : wc.cell? ⟨gb292, 2, none⟩ = some (.int .u64 a0_2) := bc_
          have hfz20_0 := blk_frozen BK292.out 0
          have hfz20_1 := blk_frozen BK292.out 1
          have hfz20_2 := blk_frozen BK292.out 2
          have hcz21_0 : wc.cell? ⟨gb293, 0, none⟩ = some (.bool a1_0) := bc_
          have hcz21_1 : wc.cell? ⟨gb293, 1, none⟩ = some (.int .u64 a1_1) := bc_
          have hcz21_2 : wc.cell? ⟨gb293, 2, none⟩ = some (.int .u64 a1_2) := bc_
          have hfz21_0 := blk_frozen BK293.out 0
          have hfz21_1 := blk_frozen BK293.out 1
          have hfz21_2 := blk_frozen BK293.out 2
          go_wp2
          go_ret
          exact ⟨by first | rfl | (simp [errW_none, errW_some] <;> rfl) | (simp [*, errW_none, errW_some] <;> rfl), by repeat (first | (with_reducible first | exact HB.out | apply below_alloc | apply pw_below_drewN | apply below_drew1 | refine below_set ?_ GE292.out | refine below_set ?_ GE293.out) | exact HB.out)⟩
        · rw [if_neg c18] at H
          have c18b0 : decide (a1_1 < a0_1) = false := decide_eq_false c18
          clear c18
          by_cases c22 : a0_2 > a1_2
          · rw [if_pos c22] at H
            have c22b0 : decide (a1_2 < a0_2) = true := decide_eq_true c22
            clear c22
            obtain rfl := Option.some.inj H
            have hnb23 := NB292_293.out
            have hnc23 := NB293_292.out
            have hcz24_0 : wc.cell? ⟨gb292, 0, none⟩ = some (.bool a0_0) := bc_
            have hcz24_1 : wc.cell? ⟨gb292, 1, none⟩ = some (.int .u64 a0_1) := bc_
            have hcz24_2 : wc.cell? ⟨gb292, 2, none⟩ = some (.int .u64 a0_2) := bc_
            have hfz24_0 := blk_frozen BK292.out 0
            have hfz24_1 := blk_frozen BK292.out 1
            have hfz24_2 := blk_frozen BK292.out 2
            have hcz25_0 : wc.cell? ⟨gb293, 0, none⟩ = some (.bool a1_0) := bc_
            have hcz25_1 : wc.cell? ⟨gb293, 1, none⟩ = some (.int .u64 a1_1) := bc_
            have hcz25_2 : wc.cell? ⟨gb293, 2, none⟩ = some (.int .u64 a1_2) := bc_
            have hfz25_0 := blk_frozen BK293.out 0
            have hfz25_1 := blk_frozen BK293.out 1
            have hfz25_2 := blk_frozen BK293.out 2
            go_wp2
            go_ret
            exact ⟨by first | rfl | (simp [errW_none, errW_some] <;> rfl) | (simp [*, errW_none, errW_some] <;> rfl), by repeat (first | (with_reducible first | exact HB.out | apply below_alloc | apply pw_below_drewN | apply below_drew1 | refine below_set ?_ GE292.out | refine below_set ?_ GE293.out) | exact HB.out)⟩
          · rw [if_neg c22] at H
            have c22b0 : decide (a1_2 < a0_2) = false := decide_eq_false c22
            clear c22
            obtain rfl := Option.some.inj H
            have hnb26 := NB292_293.out
            have hnc26 := NB293_292.out
            have hcz27_0 : wc.cell? ⟨gb292, 0, none⟩ = some (.bool a0_0) := bc_
            have hcz27_1 : wc.cell? ⟨gb292, 1, none⟩ = some (.int .u64 a0_1) := bc_
            have hcz27_2 : wc.cell? ⟨gb292, 2, none⟩ = some (.int .u64 a0_2) := bc_
            have hfz27_0 := blk_frozen BK292.out 0
            have hfz27_1 := blk_frozen BK292.out 1
            have hfz27_2 := blk_frozen BK292.out 2
            have hcz28_0 : wc.cell? ⟨gb293, 0, none⟩ = some (.bool a1_0) := bc_
            have hcz28_1 : wc.cell? ⟨gb293, 1, none⟩ = some (.int .u64 a1_1) := bc_
            have hcz28_2 : wc.cell? ⟨gb293, 2, none⟩ = some (.int .u64 a1_2) := bc_
            have hfz28_0 := blk_frozen BK293.out 0
            have hfz28_1 := blk_frozen BK293.out 1
            have hfz28_2 := blk_frozen BK293.out 2
            go_wp2
            go_ret
            exact ⟨by first | rfl | (simp [errW_none, errW_some] <;> rfl) | (simp [*, errW_none, errW_some] <;> rfl), by repeat (first | (with_reducible first | exact HB.out | apply below_alloc | apply pw_below_drewN | apply below_drew1 | refine below_set ?_ GE292.out | refine below_set ?_ GE293.out) | exact HB.out)⟩

end Go.Proofs.Ytodbmgnhcglcnaa.PFnWideOrder
