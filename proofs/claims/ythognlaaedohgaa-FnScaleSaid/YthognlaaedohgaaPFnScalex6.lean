/- Contracts of Go functions, each with the Lean function that says what it computes: begun by the print, turned by this session. No condition beyond what each theorem states. -/
import Derived.Test.YthognlaaedohgaaPFnScalex0
import Derived.Test.YthognlaaedohgaaPFnScalex1
import Derived.Test.YthognlaaedohgaaPFnScalex2
import Derived.Test.YthognlaaedohgaaPFnScalex3
import Derived.Test.YthognlaaedohgaaPFnScalex4
import Derived.Test.YthognlaaedohgaaPFnScalex5
namespace Go.Proofs.Ythognlaaedohgaa.PFnScale
open Go.RowKit Go.Proofs.YthognlaaedohgaaW.PrintWords Go.Proofs.YthognlaaedohgaaW.PrintLast Go.Proofs.YthognlaaedohgaaW.PrintMore
attribute [local go_sem] max2_int min2_int max_two min_two max_three min_three max_four min_four   -- for this text's walks alone
set_option linter.unusedVariables false
set_option linter.unusedSimpArgs false

attribute [local go_sem high] eqA29
/-! ### laws_FnScale: function 10 -/
def laws_FnScale.j0 : Nat → Bool → Bool → Bool → Int → Int → Bool → Int → Int → Option (Bool)
  | 0, _, _, _, _, _, _, _, _ => none
  | k + 1, x6, x57, x272000, x272001, x272002, x277000, x277001, x277002 => if x57 = true then (some false) else ((impl_ScaleWide.f x272000 x272001 x272002 (-1)).bind fun bt295 => (if x6 = true then ((spec_WideOk.f x277000 x277001 x277002).bind fun t300 => (if t300 = true then ((spec_WideOk.f x272000 x272001 x272002).bind fun t301 => (if t301 = true then (if bt295.2.2.2 = true then ((impl_NegWide.f x272000 x272001 x272002).bind fun bt302 => (some (bt295.1 == bt302.1 && (bt295.2.1 == bt302.2.1 && (bt295.2.2.1 == bt302.2.2))))) else (some false)) else (some true))) else (some false))) else ((spec_WideOk.f x272000 x272001 x272002).bind fun t305 => (if t305 = true then (if bt295.2.2.2 = true then ((impl_NegWide.f x272000 x272001 x272002).bind fun bt306 => (some (bt295.1 == bt306.1 && (bt295.2.1 == bt306.2.1 && (bt295.2.2.1 == bt306.2.2))))) else (some false)) else (some true)))))
def laws_FnScale.f (k : Nat) (l0 : List Int) : Option (Bool) := (laws_big.f l0).bind fun t266 => (if t266 = true then (some true) else ((spec_DrawScaleWide.f k l0).bind fun bt267 => ((impl_ScaleWide.f bt267.1 bt267.2.1 bt267.2.2.1 bt267.2.2.2).bind fun bt272 => ((spec_ScaleWide.f bt267.1 bt267.2.1 bt267.2.2.1 bt267.2.2.2).bind fun bt277 => (if (bt272.2.2.2 != bt277.2.2.2) = true then (some false) else ((spec_DrawMulWide.f k l0).bind fun bt282 => ((impl_WideOf.f bt282.1).bind fun bt284 => ((impl_ScaleWide.f bt284.1 bt284.2.1 bt284.2.2 bt282.2).bind fun bt287 => (if bt287.2.2.2 = true then ((impl_MulWide.f bt282.1 bt282.2).bind fun bt292 => (laws_FnScale.j0 k bt272.2.2.2 (!(bt287.1 == bt292.1) || (!(bt287.2.1 == bt292.2.1) || (!(bt287.2.2.1 == bt292.2.2)))) bt267.1 bt267.2.1 bt267.2.2.1 bt272.1 bt272.2.1 bt272.2.2.1)) else (laws_FnScale.j0 k bt272.2.2.2 true bt267.1 bt267.2.1 bt267.2.2.1 bt272.1 bt272.2.1 bt272.2.2.1))))))))))
theorem laws_FnScale.mono_l : ∀ k, (∀ y0 y1 y2 y3 y4 y5 y6 y7, LeO (laws_FnScale.j0 k y0 y1 y2 y3 y4 y5 y6 y7) (laws_FnScale.j0 (k + 1) y0 y1 y2 y3 y4 y5 y6 y7))
  | 0 => fun _ _ _ _ _ _ _ _ r h => by simp [laws_FnScale.j0] at h
  | k + 1 => by
    have ih0 := laws_FnScale.mono_l k
    · intro y0 y1 y2 y3 y4 y5 y6 y7
      unfold laws_FnScale.j0
      repeat' first
      | (with_reducible exact ih0 _ _ _ _ _ _ _ _)
      | (with_reducible exact spec_DrawMulWide.mono _ _)
      | (with_reducible exact spec_DrawScaleWide.mono _ _)
      | (with_reducible exact LeO.refl _)
      | (with_reducible exact LeO.none _)
      | (with_reducible refine LeO.ite ?_ ?_)
      | (with_reducible refine LeO.bind ?_ (fun _ => ?_))
      | exact ih0 _ _ _ _ _ _ _ _
      | exact spec_DrawMulWide.mono _ _
      | exact spec_DrawScaleWide.mono _ _
      | exact LeO.none _
      | refine LeO.ite ?_ ?_
      | refine LeO.bind ?_ (fun _ => ?_)
theorem laws_FnScale.mono : ∀ a0 k, LeO (laws_FnScale.f k a0) (laws_FnScale.f (k + 1) a0) := by
  intro a0 k
  have ih0 := laws_FnScale.mono_l k
  unfold laws_FnScale.f
  repeat' first
      | (with_reducible exact ih0 _ _ _ _ _ _ _ _)
      | (with_reducible exact spec_DrawMulWide.mono _ _)
      | (with_reducible exact spec_DrawScaleWide.mono _ _)
      | (with_reducible exact LeO.refl _)
      | (with_reducible exact LeO.none _)
      | (with_reducible refine LeO.ite ?_ ?_)
      | (with_reducible refine LeO.bind ?_ (fun _ => ?_))
      | exact ih0 _ _ _ _ _ _ _ _
      | exact spec_DrawMulWide.mono _ _
      | exact spec_DrawScaleWide.mono _ _
      | exact LeO.none _
      | refine LeO.ite ?_ ?_
      | refine LeO.bind ?_ (fun _ => ?_)
def laws_FnScale.T10 : Bool × List (List Nat × List Nat) := (true, [([], []), ([0], [0]), ([1], [1]), ([2], [2]), ([2], [2]), ([2], [2]), ([4, 5, 2, 2], [2, 4, 5]), ([3, 6, 2], [2, 3, 6]), ([2, 7], [2, 7])])
def laws_FnScale.B10 : List Nat := [0, 1, 3, 7, 7, 7, 55, 127, 255]
theorem laws_FnScale.tab10 : rtab .any (opsOf Try.f10 10) = laws_FnScale.T10 := by kernel_rfl
theorem laws_FnScale.bits10 : waitsOk laws_FnScale.T10.2 laws_FnScale.B10 = true := by kernel_rfl
def laws_FnScale.T13 : Bool × List (List Nat × List Nat) := (true, [([], []), ([0], [0]), ([1], [1]), ([2], [2]), ([3, 2, 2], [2, 3]), ([2, 4], [2, 4]), ([5, 4], [5]), ([6], [6]), ([7, 6, 6], [6, 7]), ([8, 6], [6, 8]), ([9, 8, 6], [6, 9]), ([10], [10]), ([11, 10, 10], [10, 11]), ([12], [12]), ([12], [12]), ([14, 12, 12], [12, 14]), ([13, 15, 12], [12, 13, 15]), ([12, 16, 10], [10, 12, 16]), ([10, 17, 6], [6, 10, 17]), ([6, 18], [6, 18]), ([19, 15, 0, 1, 2, 3, 4, 5, 6, 7, 8, 9, 10, 11, 12, 13, 14, 15, 16, 17, 18, 19], [19])])
def laws_FnScale.B13 : List Nat := [0, 1, 3, 7, 15, 31, 63, 127, 255, 511, 1023, 2047, 4095, 8191, 8191, 24575, 65535, 131071, 262143, 524287, 1048575]
theorem laws_FnScale.tab13 : rtab .any (opsOf Try.f10 13) = laws_FnScale.T13 := by kernel_rfl
theorem laws_FnScale.bits13 : waitsOk laws_FnScale.T13.2 laws_FnScale.B13 = true := by kernel_rfl
set_option maxHeartbeats 8000000 in
set_option maxRecDepth 100000 in
theorem laws_FnScale.calls (k : Nat) (A0 : Option Addr) (c0 : Nat) (l0 : List Int) (r : Bool) (w : World) (hr0 : Kd.C (Kd.int .u8) w A0 l0.length l0) (hc0 : l0.length ≤ c0) (h : laws_FnScale.f k l0 = some r) :
    Calls Try.prog 10 #[.slice A0 l0.length c0] w fun e w' => e = .returned (.bool r) ∧ Below w.heap.size w w' := by
  have hu29 := Try.underlying29
  have HR0 := Aside0.mk hr0
  have HC0 := Aside0.mk hc0
  clear hr0 hc0
  have HB := Aside0.mk (Below.refl w.heap.size w)
  have H : ((laws_big.f l0).bind fun t266 => (if t266 = true then (some true) else ((spec_DrawScaleWide.f k l0).bind fun bt267 => ((impl_ScaleWide.f bt267.1 bt267.2.1 bt267.2.2.1 bt267.2.2.2).bind fun bt272 => ((spec_ScaleWide.f bt267.1 bt267.2.1 bt267.2.2.1 bt267.2.2.2).bind fun bt277 => (if (bt272.2.2.2 != bt277.2.2.2) = true then (some false) else ((spec_DrawMulWide.f k l0).bind fun bt282 => ((impl_WideOf.f bt282.1).bind fun bt284 => ((impl_ScaleWide.f bt284.1 bt284.2.1 bt284.2.2 bt282.2).bind fun bt287 => (if bt287.2.2.2 = true then ((impl_MulWide.f bt282.1 bt282.2).bind fun bt292 => (laws_FnScale.j0 k bt272.2.2.2 (!(bt287.1 == bt292.1) || (!(bt287.2.1 == bt292.2.1) || (!(bt287.2.2.1 == bt292.2.2)))) bt267.1 bt267.2.1 bt267.2.2.1 bt272.1 bt272.2.1 bt272.2.2.1)) else (laws_FnScale.j0 k bt272.2.2.2 true bt267.1 bt267.2.1 bt267.2.2.1 bt272.1 bt272.2.1 bt272.2.2.1))))))))))) = some r := h
  clear h
  replace H := Option.bind_eq_some_iff.mp H
  obtain ⟨t266, A20, H⟩ := H
  replace H : (if t266 = true then (some true) else ((spec_DrawScaleWide.f k l0).bind fun bt267 => ((impl_ScaleWide.f bt267.1 bt267.2.1 bt267.2.2.1 bt267.2.2.2).bind fun bt272 => ((spec_ScaleWide.f bt267.1 bt267.2.1 bt267.2.2.1 bt267.2.2.2).bind fun bt277 => (if (bt272.2.2.2 != bt277.2.2.2) = true then (some false) else ((spec_DrawMulWide.f k l0).bind fun bt282 => ((impl_WideOf.f bt282.1).bind fun bt284 => ((impl_ScaleWide.f bt284.1 bt284.2.1 bt284.2.2 bt282.2).bind fun bt287 => (if bt287.2.2.2 = true then ((impl_MulWide.f bt282.1 bt282.2).bind fun bt292 => (laws_FnScale.j0 k bt272.2.2.2 (!(bt287.1 == bt292.1) || (!(bt287.2.1 == bt292.2.1) || (!(bt287.2.2.1 == bt292.2.2)))) bt267.1 bt267.2.1 bt267.2.2.1 bt272.1 bt272.2.1 bt272.2.2.1)) else (laws_FnScale.j0 k bt272.2.2.2 true bt267.1 bt267.2.1 bt267.2.2.1 bt272.1 bt272.2.1 bt272.2.2.1)))))))))) = some r := H
  have A2 := Aside0.mk A20
  clear A20
  by_cases c3 : t266 = true
  · subst c3
    have H1 : (some true) = some r := by rw [if_pos rfl] at H; exact H
    clear H
    have H := H1
    clear H1
    obtain rfl := Option.some.inj H
    go_enter Try.func10, Try.ntmps10
    go_wp2_with (first | ((with_reducible refine gate_callee (f := 28) rfl ?_); refine goesL_ (some 16) rfl rfl Try.func28 (by kernel_rfl) rfl #[.slice A0 l0.length c0] rfl mp_ ?_; (with_reducible refine (laws_big.calls _ _ l0 true _ ?side1 ?side2 A2.out).mono ?_); (case side1 => repeat (first | exact HR0.out | (with_reducible refine Kd.C_alloc ?_ _) | (with_reducible refine Kd.C_drewN ?_ _) | (with_reducible refine Kd.C_drew ?_))); (case side2 => exact HC0.out); rintro e w' ⟨rfl, ⟨nd, rfl⟩⟩; refine ⟨_, rfl, ?_⟩))
    go_ret
    exact ⟨by first | rfl | (simp [errW_none, errW_some] <;> rfl) | (simp [*, errW_none, errW_some] <;> rfl), by repeat (first | (with_reducible first | exact HB.out | apply below_alloc | apply pw_below_drewN | apply below_drew1) | exact HB.out)⟩
  · replace c3 := Bool.eq_false_iff.mpr c3
    subst c3
    have H1 : ((spec_DrawScaleWide.f k l0).bind fun bt267 => ((impl_ScaleWide.f bt267.1 bt267.2.1 bt267.2.2.1 bt267.2.2.2).bind fun bt272 => ((spec_ScaleWide.f bt267.1 bt267.2.1 bt267.2.2.1 bt267.2.2.2).bind fun bt277 => (if (bt272.2.2.2 != bt277.2.2.2) = true then (some false) else ((spec_DrawMulWide.f k l0).bind fun bt282 => ((impl_WideOf.f bt282.1).bind fun bt284 => ((impl_ScaleWide.f bt284.1 bt284.2.1 bt284.2.2 bt282.2).bind fun bt287 => (if bt287.2.2.2 = true then ((impl_MulWide.f bt282.1 bt282.2).bind fun bt292 => (laws_FnScale.j0 k bt272.2.2.2 (!(bt287.1 == bt292.1) || (!(bt287.2.1 == bt292.2.1) || (!(bt287.2.2.1 == bt292.2.2)))) bt267.1 bt267.2.1 bt267.2.2.1 bt272.1 bt272.2.1 bt272.2.2.1)) else (laws_FnScale.j0 k bt272.2.2.2 true bt267.1 bt267.2.1 bt267.2.2.1 bt272.1 bt272.2.1 bt272.2.2.1))))))))) = some r := by rw [if_neg (show ¬ (false = true) by decide)] at H; exact H
    clear H
    have H := H1
    clear H1
    replace H := Option.bind_eq_some_iff.mp H
    obtain ⟨⟨t267, t268, t269, t270⟩, A40, H⟩ := H
    replace H : ((impl_ScaleWide.f t267 t268 t269 t270).bind fun bt272 => ((spec_ScaleWide.f t267 t268 t269 t270).bind fun bt277 => (if (bt272.2.2.2 != bt277.2.2.2) = true then (some false) else ((spec_DrawMulWide.f k l0).bind fun bt282 => ((impl_WideOf.f bt282.1).bind fun bt284 => ((impl_ScaleWide.f bt284.1 bt284.2.1 bt284.2.2 bt282.2).bind fun bt287 => (if bt287.2.2.2 = true then ((impl_MulWide.f bt282.1 bt282.2).bind fun bt292 => (laws_FnScale.j0 k bt272.2.2.2 (!(bt287.1 == bt292.1) || (!(bt287.2.1 == bt292.2.1) || (!(bt287.2.2.1 == bt292.2.2)))) t267 t268 t269 bt272.1 bt272.2.1 bt272.2.2.1)) else (laws_FnScale.j0 k bt272.2.2.2 true t267 t268 t269 bt272.1 bt272.2.1 bt272.2.2.1)))))))) = some r := H
    have A4 := Aside0.mk A40
    clear A40
    replace H := Option.bind_eq_some_iff.mp H
    obtain ⟨⟨t272, t273, t274, t275⟩, A50, H⟩ := H
    replace H : ((spec_ScaleWide.f t267 t268 t269 t270).bind fun bt277 => (if (t275 != bt277.2.2.2) = true then (some false) else ((spec_DrawMulWide.f k l0).bind fun bt282 => ((impl_WideOf.f bt282.1).bind fun bt284 => ((impl_ScaleWide.f bt284.1 bt284.2.1 bt284.2.2 bt282.2).bind fun bt287 => (if bt287.2.2.2 = true then ((impl_MulWide.f bt282.1 bt282.2).bind fun bt292 => (laws_FnScale.j0 k t275 (!(bt287.1 == bt292.1) || (!(bt287.2.1 == bt292.2.1) || (!(bt287.2.2.1 == bt292.2.2)))) t267 t268 t269 t272 t273 t274)) else (laws_FnScale.j0 k t275 true t267 t268 t269 t272 t273 t274))))))) = some r := H
    have A5 := Aside0.mk A50
    clear A50
    replace H := Option.bind_eq_some_iff.mp H
    obtain ⟨⟨t277, t278, t279, t280⟩, A60, H⟩ := H
    replace H : (if (t275 != t280) = true then (some false) else ((spec_DrawMulWide.f k l0).bind fun bt282 => ((impl_WideOf.f bt282.1).bind fun bt284 => ((impl_ScaleWide.f bt284.1 bt284.2.1 bt284.2.2 bt282.2).bind fun bt287 => (if bt287.2.2.2 = true then ((impl_MulWide.f bt282.1 bt282.2).bind fun bt292 => (laws_FnScale.j0 k t275 (!(bt287.1 == bt292.1) || (!(bt287.2.1 == bt292.2.1) || (!(bt287.2.2.1 == bt292.2.2)))) t267 t268 t269 t272 t273 t274)) else (laws_FnScale.j0 k t275 true t267 t268 t269 t272 t273 t274)))))) = some r := H
    have A6 := Aside0.mk A60
    clear A60
    by_cases c7 : (t275 != t280) = true
    · rw [if_pos c7] at H
      have c7b0 : (t275 != t280) = true := c7
      (try (have c7b1 : decide (t275 = t280) = false := by simpa using c7))
      (try (have c7b2 : (t275 == t280) = false := by simpa using c7))
      (try (have c7b3 : ¬ (t275 = t280) := by simpa using c7))
      clear c7
      obtain rfl := Option.some.inj H
      go_enter Try.func10, Try.ntmps10
      go_wp2_with (first | ((with_reducible refine gate_callee (f := 28) rfl ?_); refine goesL_ (some 16) rfl rfl Try.func28 (by kernel_rfl) rfl #[.slice A0 l0.length c0] rfl mp_ ?_; (with_reducible refine (laws_big.calls _ _ l0 false _ ?side1 ?side2 A2.out).mono ?_); (case side1 => repeat (first | exact HR0.out | (with_reducible refine Kd.C_alloc ?_ _) | (with_reducible refine Kd.C_drewN ?_ _) | (with_reducible refine Kd.C_drew ?_))); (case side2 => exact HC0.out); rintro e w' ⟨rfl, ⟨nd, rfl⟩⟩; refine ⟨_, rfl, ?_⟩) | ((with_reducible refine gate_callee (f := 29) rfl ?_); refine goesL_ (some 19) rfl rfl Try.func29 (by kernel_rfl) rfl #[.slice A0 l0.length c0] rfl mp_ ?_; (with_reducible refine (spec_DrawScaleWide.calls k _ _ l0 t267 t268 t269 t270 _ ?side1 ?side2 A4.out).mono ?_); (case side1 => repeat (first | exact HR0.out | (with_reducible refine Kd.C_alloc ?_ _) | (with_reducible refine Kd.C_drewN ?_ _) | (with_reducible refine Kd.C_drew ?_))); (case side2 => exact HC0.out); rintro e w8 ⟨rfl, hb⟩; refine ⟨_, rfl, ?_⟩; have n0_ := Aside0.mk (below_step bel_ hb); clear HB; have HB := n0_; clear n0_; (try clear hb); (try clear hb2); (try clear hk); (try clear hi)) | ((with_reducible refine gate_dst (N := 3) rfl ?_); refine box_event ?hg (N := 3) ?hd (cs := #[.bool false, .int .u64 0, .int .u64 0]) (t := 29) ?hr ?_; (case hd => rfl); (case hg => rfl); (case hr => first | (go_simp; done) | (go_simp; rfl)); intro gb271 hg w9 hbox hb; have n0_ := Aside0.mk (below_step bel_ hb); have n1_ := Aside0.mk (hbox); have n2_ := Aside0.mk ((by rw [hg]; exact (below_size bel_) : w.heap.size ≤ gb271)); have n3_ := Aside0.mk ((by rw [hg]; exact (below_size bel_) : w.heap.size ≤ gb271)); clear HB; have HB := n0_; have BK271 := n1_; have GW271 := n2_; have GE271 := n3_; clear n0_ n1_ n2_ n3_; clear hb hbox hg; have hcz10_0 : w9.cell? ⟨gb271, 0, none⟩ = some (.bool false) := (blk_cell BK271.out 0).trans rfl; have hcz10_1 : w9.cell? ⟨gb271, 1, none⟩ = some (.int .u64 0) := (blk_cell BK271.out 1).trans rfl; have hcz10_2 : w9.cell? ⟨gb271, 2, none⟩ = some (.int .u64 0) := (blk_cell BK271.out 2).trans rfl; have hfz10_0 := blk_frozen BK271.out 0; have hfz10_1 := blk_frozen BK271.out 1; have hfz10_2 := blk_frozen BK271.out 2) | ((with_reducible refine gate_callee (f := 30) rfl ?_); refine goesL_ (some 25) rfl rfl Try.func30 (by kernel_rfl) rfl #[.agg #[.bool t267, .int .u64 t268, .int .u64 t269], .int .i64 t270] rfl mp_ ?_; (with_reducible refine (impl_ScaleWide.calls t267 t268 t269 t270 t272 t273 t274 t275 _ A5.out).mono ?_); rintro e w11 ⟨rfl, hb⟩; refine ⟨_, rfl, ?_⟩; have n0_ := Aside0.mk (blk_below (g := gb271) (o := .cells #[.bool t267, .int .u64 t268, .int .u64 t269] 29 (0, 0)) (by (with_reducible repeat (first | refine bN_ _ ?_ | refine bd_ ?_ | refine ba_ _ ?_)); refine blk_put (cs := #[.bool t267, .int .u64 t268, .int .u64 0]) ?_ 2 _ rfl; (with_reducible repeat (first | refine bN_ _ ?_ | refine bd_ ?_ | refine ba_ _ ?_)); refine blk_put (cs := #[.bool t267, .int .u64 0, .int .u64 0]) ?_ 1 _ rfl; (with_reducible repeat (first | refine bN_ _ ?_ | refine bd_ ?_ | refine ba_ _ ?_)); refine blk_put (cs := #[.bool false, .int .u64 0, .int .u64 0]) ?_ 0 _ rfl; (with_reducible repeat (first | refine bN_ _ ?_ | refine bd_ ?_ | refine ba_ _ ?_)); exact BK271.out) hb); have n1_ := Aside0.mk (below_step bel_ hb); clear BK271; clear HB; have BK271 := n0_; have HB := n1_; clear n0_ n1_; (try clear hb); (try clear hb2); (try clear hk); (try clear hi)) | ((with_reducible refine gate_dst (N := 5) rfl ?_); refine box_event ?hg (N := 5) ?hd (cs := #[.bool false, .int .u64 0, .int .u64 0]) (t := 29) ?hr ?_; (case hd => rfl); (case hg => rfl); (case hr => first | (go_simp; done) | (go_simp; rfl)); intro gb276 hg w12 hbox hb; have n0_ := Aside0.mk (blk_below (g := gb271) (o := .cells #[.bool t267, .int .u64 t268, .int .u64 t269] 29 (0, 0)) (by (with_reducible repeat (first | refine bN_ _ ?_ | refine bd_ ?_ | refine ba_ _ ?_)); exact BK271.out) hb); have n1_ := Aside0.mk (below_step bel_ hb); have n2_ := Aside0.mk (hbox); have n3_ := Aside0.mk ((by rw [hg]; exact (below_size bel_) : w.heap.size ≤ gb276)); have n4_ := Aside0.mk ((by rw [hg]; exact (below_size bel_) : w.heap.size ≤ gb276)); have n5_ := Aside0.mk ((by rw [hg]; exact Nat.ne_of_lt (blk_lt (g := gb271) (o := .cells #[.bool t267, .int .u64 t268, .int .u64 t269] 29 (0, 0)) (by (with_reducible repeat (first | refine bN_ _ ?_ | refine bd_ ?_ | refine ba_ _ ?_)); exact BK271.out)) : gb271 ≠ gb276)); have n6_ := Aside0.mk ((by rw [hg]; exact Nat.ne_of_gt (blk_lt (g := gb271) (o := .cells #[.bool t267, .int .u64 t268, .int .u64 t269] 29 (0, 0)) (by (with_reducible repeat (first | refine bN_ _ ?_ | refine bd_ ?_ | refine ba_ _ ?_)); exact BK271.out)) : gb276 ≠ gb271)); clear BK271; clear HB; have BK271 := n0_; have HB := n1_; have BK276 := n2_; have GW276 := n3_; have GE276 := n4_; have NB271_276 := n5_; have NB276_271 := n6_; clear n0_ n1_ n2_ n3_ n4_ n5_ n6_; clear hb hbox hg; have hnb13 := NB276_271.out; have hnc13 := NB271_276.out; have hcz14_0 : w12.cell? ⟨gb276, 0, none⟩ = some (.bool false) := (blk_cell BK276.out 0).trans rfl; have hcz14_1 : w12.cell? ⟨gb276, 1, none⟩ = some (.int .u64 0) := (blk_cell BK276.out 1).trans rfl; have hcz14_2 : w12.cell? ⟨gb276, 2, none⟩ = some (.int .u64 0) := (blk_cell BK276.out 2).trans rfl; have hfz14_0 := blk_frozen BK276.out 0; have hfz14_1 := blk_frozen BK276.out 1; have hfz14_2 := blk_frozen BK276.out 2; have hcz15_0 : w12.cell? ⟨gb271, 0, none⟩ = some (.bool t267) := (blk_cell BK271.out 0).trans rfl; have hcz15_1 : w12.cell? ⟨gb271, 1, none⟩ = some (.int .u64 t268) := (blk_cell BK271.out 1).trans rfl; have hcz15_2 : w12.cell? ⟨gb271, 2, none⟩ = some (.int .u64 t269) := (blk_cell BK271.out 2).trans rfl; have hfz15_0 := blk_frozen BK271.out 0; have hfz15_1 := blk_frozen BK271.out 1; have hfz15_2 := blk_frozen BK271.out 2) | ((with_reducible refine gate_callee (f := 31) rfl ?_); refine goesL_ (some 31) rfl rfl Try.func31 (by kernel_rfl) rfl #[.agg #[.bool t267, .int .u64 t268, .int .u64 t269], .int .i64 t270] rfl mp_ ?_; (with_reducible refine (spec_ScaleWide.calls t267 t268 t269 t270 t277 t278 t279 t280 _ A6.out).mono ?_); rintro e w16 ⟨rfl, hb⟩; refine ⟨_, rfl, ?_⟩; have n0_ := Aside0.mk (blk_below (g := gb271) (o := .cells #[.bool t267, .int .u64 t268, .int .u64 t269] 29 (0, 0)) (by (with_reducible repeat (first | refine bN_ _ ?_ | refine bd_ ?_ | refine ba_ _ ?_)); refine blk_far ?_ NB271_276.out _; (with_reducible repeat (first | refine bN_ _ ?_ | refine bd_ ?_ | refine ba_ _ ?_)); refine blk_far ?_ NB271_276.out _; (with_reducible repeat (first | refine bN_ _ ?_ | refine bd_ ?_ | refine ba_ _ ?_)); refine blk_far ?_ NB271_276.out _; (with_reducible repeat (first | refine bN_ _ ?_ | refine bd_ ?_ | refine ba_ _ ?_)); exact BK271.out) hb); have n1_ := Aside0.mk (blk_below (g := gb276) (o := .cells #[.bool t272, .int .u64 t273, .int .u64 t274] 29 (0, 0)) (by (with_reducible repeat (first | refine bN_ _ ?_ | refine bd_ ?_ | refine ba_ _ ?_)); refine blk_put (cs := #[.bool t272, .int .u64 t273, .int .u64 0]) ?_ 2 _ rfl; (with_reducible repeat (first | refine bN_ _ ?_ | refine bd_ ?_ | refine ba_ _ ?_)); refine blk_put (cs := #[.bool t272, .int .u64 0, .int .u64 0]) ?_ 1 _ rfl; (with_reducible repeat (first | refine bN_ _ ?_ | refine bd_ ?_ | refine ba_ _ ?_)); refine blk_put (cs := #[.bool false, .int .u64 0, .int .u64 0]) ?_ 0 _ rfl; (with_reducible repeat (first | refine bN_ _ ?_ | refine bd_ ?_ | refine ba_ _ ?_)); exact BK276.out) hb); have n2_ := Aside0.mk (below_step bel_ hb); clear BK271; clear BK276; clear HB; have BK271 := n0_; have BK276 := n1_; have HB := n2_; clear n0_ n1_ n2_; (try clear hb); (try clear hb2); (try clear hk); (try clear hi)) | ((with_reducible refine gate_dst (N := 7) rfl ?_); refine box_event ?hg (N := 7) ?hd (cs := #[.bool false, .int .u64 0, .int .u64 0]) (t := 29) ?hr ?_; (case hd => rfl); (case hg => rfl); (case hr => first | (go_simp; done) | (go_simp; rfl)); intro gb281 hg w17 hbox hb; have n0_ := Aside0.mk (blk_below (g := gb271) (o := .cells #[.bool t267, .int .u64 t268, .int .u64 t269] 29 (0, 0)) (by (with_reducible repeat (first | refine bN_ _ ?_ | refine bd_ ?_ | refine ba_ _ ?_)); exact BK271.out) hb); have n1_ := Aside0.mk (blk_below (g := gb276) (o := .cells #[.bool t272, .int .u64 t273, .int .u64 t274] 29 (0, 0)) (by (with_reducible repeat (first | refine bN_ _ ?_ | refine bd_ ?_ | refine ba_ _ ?_)); exact BK276.out) hb); have n2_ := Aside0.mk (below_step bel_ hb); have n3_ := Aside0.mk (hbox); have n4_ := Aside0.mk ((by rw [hg]; exact (below_size bel_) : w.heap.size ≤ gb281)); have n5_ := Aside0.mk ((by rw [hg]; exact (below_size bel_) : w.heap.size ≤ gb281)); have n6_ := Aside0.mk ((by rw [hg]; exact Nat.ne_of_lt (blk_lt (g := gb271) (o := .cells #[.bool t267, .int .u64 t268, .int .u64 t269] 29 (0, 0)) (by (with_reducible repeat (first | refine bN_ _ ?_ | refine bd_ ?_ | refine ba_ _ ?_)); exact BK271.out)) : gb271 ≠ gb281)); have n7_ := Aside0.mk ((by rw [hg]; exact Nat.ne_of_gt (blk_lt (g := gb271) (o := .cells #[.bool t267, .int .u64 t268, .int .u64 t269] 29 (0, 0)) (by (with_reducible repeat (first | refine bN_ _ ?_ | refine bd_ ?_ | refine ba_ _ ?_)); exact BK271.out)) : gb281 ≠ gb271)); have n8_ := Aside0.mk ((by rw [hg]; exact Nat.ne_of_lt (blk_lt (g := gb276) (o := .cells #[.bool t272, .int .u64 t273, .int .u64 t274] 29 (0, 0)) (by (with_reducible repeat (first | refine bN_ _ ?_ | refine bd_ ?_ | refine ba_ _ ?_)); exact BK276.out)) : gb276 ≠ gb281)); have n9_ := Aside0.mk ((by rw [hg]; exact Nat.ne_of_gt (blk_lt (g := gb276) (o := .cells #[.bool t272, .int .u64 t273, .int .u64 t274] 29 (0, 0)) (by (with_reducible repeat (first | refine bN_ _ ?_ | refine bd_ ?_ | refine ba_ _ ?_)); exact BK276.out)) : gb281 ≠ gb276)); clear BK271; clear BK276; clear HB; have BK271 := n0_; have BK276 := n1_; have HB := n2_; have BK281 := n3_; have GW281 := n4_; have GE281 := n5_; have NB271_281 := n6_; have NB281_271 := n7_; have NB276_281 := n8_; have NB281_276 := n9_; clear n0_ n1_ n2_ n3_ n4_ n5_ n6_ n7_ n8_ n9_; clear hb hbox hg; have hnb18 := NB281_271.out; have hnc18 := NB271_281.out; have hnb19 := NB281_276.out; have hnc19 := NB276_281.out; have hcz20_0 : w17.cell? ⟨gb281, 0, none⟩ = some (.bool false) := (blk_cell BK281.out 0).trans rfl; have hcz20_1 : w17.cell? ⟨gb281, 1, none⟩ = some (.int .u64 0) := (blk_cell BK281.out 1).trans rfl; have hcz20_2 : w17.cell? ⟨gb281, 2, none⟩ = some (.int .u64 0) := (blk_cell BK281.out 2).trans rfl; have hfz20_0 := blk_frozen BK281.out 0; have hfz20_1 := blk_frozen BK281.out 1; have hfz20_2 := blk_frozen BK281.out 2))
      go_ret
      exact ⟨by first | rfl | (simp [errW_none, errW_some] <;> rfl) | (simp [*, errW_none, errW_some] <;> rfl), by repeat (first | (with_reducible first | exact HB.out | apply below_alloc | apply pw_below_drewN | apply below_drew1 | refine below_set ?_ GE271.out | refine below_set ?_ GE276.out | refine below_set ?_ GE281.out) | exact HB.out)⟩
    · rw [if_neg c7] at H
      have c7b0 : (t275 != t280) = false := by simpa using c7
      (try (have c7b1 : decide (t275 = t280) = true := by simpa using c7))
      (try (have c7b2 : (t275 == t280) = true := by simpa using c7))
      clear c7
      replace H := Option.bind_eq_some_iff.mp H
      obtain ⟨⟨t282, t283⟩, A210, H⟩ := H
      replace H : ((impl_WideOf.f t282).bind fun bt284 => ((impl_ScaleWide.f bt284.1 bt284.2.1 bt284.2.2 t283).bind fun bt287 => (if bt287.2.2.2 = true then ((impl_MulWide.f t282 t283).bind fun bt292 => (laws_FnScale.j0 k t275 (!(bt287.1 == bt292.1) || (!(bt287.2.1 == bt292.2.1) || (!(bt287.2.2.1 == bt292.2.2)))) t267 t268 t269 t272 t273 t274)) else (laws_FnScale.j0 k t275 true t267 t268 t269 t272 t273 t274)))) = some r := H
      have A21 := Aside0.mk A210
      clear A210
      replace H := Option.bind_eq_some_iff.mp H
      obtain ⟨⟨t284, t285, t286⟩, A220, H⟩ := H
      replace H : ((impl_ScaleWide.f t284 t285 t286 t283).bind fun bt287 => (if bt287.2.2.2 = true then ((impl_MulWide.f t282 t283).bind fun bt292 => (laws_FnScale.j0 k t275 (!(bt287.1 == bt292.1) || (!(bt287.2.1 == bt292.2.1) || (!(bt287.2.2.1 == bt292.2.2)))) t267 t268 t269 t272 t273 t274)) else (laws_FnScale.j0 k t275 true t267 t268 t269 t272 t273 t274))) = some r := H
      have A22 := Aside0.mk A220
      clear A220
      replace H := Option.bind_eq_some_iff.mp H
      obtain ⟨⟨t287, t288, t289, t290⟩, A230, H⟩ := H
      replace H : (if t290 = true then ((impl_MulWide.f t282 t283).bind fun bt292 => (laws_FnScale.j0 k t275 (!(t287 == bt292.1) || (!(t288 == bt292.2.1) || (!(t289 == bt292.2.2)))) t267 t268 t269 t272 t273 t274)) else (laws_FnScale.j0 k t275 true t267 t268 t269 t272 t273 t274)) = some r := H
      have A23 := Aside0.mk A230
      clear A230
      have HC24 := Aside0.mk H
      clear H
      go_enter Try.func10, Try.ntmps10
      go_upto_region 10 with (first | ((with_reducible refine gate_callee (f := 28) rfl ?_); refine goesL_ (some 16) rfl rfl Try.func28 (by kernel_rfl) rfl #[.slice A0 l0.length c0] rfl mp_ ?_; (with_reducible refine (laws_big.calls _ _ l0 false _ ?side1 ?side2 A2.out).mono ?_); (case side1 => repeat (first | exact HR0.out | (with_reducible refine Kd.C_alloc ?_ _) | (with_reducible refine Kd.C_drewN ?_ _) | (with_reducible refine Kd.C_drew ?_))); (case side2 => exact HC0.out); rintro e w' ⟨rfl, ⟨nd, rfl⟩⟩; refine ⟨_, rfl, ?_⟩) | ((with_reducible refine gate_callee (f := 29) rfl ?_); refine goesL_ (some 19) rfl rfl Try.func29 (by kernel_rfl) rfl #[.slice A0 l0.length c0] rfl mp_ ?_; (with_reducible refine (spec_DrawScaleWide.calls k _ _ l0 t267 t268 t269 t270 _ ?side1 ?side2 A4.out).mono ?_); (case side1 => repeat (first | exact HR0.out | (with_reducible refine Kd.C_alloc ?_ _) | (with_reducible refine Kd.C_drewN ?_ _) | (with_reducible refine Kd.C_drew ?_))); (case side2 => exact HC0.out); rintro e w25 ⟨rfl, hb⟩; refine ⟨_, rfl, ?_⟩; have n0_ := Aside0.mk (below_step bel_ hb); clear HB; have HB := n0_; clear n0_; (try clear hb); (try clear hb2); (try clear hk); (try clear hi)) | ((with_reducible refine gate_dst (N := 3) rfl ?_); refine box_event ?hg (N := 3) ?hd (cs := #[.bool false, .int .u64 0, .int .u64 0]) (t := 29) ?hr ?_; (case hd => rfl); (case hg => rfl); (case hr => first | (go_simp; done) | (go_simp; rfl)); intro gb271 hg w26 hbox hb; have n0_ := Aside0.mk (below_step bel_ hb); have n1_ := Aside0.mk (hbox); have n2_ := Aside0.mk ((by rw [hg]; exact (below_size bel_) : w.heap.size ≤ gb271)); have n3_ := Aside0.mk ((by rw [hg]; exact (below_size bel_) : w.heap.size ≤ gb271)); clear HB; have HB := n0_; have BK271 := n1_; have GW271 := n2_; have GE271 := n3_; clear n0_ n1_ n2_ n3_; clear hb hbox hg; have hcz27_0 : w26.cell? ⟨gb271, 0, none⟩ = some (.bool false) := (blk_cell BK271.out 0).trans rfl; have hcz27_1 : w26.cell? ⟨gb271, 1, none⟩ = some (.int .u64 0) := (blk_cell BK271.out 1).trans rfl; have hcz27_2 : w26.cell? ⟨gb271, 2, none⟩ = some (.int .u64 0) := (blk_cell BK271.out 2).trans rfl; have hfz27_0 := blk_frozen BK271.out 0; have hfz27_1 := blk_frozen BK271.out 1; have hfz27_2 := blk_frozen BK271.out 2) | ((with_reducible refine gate_callee (f := 30) rfl ?_); refine goesL_ (some 25) rfl rfl Try.func30 (by kernel_rfl) rfl #[.agg #[.bool t267, .int .u64 t268, .int .u64 t269], .int .i64 t270] rfl mp_ ?_; (with_reducible refine (impl_ScaleWide.calls t267 t268 t269 t270 t272 t273 t274 t275 _ A5.out).mono ?_); rintro e w28 ⟨rfl, hb⟩; refine ⟨_, rfl, ?_⟩; have n0_ := Aside0.mk (blk_below (g := gb271) (o := .cells #[.bool t267, .int .u64 t268, .int .u64 t269] 29 (0, 0)) (by (with_reducible repeat (first | refine bN_ _ ?_ | refine bd_ ?_ | refine ba_ _ ?_)); refine blk_put (cs := #[.bool t267, .int .u64 t268, .int .u64 0]) ?_ 2 _ rfl; (with_reducible repeat (first | refine bN_ _ ?_ | refine bd_ ?_ | refine ba_ _ ?_)); refine blk_put (cs := #[.bool t267, .int .u64 0, .int .u64 0]) ?_ 1 _ rfl; (with_reducible repeat (first | refine bN_ _ ?_ | refine bd_ ?_ | refine ba_ _ ?_)); refine blk_put (cs := #[.bool false, .int .u64 0, .int .u64 0]) ?_ 0 _ rfl; (with_reducible repeat (first | refine bN_ _ ?_ | refine bd_ ?_ | refine ba_ _ ?_)); exact BK271.out) hb); have n1_ := Aside0.mk (below_step bel_ hb); clear BK271; clear HB; have BK271 := n0_; have HB := n1_; clear n0_ n1_; (try clear hb); (try clear hb2); (try clear hk); (try clear hi)) | ((with_reducible refine gate_dst (N := 5) rfl ?_); refine box_event ?hg (N := 5) ?hd (cs := #[.bool false, .int .u64 0, .int .u64 0]) (t := 29) ?hr ?_; (case hd => rfl); (case hg => rfl); (case hr => first | (go_simp; done) | (go_simp; rfl)); intro gb276 hg w29 hbox hb; have n0_ := Aside0.mk (blk_below (g := gb271) (o := .cells #[.bool t267, .int .u64 t268, .int .u64 t269] 29 (0, 0)) (by (with_reducible repeat (first | refine bN_ _ ?_ | refine bd_ ?_ | refine ba_ _ ?_)); exact BK271.out) hb); have n1_ := Aside0.mk (below_step bel_ hb); have n2_ := Aside0.mk (hbox); have n3_ := Aside0.mk ((by rw [hg]; exact (below_size bel_) : w.heap.size ≤ gb276)); have n4_ := Aside0.mk ((by rw [hg]; exact (below_size bel_) : w.heap.size ≤ gb276)); have n5_ := Aside0.mk ((by rw [hg]; exact Nat.ne_of_lt (blk_lt (g := gb271) (o := .cells #[.bool t267, .int .u64 t268, .int .u64 t269] 29 (0, 0)) (by (with_reducible repeat (first | refine bN_ _ ?_ | refine bd_ ?_ | refine ba_ _ ?_)); exact BK271.out)) : gb271 ≠ gb276)); have n6_ := Aside0.mk ((by rw [hg]; exact Nat.ne_of_gt (blk_lt (g := gb271) (o := .cells #[.bool t267, .int .u64 t268, .int .u64 t269] 29 (0, 0)) (by (with_reducible repeat (first | refine bN_ _ ?_ | refine bd_ ?_ | refine ba_ _ ?_)); exact BK271.out)) : gb276 ≠ gb271)); clear BK271; clear HB; have BK271 := n0_; have HB := n1_; have BK276 := n2_; have GW276 := n3_; have GE276 := n4_; have NB271_276 := n5_; have NB276_271 := n6_; clear n0_ n1_ n2_ n3_ n4_ n5_ n6_; clear hb hbox hg; have hnb30 := NB276_271.out; have hnc30 := NB271_276.out; have hcz31_0 : w29.cell? ⟨gb276, 0, none⟩ = some (.bool false) := (blk_cell BK276.out 0).trans rfl; have hcz31_1 : w29.cell? ⟨gb276, 1, none⟩ = some (.int .u64 0) := (blk_cell BK276.out 1).trans rfl; have hcz31_2 : w29.cell? ⟨gb276, 2, none⟩ = some (.int .u64 0) := (blk_cell BK276.out 2).trans rfl; have hfz31_0 := blk_frozen BK276.out 0; have hfz31_1 := blk_frozen BK276.out 1; have hfz31_2 := blk_frozen BK276.out 2; have hcz32_0 : w29.cell? ⟨gb271, 0, none⟩ = some (.bool t267) := (blk_cell BK271.out 0).trans rfl; have hcz32_1 : w29.cell? ⟨gb271, 1, none⟩ = some (.int .u64 t268) := (blk_cell BK271.out 1).trans rfl; have hcz32_2 : w29.cell? ⟨gb271, 2, none⟩ = some (.int .u64 t269) := (blk_cell BK271.out 2).trans rfl; have hfz32_0 := blk_frozen BK271.out 0; have hfz32_1 := blk_frozen BK271.out 1; have hfz32_2 := blk_frozen BK271.out 2) | ((with_reducible refine gate_callee (f := 31) rfl ?_); refine goesL_ (some 31) rfl rfl Try.func31 (by kernel_rfl) rfl #[.agg #[.bool t267, .int .u64 t268, .int .u64 t269], .int .i64 t270] rfl mp_ ?_; (with_reducible refine (spec_ScaleWide.calls t267 t268 t269 t270 t277 t278 t279 t280 _ A6.out).mono ?_); rintro e w33 ⟨rfl, hb⟩; refine ⟨_, rfl, ?_⟩; have n0_ := Aside0.mk (blk_below (g := gb271) (o := .cells #[.bool t267, .int .u64 t268, .int .u64 t269] 29 (0, 0)) (by (with_reducible repeat (first | refine bN_ _ ?_ | refine bd_ ?_ | refine ba_ _ ?_)); refine blk_far ?_ NB271_276.out _; (with_reducible repeat (first | refine bN_ _ ?_ | refine bd_ ?_ | refine ba_ _ ?_)); refine blk_far ?_ NB271_276.out _; (with_reducible repeat (first | refine bN_ _ ?_ | refine bd_ ?_ | refine ba_ _ ?_)); refine blk_far ?_ NB271_276.out _; (with_reducible repeat (first | refine bN_ _ ?_ | refine bd_ ?_ | refine ba_ _ ?_)); exact BK271.out) hb); have n1_ := Aside0.mk (blk_below (g := gb276) (o := .cells #[.bool t272, .int .u64 t273, .int .u64 t274] 29 (0, 0)) (by (with_reducible repeat (first | refine bN_ _ ?_ | refine bd_ ?_ | refine ba_ _ ?_)); refine blk_put (cs := #[.bool t272, .int .u64 t273, .int .u64 0]) ?_ 2 _ rfl; (with_reducible repeat (first | refine bN_ _ ?_ | refine bd_ ?_ | refine ba_ _ ?_)); refine blk_put (cs := #[.bool t272, .int .u64 0, .int .u64 0]) ?_ 1 _ rfl; (with_reducible repeat (first | refine bN_ _ ?_ | refine bd_ ?_ | refine ba_ _ ?_)); refine blk_put (cs := #[.bool false, .int .u64 0, .int .u64 0]) ?_ 0 _ rfl; (with_reducible repeat (first | refine bN_ _ ?_ | refine bd_ ?_ | refine ba_ _ ?_)); exact BK276.out) hb); have n2_ := Aside0.mk (below_step bel_ hb); clear BK271; clear BK276; clear HB; have BK271 := n0_; have BK276 := n1_; have HB := n2_; clear n0_ n1_ n2_; (try clear hb); (try clear hb2); (try clear hk); (try clear hi)) | ((with_reducible refine gate_dst (N := 7) rfl ?_); refine box_event ?hg (N := 7) ?hd (cs := #[.bool false, .int .u64 0, .int .u64 0]) (t := 29) ?hr ?_; (case hd => rfl); (case hg => rfl); (case hr => first | (go_simp; done) | (go_simp; rfl)); intro gb281 hg w34 hbox hb; have n0_ := Aside0.mk (blk_below (g := gb271) (o := .cells #[.bool t267, .int .u64 t268, .int .u64 t269] 29 (0, 0)) (by (with_reducible repeat (first | refine bN_ _ ?_ | refine bd_ ?_ | refine ba_ _ ?_)); exact BK271.out) hb); have n1_ := Aside0.mk (blk_below (g := gb276) (o := .cells #[.bool t272, .int .u64 t273, .int .u64 t274] 29 (0, 0)) (by (with_reducible repeat (first | refine bN_ _ ?_ | refine bd_ ?_ | refine ba_ _ ?_)); exact BK276.out) hb); have n2_ := Aside0.mk (below_step bel_ hb); have n3_ := Aside0.mk (hbox); have n4_ := Aside0.mk ((by rw [hg]; exact (below_size bel_) : w.heap.size ≤ gb281)); have n5_ := Aside0.mk ((by rw [hg]; exact (below_size bel_) : w.heap.size ≤ gb281)); have n6_ := Aside0.mk ((by rw [hg]; exact Nat.ne_of_lt (blk_lt (g := gb271) (o := .cells #[.bool t267, .int .u64 t268, .int .u64 t269] 29 (0, 0)) (by (with_reducible repeat (first | refine bN_ _ ?_ | refine bd_ ?_ | refine ba_ _ ?_)); exact BK271.out)) : gb271 ≠ gb281)); have n7_ := Aside0.mk ((by rw [hg]; exact Nat.ne_of_gt (blk_lt (g := gb271) (o := .cells #[.bool t267, .int .u64 t268, .int .u64 t269] 29 (0, 0)) (by (with_reducible repeat (first | refine bN_ _ ?_ | refine bd_ ?_ | refine ba_ _ ?_)); exact BK271.out)) : gb281 ≠ gb271)); have n8_ := Aside0.mk ((by rw [hg]; exact Nat.ne_of_lt (blk_lt (g := gb276) (o := .cells #[.bool t272, .int .u64 t273, .int .u64 t274] 29 (0, 0)) (by (with_reducible repeat (first | refine bN_ _ ?_ | refine bd_ ?_ | refine ba_ _ ?_)); exact BK276.out)) : gb276 ≠ gb281)); have n9_ := Aside0.mk ((by rw [hg]; exact Nat.ne_of_gt (blk_lt (g := gb276) (o := .cells #[.bool t272, .int .u64 t273, .int .u64 t274] 29 (0, 0)) (by (with_reducible repeat (first | refine bN_ _ ?_ | refine bd_ ?_ | refine ba_ _ ?_)); exact BK276.out)) : gb281 ≠ gb276)); clear BK271; clear BK276; clear HB; have BK271 := n0_; have BK276 := n1_; have HB := n2_; have BK281 := n3_; have GW281 := n4_; have GE281 := n5_; have NB271_281 := n6_; have NB281_271 := n7_; have NB276_281 := n8_; have NB281_276 := n9_; clear n0_ n1_ n2_ n3_ n4_ n5_ n6_ n7_ n8_ n9_; clear hb hbox hg; have hnb35 := NB281_271.out; have hnc35 := NB271_281.out; have hnb36 := NB281_276.out; have hnc36 := NB276_281.out; have hcz37_0 : w34.cell? ⟨gb281, 0, none⟩ = some (.bool false) := (blk_cell BK281.out 0).trans rfl; have hcz37_1 : w34.cell? ⟨gb281, 1, none⟩ = some (.int .u64 0) := (blk_cell BK281.out 1).trans rfl; have hcz37_2 : w34.cell? ⟨gb281, 2, none⟩ = some (.int .u64 0) := (blk_cell BK281.out 2).trans rfl; have hfz37_0 := blk_frozen BK281.out 0; have hfz37_1 := blk_frozen BK281.out 1; have hfz37_2 := blk_frozen BK281.out 2) | ((with_reducible refine gate_callee (f := 32) rfl ?_); refine goesL_ (some 39) rfl rfl Try.func32 (by kernel_rfl) rfl #[.slice A0 l0.length c0] rfl mp_ ?_; (with_reducible refine (spec_DrawMulWide.calls k _ _ l0 t282 t283 _ ?side1 ?side2 A21.out).mono ?_); (case side1 => exact Kd.C_below HR0.out bel_); (case side2 => exact HC0.out); rintro e w38 ⟨rfl, hb⟩; refine ⟨_, rfl, ?_⟩; have n0_ := Aside0.mk (blk_below (g := gb271) (o := .cells #[.bool t267, .int .u64 t268, .int .u64 t269] 29 (0, 0)) (by (with_reducible repeat (first | refine bN_ _ ?_ | refine bd_ ?_ | refine ba_ _ ?_)); refine blk_far ?_ NB271_281.out _; (with_reducible repeat (first | refine bN_ _ ?_ | refine bd_ ?_ | refine ba_ _ ?_)); refine blk_far ?_ NB271_281.out _; (with_reducible repeat (first | refine bN_ _ ?_ | refine bd_ ?_ | refine ba_ _ ?_)); refine blk_far ?_ NB271_281.out _; (with_reducible repeat (first | refine bN_ _ ?_ | refine bd_ ?_ | refine ba_ _ ?_)); exact BK271.out) hb); have n1_ := Aside0.mk (blk_below (g := gb276) (o := .cells #[.bool t272, .int .u64 t273, .int .u64 t274] 29 (0, 0)) (by (with_reducible repeat (first | refine bN_ _ ?_ | refine bd_ ?_ | refine ba_ _ ?_)); refine blk_far ?_ NB276_281.out _; (with_reducible repeat (first | refine bN_ _ ?_ | refine bd_ ?_ | refine ba_ _ ?_)); refine blk_far ?_ NB276_281.out _; (with_reducible repeat (first | refine bN_ _ ?_ | refine bd_ ?_ | refine ba_ _ ?_)); refine blk_far ?_ NB276_281.out _; (with_reducible repeat (first | refine bN_ _ ?_ | refine bd_ ?_ | refine ba_ _ ?_)); exact BK276.out) hb); have n2_ := Aside0.mk (blk_below (g := gb281) (o := .cells #[.bool t277, .int .u64 t278, .int .u64 t279] 29 (0, 0)) (by (with_reducible repeat (first | refine bN_ _ ?_ | refine bd_ ?_ | refine ba_ _ ?_)); refine blk_put (cs := #[.bool t277, .int .u64 t278, .int .u64 0]) ?_ 2 _ rfl; (with_reducible repeat (first | refine bN_ _ ?_ | refine bd_ ?_ | refine ba_ _ ?_)); refine blk_put (cs := #[.bool t277, .int .u64 0, .int .u64 0]) ?_ 1 _ rfl; (with_reducible repeat (first | refine bN_ _ ?_ | refine bd_ ?_ | refine ba_ _ ?_)); refine blk_put (cs := #[.bool false, .int .u64 0, .int .u64 0]) ?_ 0 _ rfl; (with_reducible repeat (first | refine bN_ _ ?_ | refine bd_ ?_ | refine ba_ _ ?_)); exact BK281.out) hb); have n3_ := Aside0.mk (below_step bel_ hb); clear BK271; clear BK276; clear BK281; clear HB; have BK271 := n0_; have BK276 := n1_; have BK281 := n2_; have HB := n3_; clear n0_ n1_ n2_ n3_; (try clear hb); (try clear hb2); (try clear hk); (try clear hi)) | ((with_reducible refine gate_callee (f := 33) rfl ?_); refine goesL_ (some 44) rfl rfl Try.func33 (by kernel_rfl) rfl #[.int .i64 t282] rfl mp_ ?_; (with_reducible refine (impl_WideOf.calls t282 t284 t285 t286 _ A22.out).mono ?_); rintro e w39 ⟨rfl, hb⟩; refine ⟨_, rfl, ?_⟩; have n0_ := Aside0.mk (blk_below (g := gb271) (o := .cells #[.bool t267, .int .u64 t268, .int .u64 t269] 29 (0, 0)) (by (with_reducible repeat (first | refine bN_ _ ?_ | refine bd_ ?_ | refine ba_ _ ?_)); exact BK271.out) hb); have n1_ := Aside0.mk (blk_below (g := gb276) (o := .cells #[.bool t272, .int .u64 t273, .int .u64 t274] 29 (0, 0)) (by (with_reducible repeat (first | refine bN_ _ ?_ | refine bd_ ?_ | refine ba_ _ ?_)); exact BK276.out) hb); have n2_ := Aside0.mk (blk_below (g := gb281) (o := .cells #[.bool t277, .int .u64 t278, .int .u64 t279] 29 (0, 0)) (by (with_reducible repeat (first | refine bN_ _ ?_ | refine bd_ ?_ | refine ba_ _ ?_)); exact BK281.out) hb); have n3_ := Aside0.mk (below_step bel_ hb); clear BK271; clear BK276; clear BK281; clear HB; have BK271 := n0_; have BK276 := n1_; have BK281 := n2_; have HB := n3_; clear n0_ n1_ n2_ n3_; (try clear hb); (try clear hb2); (try clear hk); (try clear hi)) | ((with_reducible refine gate_callee (f := 30) rfl ?_); refine goesL_ (some 46) rfl rfl Try.func30 (by kernel_rfl) rfl #[.agg #[.bool t284, .int .u64 t285, .int .u64 t286], .int .i64 t283] rfl mp_ ?_; (with_reducible refine (impl_ScaleWide.calls t284 t285 t286 t283 t287 t288 t289 t290 _ A23.out).mono ?_); rintro e w40 ⟨rfl, hb⟩; refine ⟨_, rfl, ?_⟩; have n0_ := Aside0.mk (blk_below (g := gb271) (o := .cells #[.bool t267, .int .u64 t268, .int .u64 t269] 29 (0, 0)) (by (with_reducible repeat (first | refine bN_ _ ?_ | refine bd_ ?_ | refine ba_ _ ?_)); exact BK271.out) hb); have n1_ := Aside0.mk (blk_below (g := gb276) (o := .cells #[.bool t272, .int .u64 t273, .int .u64 t274] 29 (0, 0)) (by (with_reducible repeat (first | refine bN_ _ ?_ | refine bd_ ?_ | refine ba_ _ ?_)); exact BK276.out) hb); have n2_ := Aside0.mk (blk_below (g := gb281) (o := .cells #[.bool t277, .int .u64 t278, .int .u64 t279] 29 (0, 0)) (by (with_reducible repeat (first | refine bN_ _ ?_ | refine bd_ ?_ | refine ba_ _ ?_)); exact BK281.out) hb); have n3_ := Aside0.mk (below_step bel_ hb); clear BK271; clear BK276; clear BK281; clear HB; have BK271 := n0_; have BK276 := n1_; have BK281 := n2_; have HB := n3_; clear n0_ n1_ n2_ n3_; (try clear hb); (try clear hb2); (try clear hk); (try clear hi)) | ((with_reducible refine gate_dst (N := 11) rfl ?_); refine box_event ?hg (N := 11) ?hd (cs := #[.bool false, .int .u64 0, .int .u64 0]) (t := 29) ?hr ?_; (case hd => rfl); (case hg => rfl); (case hr => first | (go_simp; done) | (go_simp; rfl)); intro gb291 hg w41 hbox hb; have n0_ := Aside0.mk (blk_below (g := gb271) (o := .cells #[.bool t267, .int .u64 t268, .int .u64 t269] 29 (0, 0)) (by (with_reducible repeat (first | refine bN_ _ ?_ | refine bd_ ?_ | refine ba_ _ ?_)); exact BK271.out) hb); have n1_ := Aside0.mk (blk_below (g := gb276) (o := .cells #[.bool t272, .int .u64 t273, .int .u64 t274] 29 (0, 0)) (by (with_reducible repeat (first | refine bN_ _ ?_ | refine bd_ ?_ | refine ba_ _ ?_)); exact BK276.out) hb); have n2_ := Aside0.mk (blk_below (g := gb281) (o := .cells #[.bool t277, .int .u64 t278, .int .u64 t279] 29 (0, 0)) (by (with_reducible repeat (first | refine bN_ _ ?_ | refine bd_ ?_ | refine ba_ _ ?_)); exact BK281.out) hb); have n3_ := Aside0.mk (below_step bel_ hb); have n4_ := Aside0.mk (hbox); have n5_ := Aside0.mk ((by rw [hg]; exact (below_size bel_) : w.heap.size ≤ gb291)); have n6_ := Aside0.mk ((by rw [hg]; exact (below_size bel_) : w.heap.size ≤ gb291)); have n7_ := Aside0.mk ((by rw [hg]; exact Nat.ne_of_lt (blk_lt (g := gb271) (o := .cells #[.bool t267, .int .u64 t268, .int .u64 t269] 29 (0, 0)) (by (with_reducible repeat (first | refine bN_ _ ?_ | refine bd_ ?_ | refine ba_ _ ?_)); exact BK271.out)) : gb271 ≠ gb291)); have n8_ := Aside0.mk ((by rw [hg]; exact Nat.ne_of_gt (blk_lt (g := gb271) (o := .cells #[.bool t267, .int .u64 t268, .int .u64 t269] 29 (0, 0)) (by (with_reducible repeat (first | refine bN_ _ ?_ | refine bd_ ?_ | refine ba_ _ ?_)); exact BK271.out)) : gb291 ≠ gb271)); have n9_ := Aside0.mk ((by rw [hg]; exact Nat.ne_of_lt (blk_lt (g := gb276) (o := .cells #[.bool t272, .int .u64 t273, .int .u64 t274] 29 (0, 0)) (by (with_reducible repeat (first | refine bN_ _ ?_ | refine bd_ ?_ | refine ba_ _ ?_)); exact BK276.out)) : gb276 ≠ gb291)); have n10_ := Aside0.mk ((by rw [hg]; exact Nat.ne_of_gt (blk_lt (g := gb276) (o := .cells #[.bool t272, .int .u64 t273, .int .u64 t274] 29 (0, 0)) (by (with_reducible repeat (first | refine bN_ _ ?_ | refine bd_ ?_ | refine ba_ _ ?_)); exact BK276.out)) : gb291 ≠ gb276)); have n11_ := Aside0.mk ((by rw [hg]; exact Nat.ne_of_lt (blk_lt (g := gb281) (o := .cells #[.bool t277, .int .u64 t278, .int .u64 t279] 29 (0, 0)) (by (with_reducible repeat (first | refine bN_ _ ?_ | refine bd_ ?_ | refine ba_ _ ?_)); exact BK281.out)) : gb281 ≠ gb291)); have n12_ := Aside0.mk ((by rw [hg]; exact Nat.ne_of_gt (blk_lt (g := gb281) (o := .cells #[.bool t277, .int .u64 t278, .int .u64 t279] 29 (0, 0)) (by (with_reducible repeat (first | refine bN_ _ ?_ | refine bd_ ?_ | refine ba_ _ ?_)); exact BK281.out)) : gb291 ≠ gb281)); clear BK271; clear BK276; clear BK281; clear HB; have BK271 := n0_; have BK276 := n1_; have BK281 := n2_; have HB := n3_; have BK291 := n4_; have GW291 := n5_; have GE291 := n6_; have NB271_291 := n7_; have NB291_271 := n8_; have NB276_291 := n9_; have NB291_276 := n10_; have NB281_291 := n11_; have NB291_281 := n12_; clear n0_ n1_ n2_ n3_ n4_ n5_ n6_ n7_ n8_ n9_ n10_ n11_ n12_; clear hb hbox hg; have hnb42 := NB291_271.out; have hnc42 := NB271_291.out; have hnb43 := NB291_276.out; have hnc43 := NB276_291.out; have hnb44 := NB291_281.out; have hnc44 := NB281_291.out; have hcz45_0 : w41.cell? ⟨gb291, 0, none⟩ = some (.bool false) := (blk_cell BK291.out 0).trans rfl; have hcz45_1 : w41.cell? ⟨gb291, 1, none⟩ = some (.int .u64 0) := (blk_cell BK291.out 1).trans rfl; have hcz45_2 : w41.cell? ⟨gb291, 2, none⟩ = some (.int .u64 0) := (blk_cell BK291.out 2).trans rfl; have hfz45_0 := blk_frozen BK291.out 0; have hfz45_1 := blk_frozen BK291.out 1; have hfz45_2 := blk_frozen BK291.out 2))
      (try simp only [Act.put, List.setIfInBounds_toArray, List.set_cons_zero, List.set_cons_succ])
      go_cut [57] (fun v57 wc => ∃ (kq : Nat) (x57_23 : Bool), v57 = .bool x57_23 ∧ Aside0 (laws_FnScale.j0 kq t275 x57_23 t267 t268 t269 t272 t273 t274 = some r) ∧ Aside0 (kq ≤ k) ∧ Aside0 (wc.heap[gb271]? = some (.cells #[.bool t267, .int .u64 t268, .int .u64 t269] 29 (0, 0))) ∧ Aside0 (wc.heap[gb276]? = some (.cells #[.bool t272, .int .u64 t273, .int .u64 t274] 29 (0, 0))) ∧ Aside0 (wc.heap[gb281]? = some (.cells #[.bool t277, .int .u64 t278, .int .u64 t279] 29 (0, 0))) ∧ Aside0 (wc.heap[gb291]? = some (.cells #[.bool t287, .int .u64 t288, .int .u64 t289] 29 (0, 0))) ∧ Aside0 (Below w.heap.size w wc))
      case first =>
        have H := HC24.out
        clear HC24
        by_cases c46 : t290 = true
        · subst c46
          have H1 : ((impl_MulWide.f t282 t283).bind fun bt292 => (laws_FnScale.j0 k t275 (!(t287 == bt292.1) || (!(t288 == bt292.2.1) || (!(t289 == bt292.2.2)))) t267 t268 t269 t272 t273 t274)) = some r := by rw [if_pos rfl] at H; exact H
          clear H
          have H := H1
          clear H1
          replace H := Option.bind_eq_some_iff.mp H
          obtain ⟨⟨t292, t293, t294⟩, A470, H⟩ := H
          replace H : (laws_FnScale.j0 k t275 (!(t287 == t292) || (!(t288 == t293) || (!(t289 == t294)))) t267 t268 t269 t272 t273 t274) = some r := H
          have A47 := Aside0.mk A470
          clear A470
          have H' := Aside0.mk H
          clear H
          try go_wp2
          have n0_ : Aside0 ((((w41.setCell ⟨gb291, 0, none⟩ (.bool t287)).setCell ⟨gb291, 1, none⟩ (.int .u64 t288)).setCell ⟨gb291, 2, none⟩ (.int .u64 t289)).heap[gb271]? = some (.cells #[.bool t267, .int .u64 t268, .int .u64 t269] 29 (0, 0))) := ⟨by (with_reducible repeat (first | refine bN_ _ ?_ | refine bd_ ?_ | refine ba_ _ ?_)); refine blk_far ?_ NB271_291.out _; (with_reducible repeat (first | refine bN_ _ ?_ | refine bd_ ?_ | refine ba_ _ ?_)); refine blk_far ?_ NB271_291.out _; (with_reducible repeat (first | refine bN_ _ ?_ | refine bd_ ?_ | refine ba_ _ ?_)); refine blk_far ?_ NB271_291.out _; (with_reducible repeat (first | refine bN_ _ ?_ | refine bd_ ?_ | refine ba_ _ ?_)); exact BK271.out⟩
          have n1_ : Aside0 ((((w41.setCell ⟨gb291, 0, none⟩ (.bool t287)).setCell ⟨gb291, 1, none⟩ (.int .u64 t288)).setCell ⟨gb291, 2, none⟩ (.int .u64 t289)).heap[gb276]? = some (.cells #[.bool t272, .int .u64 t273, .int .u64 t274] 29 (0, 0))) := ⟨by (with_reducible repeat (first | refine bN_ _ ?_ | refine bd_ ?_ | refine ba_ _ ?_)); refine blk_far ?_ NB276_291.out _; (with_reducible repeat (first | refine bN_ _ ?_ | refine bd_ ?_ | refine ba_ _ ?_)); refine blk_far ?_ NB276_291.out _; (with_reducible repeat (first | refine bN_ _ ?_ | refine bd_ ?_ | refine ba_ _ ?_)); refine blk_far ?_ NB276_291.out _; (with_reducible repeat (first | refine bN_ _ ?_ | refine bd_ ?_ | refine ba_ _ ?_)); exact BK276.out⟩
          have n2_ : Aside0 ((((w41.setCell ⟨gb291, 0, none⟩ (.bool t287)).setCell ⟨gb291, 1, none⟩ (.int .u64 t288)).setCell ⟨gb291, 2, none⟩ (.int .u64 t289)).heap[gb281]? = some (.cells #[.bool t277, .int .u64 t278, .int .u64 t279] 29 (0, 0))) := ⟨by (with_reducible repeat (first | refine bN_ _ ?_ | refine bd_ ?_ | refine ba_ _ ?_)); refine blk_far ?_ NB281_291.out _; (with_reducible repeat (first | refine bN_ _ ?_ | refine bd_ ?_ | refine ba_ _ ?_)); refine blk_far ?_ NB281_291.out _; (with_reducible repeat (first | refine bN_ _ ?_ | refine bd_ ?_ | refine ba_ _ ?_)); refine blk_far ?_ NB281_291.out _; (with_reducible repeat (first | refine bN_ _ ?_ | refine bd_ ?_ | refine ba_ _ ?_)); exact BK281.out⟩
          have n3_ : Aside0 ((((w41.setCell ⟨gb291, 0, none⟩ (.bool t287)).setCell ⟨gb291, 1, none⟩ (.int .u64 t288)).setCell ⟨gb291, 2, none⟩ (.int .u64 t289)).heap[gb291]? = some (.cells #[.bool t287, .int .u64 t288, .int .u64 t289] 29 (0, 0))) := ⟨by (with_reducible repeat (first | refine bN_ _ ?_ | refine bd_ ?_ | refine ba_ _ ?_)); refine blk_put (cs := #[.bool t287, .int .u64 t288, .int .u64 0]) ?_ 2 _ rfl; (with_reducible repeat (first | refine bN_ _ ?_ | refine bd_ ?_ | refine ba_ _ ?_)); refine blk_put (cs := #[.bool t287, .int .u64 0, .int .u64 0]) ?_ 1 _ rfl; (with_reducible repeat (first | refine bN_ _ ?_ | refine bd_ ?_ | refine ba_ _ ?_)); refine blk_put (cs := #[.bool false, .int .u64 0, .int .u64 0]) ?_ 0 _ rfl; (with_reducible repeat (first | refine bN_ _ ?_ | refine bd_ ?_ | refine ba_ _ ?_)); exact BK291.out⟩
          have n4_ : Aside0 (Below w.heap.size w (((w41.setCell ⟨gb291, 0, none⟩ (.bool t287)).setCell ⟨gb291, 1, none⟩ (.int .u64 t288)).setCell ⟨gb291, 2, none⟩ (.int .u64 t289))) := ⟨by repeat (first | (with_reducible first | exact HB.out | apply below_alloc | apply pw_below_drewN | apply below_drew1 | refine below_set ?_ GE271.out | refine below_set ?_ GE276.out | refine below_set ?_ GE281.out | refine below_set ?_ GE291.out) | exact HB.out)⟩
          (try clear BK271)
          (try clear BK276)
          (try clear BK281)
          (try clear BK291)
          (try clear HB)
          generalize (((w41.setCell ⟨gb291, 0, none⟩ (.bool t287)).setCell ⟨gb291, 1, none⟩ (.int .u64 t288)).setCell ⟨gb291, 2, none⟩ (.int .u64 t289)) = w48 at n0_ n1_ n2_ n3_ n4_ ⊢
          have BK271 := n0_
          have BK276 := n1_
          have BK281 := n2_
          have BK291 := n3_
          have HB := n4_
          clear n0_ n1_ n2_ n3_ n4_
          have n0_ := Aside0.mk (blk_drew BK271.out)
          have n1_ := Aside0.mk (blk_drew BK276.out)
          have n2_ := Aside0.mk (blk_drew BK281.out)
          have n3_ := Aside0.mk (blk_drew BK291.out)
          have n4_ := Aside0.mk (below_drew1 HB.out)
          clear BK271
          clear BK276
          clear BK281
          clear BK291
          clear HB
          have BK271 := n0_
          have BK276 := n1_
          have BK281 := n2_
          have BK291 := n3_
          have HB := n4_
          clear n0_ n1_ n2_ n3_ n4_
          refine start_ (n := 9) (S := fun w' => w'.cell? ⟨gb291, 0, none⟩ = some (.bool t287) ∧ w'.cell? ⟨gb291, 1, none⟩ = some (.int .u64 t288) ∧ w'.cell? ⟨gb291, 2, none⟩ = some (.int .u64 t289)) (ds := []) #[false, false, false, false, false, false, false, false, false] (by kernel_rfl) rfl rfl ⟨(blk_cell BK291.out 0).trans rfl, (blk_cell BK291.out 1).trans rfl, (blk_cell BK291.out 2).trans rfl⟩ (fun hHeld => ?_); refine with_tabW laws_FnScale.tab10 laws_FnScale.bits10 (fun HT_ HW_ => ?_)
          generalize w48.drew = w49 at BK271 BK276 BK281 BK291 HB hHeld ⊢
          refine pure_ (i := 0) (N := some 49) (v := ?_) (a' := ?_) #[true, false, false, false, false, false, false, false, false] rfl rfl (any_of HT_.out (by kernel_rfl)) (fun _ _ _ h => h) (Or.inl ⟨by rfl, ?_⟩) ?_ ?_
          rotate_left
          · intro w'
            go_simp
            with_reducible rfl
          rotate_left
          · simp only [Act.put, List.setIfInBounds_toArray, List.set_cons_zero, List.set_cons_succ, i64_w, i32_w]
            rfl
          refine pure_ (i := 1) (N := some 50) (v := ?_) (a' := ?_) #[true, true, false, false, false, false, false, false, false] rfl rfl (any_of HT_.out (by kernel_rfl)) (fun _ _ _ h => h) (Or.inl ⟨by rfl, ?_⟩) ?_ ?_
          rotate_left
          · intro w'
            go_simp
            with_reducible rfl
          rotate_left
          · simp only [Act.put, List.setIfInBounds_toArray, List.set_cons_zero, List.set_cons_succ, i64_w, i32_w]
            rfl
          refine pure_ (i := 2) (N := some 51) (v := ?_) (a' := ?_) #[true, true, true, false, false, false, false, false, false] rfl rfl (any_of HT_.out (by kernel_rfl)) (fun _ _ _ h => h) (Or.inl ⟨by rfl, ?_⟩) ?_ ?_
          rotate_left
          · intro w'
            go_simp
            with_reducible rfl
          rotate_left
          · simp only [Act.put, List.setIfInBounds_toArray, List.set_cons_zero, List.set_cons_succ, i64_w, i32_w]
            rfl
          refine pure_ (i := 4) (N := some 53) (v := ?_) (a' := ?_) #[true, true, true, false, true, false, false, false, false] rfl rfl (any_of HT_.out (by kernel_rfl)) (fun _ _ _ h => h) (Or.inl ⟨by rfl, ?_⟩) ?_ ?_
          rotate_left
          · intro w'
            go_simp
            with_reducible rfl
          rotate_left
          · simp only [Act.put, List.setIfInBounds_toArray, List.set_cons_zero, List.set_cons_succ, i64_w, i32_w]
            rfl
          refine pure_ (i := 5) (N := some 54) (v := ?_) (a' := ?_) #[true, true, true, false, true, true, false, false, false] rfl rfl (any_of HT_.out (by kernel_rfl)) (fun _ _ _ h => h) (Or.inl ⟨by rfl, ?_⟩) ?_ ?_
          rotate_left
          · intro w'
            go_simp
            with_reducible rfl
          rotate_left
          · simp only [Act.put, List.setIfInBounds_toArray, List.set_cons_zero, List.set_cons_succ, i64_w, i32_w]
            rfl
          refine take_ (i := 3) (N := some 52) (v := ?_) (a' := ?_) #[true, true, true, true, true, true, false, false, false] rfl rfl (take_ofW HT_.out HW_.out (by kernel_rfl)) (fun _ _ _ h => h) (Or.inl ⟨by rfl, ?_⟩) hHeld ?_ ?_
          rotate_left
          · rintro w' ⟨s0, s1, s2⟩
            go_simp
            with_reducible rfl
          rotate_left
          · simp only [Act.put, List.setIfInBounds_toArray, List.set_cons_zero, List.set_cons_succ, i64_w, i32_w]
            rfl
          refine one_ (i := 6) (N := some 55) #[true, true, true, true, true, true, true, false, false] rfl rfl (one_of HT_.out (by kernel_rfl)) (by decide) (fun K hK => ?_)
          refine goes_ Try.func34 (by kernel_rfl) rfl #[.int .i64 t282, .int .i64 t283] (by rfl) rfl rfl mp_ ?_
          with_reducible refine (impl_MulWide.calls t282 t283 t292 t293 t294 _ A47.out).mono ?_
          rintro e w50 ⟨rfl, hb⟩
          refine ⟨_, rfl, ?_⟩
          have n0_ := Aside0.mk (blk_below (g := gb271) (o := .cells #[.bool t267, .int .u64 t268, .int .u64 t269] 29 (0, 0)) (by (with_reducible repeat (first | refine bN_ _ ?_ | refine bd_ ?_ | refine ba_ _ ?_)); exact BK271.out) hb)
          have n1_ := Aside0.mk (blk_below (g := gb276) (o := .cells #[.bool t272, .int .u64 t273, .int .u64 t274] 29 (0, 0)) (by (with_reducible repeat (first | refine bN_ _ ?_ | refine bd_ ?_ | refine ba_ _ ?_)); exact BK276.out) hb)
          have n2_ := Aside0.mk (blk_below (g := gb281) (o := .cells #[.bool t277, .int .u64 t278, .int .u64 t279] 29 (0, 0)) (by (with_reducible repeat (first | refine bN_ _ ?_ | refine bd_ ?_ | refine ba_ _ ?_)); exact BK281.out) hb)
          have n3_ := Aside0.mk (blk_below (g := gb291) (o := .cells #[.bool t287, .int .u64 t288, .int .u64 t289] 29 (0, 0)) (by (with_reducible repeat (first | refine bN_ _ ?_ | refine bd_ ?_ | refine ba_ _ ?_)); exact BK291.out) hb)
          have n4_ := Aside0.mk (below_step bel_ hb)
          clear BK271
          clear BK276
          clear BK281
          clear BK291
          clear HB
          have BK271 := n0_
          have BK276 := n1_
          have BK281 := n2_
          have BK291 := n3_
          have HB := n4_
          clear n0_ n1_ n2_ n3_ n4_
          (try clear hb)
          (try clear hb2)
          (try clear hk)
          (try clear hi)
          refine hK.out _ _ ⟨(blk_cell BK291.out 0).trans rfl, (blk_cell BK291.out 1).trans rfl, (blk_cell BK291.out 2).trans rfl⟩ (fun hHeld => ?_)
          clear hK K
          refine norm_ (a' := ?_) ?_ ?_
          rotate_left
          · show Act.put _ (some 55) _ = _
            simp only [Act.put, List.setIfInBounds_toArray, List.set_cons_zero, List.set_cons_succ, i64_w, i32_w]
            rfl
          refine pure_ (i := 7) (N := some 56) (v := ?_) (a' := ?_) #[true, true, true, true, true, true, true, true, false] rfl rfl (any_of HT_.out (by kernel_rfl)) (fun _ _ _ h => h) (Or.inl ⟨by rfl, ?_⟩) ?_ ?_
          rotate_left
          · intro w'
            go_simp
            with_reducible rfl
          rotate_left
          · simp only [Act.put, List.setIfInBounds_toArray, List.set_cons_zero, List.set_cons_succ, i64_w, i32_w]
            rfl
          refine pure_ (i := 8) (N := some 57) (v := ?_) (a' := ?_) #[true, true, true, true, true, true, true, true, true] rfl rfl (any_of HT_.out (by kernel_rfl)) (fun _ _ _ h => h) (Or.inl ⟨by rfl, ?_⟩) ?_ ?_
          rotate_left
          · intro w'
            go_simp
            with_reducible rfl
          rotate_left
          · simp only [Act.put, List.setIfInBounds_toArray, List.set_cons_zero, List.set_cons_succ, i64_w, i32_w]
            rfl
          refine done_ (done_of HT_.out (by kernel_rfl)) ?_
          try go_wp2
          go_meet
          case rel => exact ⟨_, ((!(t287 == t292) || (!(t288 == t293) || (!(t289 == t294))))), (by first | rfl | (simp; done) | (simp [*]; done)), H', ⟨by first | omega | exact Nat.le_refl _⟩, ⟨by (with_reducible repeat (first | refine bN_ _ ?_ | refine bd_ ?_ | refine ba_ _ ?_)); exact BK271.out⟩, ⟨by (with_reducible repeat (first | refine bN_ _ ?_ | refine bd_ ?_ | refine ba_ _ ?_)); exact BK276.out⟩, ⟨by (with_reducible repeat (first | refine bN_ _ ?_ | refine bd_ ?_ | refine ba_ _ ?_)); exact BK281.out⟩, ⟨by (with_reducible repeat (first | refine bN_ _ ?_ | refine bd_ ?_ | refine ba_ _ ?_)); exact BK291.out⟩, ⟨by repeat (first | (with_reducible first | exact HB.out | apply below_alloc | apply pw_below_drewN | apply below_drew1 | refine below_set ?_ GE271.out | refine below_set ?_ GE276.out | refine below_set ?_ GE281.out | refine below_set ?_ GE291.out) | exact HB.out)⟩⟩
        · replace c46 := Bool.eq_false_iff.mpr c46
          subst c46
          have H1 : (laws_FnScale.j0 k t275 true t267 t268 t269 t272 t273 t274) = some r := by rw [if_neg (show ¬ (false = true) by decide)] at H; exact H
          clear H
          have H := H1
          clear H1
          have H' := Aside0.mk H
          clear H
          try go_wp2
          have n0_ : Aside0 ((((w41.setCell ⟨gb291, 0, none⟩ (.bool t287)).setCell ⟨gb291, 1, none⟩ (.int .u64 t288)).setCell ⟨gb291, 2, none⟩ (.int .u64 t289)).heap[gb271]? = some (.cells #[.bool t267, .int .u64 t268, .int .u64 t269] 29 (0, 0))) := ⟨by (with_reducible repeat (first | refine bN_ _ ?_ | refine bd_ ?_ | refine ba_ _ ?_)); refine blk_far ?_ NB271_291.out _; (with_reducible repeat (first | refine bN_ _ ?_ | refine bd_ ?_ | refine ba_ _ ?_)); refine blk_far ?_ NB271_291.out _; (with_reducible repeat (first | refine bN_ _ ?_ | refine bd_ ?_ | refine ba_ _ ?_)); refine blk_far ?_ NB271_291.out _; (with_reducible repeat (first | refine bN_ _ ?_ | refine bd_ ?_ | refine ba_ _ ?_)); exact BK271.out⟩
          have n1_ : Aside0 ((((w41.setCell ⟨gb291, 0, none⟩ (.bool t287)).setCell ⟨gb291, 1, none⟩ (.int .u64 t288)).setCell ⟨gb291, 2, none⟩ (.int .u64 t289)).heap[gb276]? = some (.cells #[.bool t272, .int .u64 t273, .int .u64 t274] 29 (0, 0))) := ⟨by (with_reducible repeat (first | refine bN_ _ ?_ | refine bd_ ?_ | refine ba_ _ ?_)); refine blk_far ?_ NB276_291.out _; (with_reducible repeat (first | refine bN_ _ ?_ | refine bd_ ?_ | refine ba_ _ ?_)); refine blk_far ?_ NB276_291.out _; (with_reducible repeat (first | refine bN_ _ ?_ | refine bd_ ?_ | refine ba_ _ ?_)); refine blk_far ?_ NB276_291.out _; (with_reducible repeat (first | refine bN_ _ ?_ | refine bd_ ?_ | refine ba_ _ ?_)); exact BK276.out⟩
          have n2_ : Aside0 ((((w41.setCell ⟨gb291, 0, none⟩ (.bool t287)).setCell ⟨gb291, 1, none⟩ (.int .u64 t288)).setCell ⟨gb291, 2, none⟩ (.int .u64 t289)).heap[gb281]? = some (.cells #[.bool t277, .int .u64 t278, .int .u64 t279] 29 (0, 0))) := ⟨by (with_reducible repeat (first | refine bN_ _ ?_ | refine bd_ ?_ | refine ba_ _ ?_)); refine blk_far ?_ NB281_291.out _; (with_reducible repeat (first | refine bN_ _ ?_ | refine bd_ ?_ | refine ba_ _ ?_)); refine blk_far ?_ NB281_291.out _; (with_reducible repeat (first | refine bN_ _ ?_ | refine bd_ ?_ | refine ba_ _ ?_)); refine blk_far ?_ NB281_291.out _; (with_reducible repeat (first | refine bN_ _ ?_ | refine bd_ ?_ | refine ba_ _ ?_)); exact BK281.out⟩
          have n3_ : Aside0 ((((w41.setCell ⟨gb291, 0, none⟩ (.bool t287)).setCell ⟨gb291, 1, none⟩ (.int .u64 t288)).setCell ⟨gb291, 2, none⟩ (.int .u64 t289)).heap[gb291]? = some (.cells #[.bool t287, .int .u64 t288, .int .u64 t289] 29 (0, 0))) := ⟨by (with_reducible repeat (first | refine bN_ _ ?_ | refine bd_ ?_ | refine ba_ _ ?_)); refine blk_put (cs := #[.bool t287, .int .u64 t288, .int .u64 0]) ?_ 2 _ rfl; (with_reducible repeat (first | refine bN_ _ ?_ | refine bd_ ?_ | refine ba_ _ ?_)); refine blk_put (cs := #[.bool t287, .int .u64 0, .int .u64 0]) ?_ 1 _ rfl; (with_reducible repeat (first | refine bN_ _ ?_ | refine bd_ ?_ | refine ba_ _ ?_)); refine blk_put (cs := #[.bool false, .int .u64 0, .int .u64 0]) ?_ 0 _ rfl; (with_reducible repeat (first | refine bN_ _ ?_ | refine bd_ ?_ | refine ba_ _ ?_)); exact BK291.out⟩
          have n4_ : Aside0 (Below w.heap.size w (((w41.setCell ⟨gb291, 0, none⟩ (.bool t287)).setCell ⟨gb291, 1, none⟩ (.int .u64 t288)).setCell ⟨gb291, 2, none⟩ (.int .u64 t289))) := ⟨by repeat (first | (with_reducible first | exact HB.out | apply below_alloc | apply pw_below_drewN | apply below_drew1 | refine below_set ?_ GE271.out | refine below_set ?_ GE276.out | refine below_set ?_ GE281.out | refine below_set ?_ GE291.out) | exact HB.out)⟩
          (try clear BK271)
          (try clear BK276)
          (try clear BK281)
          (try clear BK291)
          (try clear HB)
          generalize (((w41.setCell ⟨gb291, 0, none⟩ (.bool t287)).setCell ⟨gb291, 1, none⟩ (.int .u64 t288)).setCell ⟨gb291, 2, none⟩ (.int .u64 t289)) = w51 at n0_ n1_ n2_ n3_ n4_ ⊢
          have BK271 := n0_
          have BK276 := n1_
          have BK281 := n2_
          have BK291 := n3_
          have HB := n4_
          clear n0_ n1_ n2_ n3_ n4_
          have n0_ := Aside0.mk (blk_drew BK271.out)
          have n1_ := Aside0.mk (blk_drew BK276.out)
          have n2_ := Aside0.mk (blk_drew BK281.out)
          have n3_ := Aside0.mk (blk_drew BK291.out)
          have n4_ := Aside0.mk (below_drew1 HB.out)
          clear BK271
          clear BK276
          clear BK281
          clear BK291
          clear HB
          have BK271 := n0_
          have BK276 := n1_
          have BK281 := n2_
          have BK291 := n3_
          have HB := n4_
          clear n0_ n1_ n2_ n3_ n4_
          refine start_ (n := 9) (S := fun w' => True) (ds := []) #[false, false, false, false, false, false, false, false, false] (by kernel_rfl) rfl rfl trivial (fun hHeld => ?_); refine with_tabW laws_FnScale.tab10 laws_FnScale.bits10 (fun HT_ HW_ => ?_)
          generalize w51.drew = w52 at BK271 BK276 BK281 BK291 HB hHeld ⊢
          refine pure_ (i := 0) (N := some 49) (v := ?_) (a' := ?_) #[true, false, false, false, false, false, false, false, false] rfl rfl (any_of HT_.out (by kernel_rfl)) (fun _ _ _ h => h) (Or.inl ⟨by rfl, ?_⟩) ?_ ?_
          rotate_left
          · intro w'
            go_simp
            with_reducible rfl
          rotate_left
          · simp only [Act.put, List.setIfInBounds_toArray, List.set_cons_zero, List.set_cons_succ, i64_w, i32_w]
            rfl
          refine pure_ (i := 1) (N := some 50) (v := ?_) (a' := ?_) #[true, true, false, false, false, false, false, false, false] rfl rfl (any_of HT_.out (by kernel_rfl)) (fun _ _ _ h => h) (Or.inl ⟨by rfl, ?_⟩) ?_ ?_
          rotate_left
          · intro w'
            go_simp
            with_reducible rfl
          rotate_left
          · simp only [Act.put, List.setIfInBounds_toArray, List.set_cons_zero, List.set_cons_succ, i64_w, i32_w]
            rfl
          refine pure_ (i := 2) (N := some 51) (v := ?_) (a' := ?_) #[true, true, true, false, false, false, false, false, false] rfl rfl (any_of HT_.out (by kernel_rfl)) (fun _ _ _ h => h) (Or.inl ⟨by rfl, ?_⟩) ?_ ?_
          rotate_left
          · intro w'
            go_simp
            with_reducible rfl
          rotate_left
          · simp only [Act.put, List.setIfInBounds_toArray, List.set_cons_zero, List.set_cons_succ, i64_w, i32_w]
            rfl
          refine pure_ (i := 3) (N := some 52) (v := undef) (a' := ?_) #[true, true, true, true, false, false, false, false, false] rfl rfl (any_of HT_.out (by kernel_rfl)) (fun _ _ _ h => h) (Or.inr ⟨by rfl, rfl⟩) ?_ ?_
          rotate_left
          · simp only [Act.put, List.setIfInBounds_toArray, List.set_cons_zero, List.set_cons_succ, i64_w, i32_w]
            rfl
          refine pure_ (i := 4) (N := some 53) (v := undef) (a' := ?_) #[true, true, true, true, true, false, false, false, false] rfl rfl (any_of HT_.out (by kernel_rfl)) (fun _ _ _ h => h) (Or.inr ⟨by rfl, rfl⟩) ?_ ?_
          rotate_left
          · simp only [Act.put, List.setIfInBounds_toArray, List.set_cons_zero, List.set_cons_succ, i64_w, i32_w]
            rfl
          refine pure_ (i := 5) (N := some 54) (v := undef) (a' := ?_) #[true, true, true, true, true, true, false, false, false] rfl rfl (any_of HT_.out (by kernel_rfl)) (fun _ _ _ h => h) (Or.inr ⟨by rfl, rfl⟩) ?_ ?_
          rotate_left
          · simp only [Act.put, List.setIfInBounds_toArray, List.set_cons_zero, List.set_cons_succ, i64_w, i32_w]
            rfl
          refine pure_ (i := 6) (N := some 55) (v := undef) (a' := ?_) #[true, true, true, true, true, true, true, false, false] rfl rfl (any_of HT_.out (by kernel_rfl)) (fun _ _ _ h => h) (Or.inr ⟨by rfl, rfl⟩) ?_ ?_
          rotate_left
          · simp only [Act.put, List.setIfInBounds_toArray, List.set_cons_zero, List.set_cons_succ, i64_w, i32_w]
            rfl
          refine pure_ (i := 7) (N := some 56) (v := undef) (a' := ?_) #[true, true, true, true, true, true, true, true, false] rfl rfl (any_of HT_.out (by kernel_rfl)) (fun _ _ _ h => h) (Or.inr ⟨by rfl, rfl⟩) ?_ ?_
          rotate_left
          · simp only [Act.put, List.setIfInBounds_toArray, List.set_cons_zero, List.set_cons_succ, i64_w, i32_w]
            rfl
          refine pure_ (i := 8) (N := some 57) (v := ?_) (a' := ?_) #[true, true, true, true, true, true, true, true, true] rfl rfl (any_of HT_.out (by kernel_rfl)) (fun _ _ _ h => h) (Or.inl ⟨by rfl, ?_⟩) ?_ ?_
          rotate_left
          · intro w'
            go_simp
            with_reducible rfl
          rotate_left
          · simp only [Act.put, List.setIfInBounds_toArray, List.set_cons_zero, List.set_cons_succ, i64_w, i32_w]
            rfl
          refine done_ (done_of HT_.out (by kernel_rfl)) ?_
          try go_wp2
          go_meet
          case rel => exact ⟨_, (true), (by first | rfl | (simp; done) | (simp [*]; done)), H', ⟨by first | omega | exact Nat.le_refl _⟩, ⟨by (with_reducible repeat (first | refine bN_ _ ?_ | refine bd_ ?_ | refine ba_ _ ?_)); exact BK271.out⟩, ⟨by (with_reducible repeat (first | refine bN_ _ ?_ | refine bd_ ?_ | refine ba_ _ ?_)); exact BK276.out⟩, ⟨by (with_reducible repeat (first | refine bN_ _ ?_ | refine bd_ ?_ | refine ba_ _ ?_)); exact BK281.out⟩, ⟨by (with_reducible repeat (first | refine bN_ _ ?_ | refine bd_ ?_ | refine ba_ _ ?_)); exact BK291.out⟩, ⟨by repeat (first | (with_reducible first | exact HB.out | apply below_alloc | apply pw_below_drewN | apply below_drew1 | refine below_set ?_ GE271.out | refine below_set ?_ GE276.out | refine below_set ?_ GE281.out | refine below_set ?_ GE291.out) | exact HB.out)⟩⟩
      case rest =>
        clear HC24
        try clear c1
        try clear c2
        try clear p2
        try clear c3
        try clear c4
        try clear c7
        try clear c7b0
        try clear c7b1
        try clear c7b2
        try clear c10
        try clear c13
        try clear c18
        try clear c19
        try clear c28
        try clear c29
        try clear c30
        try clear c31
        try clear c32
        try clear c33
        try clear c34
        try clear c35
        try clear c36
        try clear c42
        try clear c43
        try clear c44
        try clear c46
        try clear hcz10_0
        try clear hcz10_1
        try clear hcz10_2
        try clear hcz14_0
        try clear hcz14_1
        try clear hcz14_2
        try clear hcz15_0
        try clear hcz15_1
        try clear hcz15_2
        try clear hcz20_0
        try clear hcz20_1
        try clear hcz20_2
        try clear hcz27_0
        try clear hcz27_1
        try clear hcz27_2
        try clear hcz31_0
        try clear hcz31_1
        try clear hcz31_2
        try clear hcz32_0
        try clear hcz32_1
        try clear hcz32_2
        try clear hcz37_0
        try clear hcz37_1
        try clear hcz37_2
        try clear hcz45_0
        try clear hcz45_1
        try clear hcz45_2
        try clear hfz10_0
        try clear hfz10_1
        try clear hfz10_2
        try clear hfz14_0
        try clear hfz14_1
        try clear hfz14_2
        try clear hfz15_0
        try clear hfz15_1
        try clear hfz15_2
        try clear hfz20_0
        try clear hfz20_1
        try clear hfz20_2
        try clear hfz27_0
        try clear hfz27_1
        try clear hfz27_2
        try clear hfz31_0
        try clear hfz31_1
        try clear hfz31_2
        try clear hfz32_0
        try clear hfz32_1
        try clear hfz32_2
        try clear hfz37_0
        try clear hfz37_1
        try clear hfz37_2
        try clear hfz45_0
        try clear hfz45_1
        try clear hfz45_2
        obtain ⟨kq, x57_23, rfl, HA, HJ23, BK271, BK276, BK281, BK291, HB⟩ := hcut
        cases kq with
        | zero => exact absurd HA.out (by simp [laws_FnScale.j0])
        | succ kj23 =>
          have H := HA.out
          clear HA
          simp only [laws_FnScale.j0] at H
          by_cases c53 : x57_23 = true
          · subst c53
            have H1 : (some false) = some r := by rw [if_pos rfl] at H; exact H
            clear H
            have H := H1
            clear H1
            obtain rfl := Option.some.inj H
            go_wp2
            go_ret
            exact ⟨by first | rfl | (simp [errW_none, errW_some] <;> rfl) | (simp [*, errW_none, errW_some] <;> rfl), by repeat (first | (with_reducible first | exact HB.out | apply below_alloc | apply pw_below_drewN | apply below_drew1 | refine below_set ?_ GE271.out | refine below_set ?_ GE276.out | refine below_set ?_ GE281.out | refine below_set ?_ GE291.out) | exact HB.out)⟩
          · replace c53 := Bool.eq_false_iff.mpr c53
            subst c53
            have H1 : ((impl_ScaleWide.f t267 t268 t269 (-1)).bind fun bt295 => (if t275 = true then ((spec_WideOk.f t272 t273 t274).bind fun t300 => (if t300 = true then ((spec_WideOk.f t267 t268 t269).bind fun t301 => (if t301 = true then (if bt295.2.2.2 = true then ((impl_NegWide.f t267 t268 t269).bind fun bt302 => (some (bt295.1 == bt302.1 && (bt295.2.1 == bt302.2.1 && (bt295.2.2.1 == bt302.2.2))))) else (some false)) else (some true))) else (some false))) else ((spec_WideOk.f t267 t268 t269).bind fun t305 => (if t305 = true then (if bt295.2.2.2 = true then ((impl_NegWide.f t267 t268 t269).bind fun bt306 => (some (bt295.1 == bt306.1 && (bt295.2.1 == bt306.2.1 && (bt295.2.2.1 == bt306.2.2))))) else (some false)) else (some true))))) = some r := by rw [if_neg (show ¬ (false = true) by decide)] at H; exact H
            clear H
            have H := H1
            clear H1
            replace H := Option.bind_eq_some_iff.mp H
            obtain ⟨⟨t295, t296, t297, t298⟩, A540, H⟩ := H
            replace H : (if t275 = true then ((spec_WideOk.f t272 t273 t274).bind fun t300 => (if t300 = true then ((spec_WideOk.f t267 t268 t269).bind fun t301 => (if t301 = true then (if t298 = true then ((impl_NegWide.f t267 t268 t269).bind fun bt302 => (some (t295 == bt302.1 && (t296 == bt302.2.1 && (t297 == bt302.2.2))))) else (some false)) else (some true))) else (some false))) else ((spec_WideOk.f t267 t268 t269).bind fun t305 => (if t305 = true then (if t298 = true then ((impl_NegWide.f t267 t268 t269).bind fun bt306 => (some (t295 == bt306.1 && (t296 == bt306.2.1 && (t297 == bt306.2.2))))) else (some false)) else (some true)))) = some r := H
            have A54 := Aside0.mk A540
            clear A540
            by_cases c55 : t275 = true
            · subst c55
              have H1 : ((spec_WideOk.f t272 t273 t274).bind fun t300 => (if t300 = true then ((spec_WideOk.f t267 t268 t269).bind fun t301 => (if t301 = true then (if t298 = true then ((impl_NegWide.f t267 t268 t269).bind fun bt302 => (some (t295 == bt302.1 && (t296 == bt302.2.1 && (t297 == bt302.2.2))))) else (some false)) else (some true))) else (some false))) = some r := by rw [if_pos rfl] at H; exact H
              clear H
              have H := H1
              clear H1
              replace H := Option.bind_eq_some_iff.mp H
              obtain ⟨t300, A560, H⟩ := H
              replace H : (if t300 = true then ((spec_WideOk.f t267 t268 t269).bind fun t301 => (if t301 = true then (if t298 = true then ((impl_NegWide.f t267 t268 t269).bind fun bt302 => (some (t295 == bt302.1 && (t296 == bt302.2.1 && (t297 == bt302.2.2))))) else (some false)) else (some true))) else (some false)) = some r := H
              have A56 := Aside0.mk A560
              clear A560
              by_cases c57 : t300 = true
              · subst c57
                have H1 : ((spec_WideOk.f t267 t268 t269).bind fun t301 => (if t301 = true then (if t298 = true then ((impl_NegWide.f t267 t268 t269).bind fun bt302 => (some (t295 == bt302.1 && (t296 == bt302.2.1 && (t297 == bt302.2.2))))) else (some false)) else (some true))) = some r := by rw [if_pos rfl] at H; exact H
                clear H
                have H := H1
                clear H1
                replace H := Option.bind_eq_some_iff.mp H
                obtain ⟨t301, A580, H⟩ := H
                replace H : (if t301 = true then (if t298 = true then ((impl_NegWide.f t267 t268 t269).bind fun bt302 => (some (t295 == bt302.1 && (t296 == bt302.2.1 && (t297 == bt302.2.2))))) else (some false)) else (some true)) = some r := H
                have A58 := Aside0.mk A580
                clear A580
                by_cases c59 : t301 = true
                · subst c59
                  have H1 : (if t298 = true then ((impl_NegWide.f t267 t268 t269).bind fun bt302 => (some (t295 == bt302.1 && (t296 == bt302.2.1 && (t297 == bt302.2.2))))) else (some false)) = some r := by rw [if_pos rfl] at H; exact H
                  clear H
                  have H := H1
                  clear H1
                  by_cases c60 : t298 = true
                  · subst c60
                    have H1 : ((impl_NegWide.f t267 t268 t269).bind fun bt302 => (some (t295 == bt302.1 && (t296 == bt302.2.1 && (t297 == bt302.2.2))))) = some r := by rw [if_pos rfl] at H; exact H
                    clear H
                    have H := H1
                    clear H1
                    replace H := Option.bind_eq_some_iff.mp H
                    obtain ⟨⟨t302, t303, t304⟩, A610, H⟩ := H
                    replace H : (some (t295 == t302 && (t296 == t303 && (t297 == t304)))) = some r := H
                    have A61 := Aside0.mk A610
                    clear A610
                    obtain rfl := Option.some.inj H
                    have hnb62 := NB271_276.out
                    have hnc62 := NB276_271.out
                    have hnb63 := NB271_281.out
                    have hnc63 := NB281_271.out
                    have hnb64 := NB271_291.out
                    have hnc64 := NB291_271.out
                    have hcz65_0 : wc.cell? ⟨gb271, 0, none⟩ = some (.bool t267) := (blk_cell BK271.out 0).trans rfl
                    have hcz65_1 : wc.cell? ⟨gb271, 1, none⟩ = some (.int .u64 t268) := (blk_cell BK271.out 1).trans rfl
                    have hcz65_2 : wc.cell? ⟨gb271, 2, none⟩ = some (.int .u64 t269) := (blk_cell BK271.out 2).trans rfl
                    have hfz65_0 := blk_frozen BK271.out 0
                    have hfz65_1 := blk_frozen BK271.out 1
                    have hfz65_2 := blk_frozen BK271.out 2
                    try go_wp2_with (first | ((with_reducible refine gate_callee (f := 30) rfl ?_); refine goesL_ (some 60) rfl rfl Try.func30 (by kernel_rfl) rfl #[.agg #[.bool t267, .int .u64 t268, .int .u64 t269], .int .i64 (-1)] rfl mp_ ?_; (with_reducible refine (impl_ScaleWide.calls t267 t268 t269 (-1) t295 t296 t297 true _ A54.out).mono ?_); rintro e w66 ⟨rfl, hb⟩; refine ⟨_, rfl, ?_⟩; have n0_ := Aside0.mk (blk_below (g := gb271) (o := .cells #[.bool t267, .int .u64 t268, .int .u64 t269] 29 (0, 0)) (by (with_reducible repeat (first | refine bN_ _ ?_ | refine bd_ ?_ | refine ba_ _ ?_)); exact BK271.out) hb); have n1_ := Aside0.mk (blk_below (g := gb276) (o := .cells #[.bool t272, .int .u64 t273, .int .u64 t274] 29 (0, 0)) (by (with_reducible repeat (first | refine bN_ _ ?_ | refine bd_ ?_ | refine ba_ _ ?_)); exact BK276.out) hb); have n2_ := Aside0.mk (blk_below (g := gb281) (o := .cells #[.bool t277, .int .u64 t278, .int .u64 t279] 29 (0, 0)) (by (with_reducible repeat (first | refine bN_ _ ?_ | refine bd_ ?_ | refine ba_ _ ?_)); exact BK281.out) hb); have n3_ := Aside0.mk (blk_below (g := gb291) (o := .cells #[.bool t287, .int .u64 t288, .int .u64 t289] 29 (0, 0)) (by (with_reducible repeat (first | refine bN_ _ ?_ | refine bd_ ?_ | refine ba_ _ ?_)); exact BK291.out) hb); have n4_ := Aside0.mk (below_step bel_ hb); clear BK271; clear BK276; clear BK281; clear BK291; clear HB; have BK271 := n0_; have BK276 := n1_; have BK281 := n2_; have BK291 := n3_; have HB := n4_; clear n0_ n1_ n2_ n3_ n4_; (try clear hb); (try clear hb2); (try clear hk); (try clear hi)) | ((with_reducible refine gate_dst (N := 13) rfl ?_); refine box_event ?hg (N := 13) ?hd (cs := #[.bool false, .int .u64 0, .int .u64 0]) (t := 29) ?hr ?_; (case hd => rfl); (case hg => rfl); (case hr => first | (go_simp; done) | (go_simp; rfl)); intro gb299 hg w67 hbox hb; have n0_ := Aside0.mk (blk_below (g := gb271) (o := .cells #[.bool t267, .int .u64 t268, .int .u64 t269] 29 (0, 0)) (by (with_reducible repeat (first | refine bN_ _ ?_ | refine bd_ ?_ | refine ba_ _ ?_)); exact BK271.out) hb); have n1_ := Aside0.mk (blk_below (g := gb276) (o := .cells #[.bool t272, .int .u64 t273, .int .u64 t274] 29 (0, 0)) (by (with_reducible repeat (first | refine bN_ _ ?_ | refine bd_ ?_ | refine ba_ _ ?_)); exact BK276.out) hb); have n2_ := Aside0.mk (blk_below (g := gb281) (o := .cells #[.bool t277, .int .u64 t278, .int .u64 t279] 29 (0, 0)) (by (with_reducible repeat (first | refine bN_ _ ?_ | refine bd_ ?_ | refine ba_ _ ?_)); exact BK281.out) hb); have n3_ := Aside0.mk (blk_below (g := gb291) (o := .cells #[.bool t287, .int .u64 t288, .int .u64 t289] 29 (0, 0)) (by (with_reducible repeat (first | refine bN_ _ ?_ | refine bd_ ?_ | refine ba_ _ ?_)); exact BK291.out) hb); have n4_ := Aside0.mk (below_step bel_ hb); have n5_ := Aside0.mk (hbox); have n6_ := Aside0.mk ((by rw [hg]; exact (below_size bel_) : w.heap.size ≤ gb299)); have n7_ := Aside0.mk ((by rw [hg]; exact (below_size bel_) : w.heap.size ≤ gb299)); have n8_ := Aside0.mk ((by rw [hg]; exact Nat.ne_of_lt (blk_lt (g := gb271) (o := .cells #[.bool t267, .int .u64 t268, .int .u64 t269] 29 (0, 0)) (by (with_reducible repeat (first | refine bN_ _ ?_ | refine bd_ ?_ | refine ba_ _ ?_)); exact BK271.out)) : gb271 ≠ gb299)); have n9_ := Aside0.mk ((by rw [hg]; exact Nat.ne_of_gt (blk_lt (g := gb271) (o := .cells #[.bool t267, .int .u64 t268, .int .u64 t269] 29 (0, 0)) (by (with_reducible repeat (first | refine bN_ _ ?_ | refine bd_ ?_ | refine ba_ _ ?_)); exact BK271.out)) : gb299 ≠ gb271)); have n10_ := Aside0.mk ((by rw [hg]; exact Nat.ne_of_lt (blk_lt (g := gb276) (o := .cells #[.bool t272, .int .u64 t273, .int .u64 t274] 29 (0, 0)) (by (with_reducible repeat (first | refine bN_ _ ?_ | refine bd_ ?_ | refine ba_ _ ?_)); exact BK276.out)) : gb276 ≠ gb299)); have n11_ := Aside0.mk ((by rw [hg]; exact Nat.ne_of_gt (blk_lt (g := gb276) (o := .cells #[.bool t272, .int .u64 t273, .int .u64 t274] 29 (0, 0)) (by (with_reducible repeat (first | refine bN_ _ ?_ | refine bd_ ?_ | refine ba_ _ ?_)); exact BK276.out)) : gb299 ≠ gb276)); have n12_ := Aside0.mk ((by rw [hg]; exact Nat.ne_of_lt (blk_lt (g := gb281) (o := .cells #[.bool t277, .int .u64 t278, .int .u64 t279] 29 (0, 0)) (by (with_reducible repeat (first | refine bN_ _ ?_ | refine bd_ ?_ | refine ba_ _ ?_)); exact BK281.out)) : gb281 ≠ gb299)); have n13_ := Aside0.mk ((by rw [hg]; exact Nat.ne_of_gt (blk_lt (g := gb281) (o := .cells #[.bool t277, .int .u64 t278, .int .u64 t279] 29 (0, 0)) (by (with_reducible repeat (first | refine bN_ _ ?_ | refine bd_ ?_ | refine ba_ _ ?_)); exact BK281.out)) : gb299 ≠ gb281)); have n14_ := Aside0.mk ((by rw [hg]; exact Nat.ne_of_lt (blk_lt (g := gb291) (o := .cells #[.bool t287, .int .u64 t288, .int .u64 t289] 29 (0, 0)) (by (with_reducible repeat (first | refine bN_ _ ?_ | refine bd_ ?_ | refine ba_ _ ?_)); exact BK291.out)) : gb291 ≠ gb299)); have n15_ := Aside0.mk ((by rw [hg]; exact Nat.ne_of_gt (blk_lt (g := gb291) (o := .cells #[.bool t287, .int .u64 t288, .int .u64 t289] 29 (0, 0)) (by (with_reducible repeat (first | refine bN_ _ ?_ | refine bd_ ?_ | refine ba_ _ ?_)); exact BK291.out)) : gb299 ≠ gb291)); clear BK271; clear BK276; clear BK281; clear BK291; clear HB; have BK271 := n0_; have BK276 := n1_; have BK281 := n2_; have BK291 := n3_; have HB := n4_; have BK299 := n5_; have GW299 := n6_; have GE299 := n7_; have NB271_299 := n8_; have NB299_271 := n9_; have NB276_299 := n10_; have NB299_276 := n11_; have NB281_299 := n12_; have NB299_281 := n13_; have NB291_299 := n14_; have NB299_291 := n15_; clear n0_ n1_ n2_ n3_ n4_ n5_ n6_ n7_ n8_ n9_ n10_ n11_ n12_ n13_ n14_ n15_; clear hb hbox hg; have hnb68 := NB299_271.out; have hnc68 := NB271_299.out; have hnb69 := NB299_276.out; have hnc69 := NB276_299.out; have hnb70 := NB299_281.out; have hnc70 := NB281_299.out; have hnb71 := NB299_291.out; have hnc71 := NB291_299.out; have hcz72_0 : w67.cell? ⟨gb299, 0, none⟩ = some (.bool false) := (blk_cell BK299.out 0).trans rfl; have hcz72_1 : w67.cell? ⟨gb299, 1, none⟩ = some (.int .u64 0) := (blk_cell BK299.out 1).trans rfl; have hcz72_2 : w67.cell? ⟨gb299, 2, none⟩ = some (.int .u64 0) := (blk_cell BK299.out 2).trans rfl; have hfz72_0 := blk_frozen BK299.out 0; have hfz72_1 := blk_frozen BK299.out 1; have hfz72_2 := blk_frozen BK299.out 2))
                    have n0_ : Aside0 ((((w67.setCell ⟨gb299, 0, none⟩ (.bool t295)).setCell ⟨gb299, 1, none⟩ (.int .u64 t296)).setCell ⟨gb299, 2, none⟩ (.int .u64 t297)).heap[gb271]? = some (.cells #[.bool t267, .int .u64 t268, .int .u64 t269] 29 (0, 0))) := ⟨by (with_reducible repeat (first | refine bN_ _ ?_ | refine bd_ ?_ | refine ba_ _ ?_)); refine blk_far ?_ NB271_299.out _; (with_reducible repeat (first | refine bN_ _ ?_ | refine bd_ ?_ | refine ba_ _ ?_)); refine blk_far ?_ NB271_299.out _; (with_reducible repeat (first | refine bN_ _ ?_ | refine bd_ ?_ | refine ba_ _ ?_)); refine blk_far ?_ NB271_299.out _; (with_reducible repeat (first | refine bN_ _ ?_ | refine bd_ ?_ | refine ba_ _ ?_)); exact BK271.out⟩
                    have n1_ : Aside0 ((((w67.setCell ⟨gb299, 0, none⟩ (.bool t295)).setCell ⟨gb299, 1, none⟩ (.int .u64 t296)).setCell ⟨gb299, 2, none⟩ (.int .u64 t297)).heap[gb276]? = some (.cells #[.bool t272, .int .u64 t273, .int .u64 t274] 29 (0, 0))) := ⟨by (with_reducible repeat (first | refine bN_ _ ?_ | refine bd_ ?_ | refine ba_ _ ?_)); refine blk_far ?_ NB276_299.out _; (with_reducible repeat (first | refine bN_ _ ?_ | refine bd_ ?_ | refine ba_ _ ?_)); refine blk_far ?_ NB276_299.out _; (with_reducible repeat (first | refine bN_ _ ?_ | refine bd_ ?_ | refine ba_ _ ?_)); refine blk_far ?_ NB276_299.out _; (with_reducible repeat (first | refine bN_ _ ?_ | refine bd_ ?_ | refine ba_ _ ?_)); exact BK276.out⟩
                    have n2_ : Aside0 ((((w67.setCell ⟨gb299, 0, none⟩ (.bool t295)).setCell ⟨gb299, 1, none⟩ (.int .u64 t296)).setCell ⟨gb299, 2, none⟩ (.int .u64 t297)).heap[gb281]? = some (.cells #[.bool t277, .int .u64 t278, .int .u64 t279] 29 (0, 0))) := ⟨by (with_reducible repeat (first | refine bN_ _ ?_ | refine bd_ ?_ | refine ba_ _ ?_)); refine blk_far ?_ NB281_299.out _; (with_reducible repeat (first | refine bN_ _ ?_ | refine bd_ ?_ | refine ba_ _ ?_)); refine blk_far ?_ NB281_299.out _; (with_reducible repeat (first | refine bN_ _ ?_ | refine bd_ ?_ | refine ba_ _ ?_)); refine blk_far ?_ NB281_299.out _; (with_reducible repeat (first | refine bN_ _ ?_ | refine bd_ ?_ | refine ba_ _ ?_)); exact BK281.out⟩
                    have n3_ : Aside0 ((((w67.setCell ⟨gb299, 0, none⟩ (.bool t295)).setCell ⟨gb299, 1, none⟩ (.int .u64 t296)).setCell ⟨gb299, 2, none⟩ (.int .u64 t297)).heap[gb291]? = some (.cells #[.bool t287, .int .u64 t288, .int .u64 t289] 29 (0, 0))) := ⟨by (with_reducible repeat (first | refine bN_ _ ?_ | refine bd_ ?_ | refine ba_ _ ?_)); refine blk_far ?_ NB291_299.out _; (with_reducible repeat (first | refine bN_ _ ?_ | refine bd_ ?_ | refine ba_ _ ?_)); refine blk_far ?_ NB291_299.out _; (with_reducible repeat (first | refine bN_ _ ?_ | refine bd_ ?_ | refine ba_ _ ?_)); refine blk_far ?_ NB291_299.out _; (with_reducible repeat (first | refine bN_ _ ?_ | refine bd_ ?_ | refine ba_ _ ?_)); exact BK291.out⟩
                    have n4_ : Aside0 ((((w67.setCell ⟨gb299, 0, none⟩ (.bool t295)).setCell ⟨gb299, 1, none⟩ (.int .u64 t296)).setCell ⟨gb299, 2, none⟩ (.int .u64 t297)).heap[gb299]? = some (.cells #[.bool t295, .int .u64 t296, .int .u64 t297] 29 (0, 0))) := ⟨by (with_reducible repeat (first | refine bN_ _ ?_ | refine bd_ ?_ | refine ba_ _ ?_)); refine blk_put (cs := #[.bool t295, .int .u64 t296, .int .u64 0]) ?_ 2 _ rfl; (with_reducible repeat (first | refine bN_ _ ?_ | refine bd_ ?_ | refine ba_ _ ?_)); refine blk_put (cs := #[.bool t295, .int .u64 0, .int .u64 0]) ?_ 1 _ rfl; (with_reducible repeat (first | refine bN_ _ ?_ | refine bd_ ?_ | refine ba_ _ ?_)); refine blk_put (cs := #[.bool false, .int .u64 0, .int .u64 0]) ?_ 0 _ rfl; (with_reducible repeat (first | refine bN_ _ ?_ | refine bd_ ?_ | refine ba_ _ ?_)); exact BK299.out⟩
                    have n5_ : Aside0 (Below w.heap.size w (((w67.setCell ⟨gb299, 0, none⟩ (.bool t295)).setCell ⟨gb299, 1, none⟩ (.int .u64 t296)).setCell ⟨gb299, 2, none⟩ (.int .u64 t297))) := ⟨by repeat (first | (with_reducible first | exact HB.out | apply below_alloc | apply pw_below_drewN | apply below_drew1 | refine below_set ?_ GE271.out | refine below_set ?_ GE276.out | refine below_set ?_ GE281.out | refine below_set ?_ GE291.out | refine below_set ?_ GE299.out) | exact HB.out)⟩
                    (try clear BK271)
                    (try clear BK276)
                    (try clear BK281)
                    (try clear BK291)
                    (try clear BK299)
                    (try clear HB)
                    generalize (((w67.setCell ⟨gb299, 0, none⟩ (.bool t295)).setCell ⟨gb299, 1, none⟩ (.int .u64 t296)).setCell ⟨gb299, 2, none⟩ (.int .u64 t297)) = w73 at n0_ n1_ n2_ n3_ n4_ n5_ ⊢
                    have BK271 := n0_
                    have BK276 := n1_
                    have BK281 := n2_
                    have BK291 := n3_
                    have BK299 := n4_
                    have HB := n5_
                    clear n0_ n1_ n2_ n3_ n4_ n5_
                    have n0_ := Aside0.mk (blk_drew BK271.out)
                    have n1_ := Aside0.mk (blk_drew BK276.out)
                    have n2_ := Aside0.mk (blk_drew BK281.out)
                    have n3_ := Aside0.mk (blk_drew BK291.out)
                    have n4_ := Aside0.mk (blk_drew BK299.out)
                    have n5_ := Aside0.mk (below_drew1 HB.out)
                    clear BK271
                    clear BK276
                    clear BK281
                    clear BK291
                    clear BK299
                    clear HB
                    have BK271 := n0_
                    have BK276 := n1_
                    have BK281 := n2_
                    have BK291 := n3_
                    have BK299 := n4_
                    have HB := n5_
                    clear n0_ n1_ n2_ n3_ n4_ n5_
                    refine start_ (n := 21) (S := fun w' => w'.cell? ⟨gb276, 0, none⟩ = some (.bool t272) ∧ w'.cell? ⟨gb276, 1, none⟩ = some (.int .u64 t273) ∧ w'.cell? ⟨gb276, 2, none⟩ = some (.int .u64 t274) ∧ w'.cell? ⟨gb271, 0, none⟩ = some (.bool t267) ∧ w'.cell? ⟨gb271, 1, none⟩ = some (.int .u64 t268) ∧ w'.cell? ⟨gb271, 2, none⟩ = some (.int .u64 t269) ∧ w'.cell? ⟨gb299, 0, none⟩ = some (.bool t295) ∧ w'.cell? ⟨gb299, 1, none⟩ = some (.int .u64 t296) ∧ w'.cell? ⟨gb299, 2, none⟩ = some (.int .u64 t297)) (ds := []) #[false, false, false, false, false, false, false, false, false, false, false, false, false, false, false, false, false, false, false, false, false] (by kernel_rfl) rfl rfl ⟨(blk_cell BK276.out 0).trans rfl, (blk_cell BK276.out 1).trans rfl, (blk_cell BK276.out 2).trans rfl, (blk_cell BK271.out 0).trans rfl, (blk_cell BK271.out 1).trans rfl, (blk_cell BK271.out 2).trans rfl, (blk_cell BK299.out 0).trans rfl, (blk_cell BK299.out 1).trans rfl, (blk_cell BK299.out 2).trans rfl⟩ (fun hHeld => ?_); refine with_tabW laws_FnScale.tab13 laws_FnScale.bits13 (fun HT_ HW_ => ?_)
                    generalize w73.drew = w74 at BK271 BK276 BK281 BK291 BK299 HB hHeld ⊢
                    refine pure_ (i := 0) (N := some 63) (v := ?_) (a' := ?_) #[true, false, false, false, false, false, false, false, false, false, false, false, false, false, false, false, false, false, false, false, false] rfl rfl (any_of HT_.out (by kernel_rfl)) (fun _ _ _ h => h) (Or.inl ⟨by rfl, ?_⟩) ?_ ?_
                    rotate_left
                    · intro w'
                      go_simp
                      with_reducible rfl
                    rotate_left
                    · simp only [Act.put, List.setIfInBounds_toArray, List.set_cons_zero, List.set_cons_succ, i64_w, i32_w]
                      rfl
                    refine pure_ (i := 1) (N := some 64) (v := ?_) (a' := ?_) #[true, true, false, false, false, false, false, false, false, false, false, false, false, false, false, false, false, false, false, false, false] rfl rfl (any_of HT_.out (by kernel_rfl)) (fun _ _ _ h => h) (Or.inl ⟨by rfl, ?_⟩) ?_ ?_
                    rotate_left
                    · intro w'
                      go_simp
                      with_reducible rfl
                    rotate_left
                    · simp only [Act.put, List.setIfInBounds_toArray, List.set_cons_zero, List.set_cons_succ, i64_w, i32_w]
                      rfl
                    refine pure_ (i := 2) (N := some 65) (v := ?_) (a' := ?_) #[true, true, true, false, false, false, false, false, false, false, false, false, false, false, false, false, false, false, false, false, false] rfl rfl (any_of HT_.out (by kernel_rfl)) (fun _ _ _ h => h) (Or.inl ⟨by rfl, ?_⟩) ?_ ?_
                    rotate_left
                    · intro w'
                      go_simp
                      with_reducible rfl
                    rotate_left
                    · simp only [Act.put, List.setIfInBounds_toArray, List.set_cons_zero, List.set_cons_succ, i64_w, i32_w]
                      rfl
                    refine take_ (i := 3) (N := some 66) (v := ?_) (a' := ?_) #[true, true, true, true, false, false, false, false, false, false, false, false, false, false, false, false, false, false, false, false, false] rfl rfl (take_ofW HT_.out HW_.out (by kernel_rfl)) (fun _ _ _ h => h) (Or.inl ⟨by rfl, ?_⟩) hHeld ?_ ?_
                    rotate_left
                    · rintro w' ⟨s0, s1, s2, s3, s4, s5, s6, s7, s8⟩
                      go_simp
                      with_reducible rfl
                    rotate_left
                    · simp only [Act.put, List.setIfInBounds_toArray, List.set_cons_zero, List.set_cons_succ, i64_w, i32_w]
                      rfl
                    refine one_ (i := 4) (N := some 67) #[true, true, true, true, true, false, false, false, false, false, false, false, false, false, false, false, false, false, false, false, false] rfl rfl (one_of HT_.out (by kernel_rfl)) (by decide) (fun K hK => ?_)
                    refine goes_ Try.func17 (by kernel_rfl) rfl #[.agg #[.bool t272, .int .u64 t273, .int .u64 t274]] (by rfl) rfl rfl mp_ ?_
                    with_reducible refine (spec_WideOk.calls t272 t273 t274 true _ A56.out).mono ?_
                    rintro e w75 ⟨rfl, hb⟩
                    refine ⟨_, rfl, ?_⟩
                    have n0_ := Aside0.mk (blk_below (g := gb271) (o := .cells #[.bool t267, .int .u64 t268, .int .u64 t269] 29 (0, 0)) (by (with_reducible repeat (first | refine bN_ _ ?_ | refine bd_ ?_ | refine ba_ _ ?_)); exact BK271.out) hb)
                    have n1_ := Aside0.mk (blk_below (g := gb276) (o := .cells #[.bool t272, .int .u64 t273, .int .u64 t274] 29 (0, 0)) (by (with_reducible repeat (first | refine bN_ _ ?_ | refine bd_ ?_ | refine ba_ _ ?_)); exact BK276.out) hb)
                    have n2_ := Aside0.mk (blk_below (g := gb281) (o := .cells #[.bool t277, .int .u64 t278, .int .u64 t279] 29 (0, 0)) (by (with_reducible repeat (first | refine bN_ _ ?_ | refine bd_ ?_ | refine ba_ _ ?_)); exact BK281.out) hb)
                    have n3_ := Aside0.mk (blk_below (g := gb291) (o := .cells #[.bool t287, .int .u64 t288, .int .u64 t289] 29 (0, 0)) (by (with_reducible repeat (first | refine bN_ _ ?_ | refine bd_ ?_ | refine ba_ _ ?_)); exact BK291.out) hb)
                    have n4_ := Aside0.mk (blk_below (g := gb299) (o := .cells #[.bool t295, .int .u64 t296, .int .u64 t297] 29 (0, 0)) (by (with_reducible repeat (first | refine bN_ _ ?_ | refine bd_ ?_ | refine ba_ _ ?_)); exact BK299.out) hb)
                    have n5_ := Aside0.mk (below_step bel_ hb)
                    clear BK271
                    clear BK276
                    clear BK281
                    clear BK291
                    clear BK299
                    clear HB
                    have BK271 := n0_
                    have BK276 := n1_
                    have BK281 := n2_
                    have BK291 := n3_
                    have BK299 := n4_
                    have HB := n5_
                    clear n0_ n1_ n2_ n3_ n4_ n5_
                    (try clear hb)
                    (try clear hb2)
                    (try clear hk)
                    (try clear hi)
                    refine hK.out _ _ ⟨(blk_cell BK276.out 0).trans rfl, (blk_cell BK276.out 1).trans rfl, (blk_cell BK276.out 2).trans rfl, (blk_cell BK271.out 0).trans rfl, (blk_cell BK271.out 1).trans rfl, (blk_cell BK271.out 2).trans rfl, (blk_cell BK299.out 0).trans rfl, (blk_cell BK299.out 1).trans rfl, (blk_cell BK299.out 2).trans rfl⟩ (fun hHeld => ?_)
                    clear hK K
                    refine norm_ (a' := ?_) ?_ ?_
                    rotate_left
                    · show Act.put _ (some 67) _ = _
                      simp only [Act.put, List.setIfInBounds_toArray, List.set_cons_zero, List.set_cons_succ, i64_w, i32_w]
                      rfl
                    refine pure_ (i := 5) (N := some 68) (v := ?_) (a' := ?_) #[true, true, true, true, true, true, false, false, false, false, false, false, false, false, false, false, false, false, false, false, false] rfl rfl (any_of HT_.out (by kernel_rfl)) (fun _ _ _ h => h) (Or.inl ⟨by rfl, ?_⟩) ?_ ?_
                    rotate_left
                    · intro w'
                      go_simp
                      with_reducible rfl
                    rotate_left
                    · simp only [Act.put, List.setIfInBounds_toArray, List.set_cons_zero, List.set_cons_succ, i64_w, i32_w]
                      rfl
                    refine pure_ (i := 6) (N := some 69) (v := ?_) (a' := ?_) #[true, true, true, true, true, true, true, false, false, false, false, false, false, false, false, false, false, false, false, false, false] rfl rfl (any_of HT_.out (by kernel_rfl)) (fun _ _ _ h => h) (Or.inl ⟨by rfl, ?_⟩) ?_ ?_
                    rotate_left
                    · intro w'
                      go_simp
                      with_reducible rfl
                    rotate_left
                    · simp only [Act.put, List.setIfInBounds_toArray, List.set_cons_zero, List.set_cons_succ, i64_w, i32_w]
                      rfl
                    refine take_ (i := 7) (N := some 70) (v := ?_) (a' := ?_) #[true, true, true, true, true, true, true, true, false, false, false, false, false, false, false, false, false, false, false, false, false] rfl rfl (take_ofW HT_.out HW_.out (by kernel_rfl)) (fun _ _ _ h => h) (Or.inl ⟨by rfl, ?_⟩) hHeld ?_ ?_
                    rotate_left
                    · rintro w' ⟨s0, s1, s2, s3, s4, s5, s6, s7, s8⟩
                      go_simp
                      with_reducible rfl
                    rotate_left
                    · simp only [Act.put, List.setIfInBounds_toArray, List.set_cons_zero, List.set_cons_succ, i64_w, i32_w]
                      rfl
                    refine one_ (i := 8) (N := some 71) #[true, true, true, true, true, true, true, true, true, false, false, false, false, false, false, false, false, false, false, false, false] rfl rfl (one_of HT_.out (by kernel_rfl)) (by decide) (fun K hK => ?_)
                    refine goes_ Try.func17 (by kernel_rfl) rfl #[.agg #[.bool t267, .int .u64 t268, .int .u64 t269]] (by rfl) rfl rfl mp_ ?_
                    with_reducible refine (spec_WideOk.calls t267 t268 t269 true _ A58.out).mono ?_
                    rintro e w76 ⟨rfl, hb⟩
                    refine ⟨_, rfl, ?_⟩
                    have n0_ := Aside0.mk (blk_below (g := gb271) (o := .cells #[.bool t267, .int .u64 t268, .int .u64 t269] 29 (0, 0)) (by (with_reducible repeat (first | refine bN_ _ ?_ | refine bd_ ?_ | refine ba_ _ ?_)); exact BK271.out) hb)
                    have n1_ := Aside0.mk (blk_below (g := gb276) (o := .cells #[.bool t272, .int .u64 t273, .int .u64 t274] 29 (0, 0)) (by (with_reducible repeat (first | refine bN_ _ ?_ | refine bd_ ?_ | refine ba_ _ ?_)); exact BK276.out) hb)
                    have n2_ := Aside0.mk (blk_below (g := gb281) (o := .cells #[.bool t277, .int .u64 t278, .int .u64 t279] 29 (0, 0)) (by (with_reducible repeat (first | refine bN_ _ ?_ | refine bd_ ?_ | refine ba_ _ ?_)); exact BK281.out) hb)
                    have n3_ := Aside0.mk (blk_below (g := gb291) (o := .cells #[.bool t287, .int .u64 t288, .int .u64 t289] 29 (0, 0)) (by (with_reducible repeat (first | refine bN_ _ ?_ | refine bd_ ?_ | refine ba_ _ ?_)); exact BK291.out) hb)
                    have n4_ := Aside0.mk (blk_below (g := gb299) (o := .cells #[.bool t295, .int .u64 t296, .int .u64 t297] 29 (0, 0)) (by (with_reducible repeat (first | refine bN_ _ ?_ | refine bd_ ?_ | refine ba_ _ ?_)); exact BK299.out) hb)
                    have n5_ := Aside0.mk (below_step bel_ hb)
                    clear BK271
                    clear BK276
                    clear BK281
                    clear BK291
                    clear BK299
                    clear HB
                    have BK271 := n0_
                    have BK276 := n1_
                    have BK281 := n2_
                    have BK291 := n3_
                    have BK299 := n4_
                    have HB := n5_
                    clear n0_ n1_ n2_ n3_ n4_ n5_
                    (try clear hb)
                    (try clear hb2)
                    (try clear hk)
                    (try clear hi)
                    refine hK.out _ _ ⟨(blk_cell BK276.out 0).trans rfl, (blk_cell BK276.out 1).trans rfl, (blk_cell BK276.out 2).trans rfl, (blk_cell BK271.out 0).trans rfl, (blk_cell BK271.out 1).trans rfl, (blk_cell BK271.out 2).trans rfl, (blk_cell BK299.out 0).trans rfl, (blk_cell BK299.out 1).trans rfl, (blk_cell BK299.out 2).trans rfl⟩ (fun hHeld => ?_)
                    clear hK K
                    refine norm_ (a' := ?_) ?_ ?_
                    rotate_left
                    · show Act.put _ (some 71) _ = _
                      simp only [Act.put, List.setIfInBounds_toArray, List.set_cons_zero, List.set_cons_succ, i64_w, i32_w]
                      rfl
                    refine pure_ (i := 9) (N := some 72) (v := ?_) (a' := ?_) #[true, true, true, true, true, true, true, true, true, true, false, false, false, false, false, false, false, false, false, false, false] rfl rfl (any_of HT_.out (by kernel_rfl)) (fun _ _ _ h => h) (Or.inl ⟨by rfl, ?_⟩) ?_ ?_
                    rotate_left
                    · intro w'
                      go_simp
                      with_reducible rfl
                    rotate_left
                    · simp only [Act.put, List.setIfInBounds_toArray, List.set_cons_zero, List.set_cons_succ, i64_w, i32_w]
                      rfl
                    refine pure_ (i := 10) (N := some 73) (v := ?_) (a' := ?_) #[true, true, true, true, true, true, true, true, true, true, true, false, false, false, false, false, false, false, false, false, false] rfl rfl (any_of HT_.out (by kernel_rfl)) (fun _ _ _ h => h) (Or.inl ⟨by rfl, ?_⟩) ?_ ?_
                    rotate_left
                    · intro w'
                      go_simp
                      with_reducible rfl
                    rotate_left
                    · simp only [Act.put, List.setIfInBounds_toArray, List.set_cons_zero, List.set_cons_succ, i64_w, i32_w]
                      rfl
                    refine pure_ (i := 11) (N := some 74) (v := ?_) (a' := ?_) #[true, true, true, true, true, true, true, true, true, true, true, true, false, false, false, false, false, false, false, false, false] rfl rfl (any_of HT_.out (by kernel_rfl)) (fun _ _ _ h => h) (Or.inl ⟨by rfl, ?_⟩) ?_ ?_
                    rotate_left
                    · intro w'
                      go_simp
                      with_reducible rfl
                    rotate_left
                    · simp only [Act.put, List.setIfInBounds_toArray, List.set_cons_zero, List.set_cons_succ, i64_w, i32_w]
                      rfl
                    refine pure_ (i := 12) (N := some 75) (v := ?_) (a' := ?_) #[true, true, true, true, true, true, true, true, true, true, true, true, true, false, false, false, false, false, false, false, false] rfl rfl (any_of HT_.out (by kernel_rfl)) (fun _ _ _ h => h) (Or.inl ⟨by rfl, ?_⟩) ?_ ?_
                    rotate_left
                    · intro w'
                      go_simp
                      with_reducible rfl
                    rotate_left
                    · simp only [Act.put, List.setIfInBounds_toArray, List.set_cons_zero, List.set_cons_succ, i64_w, i32_w]
                      rfl
                    refine take_ (i := 13) (N := some 76) (v := ?_) (a' := ?_) #[true, true, true, true, true, true, true, true, true, true, true, true, true, true, false, false, false, false, false, false, false] rfl rfl (take_ofW HT_.out HW_.out (by kernel_rfl)) (fun _ _ _ h => h) (Or.inl ⟨by rfl, ?_⟩) hHeld ?_ ?_
                    rotate_left
                    · rintro w' ⟨s0, s1, s2, s3, s4, s5, s6, s7, s8⟩
                      go_simp
                      with_reducible rfl
                    rotate_left
                    · simp only [Act.put, List.setIfInBounds_toArray, List.set_cons_zero, List.set_cons_succ, i64_w, i32_w]
                      rfl
                    refine take_ (i := 14) (N := some 77) (v := ?_) (a' := ?_) #[true, true, true, true, true, true, true, true, true, true, true, true, true, true, true, false, false, false, false, false, false] rfl rfl (take_ofW HT_.out HW_.out (by kernel_rfl)) (fun _ _ _ h => h) (Or.inl ⟨by rfl, ?_⟩) hHeld ?_ ?_
                    rotate_left
                    · rintro w' ⟨s0, s1, s2, s3, s4, s5, s6, s7, s8⟩
                      go_simp
                      with_reducible rfl
                    rotate_left
                    · simp only [Act.put, List.setIfInBounds_toArray, List.set_cons_zero, List.set_cons_succ, i64_w, i32_w]
                      rfl
                    refine one_ (i := 15) (N := some 78) #[true, true, true, true, true, true, true, true, true, true, true, true, true, true, true, true, false, false, false, false, false] rfl rfl (one_of HT_.out (by kernel_rfl)) (by decide) (fun K hK => ?_)
                    refine goes_ Try.func35 (by kernel_rfl) rfl #[.agg #[.bool t267, .int .u64 t268, .int .u64 t269]] (by rfl) rfl rfl mp_ ?_
                    with_reducible refine (impl_NegWide.calls t267 t268 t269 t302 t303 t304 _ A61.out).mono ?_
                    rintro e w77 ⟨rfl, hb⟩
                    refine ⟨_, rfl, ?_⟩
                    have n0_ := Aside0.mk (blk_below (g := gb271) (o := .cells #[.bool t267, .int .u64 t268, .int .u64 t269] 29 (0, 0)) (by (with_reducible repeat (first | refine bN_ _ ?_ | refine bd_ ?_ | refine ba_ _ ?_)); exact BK271.out) hb)
                    have n1_ := Aside0.mk (blk_below (g := gb276) (o := .cells #[.bool t272, .int .u64 t273, .int .u64 t274] 29 (0, 0)) (by (with_reducible repeat (first | refine bN_ _ ?_ | refine bd_ ?_ | refine ba_ _ ?_)); exact BK276.out) hb)
                    have n2_ := Aside0.mk (blk_below (g := gb281) (o := .cells #[.bool t277, .int .u64 t278, .int .u64 t279] 29 (0, 0)) (by (with_reducible repeat (first | refine bN_ _ ?_ | refine bd_ ?_ | refine ba_ _ ?_)); exact BK281.out) hb)
                    have n3_ := Aside0.mk (blk_below (g := gb291) (o := .cells #[.bool t287, .int .u64 t288, .int .u64 t289] 29 (0, 0)) (by (with_reducible repeat (first | refine bN_ _ ?_ | refine bd_ ?_ | refine ba_ _ ?_)); exact BK291.out) hb)
                    have n4_ := Aside0.mk (blk_below (g := gb299) (o := .cells #[.bool t295, .int .u64 t296, .int .u64 t297] 29 (0, 0)) (by (with_reducible repeat (first | refine bN_ _ ?_ | refine bd_ ?_ | refine ba_ _ ?_)); exact BK299.out) hb)
                    have n5_ := Aside0.mk (below_step bel_ hb)
                    clear BK271
                    clear BK276
                    clear BK281
                    clear BK291
                    clear BK299
                    clear HB
                    have BK271 := n0_
                    have BK276 := n1_
                    have BK281 := n2_
                    have BK291 := n3_
                    have BK299 := n4_
                    have HB := n5_
                    clear n0_ n1_ n2_ n3_ n4_ n5_
                    (try clear hb)
                    (try clear hb2)
                    (try clear hk)
                    (try clear hi)
                    refine hK.out _ _ ⟨(blk_cell BK276.out 0).trans rfl, (blk_cell BK276.out 1).trans rfl, (blk_cell BK276.out 2).trans rfl, (blk_cell BK271.out 0).trans rfl, (blk_cell BK271.out 1).trans rfl, (blk_cell BK271.out 2).trans rfl, (blk_cell BK299.out 0).trans rfl, (blk_cell BK299.out 1).trans rfl, (blk_cell BK299.out 2).trans rfl⟩ (fun hHeld => ?_)
                    clear hK K
                    refine norm_ (a' := ?_) ?_ ?_
                    rotate_left
                    · show Act.put _ (some 78) _ = _
                      simp only [Act.put, List.setIfInBounds_toArray, List.set_cons_zero, List.set_cons_succ, i64_w, i32_w]
                      rfl
                    refine pure_ (i := 16) (N := some 79) (v := ?_) (a' := ?_) #[true, true, true, true, true, true, true, true, true, true, true, true, true, true, true, true, true, false, false, false, false] rfl rfl (any_of HT_.out (by kernel_rfl)) (fun _ _ _ h => h) (Or.inl ⟨by rfl, ?_⟩) ?_ ?_
                    rotate_left
                    · intro w'
                      go_simp
                      with_reducible rfl
                    rotate_left
                    · simp only [Act.put, List.setIfInBounds_toArray, List.set_cons_zero, List.set_cons_succ, i64_w, i32_w]
                      rfl
                    refine pure_ (i := 17) (N := some 80) (v := ?_) (a' := ?_) #[true, true, true, true, true, true, true, true, true, true, true, true, true, true, true, true, true, true, false, false, false] rfl rfl (any_of HT_.out (by kernel_rfl)) (fun _ _ _ h => h) (Or.inl ⟨by rfl, ?_⟩) ?_ ?_
                    rotate_left
                    · intro w'
                      go_simp
                      with_reducible rfl
                    rotate_left
                    · simp only [Act.put, List.setIfInBounds_toArray, List.set_cons_zero, List.set_cons_succ, i64_w, i32_w]
                      rfl
                    refine pure_ (i := 18) (N := some 81) (v := ?_) (a' := ?_) #[true, true, true, true, true, true, true, true, true, true, true, true, true, true, true, true, true, true, true, false, false] rfl rfl (any_of HT_.out (by kernel_rfl)) (fun _ _ _ h => h) (Or.inl ⟨by rfl, ?_⟩) ?_ ?_
                    rotate_left
                    · intro w'
                      go_simp
                      with_reducible rfl
                    rotate_left
                    · simp only [Act.put, List.setIfInBounds_toArray, List.set_cons_zero, List.set_cons_succ, i64_w, i32_w]
                      rfl
                    refine pure_ (i := 19) (N := some 82) (v := ?_) (a' := ?_) #[true, true, true, true, true, true, true, true, true, true, true, true, true, true, true, true, true, true, true, true, false] rfl rfl (any_of HT_.out (by kernel_rfl)) (fun _ _ _ h => h) (Or.inl ⟨by rfl, ?_⟩) ?_ ?_
                    rotate_left
                    · intro w'
                      go_simp
                      with_reducible rfl
                    rotate_left
                    · simp only [Act.put, List.setIfInBounds_toArray, List.set_cons_zero, List.set_cons_succ, i64_w, i32_w]
                      rfl
                    refine pure_ (i := 20) (N := some 2) (v := ?_) (a' := ?_) #[true, true, true, true, true, true, true, true, true, true, true, true, true, true, true, true, true, true, true, true, true] rfl rfl (any_of HT_.out (by kernel_rfl)) (fun _ _ _ h => h) (Or.inl ⟨by rfl, ?_⟩) ?_ ?_
                    rotate_left
                    · intro w'
                      go_simp
                      with_reducible rfl
                    rotate_left
                    · simp only [Act.put, List.setIfInBounds_toArray, List.set_cons_zero, List.set_cons_succ, i64_w, i32_w]
                      rfl
                    refine done_ (done_of HT_.out (by kernel_rfl)) ?_
                    try go_wp2
                    go_ret
                    exact ⟨by first | rfl | (simp [errW_none, errW_some] <;> rfl) | (simp [*, errW_none, errW_some] <;> rfl), by repeat (first | (with_reducible first | exact HB.out | apply below_alloc | apply pw_below_drewN | apply below_drew1 | refine below_set ?_ GE271.out | refine below_set ?_ GE276.out | refine below_set ?_ GE281.out | refine below_set ?_ GE291.out | refine below_set ?_ GE299.out) | exact HB.out)⟩
                  · replace c60 := Bool.eq_false_iff.mpr c60
                    subst c60
                    have H1 : (some false) = some r := by rw [if_neg (show ¬ (false = true) by decide)] at H; exact H
                    clear H
                    have H := H1
                    clear H1
                    obtain rfl := Option.some.inj H
                    have hnb78 := NB271_276.out
                    have hnc78 := NB276_271.out
                    have hnb79 := NB271_281.out
                    have hnc79 := NB281_271.out
                    have hnb80 := NB271_291.out
                    have hnc80 := NB291_271.out
                    have hcz81_0 : wc.cell? ⟨gb271, 0, none⟩ = some (.bool t267) := (blk_cell BK271.out 0).trans rfl
                    have hcz81_1 : wc.cell? ⟨gb271, 1, none⟩ = some (.int .u64 t268) := (blk_cell BK271.out 1).trans rfl
                    have hcz81_2 : wc.cell? ⟨gb271, 2, none⟩ = some (.int .u64 t269) := (blk_cell BK271.out 2).trans rfl
                    have hfz81_0 := blk_frozen BK271.out 0
                    have hfz81_1 := blk_frozen BK271.out 1
                    have hfz81_2 := blk_frozen BK271.out 2
                    try go_wp2_with (first | ((with_reducible refine gate_callee (f := 30) rfl ?_); refine goesL_ (some 60) rfl rfl Try.func30 (by kernel_rfl) rfl #[.agg #[.bool t267, .int .u64 t268, .int .u64 t269], .int .i64 (-1)] rfl mp_ ?_; (with_reducible refine (impl_ScaleWide.calls t267 t268 t269 (-1) t295 t296 t297 false _ A54.out).mono ?_); rintro e w82 ⟨rfl, hb⟩; refine ⟨_, rfl, ?_⟩; have n0_ := Aside0.mk (blk_below (g := gb271) (o := .cells #[.bool t267, .int .u64 t268, .int .u64 t269] 29 (0, 0)) (by (with_reducible repeat (first | refine bN_ _ ?_ | refine bd_ ?_ | refine ba_ _ ?_)); exact BK271.out) hb); have n1_ := Aside0.mk (blk_below (g := gb276) (o := .cells #[.bool t272, .int .u64 t273, .int .u64 t274] 29 (0, 0)) (by (with_reducible repeat (first | refine bN_ _ ?_ | refine bd_ ?_ | refine ba_ _ ?_)); exact BK276.out) hb); have n2_ := Aside0.mk (blk_below (g := gb281) (o := .cells #[.bool t277, .int .u64 t278, .int .u64 t279] 29 (0, 0)) (by (with_reducible repeat (first | refine bN_ _ ?_ | refine bd_ ?_ | refine ba_ _ ?_)); exact BK281.out) hb); have n3_ := Aside0.mk (blk_below (g := gb291) (o := .cells #[.bool t287, .int .u64 t288, .int .u64 t289] 29 (0, 0)) (by (with_reducible repeat (first | refine bN_ _ ?_ | refine bd_ ?_ | refine ba_ _ ?_)); exact BK291.out) hb); have n4_ := Aside0.mk (below_step bel_ hb); clear BK271; clear BK276; clear BK281; clear BK291; clear HB; have BK271 := n0_; have BK276 := n1_; have BK281 := n2_; have BK291 := n3_; have HB := n4_; clear n0_ n1_ n2_ n3_ n4_; (try clear hb); (try clear hb2); (try clear hk); (try clear hi)) | ((with_reducible refine gate_dst (N := 13) rfl ?_); refine box_event ?hg (N := 13) ?hd (cs := #[.bool false, .int .u64 0, .int .u64 0]) (t := 29) ?hr ?_; (case hd => rfl); (case hg => rfl); (case hr => first | (go_simp; done) | (go_simp; rfl)); intro gb299 hg w83 hbox hb; have n0_ := Aside0.mk (blk_below (g := gb271) (o := .cells #[.bool t267, .int .u64 t268, .int .u64 t269] 29 (0, 0)) (by (with_reducible repeat (first | refine bN_ _ ?_ | refine bd_ ?_ | refine ba_ _ ?_)); exact BK271.out) hb); have n1_ := Aside0.mk (blk_below (g := gb276) (o := .cells #[.bool t272, .int .u64 t273, .int .u64 t274] 29 (0, 0)) (by (with_reducible repeat (first | refine bN_ _ ?_ | refine bd_ ?_ | refine ba_ _ ?_)); exact BK276.out) hb); have n2_ := Aside0.mk (blk_below (g := gb281) (o := .cells #[.bool t277, .int .u64 t278, .int .u64 t279] 29 (0, 0)) (by (with_reducible repeat (first | refine bN_ _ ?_ | refine bd_ ?_ | refine ba_ _ ?_)); exact BK281.out) hb); have n3_ := Aside0.mk (blk_below (g := gb291) (o := .cells #[.bool t287, .int .u64 t288, .int .u64 t289] 29 (0, 0)) (by (with_reducible repeat (first | refine bN_ _ ?_ | refine bd_ ?_ | refine ba_ _ ?_)); exact BK291.out) hb); have n4_ := Aside0.mk (below_step bel_ hb); have n5_ := Aside0.mk (hbox); have n6_ := Aside0.mk ((by rw [hg]; exact (below_size bel_) : w.heap.size ≤ gb299)); have n7_ := Aside0.mk ((by rw [hg]; exact (below_size bel_) : w.heap.size ≤ gb299)); have n8_ := Aside0.mk ((by rw [hg]; exact Nat.ne_of_lt (blk_lt (g := gb271) (o := .cells #[.bool t267, .int .u64 t268, .int .u64 t269] 29 (0, 0)) (by (with_reducible repeat (first | refine bN_ _ ?_ | refine bd_ ?_ | refine ba_ _ ?_)); exact BK271.out)) : gb271 ≠ gb299)); have n9_ := Aside0.mk ((by rw [hg]; exact Nat.ne_of_gt (blk_lt (g := gb271) (o := .cells #[.bool t267, .int .u64 t268, .int .u64 t269] 29 (0, 0)) (by (with_reducible repeat (first | refine bN_ _ ?_ | refine bd_ ?_ | refine ba_ _ ?_)); exact BK271.out)) : gb299 ≠ gb271)); have n10_ := Aside0.mk ((by rw [hg]; exact Nat.ne_of_lt (blk_lt (g := gb276) (o := .cells #[.bool t272, .int .u64 t273, .int .u64 t274] 29 (0, 0)) (by (with_reducible repeat (first | refine bN_ _ ?_ | refine bd_ ?_ | refine ba_ _ ?_)); exact BK276.out)) : gb276 ≠ gb299)); have n11_ := Aside0.mk ((by rw [hg]; exact Nat.ne_of_gt (blk_lt (g := gb276) (o := .cells #[.bool t272, .int .u64 t273, .int .u64 t274] 29 (0, 0)) (by (with_reducible repeat (first | refine bN_ _ ?_ | refine bd_ ?_ | refine ba_ _ ?_)); exact BK276.out)) : gb299 ≠ gb276)); have n12_ := Aside0.mk ((by rw [hg]; exact Nat.ne_of_lt (blk_lt (g := gb281) (o := .cells #[.bool t277, .int .u64 t278, .int .u64 t279] 29 (0, 0)) (by (with_reducible repeat (first | refine bN_ _ ?_ | refine bd_ ?_ | refine ba_ _ ?_)); exact BK281.out)) : gb281 ≠ gb299)); have n13_ := Aside0.mk ((by rw [hg]; exact Nat.ne_of_gt (blk_lt (g := gb281) (o := .cells #[.bool t277, .int .u64 t278, .int .u64 t279] 29 (0, 0)) (by (with_reducible repeat (first | refine bN_ _ ?_ | refine bd_ ?_ | refine ba_ _ ?_)); exact BK281.out)) : gb299 ≠ gb281)); have n14_ := Aside0.mk ((by rw [hg]; exact Nat.ne_of_lt (blk_lt (g := gb291) (o := .cells #[.bool t287, .int .u64 t288, .int .u64 t289] 29 (0, 0)) (by (with_reducible repeat (first | refine bN_ _ ?_ | refine bd_ ?_ | refine ba_ _ ?_)); exact BK291.out)) : gb291 ≠ gb299)); have n15_ := Aside0.mk ((by rw [hg]; exact Nat.ne_of_gt (blk_lt (g := gb291) (o := .cells #[.bool t287, .int .u64 t288, .int .u64 t289] 29 (0, 0)) (by (with_reducible repeat (first | refine bN_ _ ?_ | refine bd_ ?_ | refine ba_ _ ?_)); exact BK291.out)) : gb299 ≠ gb291)); clear BK271; clear BK276; clear BK281; clear BK291; clear HB; have BK271 := n0_; have BK276 := n1_; have BK281 := n2_; have BK291 := n3_; have HB := n4_; have BK299 := n5_; have GW299 := n6_; have GE299 := n7_; have NB271_299 := n8_; have NB299_271 := n9_; have NB276_299 := n10_; have NB299_276 := n11_; have NB281_299 := n12_; have NB299_281 := n13_; have NB291_299 := n14_; have NB299_291 := n15_; clear n0_ n1_ n2_ n3_ n4_ n5_ n6_ n7_ n8_ n9_ n10_ n11_ n12_ n13_ n14_ n15_; clear hb hbox hg; have hnb84 := NB299_271.out; have hnc84 := NB271_299.out; have hnb85 := NB299_276.out; have hnc85 := NB276_299.out; have hnb86 := NB299_281.out; have hnc86 := NB281_299.out; have hnb87 := NB299_291.out; have hnc87 := NB291_299.out; have hcz88_0 : w83.cell? ⟨gb299, 0, none⟩ = some (.bool false) := (blk_cell BK299.out 0).trans rfl; have hcz88_1 : w83.cell? ⟨gb299, 1, none⟩ = some (.int .u64 0) := (blk_cell BK299.out 1).trans rfl; have hcz88_2 : w83.cell? ⟨gb299, 2, none⟩ = some (.int .u64 0) := (blk_cell BK299.out 2).trans rfl; have hfz88_0 := blk_frozen BK299.out 0; have hfz88_1 := blk_frozen BK299.out 1; have hfz88_2 := blk_frozen BK299.out 2))
                    have n0_ : Aside0 ((((w83.setCell ⟨gb299, 0, none⟩ (.bool t295)).setCell ⟨gb299, 1, none⟩ (.int .u64 t296)).setCell ⟨gb299, 2, none⟩ (.int .u64 t297)).heap[gb271]? = some (.cells #[.bool t267, .int .u64 t268, .int .u64 t269] 29 (0, 0))) := ⟨by (with_reducible repeat (first | refine bN_ _ ?_ | refine bd_ ?_ | refine ba_ _ ?_)); refine blk_far ?_ NB271_299.out _; (with_reducible repeat (first | refine bN_ _ ?_ | refine bd_ ?_ | refine ba_ _ ?_)); refine blk_far ?_ NB271_299.out _; (with_reducible repeat (first | refine bN_ _ ?_ | refine bd_ ?_ | refine ba_ _ ?_)); refine blk_far ?_ NB271_299.out _; (with_reducible repeat (first | refine bN_ _ ?_ | refine bd_ ?_ | refine ba_ _ ?_)); exact BK271.out⟩
                    have n1_ : Aside0 ((((w83.setCell ⟨gb299, 0, none⟩ (.bool t295)).setCell ⟨gb299, 1, none⟩ (.int .u64 t296)).setCell ⟨gb299, 2, none⟩ (.int .u64 t297)).heap[gb276]? = some (.cells #[.bool t272, .int .u64 t273, .int .u64 t274] 29 (0, 0))) := ⟨by (with_reducible repeat (first | refine bN_ _ ?_ | refine bd_ ?_ | refine ba_ _ ?_)); refine blk_far ?_ NB276_299.out _; (with_reducible repeat (first | refine bN_ _ ?_ | refine bd_ ?_ | refine ba_ _ ?_)); refine blk_far ?_ NB276_299.out _; (with_reducible repeat (first | refine bN_ _ ?_ | refine bd_ ?_ | refine ba_ _ ?_)); refine blk_far ?_ NB276_299.out _; (with_reducible repeat (first | refine bN_ _ ?_ | refine bd_ ?_ | refine ba_ _ ?_)); exact BK276.out⟩
                    have n2_ : Aside0 ((((w83.setCell ⟨gb299, 0, none⟩ (.bool t295)).setCell ⟨gb299, 1, none⟩ (.int .u64 t296)).setCell ⟨gb299, 2, none⟩ (.int .u64 t297)).heap[gb281]? = some (.cells #[.bool t277, .int .u64 t278, .int .u64 t279] 29 (0, 0))) := ⟨by (with_reducible repeat (first | refine bN_ _ ?_ | refine bd_ ?_ | refine ba_ _ ?_)); refine blk_far ?_ NB281_299.out _; (with_reducible repeat (first | refine bN_ _ ?_ | refine bd_ ?_ | refine ba_ _ ?_)); refine blk_far ?_ NB281_299.out _; (with_reducible repeat (first | refine bN_ _ ?_ | refine bd_ ?_ | refine ba_ _ ?_)); refine blk_far ?_ NB281_299.out _; (with_reducible repeat (first | refine bN_ _ ?_ | refine bd_ ?_ | refine ba_ _ ?_)); exact BK281.out⟩
                    have n3_ : Aside0 ((((w83.setCell ⟨gb299, 0, none⟩ (.bool t295)).setCell ⟨gb299, 1, none⟩ (.int .u64 t296)).setCell ⟨gb299, 2, none⟩ (.int .u64 t297)).heap[gb291]? = some (.cells #[.bool t287, .int .u64 t288, .int .u64 t289] 29 (0, 0))) := ⟨by (with_reducible repeat (first | refine bN_ _ ?_ | refine bd_ ?_ | refine ba_ _ ?_)); refine blk_far ?_ NB291_299.out _; (with_reducible repeat (first | refine bN_ _ ?_ | refine bd_ ?_ | refine ba_ _ ?_)); refine blk_far ?_ NB291_299.out _; (with_reducible repeat (first | refine bN_ _ ?_ | refine bd_ ?_ | refine ba_ _ ?_)); refine blk_far ?_ NB291_299.out _; (with_reducible repeat (first | refine bN_ _ ?_ | refine bd_ ?_ | refine ba_ _ ?_)); exact BK291.out⟩
                    have n4_ : Aside0 ((((w83.setCell ⟨gb299, 0, none⟩ (.bool t295)).setCell ⟨gb299, 1, none⟩ (.int .u64 t296)).setCell ⟨gb299, 2, none⟩ (.int .u64 t297)).heap[gb299]? = some (.cells #[.bool t295, .int .u64 t296, .int .u64 t297] 29 (0, 0))) := ⟨by (with_reducible repeat (first | refine bN_ _ ?_ | refine bd_ ?_ | refine ba_ _ ?_)); refine blk_put (cs := #[.bool t295, .int .u64 t296, .int .u64 0]) ?_ 2 _ rfl; (with_reducible repeat (first | refine bN_ _ ?_ | refine bd_ ?_ | refine ba_ _ ?_)); refine blk_put (cs := #[.bool t295, .int .u64 0, .int .u64 0]) ?_ 1 _ rfl; (with_reducible repeat (first | refine bN_ _ ?_ | refine bd_ ?_ | refine ba_ _ ?_)); refine blk_put (cs := #[.bool false, .int .u64 0, .int .u64 0]) ?_ 0 _ rfl; (with_reducible repeat (first | refine bN_ _ ?_ | refine bd_ ?_ | refine ba_ _ ?_)); exact BK299.out⟩
                    have n5_ : Aside0 (Below w.heap.size w (((w83.setCell ⟨gb299, 0, none⟩ (.bool t295)).setCell ⟨gb299, 1, none⟩ (.int .u64 t296)).setCell ⟨gb299, 2, none⟩ (.int .u64 t297))) := ⟨by repeat (first | (with_reducible first | exact HB.out | apply below_alloc | apply pw_below_drewN | apply below_drew1 | refine below_set ?_ GE271.out | refine below_set ?_ GE276.out | refine below_set ?_ GE281.out | refine below_set ?_ GE291.out | refine below_set ?_ GE299.out) | exact HB.out)⟩
                    (try clear BK271)
                    (try clear BK276)
                    (try clear BK281)
                    (try clear BK291)
                    (try clear BK299)
                    (try clear HB)
                    generalize (((w83.setCell ⟨gb299, 0, none⟩ (.bool t295)).setCell ⟨gb299, 1, none⟩ (.int .u64 t296)).setCell ⟨gb299, 2, none⟩ (.int .u64 t297)) = w89 at n0_ n1_ n2_ n3_ n4_ n5_ ⊢
                    have BK271 := n0_
                    have BK276 := n1_
                    have BK281 := n2_
                    have BK291 := n3_
                    have BK299 := n4_
                    have HB := n5_
                    clear n0_ n1_ n2_ n3_ n4_ n5_
                    have n0_ := Aside0.mk (blk_drew BK271.out)
                    have n1_ := Aside0.mk (blk_drew BK276.out)
                    have n2_ := Aside0.mk (blk_drew BK281.out)
                    have n3_ := Aside0.mk (blk_drew BK291.out)
                    have n4_ := Aside0.mk (blk_drew BK299.out)
                    have n5_ := Aside0.mk (below_drew1 HB.out)
                    clear BK271
                    clear BK276
                    clear BK281
                    clear BK291
                    clear BK299
                    clear HB
                    have BK271 := n0_
                    have BK276 := n1_
                    have BK281 := n2_
                    have BK291 := n3_
                    have BK299 := n4_
                    have HB := n5_
                    clear n0_ n1_ n2_ n3_ n4_ n5_
                    refine start_ (n := 21) (S := fun w' => w'.cell? ⟨gb276, 0, none⟩ = some (.bool t272) ∧ w'.cell? ⟨gb276, 1, none⟩ = some (.int .u64 t273) ∧ w'.cell? ⟨gb276, 2, none⟩ = some (.int .u64 t274) ∧ w'.cell? ⟨gb271, 0, none⟩ = some (.bool t267) ∧ w'.cell? ⟨gb271, 1, none⟩ = some (.int .u64 t268) ∧ w'.cell? ⟨gb271, 2, none⟩ = some (.int .u64 t269)) (ds := []) #[false, false, false, false, false, false, false, false, false, false, false, false, false, false, false, false, false, false, false, false, false] (by kernel_rfl) rfl rfl ⟨(blk_cell BK276.out 0).trans rfl, (blk_cell BK276.out 1).trans rfl, (blk_cell BK276.out 2).trans rfl, (blk_cell BK271.out 0).trans rfl, (blk_cell BK271.out 1).trans rfl, (blk_cell BK271.out 2).trans rfl⟩ (fun hHeld => ?_); refine with_tabW laws_FnScale.tab13 laws_FnScale.bits13 (fun HT_ HW_ => ?_)
                    generalize w89.drew = w90 at BK271 BK276 BK281 BK291 BK299 HB hHeld ⊢
                    refine pure_ (i := 0) (N := some 63) (v := ?_) (a' := ?_) #[true, false, false, false, false, false, false, false, false, false, false, false, false, false, false, false, false, false, false, false, false] rfl rfl (any_of HT_.out (by kernel_rfl)) (fun _ _ _ h => h) (Or.inl ⟨by rfl, ?_⟩) ?_ ?_
                    rotate_left
                    · intro w'
                      go_simp
                      with_reducible rfl
                    rotate_left
                    · simp only [Act.put, List.setIfInBounds_toArray, List.set_cons_zero, List.set_cons_succ, i64_w, i32_w]
                      rfl
                    refine pure_ (i := 1) (N := some 64) (v := ?_) (a' := ?_) #[true, true, false, false, false, false, false, false, false, false, false, false, false, false, false, false, false, false, false, false, false] rfl rfl (any_of HT_.out (by kernel_rfl)) (fun _ _ _ h => h) (Or.inl ⟨by rfl, ?_⟩) ?_ ?_
                    rotate_left
                    · intro w'
                      go_simp
                      with_reducible rfl
                    rotate_left
                    · simp only [Act.put, List.setIfInBounds_toArray, List.set_cons_zero, List.set_cons_succ, i64_w, i32_w]
                      rfl
                    refine pure_ (i := 2) (N := some 65) (v := ?_) (a' := ?_) #[true, true, true, false, false, false, false, false, false, false, false, false, false, false, false, false, false, false, false, false, false] rfl rfl (any_of HT_.out (by kernel_rfl)) (fun _ _ _ h => h) (Or.inl ⟨by rfl, ?_⟩) ?_ ?_
                    rotate_left
                    · intro w'
                      go_simp
                      with_reducible rfl
                    rotate_left
                    · simp only [Act.put, List.setIfInBounds_toArray, List.set_cons_zero, List.set_cons_succ, i64_w, i32_w]
                      rfl
                    refine take_ (i := 3) (N := some 66) (v := ?_) (a' := ?_) #[true, true, true, true, false, false, false, false, false, false, false, false, false, false, false, false, false, false, false, false, false] rfl rfl (take_ofW HT_.out HW_.out (by kernel_rfl)) (fun _ _ _ h => h) (Or.inl ⟨by rfl, ?_⟩) hHeld ?_ ?_
                    rotate_left
                    · rintro w' ⟨s0, s1, s2, s3, s4, s5⟩
                      go_simp
                      with_reducible rfl
                    rotate_left
                    · simp only [Act.put, List.setIfInBounds_toArray, List.set_cons_zero, List.set_cons_succ, i64_w, i32_w]
                      rfl
                    refine one_ (i := 4) (N := some 67) #[true, true, true, true, true, false, false, false, false, false, false, false, false, false, false, false, false, false, false, false, false] rfl rfl (one_of HT_.out (by kernel_rfl)) (by decide) (fun K hK => ?_)
                    refine goes_ Try.func17 (by kernel_rfl) rfl #[.agg #[.bool t272, .int .u64 t273, .int .u64 t274]] (by rfl) rfl rfl mp_ ?_
                    with_reducible refine (spec_WideOk.calls t272 t273 t274 true _ A56.out).mono ?_
                    rintro e w91 ⟨rfl, hb⟩
                    refine ⟨_, rfl, ?_⟩
                    have n0_ := Aside0.mk (blk_below (g := gb271) (o := .cells #[.bool t267, .int .u64 t268, .int .u64 t269] 29 (0, 0)) (by (with_reducible repeat (first | refine bN_ _ ?_ | refine bd_ ?_ | refine ba_ _ ?_)); exact BK271.out) hb)
                    have n1_ := Aside0.mk (blk_below (g := gb276) (o := .cells #[.bool t272, .int .u64 t273, .int .u64 t274] 29 (0, 0)) (by (with_reducible repeat (first | refine bN_ _ ?_ | refine bd_ ?_ | refine ba_ _ ?_)); exact BK276.out) hb)
                    have n2_ := Aside0.mk (blk_below (g := gb281) (o := .cells #[.bool t277, .int .u64 t278, .int .u64 t279] 29 (0, 0)) (by (with_reducible repeat (first | refine bN_ _ ?_ | refine bd_ ?_ | refine ba_ _ ?_)); exact BK281.out) hb)
                    have n3_ := Aside0.mk (blk_below (g := gb291) (o := .cells #[.bool t287, .int .u64 t288, .int .u64 t289] 29 (0, 0)) (by (with_reducible repeat (first | refine bN_ _ ?_ | refine bd_ ?_ | refine ba_ _ ?_)); exact BK291.out) hb)
                    have n4_ := Aside0.mk (blk_below (g := gb299) (o := .cells #[.bool t295, .int .u64 t296, .int .u64 t297] 29 (0, 0)) (by (with_reducible repeat (first | refine bN_ _ ?_ | refine bd_ ?_ | refine ba_ _ ?_)); exact BK299.out) hb)
                    have n5_ := Aside0.mk (below_step bel_ hb)
                    clear BK271
                    clear BK276
                    clear BK281
                    clear BK291
                    clear BK299
                    clear HB
                    have BK271 := n0_
                    have BK276 := n1_
                    have BK281 := n2_
                    have BK291 := n3_
                    have BK299 := n4_
                    have HB := n5_
                    clear n0_ n1_ n2_ n3_ n4_ n5_
                    (try clear hb)
                    (try clear hb2)
                    (try clear hk)
                    (try clear hi)
                    refine hK.out _ _ ⟨(blk_cell BK276.out 0).trans rfl, (blk_cell BK276.out 1).trans rfl, (blk_cell BK276.out 2).trans rfl, (blk_cell BK271.out 0).trans rfl, (blk_cell BK271.out 1).trans rfl, (blk_cell BK271.out 2).trans rfl⟩ (fun hHeld => ?_)
                    clear hK K
                    refine norm_ (a' := ?_) ?_ ?_
                    rotate_left
                    · show Act.put _ (some 67) _ = _
                      simp only [Act.put, List.setIfInBounds_toArray, List.set_cons_zero, List.set_cons_succ, i64_w, i32_w]
                      rfl
                    refine pure_ (i := 5) (N := some 68) (v := ?_) (a' := ?_) #[true, true, true, true, true, true, false, false, false, false, false, false, false, false, false, false, false, false, false, false, false] rfl rfl (any_of HT_.out (by kernel_rfl)) (fun _ _ _ h => h) (Or.inl ⟨by rfl, ?_⟩) ?_ ?_
                    rotate_left
                    · intro w'
                      go_simp
                      with_reducible rfl
                    rotate_left
                    · simp only [Act.put, List.setIfInBounds_toArray, List.set_cons_zero, List.set_cons_succ, i64_w, i32_w]
                      rfl
                    refine pure_ (i := 6) (N := some 69) (v := ?_) (a' := ?_) #[true, true, true, true, true, true, true, false, false, false, false, false, false, false, false, false, false, false, false, false, false] rfl rfl (any_of HT_.out (by kernel_rfl)) (fun _ _ _ h => h) (Or.inl ⟨by rfl, ?_⟩) ?_ ?_
                    rotate_left
                    · intro w'
                      go_simp
                      with_reducible rfl
                    rotate_left
                    · simp only [Act.put, List.setIfInBounds_toArray, List.set_cons_zero, List.set_cons_succ, i64_w, i32_w]
                      rfl
                    refine take_ (i := 7) (N := some 70) (v := ?_) (a' := ?_) #[true, true, true, true, true, true, true, true, false, false, false, false, false, false, false, false, false, false, false, false, false] rfl rfl (take_ofW HT_.out HW_.out (by kernel_rfl)) (fun _ _ _ h => h) (Or.inl ⟨by rfl, ?_⟩) hHeld ?_ ?_
                    rotate_left
                    · rintro w' ⟨s0, s1, s2, s3, s4, s5⟩
                      go_simp
                      with_reducible rfl
                    rotate_left
                    · simp only [Act.put, List.setIfInBounds_toArray, List.set_cons_zero, List.set_cons_succ, i64_w, i32_w]
                      rfl
                    refine one_ (i := 8) (N := some 71) #[true, true, true, true, true, true, true, true, true, false, false, false, false, false, false, false, false, false, false, false, false] rfl rfl (one_of HT_.out (by kernel_rfl)) (by decide) (fun K hK => ?_)
                    refine goes_ Try.func17 (by kernel_rfl) rfl #[.agg #[.bool t267, .int .u64 t268, .int .u64 t269]] (by rfl) rfl rfl mp_ ?_
                    with_reducible refine (spec_WideOk.calls t267 t268 t269 true _ A58.out).mono ?_
                    rintro e w92 ⟨rfl, hb⟩
                    refine ⟨_, rfl, ?_⟩
                    have n0_ := Aside0.mk (blk_below (g := gb271) (o := .cells #[.bool t267, .int .u64 t268, .int .u64 t269] 29 (0, 0)) (by (with_reducible repeat (first | refine bN_ _ ?_ | refine bd_ ?_ | refine ba_ _ ?_)); exact BK271.out) hb)
                    have n1_ := Aside0.mk (blk_below (g := gb276) (o := .cells #[.bool t272, .int .u64 t273, .int .u64 t274] 29 (0, 0)) (by (with_reducible repeat (first | refine bN_ _ ?_ | refine bd_ ?_ | refine ba_ _ ?_)); exact BK276.out) hb)
                    have n2_ := Aside0.mk (blk_below (g := gb281) (o := .cells #[.bool t277, .int .u64 t278, .int .u64 t279] 29 (0, 0)) (by (with_reducible repeat (first | refine bN_ _ ?_ | refine bd_ ?_ | refine ba_ _ ?_)); exact BK281.out) hb)
                    have n3_ := Aside0.mk (blk_below (g := gb291) (o := .cells #[.bool t287, .int .u64 t288, .int .u64 t289] 29 (0, 0)) (by (with_reducible repeat (first | refine bN_ _ ?_ | refine bd_ ?_ | refine ba_ _ ?_)); exact BK291.out) hb)
                    have n4_ := Aside0.mk (blk_below (g := gb299) (o := .cells #[.bool t295, .int .u64 t296, .int .u64 t297] 29 (0, 0)) (by (with_reducible repeat (first | refine bN_ _ ?_ | refine bd_ ?_ | refine ba_ _ ?_)); exact BK299.out) hb)
                    have n5_ := Aside0.mk (below_step bel_ hb)
                    clear BK271
                    clear BK276
                    clear BK281
                    clear BK291
                    clear BK299
                    clear HB
                    have BK271 := n0_
                    have BK276 := n1_
                    have BK281 := n2_
                    have BK291 := n3_
                    have BK299 := n4_
                    have HB := n5_
                    clear n0_ n1_ n2_ n3_ n4_ n5_
                    (try clear hb)
                    (try clear hb2)
                    (try clear hk)
                    (try clear hi)
                    refine hK.out _ _ ⟨(blk_cell BK276.out 0).trans rfl, (blk_cell BK276.out 1).trans rfl, (blk_cell BK276.out 2).trans rfl, (blk_cell BK271.out 0).trans rfl, (blk_cell BK271.out 1).trans rfl, (blk_cell BK271.out 2).trans rfl⟩ (fun hHeld => ?_)
                    clear hK K
                    refine norm_ (a' := ?_) ?_ ?_
                    rotate_left
                    · show Act.put _ (some 71) _ = _
                      simp only [Act.put, List.setIfInBounds_toArray, List.set_cons_zero, List.set_cons_succ, i64_w, i32_w]
                      rfl
                    refine pure_ (i := 9) (N := some 72) (v := ?_) (a' := ?_) #[true, true, true, true, true, true, true, true, true, true, false, false, false, false, false, false, false, false, false, false, false] rfl rfl (any_of HT_.out (by kernel_rfl)) (fun _ _ _ h => h) (Or.inl ⟨by rfl, ?_⟩) ?_ ?_
                    rotate_left
                    · intro w'
                      go_simp
                      with_reducible rfl
                    rotate_left
                    · simp only [Act.put, List.setIfInBounds_toArray, List.set_cons_zero, List.set_cons_succ, i64_w, i32_w]
                      rfl
                    refine pure_ (i := 10) (N := some 73) (v := ?_) (a' := ?_) #[true, true, true, true, true, true, true, true, true, true, true, false, false, false, false, false, false, false, false, false, false] rfl rfl (any_of HT_.out (by kernel_rfl)) (fun _ _ _ h => h) (Or.inl ⟨by rfl, ?_⟩) ?_ ?_
                    rotate_left
                    · intro w'
                      go_simp
                      with_reducible rfl
                    rotate_left
                    · simp only [Act.put, List.setIfInBounds_toArray, List.set_cons_zero, List.set_cons_succ, i64_w, i32_w]
                      rfl
                    refine pure_ (i := 11) (N := some 74) (v := ?_) (a' := ?_) #[true, true, true, true, true, true, true, true, true, true, true, true, false, false, false, false, false, false, false, false, false] rfl rfl (any_of HT_.out (by kernel_rfl)) (fun _ _ _ h => h) (Or.inl ⟨by rfl, ?_⟩) ?_ ?_
                    rotate_left
                    · intro w'
                      go_simp
                      with_reducible rfl
                    rotate_left
                    · simp only [Act.put, List.setIfInBounds_toArray, List.set_cons_zero, List.set_cons_succ, i64_w, i32_w]
                      rfl
                    refine pure_ (i := 12) (N := some 75) (v := ?_) (a' := ?_) #[true, true, true, true, true, true, true, true, true, true, true, true, true, false, false, false, false, false, false, false, false] rfl rfl (any_of HT_.out (by kernel_rfl)) (fun _ _ _ h => h) (Or.inl ⟨by rfl, ?_⟩) ?_ ?_
                    rotate_left
                    · intro w'
                      go_simp
                      with_reducible rfl
                    rotate_left
                    · simp only [Act.put, List.setIfInBounds_toArray, List.set_cons_zero, List.set_cons_succ, i64_w, i32_w]
                      rfl
                    refine pure_ (i := 13) (N := some 76) (v := undef) (a' := ?_) #[true, true, true, true, true, true, true, true, true, true, true, true, true, true, false, false, false, false, false, false, false] rfl rfl (any_of HT_.out (by kernel_rfl)) (fun _ _ _ h => h) (Or.inr ⟨by rfl, rfl⟩) ?_ ?_
                    rotate_left
                    · simp only [Act.put, List.setIfInBounds_toArray, List.set_cons_zero, List.set_cons_succ, i64_w, i32_w]
                      rfl
                    refine pure_ (i := 14) (N := some 77) (v := undef) (a' := ?_) #[true, true, true, true, true, true, true, true, true, true, true, true, true, true, true, false, false, false, false, false, false] rfl rfl (any_of HT_.out (by kernel_rfl)) (fun _ _ _ h => h) (Or.inr ⟨by rfl, rfl⟩) ?_ ?_
                    rotate_left
                    · simp only [Act.put, List.setIfInBounds_toArray, List.set_cons_zero, List.set_cons_succ, i64_w, i32_w]
                      rfl
                    refine pure_ (i := 15) (N := some 78) (v := undef) (a' := ?_) #[true, true, true, true, true, true, true, true, true, true, true, true, true, true, true, true, false, false, false, false, false] rfl rfl (any_of HT_.out (by kernel_rfl)) (fun _ _ _ h => h) (Or.inr ⟨by rfl, rfl⟩) ?_ ?_
                    rotate_left
                    · simp only [Act.put, List.setIfInBounds_toArray, List.set_cons_zero, List.set_cons_succ, i64_w, i32_w]
                      rfl
                    refine pure_ (i := 16) (N := some 79) (v := undef) (a' := ?_) #[true, true, true, true, true, true, true, true, true, true, true, true, true, true, true, true, true, false, false, false, false] rfl rfl (any_of HT_.out (by kernel_rfl)) (fun _ _ _ h => h) (Or.inr ⟨by rfl, rfl⟩) ?_ ?_
                    rotate_left
                    · simp only [Act.put, List.setIfInBounds_toArray, List.set_cons_zero, List.set_cons_succ, i64_w, i32_w]
                      rfl
                    refine pure_ (i := 17) (N := some 80) (v := ?_) (a' := ?_) #[true, true, true, true, true, true, true, true, true, true, true, true, true, true, true, true, true, true, false, false, false] rfl rfl (any_of HT_.out (by kernel_rfl)) (fun _ _ _ h => h) (Or.inl ⟨by rfl, ?_⟩) ?_ ?_
                    rotate_left
                    · intro w'
                      go_simp
                      with_reducible rfl
                    rotate_left
                    · simp only [Act.put, List.setIfInBounds_toArray, List.set_cons_zero, List.set_cons_succ, i64_w, i32_w]
                      rfl
                    refine pure_ (i := 18) (N := some 81) (v := ?_) (a' := ?_) #[true, true, true, true, true, true, true, true, true, true, true, true, true, true, true, true, true, true, true, false, false] rfl rfl (any_of HT_.out (by kernel_rfl)) (fun _ _ _ h => h) (Or.inl ⟨by rfl, ?_⟩) ?_ ?_
                    rotate_left
                    · intro w'
                      go_simp
                      with_reducible rfl
                    rotate_left
                    · simp only [Act.put, List.setIfInBounds_toArray, List.set_cons_zero, List.set_cons_succ, i64_w, i32_w]
                      rfl
                    refine pure_ (i := 19) (N := some 82) (v := ?_) (a' := ?_) #[true, true, true, true, true, true, true, true, true, true, true, true, true, true, true, true, true, true, true, true, false] rfl rfl (any_of HT_.out (by kernel_rfl)) (fun _ _ _ h => h) (Or.inl ⟨by rfl, ?_⟩) ?_ ?_
                    rotate_left
                    · intro w'
                      go_simp
                      with_reducible rfl
                    rotate_left
                    · simp only [Act.put, List.setIfInBounds_toArray, List.set_cons_zero, List.set_cons_succ, i64_w, i32_w]
                      rfl
                    refine pure_ (i := 20) (N := some 2) (v := ?_) (a' := ?_) #[true, true, true, true, true, true, true, true, true, true, true, true, true, true, true, true, true, true, true, true, true] rfl rfl (any_of HT_.out (by kernel_rfl)) (fun _ _ _ h => h) (Or.inl ⟨by rfl, ?_⟩) ?_ ?_
                    rotate_left
                    · intro w'
                      go_simp
                      with_reducible rfl
                    rotate_left
                    · simp only [Act.put, List.setIfInBounds_toArray, List.set_cons_zero, List.set_cons_succ, i64_w, i32_w]
                      rfl
                    refine done_ (done_of HT_.out (by kernel_rfl)) ?_
                    try go_wp2
                    go_ret
                    exact ⟨by first | rfl | (simp [errW_none, errW_some] <;> rfl) | (simp [*, errW_none, errW_some] <;> rfl), by repeat (first | (with_reducible first | exact HB.out | apply below_alloc | apply pw_below_drewN | apply below_drew1 | refine below_set ?_ GE271.out | refine below_set ?_ GE276.out | refine below_set ?_ GE281.out | refine below_set ?_ GE291.out | refine below_set ?_ GE299.out) | exact HB.out)⟩
                · replace c59 := Bool.eq_false_iff.mpr c59
                  subst c59
                  have H1 : (some true) = some r := by rw [if_neg (show ¬ (false = true) by decide)] at H; exact H
                  clear H
                  have H := H1
                  clear H1
                  obtain rfl := Option.some.inj H
                  have hnb93 := NB271_276.out
                  have hnc93 := NB276_271.out
                  have hnb94 := NB271_281.out
                  have hnc94 := NB281_271.out
                  have hnb95 := NB271_291.out
                  have hnc95 := NB291_271.out
                  have hcz96_0 : wc.cell? ⟨gb271, 0, none⟩ = some (.bool t267) := (blk_cell BK271.out 0).trans rfl
                  have hcz96_1 : wc.cell? ⟨gb271, 1, none⟩ = some (.int .u64 t268) := (blk_cell BK271.out 1).trans rfl
                  have hcz96_2 : wc.cell? ⟨gb271, 2, none⟩ = some (.int .u64 t269) := (blk_cell BK271.out 2).trans rfl
                  have hfz96_0 := blk_frozen BK271.out 0
                  have hfz96_1 := blk_frozen BK271.out 1
                  have hfz96_2 := blk_frozen BK271.out 2
                  try go_wp2_with (first | ((with_reducible refine gate_callee (f := 30) rfl ?_); refine goesL_ (some 60) rfl rfl Try.func30 (by kernel_rfl) rfl #[.agg #[.bool t267, .int .u64 t268, .int .u64 t269], .int .i64 (-1)] rfl mp_ ?_; (with_reducible refine (impl_ScaleWide.calls t267 t268 t269 (-1) t295 t296 t297 t298 _ A54.out).mono ?_); rintro e w97 ⟨rfl, hb⟩; refine ⟨_, rfl, ?_⟩; have n0_ := Aside0.mk (blk_below (g := gb271) (o := .cells #[.bool t267, .int .u64 t268, .int .u64 t269] 29 (0, 0)) (by (with_reducible repeat (first | refine bN_ _ ?_ | refine bd_ ?_ | refine ba_ _ ?_)); exact BK271.out) hb); have n1_ := Aside0.mk (blk_below (g := gb276) (o := .cells #[.bool t272, .int .u64 t273, .int .u64 t274] 29 (0, 0)) (by (with_reducible repeat (first | refine bN_ _ ?_ | refine bd_ ?_ | refine ba_ _ ?_)); exact BK276.out) hb); have n2_ := Aside0.mk (blk_below (g := gb281) (o := .cells #[.bool t277, .int .u64 t278, .int .u64 t279] 29 (0, 0)) (by (with_reducible repeat (first | refine bN_ _ ?_ | refine bd_ ?_ | refine ba_ _ ?_)); exact BK281.out) hb); have n3_ := Aside0.mk (blk_below (g := gb291) (o := .cells #[.bool t287, .int .u64 t288, .int .u64 t289] 29 (0, 0)) (by (with_reducible repeat (first | refine bN_ _ ?_ | refine bd_ ?_ | refine ba_ _ ?_)); exact BK291.out) hb); have n4_ := Aside0.mk (below_step bel_ hb); clear BK271; clear BK276; clear BK281; clear BK291; clear HB; have BK271 := n0_; have BK276 := n1_; have BK281 := n2_; have BK291 := n3_; have HB := n4_; clear n0_ n1_ n2_ n3_ n4_; (try clear hb); (try clear hb2); (try clear hk); (try clear hi)) | ((with_reducible refine gate_dst (N := 13) rfl ?_); refine box_event ?hg (N := 13) ?hd (cs := #[.bool false, .int .u64 0, .int .u64 0]) (t := 29) ?hr ?_; (case hd => rfl); (case hg => rfl); (case hr => first | (go_simp; done) | (go_simp; rfl)); intro gb299 hg w98 hbox hb; have n0_ := Aside0.mk (blk_below (g := gb271) (o := .cells #[.bool t267, .int .u64 t268, .int .u64 t269] 29 (0, 0)) (by (with_reducible repeat (first | refine bN_ _ ?_ | refine bd_ ?_ | refine ba_ _ ?_)); exact BK271.out) hb); have n1_ := Aside0.mk (blk_below (g := gb276) (o := .cells #[.bool t272, .int .u64 t273, .int .u64 t274] 29 (0, 0)) (by (with_reducible repeat (first | refine bN_ _ ?_ | refine bd_ ?_ | refine ba_ _ ?_)); exact BK276.out) hb); have n2_ := Aside0.mk (blk_below (g := gb281) (o := .cells #[.bool t277, .int .u64 t278, .int .u64 t279] 29 (0, 0)) (by (with_reducible repeat (first | refine bN_ _ ?_ | refine bd_ ?_ | refine ba_ _ ?_)); exact BK281.out) hb); have n3_ := Aside0.mk (blk_below (g := gb291) (o := .cells #[.bool t287, .int .u64 t288, .int .u64 t289] 29 (0, 0)) (by (with_reducible repeat (first | refine bN_ _ ?_ | refine bd_ ?_ | refine ba_ _ ?_)); exact BK291.out) hb); have n4_ := Aside0.mk (below_step bel_ hb); have n5_ := Aside0.mk (hbox); have n6_ := Aside0.mk ((by rw [hg]; exact (below_size bel_) : w.heap.size ≤ gb299)); have n7_ := Aside0.mk ((by rw [hg]; exact (below_size bel_) : w.heap.size ≤ gb299)); have n8_ := Aside0.mk ((by rw [hg]; exact Nat.ne_of_lt (blk_lt (g := gb271) (o := .cells #[.bool t267, .int .u64 t268, .int .u64 t269] 29 (0, 0)) (by (with_reducible repeat (first | refine bN_ _ ?_ | refine bd_ ?_ | refine ba_ _ ?_)); exact BK271.out)) : gb271 ≠ gb299)); have n9_ := Aside0.mk ((by rw [hg]; exact Nat.ne_of_gt (blk_lt (g := gb271) (o := .cells #[.bool t267, .int .u64 t268, .int .u64 t269] 29 (0, 0)) (by (with_reducible repeat (first | refine bN_ _ ?_ | refine bd_ ?_ | refine ba_ _ ?_)); exact BK271.out)) : gb299 ≠ gb271)); have n10_ := Aside0.mk ((by rw [hg]; exact Nat.ne_of_lt (blk_lt (g := gb276) (o := .cells #[.bool t272, .int .u64 t273, .int .u64 t274] 29 (0, 0)) (by (with_reducible repeat (first | refine bN_ _ ?_ | refine bd_ ?_ | refine ba_ _ ?_)); exact BK276.out)) : gb276 ≠ gb299)); have n11_ := Aside0.mk ((by rw [hg]; exact Nat.ne_of_gt (blk_lt (g := gb276) (o := .cells #[.bool t272, .int .u64 t273, .int .u64 t274] 29 (0, 0)) (by (with_reducible repeat (first | refine bN_ _ ?_ | refine bd_ ?_ | refine ba_ _ ?_)); exact BK276.out)) : gb299 ≠ gb276)); have n12_ := Aside0.mk ((by rw [hg]; exact Nat.ne_of_lt (blk_lt (g := gb281) (o := .cells #[.bool t277, .int .u64 t278, .int .u64 t279] 29 (0, 0)) (by (with_reducible repeat (first | refine bN_ _ ?_ | refine bd_ ?_ | refine ba_ _ ?_)); exact BK281.out)) : gb281 ≠ gb299)); have n13_ := Aside0.mk ((by rw [hg]; exact Nat.ne_of_gt (blk_lt (g := gb281) (o := .cells #[.bool t277, .int .u64 t278, .int .u64 t279] 29 (0, 0)) (by (with_reducible repeat (first | refine bN_ _ ?_ | refine bd_ ?_ | refine ba_ _ ?_)); exact BK281.out)) : gb299 ≠ gb281)); have n14_ := Aside0.mk ((by rw [hg]; exact Nat.ne_of_lt (blk_lt (g := gb291) (o := .cells #[.bool t287, .int .u64 t288, .int .u64 t289] 29 (0, 0)) (by (with_reducible repeat (first | refine bN_ _ ?_ | refine bd_ ?_ | refine ba_ _ ?_)); exact BK291.out)) : gb291 ≠ gb299)); have n15_ := Aside0.mk ((by rw [hg]; exact Nat.ne_of_gt (blk_lt (g := gb291) (o := .cells #[.bool t287, .int .u64 t288, .int .u64 t289] 29 (0, 0)) (by (with_reducible repeat (first | refine bN_ _ ?_ | refine bd_ ?_ | refine ba_ _ ?_)); exact BK291.out)) : gb299 ≠ gb291)); clear BK271; clear BK276; clear BK281; clear BK291; clear HB; have BK271 := n0_; have BK276 := n1_; have BK281 := n2_; have BK291 := n3_; have HB := n4_; have BK299 := n5_; have GW299 := n6_; have GE299 := n7_; have NB271_299 := n8_; have NB299_271 := n9_; have NB276_299 := n10_; have NB299_276 := n11_; have NB281_299 := n12_; have NB299_281 := n13_; have NB291_299 := n14_; have NB299_291 := n15_; clear n0_ n1_ n2_ n3_ n4_ n5_ n6_ n7_ n8_ n9_ n10_ n11_ n12_ n13_ n14_ n15_; clear hb hbox hg; have hnb99 := NB299_271.out; have hnc99 := NB271_299.out; have hnb100 := NB299_276.out; have hnc100 := NB276_299.out; have hnb101 := NB299_281.out; have hnc101 := NB281_299.out; have hnb102 := NB299_291.out; have hnc102 := NB291_299.out; have hcz103_0 : w98.cell? ⟨gb299, 0, none⟩ = some (.bool false) := (blk_cell BK299.out 0).trans rfl; have hcz103_1 : w98.cell? ⟨gb299, 1, none⟩ = some (.int .u64 0) := (blk_cell BK299.out 1).trans rfl; have hcz103_2 : w98.cell? ⟨gb299, 2, none⟩ = some (.int .u64 0) := (blk_cell BK299.out 2).trans rfl; have hfz103_0 := blk_frozen BK299.out 0; have hfz103_1 := blk_frozen BK299.out 1; have hfz103_2 := blk_frozen BK299.out 2))
                  have n0_ : Aside0 ((((w98.setCell ⟨gb299, 0, none⟩ (.bool t295)).setCell ⟨gb299, 1, none⟩ (.int .u64 t296)).setCell ⟨gb299, 2, none⟩ (.int .u64 t297)).heap[gb271]? = some (.cells #[.bool t267, .int .u64 t268, .int .u64 t269] 29 (0, 0))) := ⟨by (with_reducible repeat (first | refine bN_ _ ?_ | refine bd_ ?_ | refine ba_ _ ?_)); refine blk_far ?_ NB271_299.out _; (with_reducible repeat (first | refine bN_ _ ?_ | refine bd_ ?_ | refine ba_ _ ?_)); refine blk_far ?_ NB271_299.out _; (with_reducible repeat (first | refine bN_ _ ?_ | refine bd_ ?_ | refine ba_ _ ?_)); refine blk_far ?_ NB271_299.out _; (with_reducible repeat (first | refine bN_ _ ?_ | refine bd_ ?_ | refine ba_ _ ?_)); exact BK271.out⟩
                  have n1_ : Aside0 ((((w98.setCell ⟨gb299, 0, none⟩ (.bool t295)).setCell ⟨gb299, 1, none⟩ (.int .u64 t296)).setCell ⟨gb299, 2, none⟩ (.int .u64 t297)).heap[gb276]? = some (.cells #[.bool t272, .int .u64 t273, .int .u64 t274] 29 (0, 0))) := ⟨by (with_reducible repeat (first | refine bN_ _ ?_ | refine bd_ ?_ | refine ba_ _ ?_)); refine blk_far ?_ NB276_299.out _; (with_reducible repeat (first | refine bN_ _ ?_ | refine bd_ ?_ | refine ba_ _ ?_)); refine blk_far ?_ NB276_299.out _; (with_reducible repeat (first | refine bN_ _ ?_ | refine bd_ ?_ | refine ba_ _ ?_)); refine blk_far ?_ NB276_299.out _; (with_reducible repeat (first | refine bN_ _ ?_ | refine bd_ ?_ | refine ba_ _ ?_)); exact BK276.out⟩
                  have n2_ : Aside0 ((((w98.setCell ⟨gb299, 0, none⟩ (.bool t295)).setCell ⟨gb299, 1, none⟩ (.int .u64 t296)).setCell ⟨gb299, 2, none⟩ (.int .u64 t297)).heap[gb281]? = some (.cells #[.bool t277, .int .u64 t278, .int .u64 t279] 29 (0, 0))) := ⟨by (with_reducible repeat (first | refine bN_ _ ?_ | refine bd_ ?_ | refine ba_ _ ?_)); refine blk_far ?_ NB281_299.out _; (with_reducible repeat (first | refine bN_ _ ?_ | refine bd_ ?_ | refine ba_ _ ?_)); refine blk_far ?_ NB281_299.out _; (with_reducible repeat (first | refine bN_ _ ?_ | refine bd_ ?_ | refine ba_ _ ?_)); refine blk_far ?_ NB281_299.out _; (with_reducible repeat (first | refine bN_ _ ?_ | refine bd_ ?_ | refine ba_ _ ?_)); exact BK281.out⟩
                  have n3_ : Aside0 ((((w98.setCell ⟨gb299, 0, none⟩ (.bool t295)).setCell ⟨gb299, 1, none⟩ (.int .u64 t296)).setCell ⟨gb299, 2, none⟩ (.int .u64 t297)).heap[gb291]? = some (.cells #[.bool t287, .int .u64 t288, .int .u64 t289] 29 (0, 0))) := ⟨by (with_reducible repeat (first | refine bN_ _ ?_ | refine bd_ ?_ | refine ba_ _ ?_)); refine blk_far ?_ NB291_299.out _; (with_reducible repeat (first | refine bN_ _ ?_ | refine bd_ ?_ | refine ba_ _ ?_)); refine blk_far ?_ NB291_299.out _; (with_reducible repeat (first | refine bN_ _ ?_ | refine bd_ ?_ | refine ba_ _ ?_)); refine blk_far ?_ NB291_299.out _; (with_reducible repeat (first | refine bN_ _ ?_ | refine bd_ ?_ | refine ba_ _ ?_)); exact BK291.out⟩
                  have n4_ : Aside0 ((((w98.setCell ⟨gb299, 0, none⟩ (.bool t295)).setCell ⟨gb299, 1, none⟩ (.int .u64 t296)).setCell ⟨gb299, 2, none⟩ (.int .u64 t297)).heap[gb299]? = some (.cells #[.bool t295, .int .u64 t296, .int .u64 t297] 29 (0, 0))) := ⟨by (with_reducible repeat (first | refine bN_ _ ?_ | refine bd_ ?_ | refine ba_ _ ?_)); refine blk_put (cs := #[.bool t295, .int .u64 t296, .int .u64 0]) ?_ 2 _ rfl; (with_reducible repeat (first | refine bN_ _ ?_ | refine bd_ ?_ | refine ba_ _ ?_)); refine blk_put (cs := #[.bool t295, .int .u64 0, .int .u64 0]) ?_ 1 _ rfl; (with_reducible repeat (first | refine bN_ _ ?_ | refine bd_ ?_ | refine ba_ _ ?_)); refine blk_put (cs := #[.bool false, .int .u64 0, .int .u64 0]) ?_ 0 _ rfl; (with_reducible repeat (first | refine bN_ _ ?_ | refine bd_ ?_ | refine ba_ _ ?_)); exact BK299.out⟩
                  have n5_ : Aside0 (Below w.heap.size w (((w98.setCell ⟨gb299, 0, none⟩ (.bool t295)).setCell ⟨gb299, 1, none⟩ (.int .u64 t296)).setCell ⟨gb299, 2, none⟩ (.int .u64 t297))) := ⟨by repeat (first | (with_reducible first | exact HB.out | apply below_alloc | apply pw_below_drewN | apply below_drew1 | refine below_set ?_ GE271.out | refine below_set ?_ GE276.out | refine below_set ?_ GE281.out | refine below_set ?_ GE291.out | refine below_set ?_ GE299.out) | exact HB.out)⟩
                  (try clear BK271)
                  (try clear BK276)
                  (try clear BK281)
                  (try clear BK291)
                  (try clear BK299)
                  (try clear HB)
                  generalize (((w98.setCell ⟨gb299, 0, none⟩ (.bool t295)).setCell ⟨gb299, 1, none⟩ (.int .u64 t296)).setCell ⟨gb299, 2, none⟩ (.int .u64 t297)) = w104 at n0_ n1_ n2_ n3_ n4_ n5_ ⊢
                  have BK271 := n0_
                  have BK276 := n1_
                  have BK281 := n2_
                  have BK291 := n3_
                  have BK299 := n4_
                  have HB := n5_
                  clear n0_ n1_ n2_ n3_ n4_ n5_
                  have n0_ := Aside0.mk (blk_drew BK271.out)
                  have n1_ := Aside0.mk (blk_drew BK276.out)
                  have n2_ := Aside0.mk (blk_drew BK281.out)
                  have n3_ := Aside0.mk (blk_drew BK291.out)
                  have n4_ := Aside0.mk (blk_drew BK299.out)
                  have n5_ := Aside0.mk (below_drew1 HB.out)
                  clear BK271
                  clear BK276
                  clear BK281
                  clear BK291
                  clear BK299
                  clear HB
                  have BK271 := n0_
                  have BK276 := n1_
                  have BK281 := n2_
                  have BK291 := n3_
                  have BK299 := n4_
                  have HB := n5_
                  clear n0_ n1_ n2_ n3_ n4_ n5_
                  refine start_ (n := 21) (S := fun w' => w'.cell? ⟨gb276, 0, none⟩ = some (.bool t272) ∧ w'.cell? ⟨gb276, 1, none⟩ = some (.int .u64 t273) ∧ w'.cell? ⟨gb276, 2, none⟩ = some (.int .u64 t274) ∧ w'.cell? ⟨gb271, 0, none⟩ = some (.bool t267) ∧ w'.cell? ⟨gb271, 1, none⟩ = some (.int .u64 t268) ∧ w'.cell? ⟨gb271, 2, none⟩ = some (.int .u64 t269)) (ds := []) #[false, false, false, false, false, false, false, false, false, false, false, false, false, false, false, false, false, false, false, false, false] (by kernel_rfl) rfl rfl ⟨(blk_cell BK276.out 0).trans rfl, (blk_cell BK276.out 1).trans rfl, (blk_cell BK276.out 2).trans rfl, (blk_cell BK271.out 0).trans rfl, (blk_cell BK271.out 1).trans rfl, (blk_cell BK271.out 2).trans rfl⟩ (fun hHeld => ?_); refine with_tabW laws_FnScale.tab13 laws_FnScale.bits13 (fun HT_ HW_ => ?_)
                  generalize w104.drew = w105 at BK271 BK276 BK281 BK291 BK299 HB hHeld ⊢
                  refine pure_ (i := 0) (N := some 63) (v := ?_) (a' := ?_) #[true, false, false, false, false, false, false, false, false, false, false, false, false, false, false, false, false, false, false, false, false] rfl rfl (any_of HT_.out (by kernel_rfl)) (fun _ _ _ h => h) (Or.inl ⟨by rfl, ?_⟩) ?_ ?_
                  rotate_left
                  · intro w'
                    go_simp
                    with_reducible rfl
                  rotate_left
                  · simp only [Act.put, List.setIfInBounds_toArray, List.set_cons_zero, List.set_cons_succ, i64_w, i32_w]
                    rfl
                  refine pure_ (i := 1) (N := some 64) (v := ?_) (a' := ?_) #[true, true, false, false, false, false, false, false, false, false, false, false, false, false, false, false, false, false, false, false, false] rfl rfl (any_of HT_.out (by kernel_rfl)) (fun _ _ _ h => h) (Or.inl ⟨by rfl, ?_⟩) ?_ ?_
                  rotate_left
                  · intro w'
                    go_simp
                    with_reducible rfl
                  rotate_left
                  · simp only [Act.put, List.setIfInBounds_toArray, List.set_cons_zero, List.set_cons_succ, i64_w, i32_w]
                    rfl
                  refine pure_ (i := 2) (N := some 65) (v := ?_) (a' := ?_) #[true, true, true, false, false, false, false, false, false, false, false, false, false, false, false, false, false, false, false, false, false] rfl rfl (any_of HT_.out (by kernel_rfl)) (fun _ _ _ h => h) (Or.inl ⟨by rfl, ?_⟩) ?_ ?_
                  rotate_left
                  · intro w'
                    go_simp
                    with_reducible rfl
                  rotate_left
                  · simp only [Act.put, List.setIfInBounds_toArray, List.set_cons_zero, List.set_cons_succ, i64_w, i32_w]
                    rfl
                  refine take_ (i := 3) (N := some 66) (v := ?_) (a' := ?_) #[true, true, true, true, false, false, false, false, false, false, false, false, false, false, false, false, false, false, false, false, false] rfl rfl (take_ofW HT_.out HW_.out (by kernel_rfl)) (fun _ _ _ h => h) (Or.inl ⟨by rfl, ?_⟩) hHeld ?_ ?_
                  rotate_left
                  · rintro w' ⟨s0, s1, s2, s3, s4, s5⟩
                    go_simp
                    with_reducible rfl
                  rotate_left
                  · simp only [Act.put, List.setIfInBounds_toArray, List.set_cons_zero, List.set_cons_succ, i64_w, i32_w]
                    rfl
                  refine one_ (i := 4) (N := some 67) #[true, true, true, true, true, false, false, false, false, false, false, false, false, false, false, false, false, false, false, false, false] rfl rfl (one_of HT_.out (by kernel_rfl)) (by decide) (fun K hK => ?_)
                  refine goes_ Try.func17 (by kernel_rfl) rfl #[.agg #[.bool t272, .int .u64 t273, .int .u64 t274]] (by rfl) rfl rfl mp_ ?_
                  with_reducible refine (spec_WideOk.calls t272 t273 t274 true _ A56.out).mono ?_
                  rintro e w106 ⟨rfl, hb⟩
                  refine ⟨_, rfl, ?_⟩
                  have n0_ := Aside0.mk (blk_below (g := gb271) (o := .cells #[.bool t267, .int .u64 t268, .int .u64 t269] 29 (0, 0)) (by (with_reducible repeat (first | refine bN_ _ ?_ | refine bd_ ?_ | refine ba_ _ ?_)); exact BK271.out) hb)
                  have n1_ := Aside0.mk (blk_below (g := gb276) (o := .cells #[.bool t272, .int .u64 t273, .int .u64 t274] 29 (0, 0)) (by (with_reducible repeat (first | refine bN_ _ ?_ | refine bd_ ?_ | refine ba_ _ ?_)); exact BK276.out) hb)
                  have n2_ := Aside0.mk (blk_below (g := gb281) (o := .cells #[.bool t277, .int .u64 t278, .int .u64 t279] 29 (0, 0)) (by (with_reducible repeat (first | refine bN_ _ ?_ | refine bd_ ?_ | refine ba_ _ ?_)); exact BK281.out) hb)
                  have n3_ := Aside0.mk (blk_below (g := gb291) (o := .cells #[.bool t287, .int .u64 t288, .int .u64 t289] 29 (0, 0)) (by (with_reducible repeat (first | refine bN_ _ ?_ | refine bd_ ?_ | refine ba_ _ ?_)); exact BK291.out) hb)
                  have n4_ := Aside0.mk (blk_below (g := gb299) (o := .cells #[.bool t295, .int .u64 t296, .int .u64 t297] 29 (0, 0)) (by (with_reducible repeat (first | refine bN_ _ ?_ | refine bd_ ?_ | refine ba_ _ ?_)); exact BK299.out) hb)
                  have n5_ := Aside0.mk (below_step bel_ hb)
                  clear BK271
                  clear BK276
                  clear BK281
                  clear BK291
                  clear BK299
                  clear HB
                  have BK271 := n0_
                  have BK276 := n1_
                  have BK281 := n2_
                  have BK291 := n3_
                  have BK299 := n4_
                  have HB := n5_
                  clear n0_ n1_ n2_ n3_ n4_ n5_
                  (try clear hb)
                  (try clear hb2)
                  (try clear hk)
                  (try clear hi)
                  refine hK.out _ _ ⟨(blk_cell BK276.out 0).trans rfl, (blk_cell BK276.out 1).trans rfl, (blk_cell BK276.out 2).trans rfl, (blk_cell BK271.out 0).trans rfl, (blk_cell BK271.out 1).trans rfl, (blk_cell BK271.out 2).trans rfl⟩ (fun hHeld => ?_)
                  clear hK K
                  refine norm_ (a' := ?_) ?_ ?_
                  rotate_left
                  · show Act.put _ (some 67) _ = _
                    simp only [Act.put, List.setIfInBounds_toArray, List.set_cons_zero, List.set_cons_succ, i64_w, i32_w]
                    rfl
                  refine pure_ (i := 5) (N := some 68) (v := ?_) (a' := ?_) #[true, true, true, true, true, true, false, false, false, false, false, false, false, false, false, false, false, false, false, false, false] rfl rfl (any_of HT_.out (by kernel_rfl)) (fun _ _ _ h => h) (Or.inl ⟨by rfl, ?_⟩) ?_ ?_
                  rotate_left
                  · intro w'
                    go_simp
                    with_reducible rfl
                  rotate_left
                  · simp only [Act.put, List.setIfInBounds_toArray, List.set_cons_zero, List.set_cons_succ, i64_w, i32_w]
                    rfl
                  refine pure_ (i := 6) (N := some 69) (v := ?_) (a' := ?_) #[true, true, true, true, true, true, true, false, false, false, false, false, false, false, false, false, false, false, false, false, false] rfl rfl (any_of HT_.out (by kernel_rfl)) (fun _ _ _ h => h) (Or.inl ⟨by rfl, ?_⟩) ?_ ?_
                  rotate_left
                  · intro w'
                    go_simp
                    with_reducible rfl
                  rotate_left
                  · simp only [Act.put, List.setIfInBounds_toArray, List.set_cons_zero, List.set_cons_succ, i64_w, i32_w]
                    rfl
                  refine take_ (i := 7) (N := some 70) (v := ?_) (a' := ?_) #[true, true, true, true, true, true, true, true, false, false, false, false, false, false, false, false, false, false, false, false, false] rfl rfl (take_ofW HT_.out HW_.out (by kernel_rfl)) (fun _ _ _ h => h) (Or.inl ⟨by rfl, ?_⟩) hHeld ?_ ?_
                  rotate_left
                  · rintro w' ⟨s0, s1, s2, s3, s4, s5⟩
                    go_simp
                    with_reducible rfl
                  rotate_left
                  · simp only [Act.put, List.setIfInBounds_toArray, List.set_cons_zero, List.set_cons_succ, i64_w, i32_w]
                    rfl
                  refine one_ (i := 8) (N := some 71) #[true, true, true, true, true, true, true, true, true, false, false, false, false, false, false, false, false, false, false, false, false] rfl rfl (one_of HT_.out (by kernel_rfl)) (by decide) (fun K hK => ?_)
                  refine goes_ Try.func17 (by kernel_rfl) rfl #[.agg #[.bool t267, .int .u64 t268, .int .u64 t269]] (by rfl) rfl rfl mp_ ?_
                  with_reducible refine (spec_WideOk.calls t267 t268 t269 false _ A58.out).mono ?_
                  rintro e w107 ⟨rfl, hb⟩
                  refine ⟨_, rfl, ?_⟩
                  have n0_ := Aside0.mk (blk_below (g := gb271) (o := .cells #[.bool t267, .int .u64 t268, .int .u64 t269] 29 (0, 0)) (by (with_reducible repeat (first | refine bN_ _ ?_ | refine bd_ ?_ | refine ba_ _ ?_)); exact BK271.out) hb)
                  have n1_ := Aside0.mk (blk_below (g := gb276) (o := .cells #[.bool t272, .int .u64 t273, .int .u64 t274] 29 (0, 0)) (by (with_reducible repeat (first | refine bN_ _ ?_ | refine bd_ ?_ | refine ba_ _ ?_)); exact BK276.out) hb)
                  have n2_ := Aside0.mk (blk_below (g := gb281) (o := .cells #[.bool t277, .int .u64 t278, .int .u64 t279] 29 (0, 0)) (by (with_reducible repeat (first | refine bN_ _ ?_ | refine bd_ ?_ | refine ba_ _ ?_)); exact BK281.out) hb)
                  have n3_ := Aside0.mk (blk_below (g := gb291) (o := .cells #[.bool t287, .int .u64 t288, .int .u64 t289] 29 (0, 0)) (by (with_reducible repeat (first | refine bN_ _ ?_ | refine bd_ ?_ | refine ba_ _ ?_)); exact BK291.out) hb)
                  have n4_ := Aside0.mk (blk_below (g := gb299) (o := .cells #[.bool t295, .int .u64 t296, .int .u64 t297] 29 (0, 0)) (by (with_reducible repeat (first | refine bN_ _ ?_ | refine bd_ ?_ | refine ba_ _ ?_)); exact BK299.out) hb)
                  have n5_ := Aside0.mk (below_step bel_ hb)
                  clear BK271
                  clear BK276
                  clear BK281
                  clear BK291
                  clear BK299
                  clear HB
                  have BK271 := n0_
                  have BK276 := n1_
                  have BK281 := n2_
                  have BK291 := n3_
                  have BK299 := n4_
                  have HB := n5_
                  clear n0_ n1_ n2_ n3_ n4_ n5_
                  (try clear hb)
                  (try clear hb2)
                  (try clear hk)
                  (try clear hi)
                  refine hK.out _ _ ⟨(blk_cell BK276.out 0).trans rfl, (blk_cell BK276.out 1).trans rfl, (blk_cell BK276.out 2).trans rfl, (blk_cell BK271.out 0).trans rfl, (blk_cell BK271.out 1).trans rfl, (blk_cell BK271.out 2).trans rfl⟩ (fun hHeld => ?_)
                  clear hK K
                  refine norm_ (a' := ?_) ?_ ?_
                  rotate_left
                  · show Act.put _ (some 71) _ = _
                    simp only [Act.put, List.setIfInBounds_toArray, List.set_cons_zero, List.set_cons_succ, i64_w, i32_w]
                    rfl
                  refine pure_ (i := 9) (N := some 72) (v := ?_) (a' := ?_) #[true, true, true, true, true, true, true, true, true, true, false, false, false, false, false, false, false, false, false, false, false] rfl rfl (any_of HT_.out (by kernel_rfl)) (fun _ _ _ h => h) (Or.inl ⟨by rfl, ?_⟩) ?_ ?_
                  rotate_left
                  · intro w'
                    go_simp
                    with_reducible rfl
                  rotate_left
                  · simp only [Act.put, List.setIfInBounds_toArray, List.set_cons_zero, List.set_cons_succ, i64_w, i32_w]
                    rfl
                  refine pure_ (i := 10) (N := some 73) (v := ?_) (a' := ?_) #[true, true, true, true, true, true, true, true, true, true, true, false, false, false, false, false, false, false, false, false, false] rfl rfl (any_of HT_.out (by kernel_rfl)) (fun _ _ _ h => h) (Or.inl ⟨by rfl, ?_⟩) ?_ ?_
                  rotate_left
                  · intro w'
                    go_simp
                    with_reducible rfl
                  rotate_left
                  · simp only [Act.put, List.setIfInBounds_toArray, List.set_cons_zero, List.set_cons_succ, i64_w, i32_w]
                    rfl
                  refine pure_ (i := 11) (N := some 74) (v := undef) (a' := ?_) #[true, true, true, true, true, true, true, true, true, true, true, true, false, false, false, false, false, false, false, false, false] rfl rfl (any_of HT_.out (by kernel_rfl)) (fun _ _ _ h => h) (Or.inr ⟨by rfl, rfl⟩) ?_ ?_
                  rotate_left
                  · simp only [Act.put, List.setIfInBounds_toArray, List.set_cons_zero, List.set_cons_succ, i64_w, i32_w]
                    rfl
                  refine pure_ (i := 12) (N := some 75) (v := undef) (a' := ?_) #[true, true, true, true, true, true, true, true, true, true, true, true, true, false, false, false, false, false, false, false, false] rfl rfl (any_of HT_.out (by kernel_rfl)) (fun _ _ _ h => h) (Or.inr ⟨by rfl, rfl⟩) ?_ ?_
                  rotate_left
                  · simp only [Act.put, List.setIfInBounds_toArray, List.set_cons_zero, List.set_cons_succ, i64_w, i32_w]
                    rfl
                  refine pure_ (i := 13) (N := some 76) (v := undef) (a' := ?_) #[true, true, true, true, true, true, true, true, true, true, true, true, true, true, false, false, false, false, false, false, false] rfl rfl (any_of HT_.out (by kernel_rfl)) (fun _ _ _ h => h) (Or.inr ⟨by rfl, rfl⟩) ?_ ?_
                  rotate_left
                  · simp only [Act.put, List.setIfInBounds_toArray, List.set_cons_zero, List.set_cons_succ, i64_w, i32_w]
                    rfl
                  refine pure_ (i := 14) (N := some 77) (v := undef) (a' := ?_) #[true, true, true, true, true, true, true, true, true, true, true, true, true, true, true, false, false, false, false, false, false] rfl rfl (any_of HT_.out (by kernel_rfl)) (fun _ _ _ h => h) (Or.inr ⟨by rfl, rfl⟩) ?_ ?_
                  rotate_left
                  · simp only [Act.put, List.setIfInBounds_toArray, List.set_cons_zero, List.set_cons_succ, i64_w, i32_w]
                    rfl
                  refine pure_ (i := 15) (N := some 78) (v := undef) (a' := ?_) #[true, true, true, true, true, true, true, true, true, true, true, true, true, true, true, true, false, false, false, false, false] rfl rfl (any_of HT_.out (by kernel_rfl)) (fun _ _ _ h => h) (Or.inr ⟨by rfl, rfl⟩) ?_ ?_
                  rotate_left
                  · simp only [Act.put, List.setIfInBounds_toArray, List.set_cons_zero, List.set_cons_succ, i64_w, i32_w]
                    rfl
                  refine pure_ (i := 16) (N := some 79) (v := undef) (a' := ?_) #[true, true, true, true, true, true, true, true, true, true, true, true, true, true, true, true, true, false, false, false, false] rfl rfl (any_of HT_.out (by kernel_rfl)) (fun _ _ _ h => h) (Or.inr ⟨by rfl, rfl⟩) ?_ ?_
                  rotate_left
                  · simp only [Act.put, List.setIfInBounds_toArray, List.set_cons_zero, List.set_cons_succ, i64_w, i32_w]
                    rfl
                  refine pure_ (i := 17) (N := some 80) (v := undef) (a' := ?_) #[true, true, true, true, true, true, true, true, true, true, true, true, true, true, true, true, true, true, false, false, false] rfl rfl (any_of HT_.out (by kernel_rfl)) (fun _ _ _ h => h) (Or.inr ⟨by rfl, rfl⟩) ?_ ?_
                  rotate_left
                  · simp only [Act.put, List.setIfInBounds_toArray, List.set_cons_zero, List.set_cons_succ, i64_w, i32_w]
                    rfl
                  refine pure_ (i := 18) (N := some 81) (v := ?_) (a' := ?_) #[true, true, true, true, true, true, true, true, true, true, true, true, true, true, true, true, true, true, true, false, false] rfl rfl (any_of HT_.out (by kernel_rfl)) (fun _ _ _ h => h) (Or.inl ⟨by rfl, ?_⟩) ?_ ?_
                  rotate_left
                  · intro w'
                    go_simp
                    with_reducible rfl
                  rotate_left
                  · simp only [Act.put, List.setIfInBounds_toArray, List.set_cons_zero, List.set_cons_succ, i64_w, i32_w]
                    rfl
                  refine pure_ (i := 19) (N := some 82) (v := ?_) (a' := ?_) #[true, true, true, true, true, true, true, true, true, true, true, true, true, true, true, true, true, true, true, true, false] rfl rfl (any_of HT_.out (by kernel_rfl)) (fun _ _ _ h => h) (Or.inl ⟨by rfl, ?_⟩) ?_ ?_
                  rotate_left
                  · intro w'
                    go_simp
                    with_reducible rfl
                  rotate_left
                  · simp only [Act.put, List.setIfInBounds_toArray, List.set_cons_zero, List.set_cons_succ, i64_w, i32_w]
                    rfl
                  refine pure_ (i := 20) (N := some 2) (v := ?_) (a' := ?_) #[true, true, true, true, true, true, true, true, true, true, true, true, true, true, true, true, true, true, true, true, true] rfl rfl (any_of HT_.out (by kernel_rfl)) (fun _ _ _ h => h) (Or.inl ⟨by rfl, ?_⟩) ?_ ?_
                  rotate_left
                  · intro w'
                    go_simp
                    with_reducible rfl
                  rotate_left
                  · simp only [Act.put, List.setIfInBounds_toArray, List.set_cons_zero, List.set_cons_succ, i64_w, i32_w]
                    rfl
                  refine done_ (done_of HT_.out (by kernel_rfl)) ?_
                  try go_wp2
                  go_ret
                  exact ⟨by first | rfl | (simp [errW_none, errW_some] <;> rfl) | (simp [*, errW_none, errW_some] <;> rfl), by repeat (first | (with_reducible first | exact HB.out | apply below_alloc | apply pw_below_drewN | apply below_drew1 | refine below_set ?_ GE271.out | refine below_set ?_ GE276.out | refine below_set ?_ GE281.out | refine below_set ?_ GE291.out | refine below_set ?_ GE299.out) | exact HB.out)⟩
              · replace c57 := Bool.eq_false_iff.mpr c57
                subst c57
                have H1 : (some false) = some r := by rw [if_neg (show ¬ (false = true) by decide)] at H; exact H
                clear H
                have H := H1
                clear H1
                obtain rfl := Option.some.inj H
                have hnb108 := NB271_276.out
                have hnc108 := NB276_271.out
                have hnb109 := NB271_281.out
                have hnc109 := NB281_271.out
                have hnb110 := NB271_291.out
                have hnc110 := NB291_271.out
                have hcz111_0 : wc.cell? ⟨gb271, 0, none⟩ = some (.bool t267) := (blk_cell BK271.out 0).trans rfl
                have hcz111_1 : wc.cell? ⟨gb271, 1, none⟩ = some (.int .u64 t268) := (blk_cell BK271.out 1).trans rfl
                have hcz111_2 : wc.cell? ⟨gb271, 2, none⟩ = some (.int .u64 t269) := (blk_cell BK271.out 2).trans rfl
                have hfz111_0 := blk_frozen BK271.out 0
                have hfz111_1 := blk_frozen BK271.out 1
                have hfz111_2 := blk_frozen BK271.out 2
                try go_wp2_with (first | ((with_reducible refine gate_callee (f := 30) rfl ?_); refine goesL_ (some 60) rfl rfl Try.func30 (by kernel_rfl) rfl #[.agg #[.bool t267, .int .u64 t268, .int .u64 t269], .int .i64 (-1)] rfl mp_ ?_; (with_reducible refine (impl_ScaleWide.calls t267 t268 t269 (-1) t295 t296 t297 t298 _ A54.out).mono ?_); rintro e w112 ⟨rfl, hb⟩; refine ⟨_, rfl, ?_⟩; have n0_ := Aside0.mk (blk_below (g := gb271) (o := .cells #[.bool t267, .int .u64 t268, .int .u64 t269] 29 (0, 0)) (by (with_reducible repeat (first | refine bN_ _ ?_ | refine bd_ ?_ | refine ba_ _ ?_)); exact BK271.out) hb); have n1_ := Aside0.mk (blk_below (g := gb276) (o := .cells #[.bool t272, .int .u64 t273, .int .u64 t274] 29 (0, 0)) (by (with_reducible repeat (first | refine bN_ _ ?_ | refine bd_ ?_ | refine ba_ _ ?_)); exact BK276.out) hb); have n2_ := Aside0.mk (blk_below (g := gb281) (o := .cells #[.bool t277, .int .u64 t278, .int .u64 t279] 29 (0, 0)) (by (with_reducible repeat (first | refine bN_ _ ?_ | refine bd_ ?_ | refine ba_ _ ?_)); exact BK281.out) hb); have n3_ := Aside0.mk (blk_below (g := gb291) (o := .cells #[.bool t287, .int .u64 t288, .int .u64 t289] 29 (0, 0)) (by (with_reducible repeat (first | refine bN_ _ ?_ | refine bd_ ?_ | refine ba_ _ ?_)); exact BK291.out) hb); have n4_ := Aside0.mk (below_step bel_ hb); clear BK271; clear BK276; clear BK281; clear BK291; clear HB; have BK271 := n0_; have BK276 := n1_; have BK281 := n2_; have BK291 := n3_; have HB := n4_; clear n0_ n1_ n2_ n3_ n4_; (try clear hb); (try clear hb2); (try clear hk); (try clear hi)) | ((with_reducible refine gate_dst (N := 13) rfl ?_); refine box_event ?hg (N := 13) ?hd (cs := #[.bool false, .int .u64 0, .int .u64 0]) (t := 29) ?hr ?_; (case hd => rfl); (case hg => rfl); (case hr => first | (go_simp; done) | (go_simp; rfl)); intro gb299 hg w113 hbox hb; have n0_ := Aside0.mk (blk_below (g := gb271) (o := .cells #[.bool t267, .int .u64 t268, .int .u64 t269] 29 (0, 0)) (by (with_reducible repeat (first | refine bN_ _ ?_ | refine bd_ ?_ | refine ba_ _ ?_)); exact BK271.out) hb); have n1_ := Aside0.mk (blk_below (g := gb276) (o := .cells #[.bool t272, .int .u64 t273, .int .u64 t274] 29 (0, 0)) (by (with_reducible repeat (first | refine bN_ _ ?_ | refine bd_ ?_ | refine ba_ _ ?_)); exact BK276.out) hb); have n2_ := Aside0.mk (blk_below (g := gb281) (o := .cells #[.bool t277, .int .u64 t278, .int .u64 t279] 29 (0, 0)) (by (with_reducible repeat (first | refine bN_ _ ?_ | refine bd_ ?_ | refine ba_ _ ?_)); exact BK281.out) hb); have n3_ := Aside0.mk (blk_below (g := gb291) (o := .cells #[.bool t287, .int .u64 t288, .int .u64 t289] 29 (0, 0)) (by (with_reducible repeat (first | refine bN_ _ ?_ | refine bd_ ?_ | refine ba_ _ ?_)); exact BK291.out) hb); have n4_ := Aside0.mk (below_step bel_ hb); have n5_ := Aside0.mk (hbox); have n6_ := Aside0.mk ((by rw [hg]; exact (below_size bel_) : w.heap.size ≤ gb299)); have n7_ := Aside0.mk ((by rw [hg]; exact (below_size bel_) : w.heap.size ≤ gb299)); have n8_ := Aside0.mk ((by rw [hg]; exact Nat.ne_of_lt (blk_lt (g := gb271) (o := .cells #[.bool t267, .int .u64 t268, .int .u64 t269] 29 (0, 0)) (by (with_reducible repeat (first | refine bN_ _ ?_ | refine bd_ ?_ | refine ba_ _ ?_)); exact BK271.out)) : gb271 ≠ gb299)); have n9_ := Aside0.mk ((by rw [hg]; exact Nat.ne_of_gt (blk_lt (g := gb271) (o := .cells #[.bool t267, .int .u64 t268, .int .u64 t269] 29 (0, 0)) (by (with_reducible repeat (first | refine bN_ _ ?_ | refine bd_ ?_ | refine ba_ _ ?_)); exact BK271.out)) : gb299 ≠ gb271)); have n10_ := Aside0.mk ((by rw [hg]; exact Nat.ne_of_lt (blk_lt (g := gb276) (o := .cells #[.bool t272, .int .u64 t273, .int .u64 t274] 29 (0, 0)) (by (with_reducible repeat (first | refine bN_ _ ?_ | refine bd_ ?_ | refine ba_ _ ?_)); exact BK276.out)) : gb276 ≠ gb299)); have n11_ := Aside0.mk ((by rw [hg]; exact Nat.ne_of_gt (blk_lt (g := gb276) (o := .cells #[.bool t272, .int .u64 t273, .int .u64 t274] 29 (0, 0)) (by (with_reducible repeat (first | refine bN_ _ ?_ | refine bd_ ?_ | refine ba_ _ ?_)); exact BK276.out)) : gb299 ≠ gb276)); have n12_ := Aside0.mk ((by rw [hg]; exact Nat.ne_of_lt (blk_lt (g := gb281) (o := .cells #[.bool t277, .int .u64 t278, .int .u64 t279] 29 (0, 0)) (by (with_reducible repeat (first | refine bN_ _ ?_ | refine bd_ ?_ | refine ba_ _ ?_)); exact BK281.out)) : gb281 ≠ gb299)); have n13_ := Aside0.mk ((by rw [hg]; exact Nat.ne_of_gt (blk_lt (g := gb281) (o := .cells #[.bool t277, .int .u64 t278, .int .u64 t279] 29 (0, 0)) (by (with_reducible repeat (first | refine bN_ _ ?_ | refine bd_ ?_ | refine ba_ _ ?_)); exact BK281.out)) : gb299 ≠ gb281)); have n14_ := Aside0.mk ((by rw [hg]; exact Nat.ne_of_lt (blk_lt (g := gb291) (o := .cells #[.bool t287, .int .u64 t288, .int .u64 t289] 29 (0, 0)) (by (with_reducible repeat (first | refine bN_ _ ?_ | refine bd_ ?_ | refine ba_ _ ?_)); exact BK291.out)) : gb291 ≠ gb299)); have n15_ := Aside0.mk ((by rw [hg]; exact Nat.ne_of_gt (blk_lt (g := gb291) (o := .cells #[.bool t287, .int .u64 t288, .int .u64 t289] 29 (0, 0)) (by (with_reducible repeat (first | refine bN_ _ ?_ | refine bd_ ?_ | refine ba_ _ ?_)); exact BK291.out)) : gb299 ≠ gb291)); clear BK271; clear BK276; clear BK281; clear BK291; clear HB; have BK271 := n0_; have BK276 := n1_; have BK281 := n2_; have BK291 := n3_; have HB := n4_; have BK299 := n5_; have GW299 := n6_; have GE299 := n7_; have NB271_299 := n8_; have NB299_271 := n9_; have NB276_299 := n10_; have NB299_276 := n11_; have NB281_299 := n12_; have NB299_281 := n13_; have NB291_299 := n14_; have NB299_291 := n15_; clear n0_ n1_ n2_ n3_ n4_ n5_ n6_ n7_ n8_ n9_ n10_ n11_ n12_ n13_ n14_ n15_; clear hb hbox hg; have hnb114 := NB299_271.out; have hnc114 := NB271_299.out; have hnb115 := NB299_276.out; have hnc115 := NB276_299.out; have hnb116 := NB299_281.out; have hnc116 := NB281_299.out; have hnb117 := NB299_291.out; have hnc117 := NB291_299.out; have hcz118_0 : w113.cell? ⟨gb299, 0, none⟩ = some (.bool false) := (blk_cell BK299.out 0).trans rfl; have hcz118_1 : w113.cell? ⟨gb299, 1, none⟩ = some (.int .u64 0) := (blk_cell BK299.out 1).trans rfl; have hcz118_2 : w113.cell? ⟨gb299, 2, none⟩ = some (.int .u64 0) := (blk_cell BK299.out 2).trans rfl; have hfz118_0 := blk_frozen BK299.out 0; have hfz118_1 := blk_frozen BK299.out 1; have hfz118_2 := blk_frozen BK299.out 2))
                have n0_ : Aside0 ((((w113.setCell ⟨gb299, 0, none⟩ (.bool t295)).setCell ⟨gb299, 1, none⟩ (.int .u64 t296)).setCell ⟨gb299, 2, none⟩ (.int .u64 t297)).heap[gb271]? = some (.cells #[.bool t267, .int .u64 t268, .int .u64 t269] 29 (0, 0))) := ⟨by (with_reducible repeat (first | refine bN_ _ ?_ | refine bd_ ?_ | refine ba_ _ ?_)); refine blk_far ?_ NB271_299.out _; (with_reducible repeat (first | refine bN_ _ ?_ | refine bd_ ?_ | refine ba_ _ ?_)); refine blk_far ?_ NB271_299.out _; (with_reducible repeat (first | refine bN_ _ ?_ | refine bd_ ?_ | refine ba_ _ ?_)); refine blk_far ?_ NB271_299.out _; (with_reducible repeat (first | refine bN_ _ ?_ | refine bd_ ?_ | refine ba_ _ ?_)); exact BK271.out⟩
                have n1_ : Aside0 ((((w113.setCell ⟨gb299, 0, none⟩ (.bool t295)).setCell ⟨gb299, 1, none⟩ (.int .u64 t296)).setCell ⟨gb299, 2, none⟩ (.int .u64 t297)).heap[gb276]? = some (.cells #[.bool t272, .int .u64 t273, .int .u64 t274] 29 (0, 0))) := ⟨by (with_reducible repeat (first | refine bN_ _ ?_ | refine bd_ ?_ | refine ba_ _ ?_)); refine blk_far ?_ NB276_299.out _; (with_reducible repeat (first | refine bN_ _ ?_ | refine bd_ ?_ | refine ba_ _ ?_)); refine blk_far ?_ NB276_299.out _; (with_reducible repeat (first | refine bN_ _ ?_ | refine bd_ ?_ | refine ba_ _ ?_)); refine blk_far ?_ NB276_299.out _; (with_reducible repeat (first | refine bN_ _ ?_ | refine bd_ ?_ | refine ba_ _ ?_)); exact BK276.out⟩
                have n2_ : Aside0 ((((w113.setCell ⟨gb299, 0, none⟩ (.bool t295)).setCell ⟨gb299, 1, none⟩ (.int .u64 t296)).setCell ⟨gb299, 2, none⟩ (.int .u64 t297)).heap[gb281]? = some (.cells #[.bool t277, .int .u64 t278, .int .u64 t279] 29 (0, 0))) := ⟨by (with_reducible repeat (first | refine bN_ _ ?_ | refine bd_ ?_ | refine ba_ _ ?_)); refine blk_far ?_ NB281_299.out _; (with_reducible repeat (first | refine bN_ _ ?_ | refine bd_ ?_ | refine ba_ _ ?_)); refine blk_far ?_ NB281_299.out _; (with_reducible repeat (first | refine bN_ _ ?_ | refine bd_ ?_ | refine ba_ _ ?_)); refine blk_far ?_ NB281_299.out _; (with_reducible repeat (first | refine bN_ _ ?_ | refine bd_ ?_ | refine ba_ _ ?_)); exact BK281.out⟩
                have n3_ : Aside0 ((((w113.setCell ⟨gb299, 0, none⟩ (.bool t295)).setCell ⟨gb299, 1, none⟩ (.int .u64 t296)).setCell ⟨gb299, 2, none⟩ (.int .u64 t297)).heap[gb291]? = some (.cells #[.bool t287, .int .u64 t288, .int .u64 t289] 29 (0, 0))) := ⟨by (with_reducible repeat (first | refine bN_ _ ?_ | refine bd_ ?_ | refine ba_ _ ?_)); refine blk_far ?_ NB291_299.out _; (with_reducible repeat (first | refine bN_ _ ?_ | refine bd_ ?_ | refine ba_ _ ?_)); refine blk_far ?_ NB291_299.out _; (with_reducible repeat (first | refine bN_ _ ?_ | refine bd_ ?_ | refine ba_ _ ?_)); refine blk_far ?_ NB291_299.out _; (with_reducible repeat (first | refine bN_ _ ?_ | refine bd_ ?_ | refine ba_ _ ?_)); exact BK291.out⟩
                have n4_ : Aside0 ((((w113.setCell ⟨gb299, 0, none⟩ (.bool t295)).setCell ⟨gb299, 1, none⟩ (.int .u64 t296)).setCell ⟨gb299, 2, none⟩ (.int .u64 t297)).heap[gb299]? = some (.cells #[.bool t295, .int .u64 t296, .int .u64 t297] 29 (0, 0))) := ⟨by (with_reducible repeat (first | refine bN_ _ ?_ | refine bd_ ?_ | refine ba_ _ ?_)); refine blk_put (cs := #[.bool t295, .int .u64 t296, .int .u64 0]) ?_ 2 _ rfl; (with_reducible repeat (first | refine bN_ _ ?_ | refine bd_ ?_ | refine ba_ _ ?_)); refine blk_put (cs := #[.bool t295, .int .u64 0, .int .u64 0]) ?_ 1 _ rfl; (with_reducible repeat (first | refine bN_ _ ?_ | refine bd_ ?_ | refine ba_ _ ?_)); refine blk_put (cs := #[.bool false, .int .u64 0, .int .u64 0]) ?_ 0 _ rfl; (with_reducible repeat (first | refine bN_ _ ?_ | refine bd_ ?_ | refine ba_ _ ?_)); exact BK299.out⟩
                have n5_ : Aside0 (Below w.heap.size w (((w113.setCell ⟨gb299, 0, none⟩ (.bool t295)).setCell ⟨gb299, 1, none⟩ (.int .u64 t296)).setCell ⟨gb299, 2, none⟩ (.int .u64 t297))) := ⟨by repeat (first | (with_reducible first | exact HB.out | apply below_alloc | apply pw_below_drewN | apply below_drew1 | refine below_set ?_ GE271.out | refine below_set ?_ GE276.out | refine below_set ?_ GE281.out | refine below_set ?_ GE291.out | refine below_set ?_ GE299.out) | exact HB.out)⟩
                (try clear BK271)
                (try clear BK276)
                (try clear BK281)
                (try clear BK291)
                (try clear BK299)
                (try clear HB)
                generalize (((w113.setCell ⟨gb299, 0, none⟩ (.bool t295)).setCell ⟨gb299, 1, none⟩ (.int .u64 t296)).setCell ⟨gb299, 2, none⟩ (.int .u64 t297)) = w119 at n0_ n1_ n2_ n3_ n4_ n5_ ⊢
                have BK271 := n0_
                have BK276 := n1_
                have BK281 := n2_
                have BK291 := n3_
                have BK299 := n4_
                have HB := n5_
                clear n0_ n1_ n2_ n3_ n4_ n5_
                have n0_ := Aside0.mk (blk_drew BK271.out)
                have n1_ := Aside0.mk (blk_drew BK276.out)
                have n2_ := Aside0.mk (blk_drew BK281.out)
                have n3_ := Aside0.mk (blk_drew BK291.out)
                have n4_ := Aside0.mk (blk_drew BK299.out)
                have n5_ := Aside0.mk (below_drew1 HB.out)
                clear BK271
                clear BK276
                clear BK281
                clear BK291
                clear BK299
                clear HB
                have BK271 := n0_
                have BK276 := n1_
                have BK281 := n2_
                have BK291 := n3_
                have BK299 := n4_
                have HB := n5_
                clear n0_ n1_ n2_ n3_ n4_ n5_
                refine start_ (n := 21) (S := fun w' => w'.cell? ⟨gb276, 0, none⟩ = some (.bool t272) ∧ w'.cell? ⟨gb276, 1, none⟩ = some (.int .u64 t273) ∧ w'.cell? ⟨gb276, 2, none⟩ = some (.int .u64 t274)) (ds := []) #[false, false, false, false, false, false, false, false, false, false, false, false, false, false, false, false, false, false, false, false, false] (by kernel_rfl) rfl rfl ⟨(blk_cell BK276.out 0).trans rfl, (blk_cell BK276.out 1).trans rfl, (blk_cell BK276.out 2).trans rfl⟩ (fun hHeld => ?_); refine with_tabW laws_FnScale.tab13 laws_FnScale.bits13 (fun HT_ HW_ => ?_)
                generalize w119.drew = w120 at BK271 BK276 BK281 BK291 BK299 HB hHeld ⊢
                refine pure_ (i := 0) (N := some 63) (v := ?_) (a' := ?_) #[true, false, false, false, false, false, false, false, false, false, false, false, false, false, false, false, false, false, false, false, false] rfl rfl (any_of HT_.out (by kernel_rfl)) (fun _ _ _ h => h) (Or.inl ⟨by rfl, ?_⟩) ?_ ?_
                rotate_left
                · intro w'
                  go_simp
                  with_reducible rfl
                rotate_left
                · simp only [Act.put, List.setIfInBounds_toArray, List.set_cons_zero, List.set_cons_succ, i64_w, i32_w]
                  rfl
                refine pure_ (i := 1) (N := some 64) (v := ?_) (a' := ?_) #[true, true, false, false, false, false, false, false, false, false, false, false, false, false, false, false, false, false, false, false, false] rfl rfl (any_of HT_.out (by kernel_rfl)) (fun _ _ _ h => h) (Or.inl ⟨by rfl, ?_⟩) ?_ ?_
                rotate_left
                · intro w'
                  go_simp
                  with_reducible rfl
                rotate_left
                · simp only [Act.put, List.setIfInBounds_toArray, List.set_cons_zero, List.set_cons_succ, i64_w, i32_w]
                  rfl
                refine pure_ (i := 2) (N := some 65) (v := ?_) (a' := ?_) #[true, true, true, false, false, false, false, false, false, false, false, false, false, false, false, false, false, false, false, false, false] rfl rfl (any_of HT_.out (by kernel_rfl)) (fun _ _ _ h => h) (Or.inl ⟨by rfl, ?_⟩) ?_ ?_
                rotate_left
                · intro w'
                  go_simp
                  with_reducible rfl
                rotate_left
                · simp only [Act.put, List.setIfInBounds_toArray, List.set_cons_zero, List.set_cons_succ, i64_w, i32_w]
                  rfl
                refine take_ (i := 3) (N := some 66) (v := ?_) (a' := ?_) #[true, true, true, true, false, false, false, false, false, false, false, false, false, false, false, false, false, false, false, false, false] rfl rfl (take_ofW HT_.out HW_.out (by kernel_rfl)) (fun _ _ _ h => h) (Or.inl ⟨by rfl, ?_⟩) hHeld ?_ ?_
                rotate_left
                · rintro w' ⟨s0, s1, s2⟩
                  go_simp
                  with_reducible rfl
                rotate_left
                · simp only [Act.put, List.setIfInBounds_toArray, List.set_cons_zero, List.set_cons_succ, i64_w, i32_w]
                  rfl
                refine one_ (i := 4) (N := some 67) #[true, true, true, true, true, false, false, false, false, false, false, false, false, false, false, false, false, false, false, false, false] rfl rfl (one_of HT_.out (by kernel_rfl)) (by decide) (fun K hK => ?_)
                refine goes_ Try.func17 (by kernel_rfl) rfl #[.agg #[.bool t272, .int .u64 t273, .int .u64 t274]] (by rfl) rfl rfl mp_ ?_
                with_reducible refine (spec_WideOk.calls t272 t273 t274 false _ A56.out).mono ?_
                rintro e w121 ⟨rfl, hb⟩
                refine ⟨_, rfl, ?_⟩
                have n0_ := Aside0.mk (blk_below (g := gb271) (o := .cells #[.bool t267, .int .u64 t268, .int .u64 t269] 29 (0, 0)) (by (with_reducible repeat (first | refine bN_ _ ?_ | refine bd_ ?_ | refine ba_ _ ?_)); exact BK271.out) hb)
                have n1_ := Aside0.mk (blk_below (g := gb276) (o := .cells #[.bool t272, .int .u64 t273, .int .u64 t274] 29 (0, 0)) (by (with_reducible repeat (first | refine bN_ _ ?_ | refine bd_ ?_ | refine ba_ _ ?_)); exact BK276.out) hb)
                have n2_ := Aside0.mk (blk_below (g := gb281) (o := .cells #[.bool t277, .int .u64 t278, .int .u64 t279] 29 (0, 0)) (by (with_reducible repeat (first | refine bN_ _ ?_ | refine bd_ ?_ | refine ba_ _ ?_)); exact BK281.out) hb)
                have n3_ := Aside0.mk (blk_below (g := gb291) (o := .cells #[.bool t287, .int .u64 t288, .int .u64 t289] 29 (0, 0)) (by (with_reducible repeat (first | refine bN_ _ ?_ | refine bd_ ?_ | refine ba_ _ ?_)); exact BK291.out) hb)
                have n4_ := Aside0.mk (blk_below (g := gb299) (o := .cells #[.bool t295, .int .u64 t296, .int .u64 t297] 29 (0, 0)) (by (with_reducible repeat (first | refine bN_ _ ?_ | refine bd_ ?_ | refine ba_ _ ?_)); exact BK299.out) hb)
                have n5_ := Aside0.mk (below_step bel_ hb)
                clear BK271
                clear BK276
                clear BK281
                clear BK291
                clear BK299
                clear HB
                have BK271 := n0_
                have BK276 := n1_
                have BK281 := n2_
                have BK291 := n3_
                have BK299 := n4_
                have HB := n5_
                clear n0_ n1_ n2_ n3_ n4_ n5_
                (try clear hb)
                (try clear hb2)
                (try clear hk)
                (try clear hi)
                refine hK.out _ _ ⟨(blk_cell BK276.out 0).trans rfl, (blk_cell BK276.out 1).trans rfl, (blk_cell BK276.out 2).trans rfl⟩ (fun hHeld => ?_)
                clear hK K
                refine norm_ (a' := ?_) ?_ ?_
                rotate_left
                · show Act.put _ (some 67) _ = _
                  simp only [Act.put, List.setIfInBounds_toArray, List.set_cons_zero, List.set_cons_succ, i64_w, i32_w]
                  rfl
                refine pure_ (i := 5) (N := some 68) (v := ?_) (a' := ?_) #[true, true, true, true, true, true, false, false, false, false, false, false, false, false, false, false, false, false, false, false, false] rfl rfl (any_of HT_.out (by kernel_rfl)) (fun _ _ _ h => h) (Or.inl ⟨by rfl, ?_⟩) ?_ ?_
                rotate_left
                · intro w'
                  go_simp
                  with_reducible rfl
                rotate_left
                · simp only [Act.put, List.setIfInBounds_toArray, List.set_cons_zero, List.set_cons_succ, i64_w, i32_w]
                  rfl
                refine pure_ (i := 6) (N := some 69) (v := ?_) (a' := ?_) #[true, true, true, true, true, true, true, false, false, false, false, false, false, false, false, false, false, false, false, false, false] rfl rfl (any_of HT_.out (by kernel_rfl)) (fun _ _ _ h => h) (Or.inl ⟨by rfl, ?_⟩) ?_ ?_
                rotate_left
                · intro w'
                  go_simp
                  with_reducible rfl
                rotate_left
                · simp only [Act.put, List.setIfInBounds_toArray, List.set_cons_zero, List.set_cons_succ, i64_w, i32_w]
                  rfl
                refine pure_ (i := 7) (N := some 70) (v := undef) (a' := ?_) #[true, true, true, true, true, true, true, true, false, false, false, false, false, false, false, false, false, false, false, false, false] rfl rfl (any_of HT_.out (by kernel_rfl)) (fun _ _ _ h => h) (Or.inr ⟨by rfl, rfl⟩) ?_ ?_
                rotate_left
                · simp only [Act.put, List.setIfInBounds_toArray, List.set_cons_zero, List.set_cons_succ, i64_w, i32_w]
                  rfl
                refine pure_ (i := 8) (N := some 71) (v := undef) (a' := ?_) #[true, true, true, true, true, true, true, true, true, false, false, false, false, false, false, false, false, false, false, false, false] rfl rfl (any_of HT_.out (by kernel_rfl)) (fun _ _ _ h => h) (Or.inr ⟨by rfl, rfl⟩) ?_ ?_
                rotate_left
                · simp only [Act.put, List.setIfInBounds_toArray, List.set_cons_zero, List.set_cons_succ, i64_w, i32_w]
                  rfl
                refine pure_ (i := 9) (N := some 72) (v := undef) (a' := ?_) #[true, true, true, true, true, true, true, true, true, true, false, false, false, false, false, false, false, false, false, false, false] rfl rfl (any_of HT_.out (by kernel_rfl)) (fun _ _ _ h => h) (Or.inr ⟨by rfl, rfl⟩) ?_ ?_
                rotate_left
                · simp only [Act.put, List.setIfInBounds_toArray, List.set_cons_zero, List.set_cons_succ, i64_w, i32_w]
                  rfl
                refine pure_ (i := 10) (N := some 73) (v := undef) (a' := ?_) #[true, true, true, true, true, true, true, true, true, true, true, false, false, false, false, false, false, false, false, false, false] rfl rfl (any_of HT_.out (by kernel_rfl)) (fun _ _ _ h => h) (Or.inr ⟨by rfl, rfl⟩) ?_ ?_
                rotate_left
                · simp only [Act.put, List.setIfInBounds_toArray, List.set_cons_zero, List.set_cons_succ, i64_w, i32_w]
                  rfl
                refine pure_ (i := 11) (N := some 74) (v := undef) (a' := ?_) #[true, true, true, true, true, true, true, true, true, true, true, true, false, false, false, false, false, false, false, false, false] rfl rfl (any_of HT_.out (by kernel_rfl)) (fun _ _ _ h => h) (Or.inr ⟨by rfl, rfl⟩) ?_ ?_
                rotate_left
                · simp only [Act.put, List.setIfInBounds_toArray, List.set_cons_zero, List.set_cons_succ, i64_w, i32_w]
                  rfl
                refine pure_ (i := 12) (N := some 75) (v := undef) (a' := ?_) #[true, true, true, true, true, true, true, true, true, true, true, true, true, false, false, false, false, false, false, false, false] rfl rfl (any_of HT_.out (by kernel_rfl)) (fun _ _ _ h => h) (Or.inr ⟨by rfl, rfl⟩) ?_ ?_
                rotate_left
                · simp only [Act.put, List.setIfInBounds_toArray, List.set_cons_zero, List.set_cons_succ, i64_w, i32_w]
                  rfl
                refine pure_ (i := 13) (N := some 76) (v := undef) (a' := ?_) #[true, true, true, true, true, true, true, true, true, true, true, true, true, true, false, false, false, false, false, false, false] rfl rfl (any_of HT_.out (by kernel_rfl)) (fun _ _ _ h => h) (Or.inr ⟨by rfl, rfl⟩) ?_ ?_
                rotate_left
                · simp only [Act.put, List.setIfInBounds_toArray, List.set_cons_zero, List.set_cons_succ, i64_w, i32_w]
                  rfl
                refine pure_ (i := 14) (N := some 77) (v := undef) (a' := ?_) #[true, true, true, true, true, true, true, true, true, true, true, true, true, true, true, false, false, false, false, false, false] rfl rfl (any_of HT_.out (by kernel_rfl)) (fun _ _ _ h => h) (Or.inr ⟨by rfl, rfl⟩) ?_ ?_
                rotate_left
                · simp only [Act.put, List.setIfInBounds_toArray, List.set_cons_zero, List.set_cons_succ, i64_w, i32_w]
                  rfl
                refine pure_ (i := 15) (N := some 78) (v := undef) (a' := ?_) #[true, true, true, true, true, true, true, true, true, true, true, true, true, true, true, true, false, false, false, false, false] rfl rfl (any_of HT_.out (by kernel_rfl)) (fun _ _ _ h => h) (Or.inr ⟨by rfl, rfl⟩) ?_ ?_
                rotate_left
                · simp only [Act.put, List.setIfInBounds_toArray, List.set_cons_zero, List.set_cons_succ, i64_w, i32_w]
                  rfl
                refine pure_ (i := 16) (N := some 79) (v := undef) (a' := ?_) #[true, true, true, true, true, true, true, true, true, true, true, true, true, true, true, true, true, false, false, false, false] rfl rfl (any_of HT_.out (by kernel_rfl)) (fun _ _ _ h => h) (Or.inr ⟨by rfl, rfl⟩) ?_ ?_
                rotate_left
                · simp only [Act.put, List.setIfInBounds_toArray, List.set_cons_zero, List.set_cons_succ, i64_w, i32_w]
                  rfl
                refine pure_ (i := 17) (N := some 80) (v := undef) (a' := ?_) #[true, true, true, true, true, true, true, true, true, true, true, true, true, true, true, true, true, true, false, false, false] rfl rfl (any_of HT_.out (by kernel_rfl)) (fun _ _ _ h => h) (Or.inr ⟨by rfl, rfl⟩) ?_ ?_
                rotate_left
                · simp only [Act.put, List.setIfInBounds_toArray, List.set_cons_zero, List.set_cons_succ, i64_w, i32_w]
                  rfl
                refine pure_ (i := 18) (N := some 81) (v := undef) (a' := ?_) #[true, true, true, true, true, true, true, true, true, true, true, true, true, true, true, true, true, true, true, false, false] rfl rfl (any_of HT_.out (by kernel_rfl)) (fun _ _ _ h => h) (Or.inr ⟨by rfl, rfl⟩) ?_ ?_
                rotate_left
                · simp only [Act.put, List.setIfInBounds_toArray, List.set_cons_zero, List.set_cons_succ, i64_w, i32_w]
                  rfl
                refine pure_ (i := 19) (N := some 82) (v := ?_) (a' := ?_) #[true, true, true, true, true, true, true, true, true, true, true, true, true, true, true, true, true, true, true, true, false] rfl rfl (any_of HT_.out (by kernel_rfl)) (fun _ _ _ h => h) (Or.inl ⟨by rfl, ?_⟩) ?_ ?_
                rotate_left
                · intro w'
                  go_simp
                  with_reducible rfl
                rotate_left
                · simp only [Act.put, List.setIfInBounds_toArray, List.set_cons_zero, List.set_cons_succ, i64_w, i32_w]
                  rfl
                refine pure_ (i := 20) (N := some 2) (v := ?_) (a' := ?_) #[true, true, true, true, true, true, true, true, true, true, true, true, true, true, true, true, true, true, true, true, true] rfl rfl (any_of HT_.out (by kernel_rfl)) (fun _ _ _ h => h) (Or.inl ⟨by rfl, ?_⟩) ?_ ?_
                rotate_left
                · intro w'
                  go_simp
                  with_reducible rfl
                rotate_left
                · simp only [Act.put, List.setIfInBounds_toArray, List.set_cons_zero, List.set_cons_succ, i64_w, i32_w]
                  rfl
                refine done_ (done_of HT_.out (by kernel_rfl)) ?_
                try go_wp2
                go_ret
                exact ⟨by first | rfl | (simp [errW_none, errW_some] <;> rfl) | (simp [*, errW_none, errW_some] <;> rfl), by repeat (first | (with_reducible first | exact HB.out | apply below_alloc | apply pw_below_drewN | apply below_drew1 | refine below_set ?_ GE271.out | refine below_set ?_ GE276.out | refine below_set ?_ GE281.out | refine below_set ?_ GE291.out | refine below_set ?_ GE299.out) | exact HB.out)⟩
            · replace c55 := Bool.eq_false_iff.mpr c55
              subst c55
              have H1 : ((spec_WideOk.f t267 t268 t269).bind fun t305 => (if t305 = true then (if t298 = true then ((impl_NegWide.f t267 t268 t269).bind fun bt306 => (some (t295 == bt306.1 && (t296 == bt306.2.1 && (t297 == bt306.2.2))))) else (some false)) else (some true))) = some r := by rw [if_neg (show ¬ (false = true) by decide)] at H; exact H
              clear H
              have H := H1
              clear H1
              replace H := Option.bind_eq_some_iff.mp H
              obtain ⟨t305, A1220, H⟩ := H
              replace H : (if t305 = true then (if t298 = true then ((impl_NegWide.f t267 t268 t269).bind fun bt306 => (some (t295 == bt306.1 && (t296 == bt306.2.1 && (t297 == bt306.2.2))))) else (some false)) else (some true)) = some r := H
              have A122 := Aside0.mk A1220
              clear A1220
              by_cases c123 : t305 = true
              · subst c123
                have H1 : (if t298 = true then ((impl_NegWide.f t267 t268 t269).bind fun bt306 => (some (t295 == bt306.1 && (t296 == bt306.2.1 && (t297 == bt306.2.2))))) else (some false)) = some r := by rw [if_pos rfl] at H; exact H
                clear H
                have H := H1
                clear H1
                by_cases c124 : t298 = true
                · subst c124
                  have H1 : ((impl_NegWide.f t267 t268 t269).bind fun bt306 => (some (t295 == bt306.1 && (t296 == bt306.2.1 && (t297 == bt306.2.2))))) = some r := by rw [if_pos rfl] at H; exact H
                  clear H
                  have H := H1
                  clear H1
                  replace H := Option.bind_eq_some_iff.mp H
                  obtain ⟨⟨t306, t307, t308⟩, A1250, H⟩ := H
                  replace H : (some (t295 == t306 && (t296 == t307 && (t297 == t308)))) = some r := H
                  have A125 := Aside0.mk A1250
                  clear A1250
                  obtain rfl := Option.some.inj H
                  have hnb126 := NB271_276.out
                  have hnc126 := NB276_271.out
                  have hnb127 := NB271_281.out
                  have hnc127 := NB281_271.out
                  have hnb128 := NB271_291.out
                  have hnc128 := NB291_271.out
                  have hcz129_0 : wc.cell? ⟨gb271, 0, none⟩ = some (.bool t267) := (blk_cell BK271.out 0).trans rfl
                  have hcz129_1 : wc.cell? ⟨gb271, 1, none⟩ = some (.int .u64 t268) := (blk_cell BK271.out 1).trans rfl
                  have hcz129_2 : wc.cell? ⟨gb271, 2, none⟩ = some (.int .u64 t269) := (blk_cell BK271.out 2).trans rfl
                  have hfz129_0 := blk_frozen BK271.out 0
                  have hfz129_1 := blk_frozen BK271.out 1
                  have hfz129_2 := blk_frozen BK271.out 2
                  try go_wp2_with (first | ((with_reducible refine gate_callee (f := 30) rfl ?_); refine goesL_ (some 60) rfl rfl Try.func30 (by kernel_rfl) rfl #[.agg #[.bool t267, .int .u64 t268, .int .u64 t269], .int .i64 (-1)] rfl mp_ ?_; (with_reducible refine (impl_ScaleWide.calls t267 t268 t269 (-1) t295 t296 t297 true _ A54.out).mono ?_); rintro e w130 ⟨rfl, hb⟩; refine ⟨_, rfl, ?_⟩; have n0_ := Aside0.mk (blk_below (g := gb271) (o := .cells #[.bool t267, .int .u64 t268, .int .u64 t269] 29 (0, 0)) (by (with_reducible repeat (first | refine bN_ _ ?_ | refine bd_ ?_ | refine ba_ _ ?_)); exact BK271.out) hb); have n1_ := Aside0.mk (blk_below (g := gb276) (o := .cells #[.bool t272, .int .u64 t273, .int .u64 t274] 29 (0, 0)) (by (with_reducible repeat (first | refine bN_ _ ?_ | refine bd_ ?_ | refine ba_ _ ?_)); exact BK276.out) hb); have n2_ := Aside0.mk (blk_below (g := gb281) (o := .cells #[.bool t277, .int .u64 t278, .int .u64 t279] 29 (0, 0)) (by (with_reducible repeat (first | refine bN_ _ ?_ | refine bd_ ?_ | refine ba_ _ ?_)); exact BK281.out) hb); have n3_ := Aside0.mk (blk_below (g := gb291) (o := .cells #[.bool t287, .int .u64 t288, .int .u64 t289] 29 (0, 0)) (by (with_reducible repeat (first | refine bN_ _ ?_ | refine bd_ ?_ | refine ba_ _ ?_)); exact BK291.out) hb); have n4_ := Aside0.mk (below_step bel_ hb); clear BK271; clear BK276; clear BK281; clear BK291; clear HB; have BK271 := n0_; have BK276 := n1_; have BK281 := n2_; have BK291 := n3_; have HB := n4_; clear n0_ n1_ n2_ n3_ n4_; (try clear hb); (try clear hb2); (try clear hk); (try clear hi)) | ((with_reducible refine gate_dst (N := 13) rfl ?_); refine box_event ?hg (N := 13) ?hd (cs := #[.bool false, .int .u64 0, .int .u64 0]) (t := 29) ?hr ?_; (case hd => rfl); (case hg => rfl); (case hr => first | (go_simp; done) | (go_simp; rfl)); intro gb299 hg w131 hbox hb; have n0_ := Aside0.mk (blk_below (g := gb271) (o := .cells #[.bool t267, .int .u64 t268, .int .u64 t269] 29 (0, 0)) (by (with_reducible repeat (first | refine bN_ _ ?_ | refine bd_ ?_ | refine ba_ _ ?_)); exact BK271.out) hb); have n1_ := Aside0.mk (blk_below (g := gb276) (o := .cells #[.bool t272, .int .u64 t273, .int .u64 t274] 29 (0, 0)) (by (with_reducible repeat (first | refine bN_ _ ?_ | refine bd_ ?_ | refine ba_ _ ?_)); exact BK276.out) hb); have n2_ := Aside0.mk (blk_below (g := gb281) (o := .cells #[.bool t277, .int .u64 t278, .int .u64 t279] 29 (0, 0)) (by (with_reducible repeat (first | refine bN_ _ ?_ | refine bd_ ?_ | refine ba_ _ ?_)); exact BK281.out) hb); have n3_ := Aside0.mk (blk_below (g := gb291) (o := .cells #[.bool t287, .int .u64 t288, .int .u64 t289] 29 (0, 0)) (by (with_reducible repeat (first | refine bN_ _ ?_ | refine bd_ ?_ | refine ba_ _ ?_)); exact BK291.out) hb); have n4_ := Aside0.mk (below_step bel_ hb); have n5_ := Aside0.mk (hbox); have n6_ := Aside0.mk ((by rw [hg]; exact (below_size bel_) : w.heap.size ≤ gb299)); have n7_ := Aside0.mk ((by rw [hg]; exact (below_size bel_) : w.heap.size ≤ gb299)); have n8_ := Aside0.mk ((by rw [hg]; exact Nat.ne_of_lt (blk_lt (g := gb271) (o := .cells #[.bool t267, .int .u64 t268, .int .u64 t269] 29 (0, 0)) (by (with_reducible repeat (first | refine bN_ _ ?_ | refine bd_ ?_ | refine ba_ _ ?_)); exact BK271.out)) : gb271 ≠ gb299)); have n9_ := Aside0.mk ((by rw [hg]; exact Nat.ne_of_gt (blk_lt (g := gb271) (o := .cells #[.bool t267, .int .u64 t268, .int .u64 t269] 29 (0, 0)) (by (with_reducible repeat (first | refine bN_ _ ?_ | refine bd_ ?_ | refine ba_ _ ?_)); exact BK271.out)) : gb299 ≠ gb271)); have n10_ := Aside0.mk ((by rw [hg]; exact Nat.ne_of_lt (blk_lt (g := gb276) (o := .cells #[.bool t272, .int .u64 t273, .int .u64 t274] 29 (0, 0)) (by (with_reducible repeat (first | refine bN_ _ ?_ | refine bd_ ?_ | refine ba_ _ ?_)); exact BK276.out)) : gb276 ≠ gb299)); have n11_ := Aside0.mk ((by rw [hg]; exact Nat.ne_of_gt (blk_lt (g := gb276) (o := .cells #[.bool t272, .int .u64 t273, .int .u64 t274] 29 (0, 0)) (by (with_reducible repeat (first | refine bN_ _ ?_ | refine bd_ ?_ | refine ba_ _ ?_)); exact BK276.out)) : gb299 ≠ gb276)); have n12_ := Aside0.mk ((by rw [hg]; exact Nat.ne_of_lt (blk_lt (g := gb281) (o := .cells #[.bool t277, .int .u64 t278, .int .u64 t279] 29 (0, 0)) (by (with_reducible repeat (first | refine bN_ _ ?_ | refine bd_ ?_ | refine ba_ _ ?_)); exact BK281.out)) : gb281 ≠ gb299)); have n13_ := Aside0.mk ((by rw [hg]; exact Nat.ne_of_gt (blk_lt (g := gb281) (o := .cells #[.bool t277, .int .u64 t278, .int .u64 t279] 29 (0, 0)) (by (with_reducible repeat (first | refine bN_ _ ?_ | refine bd_ ?_ | refine ba_ _ ?_)); exact BK281.out)) : gb299 ≠ gb281)); have n14_ := Aside0.mk ((by rw [hg]; exact Nat.ne_of_lt (blk_lt (g := gb291) (o := .cells #[.bool t287, .int .u64 t288, .int .u64 t289] 29 (0, 0)) (by (with_reducible repeat (first | refine bN_ _ ?_ | refine bd_ ?_ | refine ba_ _ ?_)); exact BK291.out)) : gb291 ≠ gb299)); have n15_ := Aside0.mk ((by rw [hg]; exact Nat.ne_of_gt (blk_lt (g := gb291) (o := .cells #[.bool t287, .int .u64 t288, .int .u64 t289] 29 (0, 0)) (by (with_reducible repeat (first | refine bN_ _ ?_ | refine bd_ ?_ | refine ba_ _ ?_)); exact BK291.out)) : gb299 ≠ gb291)); clear BK271; clear BK276; clear BK281; clear BK291; clear HB; have BK271 := n0_; have BK276 := n1_; have BK281 := n2_; have BK291 := n3_; have HB := n4_; have BK299 := n5_; have GW299 := n6_; have GE299 := n7_; have NB271_299 := n8_; have NB299_271 := n9_; have NB276_299 := n10_; have NB299_276 := n11_; have NB281_299 := n12_; have NB299_281 := n13_; have NB291_299 := n14_; have NB299_291 := n15_; clear n0_ n1_ n2_ n3_ n4_ n5_ n6_ n7_ n8_ n9_ n10_ n11_ n12_ n13_ n14_ n15_; clear hb hbox hg; have hnb132 := NB299_271.out; have hnc132 := NB271_299.out; have hnb133 := NB299_276.out; have hnc133 := NB276_299.out; have hnb134 := NB299_281.out; have hnc134 := NB281_299.out; have hnb135 := NB299_291.out; have hnc135 := NB291_299.out; have hcz136_0 : w131.cell? ⟨gb299, 0, none⟩ = some (.bool false) := (blk_cell BK299.out 0).trans rfl; have hcz136_1 : w131.cell? ⟨gb299, 1, none⟩ = some (.int .u64 0) := (blk_cell BK299.out 1).trans rfl; have hcz136_2 : w131.cell? ⟨gb299, 2, none⟩ = some (.int .u64 0) := (blk_cell BK299.out 2).trans rfl; have hfz136_0 := blk_frozen BK299.out 0; have hfz136_1 := blk_frozen BK299.out 1; have hfz136_2 := blk_frozen BK299.out 2))
                  have n0_ : Aside0 ((((w131.setCell ⟨gb299, 0, none⟩ (.bool t295)).setCell ⟨gb299, 1, none⟩ (.int .u64 t296)).setCell ⟨gb299, 2, none⟩ (.int .u64 t297)).heap[gb271]? = some (.cells #[.bool t267, .int .u64 t268, .int .u64 t269] 29 (0, 0))) := ⟨by (with_reducible repeat (first | refine bN_ _ ?_ | refine bd_ ?_ | refine ba_ _ ?_)); refine blk_far ?_ NB271_299.out _; (with_reducible repeat (first | refine bN_ _ ?_ | refine bd_ ?_ | refine ba_ _ ?_)); refine blk_far ?_ NB271_299.out _; (with_reducible repeat (first | refine bN_ _ ?_ | refine bd_ ?_ | refine ba_ _ ?_)); refine blk_far ?_ NB271_299.out _; (with_reducible repeat (first | refine bN_ _ ?_ | refine bd_ ?_ | refine ba_ _ ?_)); exact BK271.out⟩
                  have n1_ : Aside0 ((((w131.setCell ⟨gb299, 0, none⟩ (.bool t295)).setCell ⟨gb299, 1, none⟩ (.int .u64 t296)).setCell ⟨gb299, 2, none⟩ (.int .u64 t297)).heap[gb276]? = some (.cells #[.bool t272, .int .u64 t273, .int .u64 t274] 29 (0, 0))) := ⟨by (with_reducible repeat (first | refine bN_ _ ?_ | refine bd_ ?_ | refine ba_ _ ?_)); refine blk_far ?_ NB276_299.out _; (with_reducible repeat (first | refine bN_ _ ?_ | refine bd_ ?_ | refine ba_ _ ?_)); refine blk_far ?_ NB276_299.out _; (with_reducible repeat (first | refine bN_ _ ?_ | refine bd_ ?_ | refine ba_ _ ?_)); refine blk_far ?_ NB276_299.out _; (with_reducible repeat (first | refine bN_ _ ?_ | refine bd_ ?_ | refine ba_ _ ?_)); exact BK276.out⟩
                  have n2_ : Aside0 ((((w131.setCell ⟨gb299, 0, none⟩ (.bool t295)).setCell ⟨gb299, 1, none⟩ (.int .u64 t296)).setCell ⟨gb299, 2, none⟩ (.int .u64 t297)).heap[gb281]? = some (.cells #[.bool t277, .int .u64 t278, .int .u64 t279] 29 (0, 0))) := ⟨by (with_reducible repeat (first | refine bN_ _ ?_ | refine bd_ ?_ | refine ba_ _ ?_)); refine blk_far ?_ NB281_299.out _; (with_reducible repeat (first | refine bN_ _ ?_ | refine bd_ ?_ | refine ba_ _ ?_)); refine blk_far ?_ NB281_299.out _; (with_reducible repeat (first | refine bN_ _ ?_ | refine bd_ ?_ | refine ba_ _ ?_)); refine blk_far ?_ NB281_299.out _; (with_reducible repeat (first | refine bN_ _ ?_ | refine bd_ ?_ | refine ba_ _ ?_)); exact BK281.out⟩
                  have n3_ : Aside0 ((((w131.setCell ⟨gb299, 0, none⟩ (.bool t295)).setCell ⟨gb299, 1, none⟩ (.int .u64 t296)).setCell ⟨gb299, 2, none⟩ (.int .u64 t297)).heap[gb291]? = some (.cells #[.bool t287, .int .u64 t288, .int .u64 t289] 29 (0, 0))) := ⟨by (with_reducible repeat (first | refine bN_ _ ?_ | refine bd_ ?_ | refine ba_ _ ?_)); refine blk_far ?_ NB291_299.out _; (with_reducible repeat (first | refine bN_ _ ?_ | refine bd_ ?_ | refine ba_ _ ?_)); refine blk_far ?_ NB291_299.out _; (with_reducible repeat (first | refine bN_ _ ?_ | refine bd_ ?_ | refine ba_ _ ?_)); refine blk_far ?_ NB291_299.out _; (with_reducible repeat (first | refine bN_ _ ?_ | refine bd_ ?_ | refine ba_ _ ?_)); exact BK291.out⟩
                  have n4_ : Aside0 ((((w131.setCell ⟨gb299, 0, none⟩ (.bool t295)).setCell ⟨gb299, 1, none⟩ (.int .u64 t296)).setCell ⟨gb299, 2, none⟩ (.int .u64 t297)).heap[gb299]? = some (.cells #[.bool t295, .int .u64 t296, .int .u64 t297] 29 (0, 0))) := ⟨by (with_reducible repeat (first | refine bN_ _ ?_ | refine bd_ ?_ | refine ba_ _ ?_)); refine blk_put (cs := #[.bool t295, .int .u64 t296, .int .u64 0]) ?_ 2 _ rfl; (with_reducible repeat (first | refine bN_ _ ?_ | refine bd_ ?_ | refine ba_ _ ?_)); refine blk_put (cs := #[.bool t295, .int .u64 0, .int .u64 0]) ?_ 1 _ rfl; (with_reducible repeat (first | refine bN_ _ ?_ | refine bd_ ?_ | refine ba_ _ ?_)); refine blk_put (cs := #[.bool false, .int .u64 0, .int .u64 0]) ?_ 0 _ rfl; (with_reducible repeat (first | refine bN_ _ ?_ | refine bd_ ?_ | refine ba_ _ ?_)); exact BK299.out⟩
                  have n5_ : Aside0 (Below w.heap.size w (((w131.setCell ⟨gb299, 0, none⟩ (.bool t295)).setCell ⟨gb299, 1, none⟩ (.int .u64 t296)).setCell ⟨gb299, 2, none⟩ (.int .u64 t297))) := ⟨by repeat (first | (with_reducible first | exact HB.out | apply below_alloc | apply pw_below_drewN | apply below_drew1 | refine below_set ?_ GE271.out | refine below_set ?_ GE276.out | refine below_set ?_ GE281.out | refine below_set ?_ GE291.out | refine below_set ?_ GE299.out) | exact HB.out)⟩
                  (try clear BK271)
                  (try clear BK276)
                  (try clear BK281)
                  (try clear BK291)
                  (try clear BK299)
                  (try clear HB)
                  generalize (((w131.setCell ⟨gb299, 0, none⟩ (.bool t295)).setCell ⟨gb299, 1, none⟩ (.int .u64 t296)).setCell ⟨gb299, 2, none⟩ (.int .u64 t297)) = w137 at n0_ n1_ n2_ n3_ n4_ n5_ ⊢
                  have BK271 := n0_
                  have BK276 := n1_
                  have BK281 := n2_
                  have BK291 := n3_
                  have BK299 := n4_
                  have HB := n5_
                  clear n0_ n1_ n2_ n3_ n4_ n5_
                  have n0_ := Aside0.mk (blk_drew BK271.out)
                  have n1_ := Aside0.mk (blk_drew BK276.out)
                  have n2_ := Aside0.mk (blk_drew BK281.out)
                  have n3_ := Aside0.mk (blk_drew BK291.out)
                  have n4_ := Aside0.mk (blk_drew BK299.out)
                  have n5_ := Aside0.mk (below_drew1 HB.out)
                  clear BK271
                  clear BK276
                  clear BK281
                  clear BK291
                  clear BK299
                  clear HB
                  have BK271 := n0_
                  have BK276 := n1_
                  have BK281 := n2_
                  have BK291 := n3_
                  have BK299 := n4_
                  have HB := n5_
                  clear n0_ n1_ n2_ n3_ n4_ n5_
                  refine start_ (n := 21) (S := fun w' => w'.cell? ⟨gb271, 0, none⟩ = some (.bool t267) ∧ w'.cell? ⟨gb271, 1, none⟩ = some (.int .u64 t268) ∧ w'.cell? ⟨gb271, 2, none⟩ = some (.int .u64 t269) ∧ w'.cell? ⟨gb299, 0, none⟩ = some (.bool t295) ∧ w'.cell? ⟨gb299, 1, none⟩ = some (.int .u64 t296) ∧ w'.cell? ⟨gb299, 2, none⟩ = some (.int .u64 t297)) (ds := []) #[false, false, false, false, false, false, false, false, false, false, false, false, false, false, false, false, false, false, false, false, false] (by kernel_rfl) rfl rfl ⟨(blk_cell BK271.out 0).trans rfl, (blk_cell BK271.out 1).trans rfl, (blk_cell BK271.out 2).trans rfl, (blk_cell BK299.out 0).trans rfl, (blk_cell BK299.out 1).trans rfl, (blk_cell BK299.out 2).trans rfl⟩ (fun hHeld => ?_); refine with_tabW laws_FnScale.tab13 laws_FnScale.bits13 (fun HT_ HW_ => ?_)
                  generalize w137.drew = w138 at BK271 BK276 BK281 BK291 BK299 HB hHeld ⊢
                  refine pure_ (i := 0) (N := some 63) (v := ?_) (a' := ?_) #[true, false, false, false, false, false, false, false, false, false, false, false, false, false, false, false, false, false, false, false, false] rfl rfl (any_of HT_.out (by kernel_rfl)) (fun _ _ _ h => h) (Or.inl ⟨by rfl, ?_⟩) ?_ ?_
                  rotate_left
                  · intro w'
                    go_simp
                    with_reducible rfl
                  rotate_left
                  · simp only [Act.put, List.setIfInBounds_toArray, List.set_cons_zero, List.set_cons_succ, i64_w, i32_w]
                    rfl
                  refine pure_ (i := 1) (N := some 64) (v := ?_) (a' := ?_) #[true, true, false, false, false, false, false, false, false, false, false, false, false, false, false, false, false, false, false, false, false] rfl rfl (any_of HT_.out (by kernel_rfl)) (fun _ _ _ h => h) (Or.inl ⟨by rfl, ?_⟩) ?_ ?_
                  rotate_left
                  · intro w'
                    go_simp
                    with_reducible rfl
                  rotate_left
                  · simp only [Act.put, List.setIfInBounds_toArray, List.set_cons_zero, List.set_cons_succ, i64_w, i32_w]
                    rfl
                  refine pure_ (i := 2) (N := some 65) (v := ?_) (a' := ?_) #[true, true, true, false, false, false, false, false, false, false, false, false, false, false, false, false, false, false, false, false, false] rfl rfl (any_of HT_.out (by kernel_rfl)) (fun _ _ _ h => h) (Or.inl ⟨by rfl, ?_⟩) ?_ ?_
                  rotate_left
                  · intro w'
                    go_simp
                    with_reducible rfl
                  rotate_left
                  · simp only [Act.put, List.setIfInBounds_toArray, List.set_cons_zero, List.set_cons_succ, i64_w, i32_w]
                    rfl
                  refine pure_ (i := 3) (N := some 66) (v := undef) (a' := ?_) #[true, true, true, true, false, false, false, false, false, false, false, false, false, false, false, false, false, false, false, false, false] rfl rfl (any_of HT_.out (by kernel_rfl)) (fun _ _ _ h => h) (Or.inr ⟨by rfl, rfl⟩) ?_ ?_
                  rotate_left
                  · simp only [Act.put, List.setIfInBounds_toArray, List.set_cons_zero, List.set_cons_succ, i64_w, i32_w]
                    rfl
                  refine pure_ (i := 4) (N := some 67) (v := undef) (a' := ?_) #[true, true, true, true, true, false, false, false, false, false, false, false, false, false, false, false, false, false, false, false, false] rfl rfl (any_of HT_.out (by kernel_rfl)) (fun _ _ _ h => h) (Or.inr ⟨by rfl, rfl⟩) ?_ ?_
                  rotate_left
                  · simp only [Act.put, List.setIfInBounds_toArray, List.set_cons_zero, List.set_cons_succ, i64_w, i32_w]
                    rfl
                  refine pure_ (i := 5) (N := some 68) (v := ?_) (a' := ?_) #[true, true, true, true, true, true, false, false, false, false, false, false, false, false, false, false, false, false, false, false, false] rfl rfl (any_of HT_.out (by kernel_rfl)) (fun _ _ _ h => h) (Or.inl ⟨by rfl, ?_⟩) ?_ ?_
                  rotate_left
                  · intro w'
                    go_simp
                    with_reducible rfl
                  rotate_left
                  · simp only [Act.put, List.setIfInBounds_toArray, List.set_cons_zero, List.set_cons_succ, i64_w, i32_w]
                    rfl
                  refine pure_ (i := 6) (N := some 69) (v := ?_) (a' := ?_) #[true, true, true, true, true, true, true, false, false, false, false, false, false, false, false, false, false, false, false, false, false] rfl rfl (any_of HT_.out (by kernel_rfl)) (fun _ _ _ h => h) (Or.inl ⟨by rfl, ?_⟩) ?_ ?_
                  rotate_left
                  · intro w'
                    go_simp
                    with_reducible rfl
                  rotate_left
                  · simp only [Act.put, List.setIfInBounds_toArray, List.set_cons_zero, List.set_cons_succ, i64_w, i32_w]
                    rfl
                  refine take_ (i := 7) (N := some 70) (v := ?_) (a' := ?_) #[true, true, true, true, true, true, true, true, false, false, false, false, false, false, false, false, false, false, false, false, false] rfl rfl (take_ofW HT_.out HW_.out (by kernel_rfl)) (fun _ _ _ h => h) (Or.inl ⟨by rfl, ?_⟩) hHeld ?_ ?_
                  rotate_left
                  · rintro w' ⟨s0, s1, s2, s3, s4, s5⟩
                    go_simp
                    with_reducible rfl
                  rotate_left
                  · simp only [Act.put, List.setIfInBounds_toArray, List.set_cons_zero, List.set_cons_succ, i64_w, i32_w]
                    rfl
                  refine one_ (i := 8) (N := some 71) #[true, true, true, true, true, true, true, true, true, false, false, false, false, false, false, false, false, false, false, false, false] rfl rfl (one_of HT_.out (by kernel_rfl)) (by decide) (fun K hK => ?_)
                  refine goes_ Try.func17 (by kernel_rfl) rfl #[.agg #[.bool t267, .int .u64 t268, .int .u64 t269]] (by rfl) rfl rfl mp_ ?_
                  with_reducible refine (spec_WideOk.calls t267 t268 t269 true _ A122.out).mono ?_
                  rintro e w139 ⟨rfl, hb⟩
                  refine ⟨_, rfl, ?_⟩
                  have n0_ := Aside0.mk (blk_below (g := gb271) (o := .cells #[.bool t267, .int .u64 t268, .int .u64 t269] 29 (0, 0)) (by (with_reducible repeat (first | refine bN_ _ ?_ | refine bd_ ?_ | refine ba_ _ ?_)); exact BK271.out) hb)
                  have n1_ := Aside0.mk (blk_below (g := gb276) (o := .cells #[.bool t272, .int .u64 t273, .int .u64 t274] 29 (0, 0)) (by (with_reducible repeat (first | refine bN_ _ ?_ | refine bd_ ?_ | refine ba_ _ ?_)); exact BK276.out) hb)
                  have n2_ := Aside0.mk (blk_below (g := gb281) (o := .cells #[.bool t277, .int .u64 t278, .int .u64 t279] 29 (0, 0)) (by (with_reducible repeat (first | refine bN_ _ ?_ | refine bd_ ?_ | refine ba_ _ ?_)); exact BK281.out) hb)
                  have n3_ := Aside0.mk (blk_below (g := gb291) (o := .cells #[.bool t287, .int .u64 t288, .int .u64 t289] 29 (0, 0)) (by (with_reducible repeat (first | refine bN_ _ ?_ | refine bd_ ?_ | refine ba_ _ ?_)); exact BK291.out) hb)
                  have n4_ := Aside0.mk (blk_below (g := gb299) (o := .cells #[.bool t295, .int .u64 t296, .int .u64 t297] 29 (0, 0)) (by (with_reducible repeat (first | refine bN_ _ ?_ | refine bd_ ?_ | refine ba_ _ ?_)); exact BK299.out) hb)
                  have n5_ := Aside0.mk (below_step bel_ hb)
                  clear BK271
                  clear BK276
                  clear BK281
                  clear BK291
                  clear BK299
                  clear HB
                  have BK271 := n0_
                  have BK276 := n1_
                  have BK281 := n2_
                  have BK291 := n3_
                  have BK299 := n4_
                  have HB := n5_
                  clear n0_ n1_ n2_ n3_ n4_ n5_
                  (try clear hb)
                  (try clear hb2)
                  (try clear hk)
                  (try clear hi)
                  refine hK.out _ _ ⟨(blk_cell BK271.out 0).trans rfl, (blk_cell BK271.out 1).trans rfl, (blk_cell BK271.out 2).trans rfl, (blk_cell BK299.out 0).trans rfl, (blk_cell BK299.out 1).trans rfl, (blk_cell BK299.out 2).trans rfl⟩ (fun hHeld => ?_)
                  clear hK K
                  refine norm_ (a' := ?_) ?_ ?_
                  rotate_left
                  · show Act.put _ (some 71) _ = _
                    simp only [Act.put, List.setIfInBounds_toArray, List.set_cons_zero, List.set_cons_succ, i64_w, i32_w]
                    rfl
                  refine pure_ (i := 9) (N := some 72) (v := ?_) (a' := ?_) #[true, true, true, true, true, true, true, true, true, true, false, false, false, false, false, false, false, false, false, false, false] rfl rfl (any_of HT_.out (by kernel_rfl)) (fun _ _ _ h => h) (Or.inl ⟨by rfl, ?_⟩) ?_ ?_
                  rotate_left
                  · intro w'
                    go_simp
                    with_reducible rfl
                  rotate_left
                  · simp only [Act.put, List.setIfInBounds_toArray, List.set_cons_zero, List.set_cons_succ, i64_w, i32_w]
                    rfl
                  refine pure_ (i := 10) (N := some 73) (v := ?_) (a' := ?_) #[true, true, true, true, true, true, true, true, true, true, true, false, false, false, false, false, false, false, false, false, false] rfl rfl (any_of HT_.out (by kernel_rfl)) (fun _ _ _ h => h) (Or.inl ⟨by rfl, ?_⟩) ?_ ?_
                  rotate_left
                  · intro w'
                    go_simp
                    with_reducible rfl
                  rotate_left
                  · simp only [Act.put, List.setIfInBounds_toArray, List.set_cons_zero, List.set_cons_succ, i64_w, i32_w]
                    rfl
                  refine pure_ (i := 11) (N := some 74) (v := ?_) (a' := ?_) #[true, true, true, true, true, true, true, true, true, true, true, true, false, false, false, false, false, false, false, false, false] rfl rfl (any_of HT_.out (by kernel_rfl)) (fun _ _ _ h => h) (Or.inl ⟨by rfl, ?_⟩) ?_ ?_
                  rotate_left
                  · intro w'
                    go_simp
                    with_reducible rfl
                  rotate_left
                  · simp only [Act.put, List.setIfInBounds_toArray, List.set_cons_zero, List.set_cons_succ, i64_w, i32_w]
                    rfl
                  refine pure_ (i := 12) (N := some 75) (v := ?_) (a' := ?_) #[true, true, true, true, true, true, true, true, true, true, true, true, true, false, false, false, false, false, false, false, false] rfl rfl (any_of HT_.out (by kernel_rfl)) (fun _ _ _ h => h) (Or.inl ⟨by rfl, ?_⟩) ?_ ?_
                  rotate_left
                  · intro w'
                    go_simp
                    with_reducible rfl
                  rotate_left
                  · simp only [Act.put, List.setIfInBounds_toArray, List.set_cons_zero, List.set_cons_succ, i64_w, i32_w]
                    rfl
                  refine take_ (i := 13) (N := some 76) (v := ?_) (a' := ?_) #[true, true, true, true, true, true, true, true, true, true, true, true, true, true, false, false, false, false, false, false, false] rfl rfl (take_ofW HT_.out HW_.out (by kernel_rfl)) (fun _ _ _ h => h) (Or.inl ⟨by rfl, ?_⟩) hHeld ?_ ?_
                  rotate_left
                  · rintro w' ⟨s0, s1, s2, s3, s4, s5⟩
                    go_simp
                    with_reducible rfl
                  rotate_left
                  · simp only [Act.put, List.setIfInBounds_toArray, List.set_cons_zero, List.set_cons_succ, i64_w, i32_w]
                    rfl
                  refine take_ (i := 14) (N := some 77) (v := ?_) (a' := ?_) #[true, true, true, true, true, true, true, true, true, true, true, true, true, true, true, false, false, false, false, false, false] rfl rfl (take_ofW HT_.out HW_.out (by kernel_rfl)) (fun _ _ _ h => h) (Or.inl ⟨by rfl, ?_⟩) hHeld ?_ ?_
                  rotate_left
                  · rintro w' ⟨s0, s1, s2, s3, s4, s5⟩
                    go_simp
                    with_reducible rfl
                  rotate_left
                  · simp only [Act.put, List.setIfInBounds_toArray, List.set_cons_zero, List.set_cons_succ, i64_w, i32_w]
                    rfl
                  refine one_ (i := 15) (N := some 78) #[true, true, true, true, true, true, true, true, true, true, true, true, true, true, true, true, false, false, false, false, false] rfl rfl (one_of HT_.out (by kernel_rfl)) (by decide) (fun K hK => ?_)
                  refine goes_ Try.func35 (by kernel_rfl) rfl #[.agg #[.bool t267, .int .u64 t268, .int .u64 t269]] (by rfl) rfl rfl mp_ ?_
                  with_reducible refine (impl_NegWide.calls t267 t268 t269 t306 t307 t308 _ A125.out).mono ?_
                  rintro e w140 ⟨rfl, hb⟩
                  refine ⟨_, rfl, ?_⟩
                  have n0_ := Aside0.mk (blk_below (g := gb271) (o := .cells #[.bool t267, .int .u64 t268, .int .u64 t269] 29 (0, 0)) (by (with_reducible repeat (first | refine bN_ _ ?_ | refine bd_ ?_ | refine ba_ _ ?_)); exact BK271.out) hb)
                  have n1_ := Aside0.mk (blk_below (g := gb276) (o := .cells #[.bool t272, .int .u64 t273, .int .u64 t274] 29 (0, 0)) (by (with_reducible repeat (first | refine bN_ _ ?_ | refine bd_ ?_ | refine ba_ _ ?_)); exact BK276.out) hb)
                  have n2_ := Aside0.mk (blk_below (g := gb281) (o := .cells #[.bool t277, .int .u64 t278, .int .u64 t279] 29 (0, 0)) (by (with_reducible repeat (first | refine bN_ _ ?_ | refine bd_ ?_ | refine ba_ _ ?_)); exact BK281.out) hb)
                  have n3_ := Aside0.mk (blk_below (g := gb291) (o := .cells #[.bool t287, .int .u64 t288, .int .u64 t289] 29 (0, 0)) (by (with_reducible repeat (first | refine bN_ _ ?_ | refine bd_ ?_ | refine ba_ _ ?_)); exact BK291.out) hb)
                  have n4_ := Aside0.mk (blk_below (g := gb299) (o := .cells #[.bool t295, .int .u64 t296, .int .u64 t297] 29 (0, 0)) (by (with_reducible repeat (first | refine bN_ _ ?_ | refine bd_ ?_ | refine ba_ _ ?_)); exact BK299.out) hb)
                  have n5_ := Aside0.mk (below_step bel_ hb)
                  clear BK271
                  clear BK276
                  clear BK281
                  clear BK291
                  clear BK299
                  clear HB
                  have BK271 := n0_
                  have BK276 := n1_
                  have BK281 := n2_
                  have BK291 := n3_
                  have BK299 := n4_
                  have HB := n5_
                  clear n0_ n1_ n2_ n3_ n4_ n5_
                  (try clear hb)
                  (try clear hb2)
                  (try clear hk)
                  (try clear hi)
                  refine hK.out _ _ ⟨(blk_cell BK271.out 0).trans rfl, (blk_cell BK271.out 1).trans rfl, (blk_cell BK271.out 2).trans rfl, (blk_cell BK299.out 0).trans rfl, (blk_cell BK299.out 1).trans rfl, (blk_cell BK299.out 2).trans rfl⟩ (fun hHeld => ?_)
                  clear hK K
                  refine norm_ (a' := ?_) ?_ ?_
                  rotate_left
                  · show Act.put _ (some 78) _ = _
                    simp only [Act.put, List.setIfInBounds_toArray, List.set_cons_zero, List.set_cons_succ, i64_w, i32_w]
                    rfl
                  refine pure_ (i := 16) (N := some 79) (v := ?_) (a' := ?_) #[true, true, true, true, true, true, true, true, true, true, true, true, true, true, true, true, true, false, false, false, false] rfl rfl (any_of HT_.out (by kernel_rfl)) (fun _ _ _ h => h) (Or.inl ⟨by rfl, ?_⟩) ?_ ?_
                  rotate_left
                  · intro w'
                    go_simp
                    with_reducible rfl
                  rotate_left
                  · simp only [Act.put, List.setIfInBounds_toArray, List.set_cons_zero, List.set_cons_succ, i64_w, i32_w]
                    rfl
                  refine pure_ (i := 17) (N := some 80) (v := ?_) (a' := ?_) #[true, true, true, true, true, true, true, true, true, true, true, true, true, true, true, true, true, true, false, false, false] rfl rfl (any_of HT_.out (by kernel_rfl)) (fun _ _ _ h => h) (Or.inl ⟨by rfl, ?_⟩) ?_ ?_
                  rotate_left
                  · intro w'
                    go_simp
                    with_reducible rfl
                  rotate_left
                  · simp only [Act.put, List.setIfInBounds_toArray, List.set_cons_zero, List.set_cons_succ, i64_w, i32_w]
                    rfl
                  refine pure_ (i := 18) (N := some 81) (v := ?_) (a' := ?_) #[true, true, true, true, true, true, true, true, true, true, true, true, true, true, true, true, true, true, true, false, false] rfl rfl (any_of HT_.out (by kernel_rfl)) (fun _ _ _ h => h) (Or.inl ⟨by rfl, ?_⟩) ?_ ?_
                  rotate_left
                  · intro w'
                    go_simp
                    with_reducible rfl
                  rotate_left
                  · simp only [Act.put, List.setIfInBounds_toArray, List.set_cons_zero, List.set_cons_succ, i64_w, i32_w]
                    rfl
                  refine pure_ (i := 19) (N := some 82) (v := ?_) (a' := ?_) #[true, true, true, true, true, true, true, true, true, true, true, true, true, true, true, true, true, true, true, true, false] rfl rfl (any_of HT_.out (by kernel_rfl)) (fun _ _ _ h => h) (Or.inl ⟨by rfl, ?_⟩) ?_ ?_
                  rotate_left
                  · intro w'
                    go_simp
                    with_reducible rfl
                  rotate_left
                  · simp only [Act.put, List.setIfInBounds_toArray, List.set_cons_zero, List.set_cons_succ, i64_w, i32_w]
                    rfl
                  refine pure_ (i := 20) (N := some 2) (v := ?_) (a' := ?_) #[true, true, true, true, true, true, true, true, true, true, true, true, true, true, true, true, true, true, true, true, true] rfl rfl (any_of HT_.out (by kernel_rfl)) (fun _ _ _ h => h) (Or.inl ⟨by rfl, ?_⟩) ?_ ?_
                  rotate_left
                  · intro w'
                    go_simp
                    with_reducible rfl
                  rotate_left
                  · simp only [Act.put, List.setIfInBounds_toArray, List.set_cons_zero, List.set_cons_succ, i64_w, i32_w]
                    rfl
                  refine done_ (done_of HT_.out (by kernel_rfl)) ?_
                  try go_wp2
                  go_ret
                  exact ⟨by first | rfl | (simp [errW_none, errW_some] <;> rfl) | (simp [*, errW_none, errW_some] <;> rfl), by repeat (first | (with_reducible first | exact HB.out | apply below_alloc | apply pw_below_drewN | apply below_drew1 | refine below_set ?_ GE271.out | refine below_set ?_ GE276.out | refine below_set ?_ GE281.out | refine below_set ?_ GE291.out | refine below_set ?_ GE299.out) | exact HB.out)⟩
                · replace c124 := Bool.eq_false_iff.mpr c124
                  subst c124
                  have H1 : (some false) = some r := by rw [if_neg (show ¬ (false = true) by decide)] at H; exact H
                  clear H
                  have H := H1
                  clear H1
                  obtain rfl := Option.some.inj H
                  have hnb141 := NB271_276.out
                  have hnc141 := NB276_271.out
                  have hnb142 := NB271_281.out
                  have hnc142 := NB281_271.out
                  have hnb143 := NB271_291.out
                  have hnc143 := NB291_271.out
                  have hcz144_0 : wc.cell? ⟨gb271, 0, none⟩ = some (.bool t267) := (blk_cell BK271.out 0).trans rfl
                  have hcz144_1 : wc.cell? ⟨gb271, 1, none⟩ = some (.int .u64 t268) := (blk_cell BK271.out 1).trans rfl
                  have hcz144_2 : wc.cell? ⟨gb271, 2, none⟩ = some (.int .u64 t269) := (blk_cell BK271.out 2).trans rfl
                  have hfz144_0 := blk_frozen BK271.out 0
                  have hfz144_1 := blk_frozen BK271.out 1
                  have hfz144_2 := blk_frozen BK271.out 2
                  try go_wp2_with (first | ((with_reducible refine gate_callee (f := 30) rfl ?_); refine goesL_ (some 60) rfl rfl Try.func30 (by kernel_rfl) rfl #[.agg #[.bool t267, .int .u64 t268, .int .u64 t269], .int .i64 (-1)] rfl mp_ ?_; (with_reducible refine (impl_ScaleWide.calls t267 t268 t269 (-1) t295 t296 t297 false _ A54.out).mono ?_); rintro e w145 ⟨rfl, hb⟩; refine ⟨_, rfl, ?_⟩; have n0_ := Aside0.mk (blk_below (g := gb271) (o := .cells #[.bool t267, .int .u64 t268, .int .u64 t269] 29 (0, 0)) (by (with_reducible repeat (first | refine bN_ _ ?_ | refine bd_ ?_ | refine ba_ _ ?_)); exact BK271.out) hb); have n1_ := Aside0.mk (blk_below (g := gb276) (o := .cells #[.bool t272, .int .u64 t273, .int .u64 t274] 29 (0, 0)) (by (with_reducible repeat (first | refine bN_ _ ?_ | refine bd_ ?_ | refine ba_ _ ?_)); exact BK276.out) hb); have n2_ := Aside0.mk (blk_below (g := gb281) (o := .cells #[.bool t277, .int .u64 t278, .int .u64 t279] 29 (0, 0)) (by (with_reducible repeat (first | refine bN_ _ ?_ | refine bd_ ?_ | refine ba_ _ ?_)); exact BK281.out) hb); have n3_ := Aside0.mk (blk_below (g := gb291) (o := .cells #[.bool t287, .int .u64 t288, .int .u64 t289] 29 (0, 0)) (by (with_reducible repeat (first | refine bN_ _ ?_ | refine bd_ ?_ | refine ba_ _ ?_)); exact BK291.out) hb); have n4_ := Aside0.mk (below_step bel_ hb); clear BK271; clear BK276; clear BK281; clear BK291; clear HB; have BK271 := n0_; have BK276 := n1_; have BK281 := n2_; have BK291 := n3_; have HB := n4_; clear n0_ n1_ n2_ n3_ n4_; (try clear hb); (try clear hb2); (try clear hk); (try clear hi)) | ((with_reducible refine gate_dst (N := 13) rfl ?_); refine box_event ?hg (N := 13) ?hd (cs := #[.bool false, .int .u64 0, .int .u64 0]) (t := 29) ?hr ?_; (case hd => rfl); (case hg => rfl); (case hr => first | (go_simp; done) | (go_simp; rfl)); intro gb299 hg w146 hbox hb; have n0_ := Aside0.mk (blk_below (g := gb271) (o := .cells #[.bool t267, .int .u64 t268, .int .u64 t269] 29 (0, 0)) (by (with_reducible repeat (first | refine bN_ _ ?_ | refine bd_ ?_ | refine ba_ _ ?_)); exact BK271.out) hb); have n1_ := Aside0.mk (blk_below (g := gb276) (o := .cells #[.bool t272, .int .u64 t273, .int .u64 t274] 29 (0, 0)) (by (with_reducible repeat (first | refine bN_ _ ?_ | refine bd_ ?_ | refine ba_ _ ?_)); exact BK276.out) hb); have n2_ := Aside0.mk (blk_below (g := gb281) (o := .cells #[.bool t277, .int .u64 t278, .int .u64 t279] 29 (0, 0)) (by (with_reducible repeat (first | refine bN_ _ ?_ | refine bd_ ?_ | refine ba_ _ ?_)); exact BK281.out) hb); have n3_ := Aside0.mk (blk_below (g := gb291) (o := .cells #[.bool t287, .int .u64 t288, .int .u64 t289] 29 (0, 0)) (by (with_reducible repeat (first | refine bN_ _ ?_ | refine bd_ ?_ | refine ba_ _ ?_)); exact BK291.out) hb); have n4_ := Aside0.mk (below_step bel_ hb); have n5_ := Aside0.mk (hbox); have n6_ := Aside0.mk ((by rw [hg]; exact (below_size bel_) : w.heap.size ≤ gb299)); have n7_ := Aside0.mk ((by rw [hg]; exact (below_size bel_) : w.heap.size ≤ gb299)); have n8_ := Aside0.mk ((by rw [hg]; exact Nat.ne_of_lt (blk_lt (g := gb271) (o := .cells #[.bool t267, .int .u64 t268, .int .u64 t269] 29 (0, 0)) (by (with_reducible repeat (first | refine bN_ _ ?_ | refine bd_ ?_ | refine ba_ _ ?_)); exact BK271.out)) : gb271 ≠ gb299)); have n9_ := Aside0.mk ((by rw [hg]; exact Nat.ne_of_gt (blk_lt (g := gb271) (o := .cells #[.bool t267, .int .u64 t268, .int .u64 t269] 29 (0, 0)) (by (with_reducible repeat (first | refine bN_ _ ?_ | refine bd_ ?_ | refine ba_ _ ?_)); exact BK271.out)) : gb299 ≠ gb271)); have n10_ := Aside0.mk ((by rw [hg]; exact Nat.ne_of_lt (blk_lt (g := gb276) (o := .cells #[.bool t272, .int .u64 t273, .int .u64 t274] 29 (0, 0)) (by (with_reducible repeat (first | refine bN_ _ ?_ | refine bd_ ?_ | refine ba_ _ ?_)); exact BK276.out)) : gb276 ≠ gb299)); have n11_ := Aside0.mk ((by rw [hg]; exact Nat.ne_of_gt (blk_lt (g := gb276) (o := .cells #[.bool t272, .int .u64 t273, .int .u64 t274] 29 (0, 0)) (by (with_reducible repeat (first | refine bN_ _ ?_ | refine bd_ ?_ | refine ba_ _ ?_)); exact BK276.out)) : gb299 ≠ gb276)); have n12_ := Aside0.mk ((by rw [hg]; exact Nat.ne_of_lt (blk_lt (g := gb281) (o := .cells #[.bool t277, .int .u64 t278, .int .u64 t279] 29 (0, 0)) (by (with_reducible repeat (first | refine bN_ _ ?_ | refine bd_ ?_ | refine ba_ _ ?_)); exact BK281.out)) : gb281 ≠ gb299)); have n13_ := Aside0.mk ((by rw [hg]; exact Nat.ne_of_gt (blk_lt (g := gb281) (o := .cells #[.bool t277, .int .u64 t278, .int .u64 t279] 29 (0, 0)) (by (with_reducible repeat (first | refine bN_ _ ?_ | refine bd_ ?_ | refine ba_ _ ?_)); exact BK281.out)) : gb299 ≠ gb281)); have n14_ := Aside0.mk ((by rw [hg]; exact Nat.ne_of_lt (blk_lt (g := gb291) (o := .cells #[.bool t287, .int .u64 t288, .int .u64 t289] 29 (0, 0)) (by (with_reducible repeat (first | refine bN_ _ ?_ | refine bd_ ?_ | refine ba_ _ ?_)); exact BK291.out)) : gb291 ≠ gb299)); have n15_ := Aside0.mk ((by rw [hg]; exact Nat.ne_of_gt (blk_lt (g := gb291) (o := .cells #[.bool t287, .int .u64 t288, .int .u64 t289] 29 (0, 0)) (by (with_reducible repeat (first | refine bN_ _ ?_ | refine bd_ ?_ | refine ba_ _ ?_)); exact BK291.out)) : gb299 ≠ gb291)); clear BK271; clear BK276; clear BK281; clear BK291; clear HB; have BK271 := n0_; have BK276 := n1_; have BK281 := n2_; have BK291 := n3_; have HB := n4_; have BK299 := n5_; have GW299 := n6_; have GE299 := n7_; have NB271_299 := n8_; have NB299_271 := n9_; have NB276_299 := n10_; have NB299_276 := n11_; have NB281_299 := n12_; have NB299_281 := n13_; have NB291_299 := n14_; have NB299_291 := n15_; clear n0_ n1_ n2_ n3_ n4_ n5_ n6_ n7_ n8_ n9_ n10_ n11_ n12_ n13_ n14_ n15_; clear hb hbox hg; have hnb147 := NB299_271.out; have hnc147 := NB271_299.out; have hnb148 := NB299_276.out; have hnc148 := NB276_299.out; have hnb149 := NB299_281.out; have hnc149 := NB281_299.out; have hnb150 := NB299_291.out; have hnc150 := NB291_299.out; have hcz151_0 : w146.cell? ⟨gb299, 0, none⟩ = some (.bool false) := (blk_cell BK299.out 0).trans rfl; have hcz151_1 : w146.cell? ⟨gb299, 1, none⟩ = some (.int .u64 0) := (blk_cell BK299.out 1).trans rfl; have hcz151_2 : w146.cell? ⟨gb299, 2, none⟩ = some (.int .u64 0) := (blk_cell BK299.out 2).trans rfl; have hfz151_0 := blk_frozen BK299.out 0; have hfz151_1 := blk_frozen BK299.out 1; have hfz151_2 := blk_frozen BK299.out 2))
                  have n0_ : Aside0 ((((w146.setCell ⟨gb299, 0, none⟩ (.bool t295)).setCell ⟨gb299, 1, none⟩ (.int .u64 t296)).setCell ⟨gb299, 2, none⟩ (.int .u64 t297)).heap[gb271]? = some (.cells #[.bool t267, .int .u64 t268, .int .u64 t269] 29 (0, 0))) := ⟨by (with_reducible repeat (first | refine bN_ _ ?_ | refine bd_ ?_ | refine ba_ _ ?_)); refine blk_far ?_ NB271_299.out _; (with_reducible repeat (first | refine bN_ _ ?_ | refine bd_ ?_ | refine ba_ _ ?_)); refine blk_far ?_ NB271_299.out _; (with_reducible repeat (first | refine bN_ _ ?_ | refine bd_ ?_ | refine ba_ _ ?_)); refine blk_far ?_ NB271_299.out _; (with_reducible repeat (first | refine bN_ _ ?_ | refine bd_ ?_ | refine ba_ _ ?_)); exact BK271.out⟩
                  have n1_ : Aside0 ((((w146.setCell ⟨gb299, 0, none⟩ (.bool t295)).setCell ⟨gb299, 1, none⟩ (.int .u64 t296)).setCell ⟨gb299, 2, none⟩ (.int .u64 t297)).heap[gb276]? = some (.cells #[.bool t272, .int .u64 t273, .int .u64 t274] 29 (0, 0))) := ⟨by (with_reducible repeat (first | refine bN_ _ ?_ | refine bd_ ?_ | refine ba_ _ ?_)); refine blk_far ?_ NB276_299.out _; (with_reducible repeat (first | refine bN_ _ ?_ | refine bd_ ?_ | refine ba_ _ ?_)); refine blk_far ?_ NB276_299.out _; (with_reducible repeat (first | refine bN_ _ ?_ | refine bd_ ?_ | refine ba_ _ ?_)); refine blk_far ?_ NB276_299.out _; (with_reducible repeat (first | refine bN_ _ ?_ | refine bd_ ?_ | refine ba_ _ ?_)); exact BK276.out⟩
                  have n2_ : Aside0 ((((w146.setCell ⟨gb299, 0, none⟩ (.bool t295)).setCell ⟨gb299, 1, none⟩ (.int .u64 t296)).setCell ⟨gb299, 2, none⟩ (.int .u64 t297)).heap[gb281]? = some (.cells #[.bool t277, .int .u64 t278, .int .u64 t279] 29 (0, 0))) := ⟨by (with_reducible repeat (first | refine bN_ _ ?_ | refine bd_ ?_ | refine ba_ _ ?_)); refine blk_far ?_ NB281_299.out _; (with_reducible repeat (first | refine bN_ _ ?_ | refine bd_ ?_ | refine ba_ _ ?_)); refine blk_far ?_ NB281_299.out _; (with_reducible repeat (first | refine bN_ _ ?_ | refine bd_ ?_ | refine ba_ _ ?_)); refine blk_far ?_ NB281_299.out _; (with_reducible repeat (first | refine bN_ _ ?_ | refine bd_ ?_ | refine ba_ _ ?_)); exact BK281.out⟩
                  have n3_ : Aside0 ((((w146.setCell ⟨gb299, 0, none⟩ (.bool t295)).setCell ⟨gb299, 1, none⟩ (.int .u64 t296)).setCell ⟨gb299, 2, none⟩ (.int .u64 t297)).heap[gb291]? = some (.cells #[.bool t287, .int .u64 t288, .int .u64 t289] 29 (0, 0))) := ⟨by (with_reducible repeat (first | refine bN_ _ ?_ | refine bd_ ?_ | refine ba_ _ ?_)); refine blk_far ?_ NB291_299.out _; (with_reducible repeat (first | refine bN_ _ ?_ | refine bd_ ?_ | refine ba_ _ ?_)); refine blk_far ?_ NB291_299.out _; (with_reducible repeat (first | refine bN_ _ ?_ | refine bd_ ?_ | refine ba_ _ ?_)); refine blk_far ?_ NB291_299.out _; (with_reducible repeat (first | refine bN_ _ ?_ | refine bd_ ?_ | refine ba_ _ ?_)); exact BK291.out⟩
                  have n4_ : Aside0 ((((w146.setCell ⟨gb299, 0, none⟩ (.bool t295)).setCell ⟨gb299, 1, none⟩ (.int .u64 t296)).setCell ⟨gb299, 2, none⟩ (.int .u64 t297)).heap[gb299]? = some (.cells #[.bool t295, .int .u64 t296, .int .u64 t297] 29 (0, 0))) := ⟨by (with_reducible repeat (first | refine bN_ _ ?_ | refine bd_ ?_ | refine ba_ _ ?_)); refine blk_put (cs := #[.bool t295, .int .u64 t296, .int .u64 0]) ?_ 2 _ rfl; (with_reducible repeat (first | refine bN_ _ ?_ | refine bd_ ?_ | refine ba_ _ ?_)); refine blk_put (cs := #[.bool t295, .int .u64 0, .int .u64 0]) ?_ 1 _ rfl; (with_reducible repeat (first | refine bN_ _ ?_ | refine bd_ ?_ | refine ba_ _ ?_)); refine blk_put (cs := #[.bool false, .int .u64 0, .int .u64 0]) ?_ 0 _ rfl; (with_reducible repeat (first | refine bN_ _ ?_ | refine bd_ ?_ | refine ba_ _ ?_)); exact BK299.out⟩
                  have n5_ : Aside0 (Below w.heap.size w (((w146.setCell ⟨gb299, 0, none⟩ (.bool t295)).setCell ⟨gb299, 1, none⟩ (.int .u64 t296)).setCell ⟨gb299, 2, none⟩ (.int .u64 t297))) := ⟨by repeat (first | (with_reducible first | exact HB.out | apply below_alloc | apply pw_below_drewN | apply below_drew1 | refine below_set ?_ GE271.out | refine below_set ?_ GE276.out | refine below_set ?_ GE281.out | refine below_set ?_ GE291.out | refine below_set ?_ GE299.out) | exact HB.out)⟩
                  (try clear BK271)
                  (try clear BK276)
                  (try clear BK281)
                  (try clear BK291)
                  (try clear BK299)
                  (try clear HB)
                  generalize (((w146.setCell ⟨gb299, 0, none⟩ (.bool t295)).setCell ⟨gb299, 1, none⟩ (.int .u64 t296)).setCell ⟨gb299, 2, none⟩ (.int .u64 t297)) = w152 at n0_ n1_ n2_ n3_ n4_ n5_ ⊢
                  have BK271 := n0_
                  have BK276 := n1_
                  have BK281 := n2_
                  have BK291 := n3_
                  have BK299 := n4_
                  have HB := n5_
                  clear n0_ n1_ n2_ n3_ n4_ n5_
                  have n0_ := Aside0.mk (blk_drew BK271.out)
                  have n1_ := Aside0.mk (blk_drew BK276.out)
                  have n2_ := Aside0.mk (blk_drew BK281.out)
                  have n3_ := Aside0.mk (blk_drew BK291.out)
                  have n4_ := Aside0.mk (blk_drew BK299.out)
                  have n5_ := Aside0.mk (below_drew1 HB.out)
                  clear BK271
                  clear BK276
                  clear BK281
                  clear BK291
                  clear BK299
                  clear HB
                  have BK271 := n0_
                  have BK276 := n1_
                  have BK281 := n2_
                  have BK291 := n3_
                  have BK299 := n4_
                  have HB := n5_
                  clear n0_ n1_ n2_ n3_ n4_ n5_
                  refine start_ (n := 21) (S := fun w' => w'.cell? ⟨gb271, 0, none⟩ = some (.bool t267) ∧ w'.cell? ⟨gb271, 1, none⟩ = some (.int .u64 t268) ∧ w'.cell? ⟨gb271, 2, none⟩ = some (.int .u64 t269)) (ds := []) #[false, false, false, false, false, false, false, false, false, false, false, false, false, false, false, false, false, false, false, false, false] (by kernel_rfl) rfl rfl ⟨(blk_cell BK271.out 0).trans rfl, (blk_cell BK271.out 1).trans rfl, (blk_cell BK271.out 2).trans rfl⟩ (fun hHeld => ?_); refine with_tabW laws_FnScale.tab13 laws_FnScale.bits13 (fun HT_ HW_ => ?_)
                  generalize w152.drew = w153 at BK271 BK276 BK281 BK291 BK299 HB hHeld ⊢
                  refine pure_ (i := 0) (N := some 63) (v := ?_) (a' := ?_) #[true, false, false, false, false, false, false, false, false, false, false, false, false, false, false, false, false, false, false, false, false] rfl rfl (any_of HT_.out (by kernel_rfl)) (fun _ _ _ h => h) (Or.inl ⟨by rfl, ?_⟩) ?_ ?_
                  rotate_left
                  · intro w'
                    go_simp
                    with_reducible rfl
                  rotate_left
                  · simp only [Act.put, List.setIfInBounds_toArray, List.set_cons_zero, List.set_cons_succ, i64_w, i32_w]
                    rfl
                  refine pure_ (i := 1) (N := some 64) (v := ?_) (a' := ?_) #[true, true, false, false, false, false, false, false, false, false, false, false, false, false, false, false, false, false, false, false, false] rfl rfl (any_of HT_.out (by kernel_rfl)) (fun _ _ _ h => h) (Or.inl ⟨by rfl, ?_⟩) ?_ ?_
                  rotate_left
                  · intro w'
                    go_simp
                    with_reducible rfl
                  rotate_left
                  · simp only [Act.put, List.setIfInBounds_toArray, List.set_cons_zero, List.set_cons_succ, i64_w, i32_w]
                    rfl
                  refine pure_ (i := 2) (N := some 65) (v := ?_) (a' := ?_) #[true, true, true, false, false, false, false, false, false, false, false, false, false, false, false, false, false, false, false, false, false] rfl rfl (any_of HT_.out (by kernel_rfl)) (fun _ _ _ h => h) (Or.inl ⟨by rfl, ?_⟩) ?_ ?_
                  rotate_left
                  · intro w'
                    go_simp
                    with_reducible rfl
                  rotate_left
                  · simp only [Act.put, List.setIfInBounds_toArray, List.set_cons_zero, List.set_cons_succ, i64_w, i32_w]
                    rfl
                  refine pure_ (i := 3) (N := some 66) (v := undef) (a' := ?_) #[true, true, true, true, false, false, false, false, false, false, false, false, false, false, false, false, false, false, false, false, false] rfl rfl (any_of HT_.out (by kernel_rfl)) (fun _ _ _ h => h) (Or.inr ⟨by rfl, rfl⟩) ?_ ?_
                  rotate_left
                  · simp only [Act.put, List.setIfInBounds_toArray, List.set_cons_zero, List.set_cons_succ, i64_w, i32_w]
                    rfl
                  refine pure_ (i := 4) (N := some 67) (v := undef) (a' := ?_) #[true, true, true, true, true, false, false, false, false, false, false, false, false, false, false, false, false, false, false, false, false] rfl rfl (any_of HT_.out (by kernel_rfl)) (fun _ _ _ h => h) (Or.inr ⟨by rfl, rfl⟩) ?_ ?_
                  rotate_left
                  · simp only [Act.put, List.setIfInBounds_toArray, List.set_cons_zero, List.set_cons_succ, i64_w, i32_w]
                    rfl
                  refine pure_ (i := 5) (N := some 68) (v := ?_) (a' := ?_) #[true, true, true, true, true, true, false, false, false, false, false, false, false, false, false, false, false, false, false, false, false] rfl rfl (any_of HT_.out (by kernel_rfl)) (fun _ _ _ h => h) (Or.inl ⟨by rfl, ?_⟩) ?_ ?_
                  rotate_left
                  · intro w'
                    go_simp
                    with_reducible rfl
                  rotate_left
                  · simp only [Act.put, List.setIfInBounds_toArray, List.set_cons_zero, List.set_cons_succ, i64_w, i32_w]
                    rfl
                  refine pure_ (i := 6) (N := some 69) (v := ?_) (a' := ?_) #[true, true, true, true, true, true, true, false, false, false, false, false, false, false, false, false, false, false, false, false, false] rfl rfl (any_of HT_.out (by kernel_rfl)) (fun _ _ _ h => h) (Or.inl ⟨by rfl, ?_⟩) ?_ ?_
                  rotate_left
                  · intro w'
                    go_simp
                    with_reducible rfl
                  rotate_left
                  · simp only [Act.put, List.setIfInBounds_toArray, List.set_cons_zero, List.set_cons_succ, i64_w, i32_w]
                    rfl
                  refine take_ (i := 7) (N := some 70) (v := ?_) (a' := ?_) #[true, true, true, true, true, true, true, true, false, false, false, false, false, false, false, false, false, false, false, false, false] rfl rfl (take_ofW HT_.out HW_.out (by kernel_rfl)) (fun _ _ _ h => h) (Or.inl ⟨by rfl, ?_⟩) hHeld ?_ ?_
                  rotate_left
                  · rintro w' ⟨s0, s1, s2⟩
                    go_simp
                    with_reducible rfl
                  rotate_left
                  · simp only [Act.put, List.setIfInBounds_toArray, List.set_cons_zero, List.set_cons_succ, i64_w, i32_w]
                    rfl
                  refine one_ (i := 8) (N := some 71) #[true, true, true, true, true, true, true, true, true, false, false, false, false, false, false, false, false, false, false, false, false] rfl rfl (one_of HT_.out (by kernel_rfl)) (by decide) (fun K hK => ?_)
                  refine goes_ Try.func17 (by kernel_rfl) rfl #[.agg #[.bool t267, .int .u64 t268, .int .u64 t269]] (by rfl) rfl rfl mp_ ?_
                  with_reducible refine (spec_WideOk.calls t267 t268 t269 true _ A122.out).mono ?_
                  rintro e w154 ⟨rfl, hb⟩
                  refine ⟨_, rfl, ?_⟩
                  have n0_ := Aside0.mk (blk_below (g := gb271) (o := .cells #[.bool t267, .int .u64 t268, .int .u64 t269] 29 (0, 0)) (by (with_reducible repeat (first | refine bN_ _ ?_ | refine bd_ ?_ | refine ba_ _ ?_)); exact BK271.out) hb)
                  have n1_ := Aside0.mk (blk_below (g := gb276) (o := .cells #[.bool t272, .int .u64 t273, .int .u64 t274] 29 (0, 0)) (by (with_reducible repeat (first | refine bN_ _ ?_ | refine bd_ ?_ | refine ba_ _ ?_)); exact BK276.out) hb)
                  have n2_ := Aside0.mk (blk_below (g := gb281) (o := .cells #[.bool t277, .int .u64 t278, .int .u64 t279] 29 (0, 0)) (by (with_reducible repeat (first | refine bN_ _ ?_ | refine bd_ ?_ | refine ba_ _ ?_)); exact BK281.out) hb)
                  have n3_ := Aside0.mk (blk_below (g := gb291) (o := .cells #[.bool t287, .int .u64 t288, .int .u64 t289] 29 (0, 0)) (by (with_reducible repeat (first | refine bN_ _ ?_ | refine bd_ ?_ | refine ba_ _ ?_)); exact BK291.out) hb)
                  have n4_ := Aside0.mk (blk_below (g := gb299) (o := .cells #[.bool t295, .int .u64 t296, .int .u64 t297] 29 (0, 0)) (by (with_reducible repeat (first | refine bN_ _ ?_ | refine bd_ ?_ | refine ba_ _ ?_)); exact BK299.out) hb)
                  have n5_ := Aside0.mk (below_step bel_ hb)
                  clear BK271
                  clear BK276
                  clear BK281
                  clear BK291
                  clear BK299
                  clear HB
                  have BK271 := n0_
                  have BK276 := n1_
                  have BK281 := n2_
                  have BK291 := n3_
                  have BK299 := n4_
                  have HB := n5_
                  clear n0_ n1_ n2_ n3_ n4_ n5_
                  (try clear hb)
                  (try clear hb2)
                  (try clear hk)
                  (try clear hi)
                  refine hK.out _ _ ⟨(blk_cell BK271.out 0).trans rfl, (blk_cell BK271.out 1).trans rfl, (blk_cell BK271.out 2).trans rfl⟩ (fun hHeld => ?_)
                  clear hK K
                  refine norm_ (a' := ?_) ?_ ?_
                  rotate_left
                  · show Act.put _ (some 71) _ = _
                    simp only [Act.put, List.setIfInBounds_toArray, List.set_cons_zero, List.set_cons_succ, i64_w, i32_w]
                    rfl
                  refine pure_ (i := 9) (N := some 72) (v := ?_) (a' := ?_) #[true, true, true, true, true, true, true, true, true, true, false, false, false, false, false, false, false, false, false, false, false] rfl rfl (any_of HT_.out (by kernel_rfl)) (fun _ _ _ h => h) (Or.inl ⟨by rfl, ?_⟩) ?_ ?_
                  rotate_left
                  · intro w'
                    go_simp
                    with_reducible rfl
                  rotate_left
                  · simp only [Act.put, List.setIfInBounds_toArray, List.set_cons_zero, List.set_cons_succ, i64_w, i32_w]
                    rfl
                  refine pure_ (i := 10) (N := some 73) (v := ?_) (a' := ?_) #[true, true, true, true, true, true, true, true, true, true, true, false, false, false, false, false, false, false, false, false, false] rfl rfl (any_of HT_.out (by kernel_rfl)) (fun _ _ _ h => h) (Or.inl ⟨by rfl, ?_⟩) ?_ ?_
                  rotate_left
                  · intro w'
                    go_simp
                    with_reducible rfl
                  rotate_left
                  · simp only [Act.put, List.setIfInBounds_toArray, List.set_cons_zero, List.set_cons_succ, i64_w, i32_w]
                    rfl
                  refine pure_ (i := 11) (N := some 74) (v := ?_) (a' := ?_) #[true, true, true, true, true, true, true, true, true, true, true, true, false, false, false, false, false, false, false, false, false] rfl rfl (any_of HT_.out (by kernel_rfl)) (fun _ _ _ h => h) (Or.inl ⟨by rfl, ?_⟩) ?_ ?_
                  rotate_left
                  · intro w'
                    go_simp
                    with_reducible rfl
                  rotate_left
                  · simp only [Act.put, List.setIfInBounds_toArray, List.set_cons_zero, List.set_cons_succ, i64_w, i32_w]
                    rfl
                  refine pure_ (i := 12) (N := some 75) (v := ?_) (a' := ?_) #[true, true, true, true, true, true, true, true, true, true, true, true, true, false, false, false, false, false, false, false, false] rfl rfl (any_of HT_.out (by kernel_rfl)) (fun _ _ _ h => h) (Or.inl ⟨by rfl, ?_⟩) ?_ ?_
                  rotate_left
                  · intro w'
                    go_simp
                    with_reducible rfl
                  rotate_left
                  · simp only [Act.put, List.setIfInBounds_toArray, List.set_cons_zero, List.set_cons_succ, i64_w, i32_w]
                    rfl
                  refine pure_ (i := 13) (N := some 76) (v := undef) (a' := ?_) #[true, true, true, true, true, true, true, true, true, true, true, true, true, true, false, false, false, false, false, false, false] rfl rfl (any_of HT_.out (by kernel_rfl)) (fun _ _ _ h => h) (Or.inr ⟨by rfl, rfl⟩) ?_ ?_
                  rotate_left
                  · simp only [Act.put, List.setIfInBounds_toArray, List.set_cons_zero, List.set_cons_succ, i64_w, i32_w]
                    rfl
                  refine pure_ (i := 14) (N := some 77) (v := undef) (a' := ?_) #[true, true, true, true, true, true, true, true, true, true, true, true, true, true, true, false, false, false, false, false, false] rfl rfl (any_of HT_.out (by kernel_rfl)) (fun _ _ _ h => h) (Or.inr ⟨by rfl, rfl⟩) ?_ ?_
                  rotate_left
                  · simp only [Act.put, List.setIfInBounds_toArray, List.set_cons_zero, List.set_cons_succ, i64_w, i32_w]
                    rfl
                  refine pure_ (i := 15) (N := some 78) (v := undef) (a' := ?_) #[true, true, true, true, true, true, true, true, true, true, true, true, true, true, true, true, false, false, false, false, false] rfl rfl (any_of HT_.out (by kernel_rfl)) (fun _ _ _ h => h) (Or.inr ⟨by rfl, rfl⟩) ?_ ?_
                  rotate_left
                  · simp only [Act.put, List.setIfInBounds_toArray, List.set_cons_zero, List.set_cons_succ, i64_w, i32_w]
                    rfl
                  refine pure_ (i := 16) (N := some 79) (v := undef) (a' := ?_) #[true, true, true, true, true, true, true, true, true, true, true, true, true, true, true, true, true, false, false, false, false] rfl rfl (any_of HT_.out (by kernel_rfl)) (fun _ _ _ h => h) (Or.inr ⟨by rfl, rfl⟩) ?_ ?_
                  rotate_left
                  · simp only [Act.put, List.setIfInBounds_toArray, List.set_cons_zero, List.set_cons_succ, i64_w, i32_w]
                    rfl
                  refine pure_ (i := 17) (N := some 80) (v := ?_) (a' := ?_) #[true, true, true, true, true, true, true, true, true, true, true, true, true, true, true, true, true, true, false, false, false] rfl rfl (any_of HT_.out (by kernel_rfl)) (fun _ _ _ h => h) (Or.inl ⟨by rfl, ?_⟩) ?_ ?_
                  rotate_left
                  · intro w'
                    go_simp
                    with_reducible rfl
                  rotate_left
                  · simp only [Act.put, List.setIfInBounds_toArray, List.set_cons_zero, List.set_cons_succ, i64_w, i32_w]
                    rfl
                  refine pure_ (i := 18) (N := some 81) (v := ?_) (a' := ?_) #[true, true, true, true, true, true, true, true, true, true, true, true, true, true, true, true, true, true, true, false, false] rfl rfl (any_of HT_.out (by kernel_rfl)) (fun _ _ _ h => h) (Or.inl ⟨by rfl, ?_⟩) ?_ ?_
                  rotate_left
                  · intro w'
                    go_simp
                    with_reducible rfl
                  rotate_left
                  · simp only [Act.put, List.setIfInBounds_toArray, List.set_cons_zero, List.set_cons_succ, i64_w, i32_w]
                    rfl
                  refine pure_ (i := 19) (N := some 82) (v := ?_) (a' := ?_) #[true, true, true, true, true, true, true, true, true, true, true, true, true, true, true, true, true, true, true, true, false] rfl rfl (any_of HT_.out (by kernel_rfl)) (fun _ _ _ h => h) (Or.inl ⟨by rfl, ?_⟩) ?_ ?_
                  rotate_left
                  · intro w'
                    go_simp
                    with_reducible rfl
                  rotate_left
                  · simp only [Act.put, List.setIfInBounds_toArray, List.set_cons_zero, List.set_cons_succ, i64_w, i32_w]
                    rfl
                  refine pure_ (i := 20) (N := some 2) (v := ?_) (a' := ?_) #[true, true, true, true, true, true, true, true, true, true, true, true, true, true, true, true, true, true, true, true, true] rfl rfl (any_of HT_.out (by kernel_rfl)) (fun _ _ _ h => h) (Or.inl ⟨by rfl, ?_⟩) ?_ ?_
                  rotate_left
                  · intro w'
                    go_simp
                    with_reducible rfl
                  rotate_left
                  · simp only [Act.put, List.setIfInBounds_toArray, List.set_cons_zero, List.set_cons_succ, i64_w, i32_w]
                    rfl
                  refine done_ (done_of HT_.out (by kernel_rfl)) ?_
                  try go_wp2
                  go_ret
                  exact ⟨by first | rfl | (simp [errW_none, errW_some] <;> rfl) | (simp [*, errW_none, errW_some] <;> rfl), by repeat (first | (with_reducible first | exact HB.out | apply below_alloc | apply pw_below_drewN | apply below_drew1 | refine below_set ?_ GE271.out | refine below_set ?_ GE276.out | refine below_set ?_ GE281.out | refine below_set ?_ GE291.out | refine below_set ?_ GE299.out) | exact HB.out)⟩
              · replace c123 := Bool.eq_false_iff.mpr c123
                subst c123
                have H1 : (some true) = some r := by rw [if_neg (show ¬ (false = true) by decide)] at H; exact H
                clear H
                have H := H1
                clear H1
                obtain rfl := Option.some.inj H
                have hnb155 := NB271_276.out
                have hnc155 := NB276_271.out
                have hnb156 := NB271_281.out
                have hnc156 := NB281_271.out
                have hnb157 := NB271_291.out
                have hnc157 := NB291_271.out
                have hcz158_0 : wc.cell? ⟨gb271, 0, none⟩ = some (.bool t267) := (blk_cell BK271.out 0).trans rfl
                have hcz158_1 : wc.cell? ⟨gb271, 1, none⟩ = some (.int .u64 t268) := (blk_cell BK271.out 1).trans rfl
                have hcz158_2 : wc.cell? ⟨gb271, 2, none⟩ = some (.int .u64 t269) := (blk_cell BK271.out 2).trans rfl
                have hfz158_0 := blk_frozen BK271.out 0
                have hfz158_1 := blk_frozen BK271.out 1
                have hfz158_2 := blk_frozen BK271.out 2
                try go_wp2_with (first | ((with_reducible refine gate_callee (f := 30) rfl ?_); refine goesL_ (some 60) rfl rfl Try.func30 (by kernel_rfl) rfl #[.agg #[.bool t267, .int .u64 t268, .int .u64 t269], .int .i64 (-1)] rfl mp_ ?_; (with_reducible refine (impl_ScaleWide.calls t267 t268 t269 (-1) t295 t296 t297 t298 _ A54.out).mono ?_); rintro e w159 ⟨rfl, hb⟩; refine ⟨_, rfl, ?_⟩; have n0_ := Aside0.mk (blk_below (g := gb271) (o := .cells #[.bool t267, .int .u64 t268, .int .u64 t269] 29 (0, 0)) (by (with_reducible repeat (first | refine bN_ _ ?_ | refine bd_ ?_ | refine ba_ _ ?_)); exact BK271.out) hb); have n1_ := Aside0.mk (blk_below (g := gb276) (o := .cells #[.bool t272, .int .u64 t273, .int .u64 t274] 29 (0, 0)) (by (with_reducible repeat (first | refine bN_ _ ?_ | refine bd_ ?_ | refine ba_ _ ?_)); exact BK276.out) hb); have n2_ := Aside0.mk (blk_below (g := gb281) (o := .cells #[.bool t277, .int .u64 t278, .int .u64 t279] 29 (0, 0)) (by (with_reducible repeat (first | refine bN_ _ ?_ | refine bd_ ?_ | refine ba_ _ ?_)); exact BK281.out) hb); have n3_ := Aside0.mk (blk_below (g := gb291) (o := .cells #[.bool t287, .int .u64 t288, .int .u64 t289] 29 (0, 0)) (by (with_reducible repeat (first | refine bN_ _ ?_ | refine bd_ ?_ | refine ba_ _ ?_)); exact BK291.out) hb); have n4_ := Aside0.mk (below_step bel_ hb); clear BK271; clear BK276; clear BK281; clear BK291; clear HB; have BK271 := n0_; have BK276 := n1_; have BK281 := n2_; have BK291 := n3_; have HB := n4_; clear n0_ n1_ n2_ n3_ n4_; (try clear hb); (try clear hb2); (try clear hk); (try clear hi)) | ((with_reducible refine gate_dst (N := 13) rfl ?_); refine box_event ?hg (N := 13) ?hd (cs := #[.bool false, .int .u64 0, .int .u64 0]) (t := 29) ?hr ?_; (case hd => rfl); (case hg => rfl); (case hr => first | (go_simp; done) | (go_simp; rfl)); intro gb299 hg w160 hbox hb; have n0_ := Aside0.mk (blk_below (g := gb271) (o := .cells #[.bool t267, .int .u64 t268, .int .u64 t269] 29 (0, 0)) (by (with_reducible repeat (first | refine bN_ _ ?_ | refine bd_ ?_ | refine ba_ _ ?_)); exact BK271.out) hb); have n1_ := Aside0.mk (blk_below (g := gb276) (o := .cells #[.bool t272, .int .u64 t273, .int .u64 t274] 29 (0, 0)) (by (with_reducible repeat (first | refine bN_ _ ?_ | refine bd_ ?_ | refine ba_ _ ?_)); exact BK276.out) hb); have n2_ := Aside0.mk (blk_below (g := gb281) (o := .cells #[.bool t277, .int .u64 t278, .int .u64 t279] 29 (0, 0)) (by (with_reducible repeat (first | refine bN_ _ ?_ | refine bd_ ?_ | refine ba_ _ ?_)); exact BK281.out) hb); have n3_ := Aside0.mk (blk_below (g := gb291) (o := .cells #[.bool t287, .int .u64 t288, .int .u64 t289] 29 (0, 0)) (by (with_reducible repeat (first | refine bN_ _ ?_ | refine bd_ ?_ | refine ba_ _ ?_)); exact BK291.out) hb); have n4_ := Aside0.mk (below_step bel_ hb); have n5_ := Aside0.mk (hbox); have n6_ := Aside0.mk ((by rw [hg]; exact (below_size bel_) : w.heap.size ≤ gb299)); have n7_ := Aside0.mk ((by rw [hg]; exact (below_size bel_) : w.heap.size ≤ gb299)); have n8_ := Aside0.mk ((by rw [hg]; exact Nat.ne_of_lt (blk_lt (g := gb271) (o := .cells #[.bool t267, .int .u64 t268, .int .u64 t269] 29 (0, 0)) (by (with_reducible repeat (first | refine bN_ _ ?_ | refine bd_ ?_ | refine ba_ _ ?_)); exact BK271.out)) : gb271 ≠ gb299)); have n9_ := Aside0.mk ((by rw [hg]; exact Nat.ne_of_gt (blk_lt (g := gb271) (o := .cells #[.bool t267, .int .u64 t268, .int .u64 t269] 29 (0, 0)) (by (with_reducible repeat (first | refine bN_ _ ?_ | refine bd_ ?_ | refine ba_ _ ?_)); exact BK271.out)) : gb299 ≠ gb271)); have n10_ := Aside0.mk ((by rw [hg]; exact Nat.ne_of_lt (blk_lt (g := gb276) (o := .cells #[.bool t272, .int .u64 t273, .int .u64 t274] 29 (0, 0)) (by (with_reducible repeat (first | refine bN_ _ ?_ | refine bd_ ?_ | refine ba_ _ ?_)); exact BK276.out)) : gb276 ≠ gb299)); have n11_ := Aside0.mk ((by rw [hg]; exact Nat.ne_of_gt (blk_lt (g := gb276) (o := .cells #[.bool t272, .int .u64 t273, .int .u64 t274] 29 (0, 0)) (by (with_reducible repeat (first | refine bN_ _ ?_ | refine bd_ ?_ | refine ba_ _ ?_)); exact BK276.out)) : gb299 ≠ gb276)); have n12_ := Aside0.mk ((by rw [hg]; exact Nat.ne_of_lt (blk_lt (g := gb281) (o := .cells #[.bool t277, .int .u64 t278, .int .u64 t279] 29 (0, 0)) (by (with_reducible repeat (first | refine bN_ _ ?_ | refine bd_ ?_ | refine ba_ _ ?_)); exact BK281.out)) : gb281 ≠ gb299)); have n13_ := Aside0.mk ((by rw [hg]; exact Nat.ne_of_gt (blk_lt (g := gb281) (o := .cells #[.bool t277, .int .u64 t278, .int .u64 t279] 29 (0, 0)) (by (with_reducible repeat (first | refine bN_ _ ?_ | refine bd_ ?_ | refine ba_ _ ?_)); exact BK281.out)) : gb299 ≠ gb281)); have n14_ := Aside0.mk ((by rw [hg]; exact Nat.ne_of_lt (blk_lt (g := gb291) (o := .cells #[.bool t287, .int .u64 t288, .int .u64 t289] 29 (0, 0)) (by (with_reducible repeat (first | refine bN_ _ ?_ | refine bd_ ?_ | refine ba_ _ ?_)); exact BK291.out)) : gb291 ≠ gb299)); have n15_ := Aside0.mk ((by rw [hg]; exact Nat.ne_of_gt (blk_lt (g := gb291) (o := .cells #[.bool t287, .int .u64 t288, .int .u64 t289] 29 (0, 0)) (by (with_reducible repeat (first | refine bN_ _ ?_ | refine bd_ ?_ | refine ba_ _ ?_)); exact BK291.out)) : gb299 ≠ gb291)); clear BK271; clear BK276; clear BK281; clear BK291; clear HB; have BK271 := n0_; have BK276 := n1_; have BK281 := n2_; have BK291 := n3_; have HB := n4_; have BK299 := n5_; have GW299 := n6_; have GE299 := n7_; have NB271_299 := n8_; have NB299_271 := n9_; have NB276_299 := n10_; have NB299_276 := n11_; have NB281_299 := n12_; have NB299_281 := n13_; have NB291_299 := n14_; have NB299_291 := n15_; clear n0_ n1_ n2_ n3_ n4_ n5_ n6_ n7_ n8_ n9_ n10_ n11_ n12_ n13_ n14_ n15_; clear hb hbox hg; have hnb161 := NB299_271.out; have hnc161 := NB271_299.out; have hnb162 := NB299_276.out; have hnc162 := NB276_299.out; have hnb163 := NB299_281.out; have hnc163 := NB281_299.out; have hnb164 := NB299_291.out; have hnc164 := NB291_299.out; have hcz165_0 : w160.cell? ⟨gb299, 0, none⟩ = some (.bool false) := (blk_cell BK299.out 0).trans rfl; have hcz165_1 : w160.cell? ⟨gb299, 1, none⟩ = some (.int .u64 0) := (blk_cell BK299.out 1).trans rfl; have hcz165_2 : w160.cell? ⟨gb299, 2, none⟩ = some (.int .u64 0) := (blk_cell BK299.out 2).trans rfl; have hfz165_0 := blk_frozen BK299.out 0; have hfz165_1 := blk_frozen BK299.out 1; have hfz165_2 := blk_frozen BK299.out 2))
                have n0_ : Aside0 ((((w160.setCell ⟨gb299, 0, none⟩ (.bool t295)).setCell ⟨gb299, 1, none⟩ (.int .u64 t296)).setCell ⟨gb299, 2, none⟩ (.int .u64 t297)).heap[gb271]? = some (.cells #[.bool t267, .int .u64 t268, .int .u64 t269] 29 (0, 0))) := ⟨by (with_reducible repeat (first | refine bN_ _ ?_ | refine bd_ ?_ | refine ba_ _ ?_)); refine blk_far ?_ NB271_299.out _; (with_reducible repeat (first | refine bN_ _ ?_ | refine bd_ ?_ | refine ba_ _ ?_)); refine blk_far ?_ NB271_299.out _; (with_reducible repeat (first | refine bN_ _ ?_ | refine bd_ ?_ | refine ba_ _ ?_)); refine blk_far ?_ NB271_299.out _; (with_reducible repeat (first | refine bN_ _ ?_ | refine bd_ ?_ | refine ba_ _ ?_)); exact BK271.out⟩
                have n1_ : Aside0 ((((w160.setCell ⟨gb299, 0, none⟩ (.bool t295)).setCell ⟨gb299, 1, none⟩ (.int .u64 t296)).setCell ⟨gb299, 2, none⟩ (.int .u64 t297)).heap[gb276]? = some (.cells #[.bool t272, .int .u64 t273, .int .u64 t274] 29 (0, 0))) := ⟨by (with_reducible repeat (first | refine bN_ _ ?_ | refine bd_ ?_ | refine ba_ _ ?_)); refine blk_far ?_ NB276_299.out _; (with_reducible repeat (first | refine bN_ _ ?_ | refine bd_ ?_ | refine ba_ _ ?_)); refine blk_far ?_ NB276_299.out _; (with_reducible repeat (first | refine bN_ _ ?_ | refine bd_ ?_ | refine ba_ _ ?_)); refine blk_far ?_ NB276_299.out _; (with_reducible repeat (first | refine bN_ _ ?_ | refine bd_ ?_ | refine ba_ _ ?_)); exact BK276.out⟩
                have n2_ : Aside0 ((((w160.setCell ⟨gb299, 0, none⟩ (.bool t295)).setCell ⟨gb299, 1, none⟩ (.int .u64 t296)).setCell ⟨gb299, 2, none⟩ (.int .u64 t297)).heap[gb281]? = some (.cells #[.bool t277, .int .u64 t278, .int .u64 t279] 29 (0, 0))) := ⟨by (with_reducible repeat (first | refine bN_ _ ?_ | refine bd_ ?_ | refine ba_ _ ?_)); refine blk_far ?_ NB281_299.out _; (with_reducible repeat (first | refine bN_ _ ?_ | refine bd_ ?_ | refine ba_ _ ?_)); refine blk_far ?_ NB281_299.out _; (with_reducible repeat (first | refine bN_ _ ?_ | refine bd_ ?_ | refine ba_ _ ?_)); refine blk_far ?_ NB281_299.out _; (with_reducible repeat (first | refine bN_ _ ?_ | refine bd_ ?_ | refine ba_ _ ?_)); exact BK281.out⟩
                have n3_ : Aside0 ((((w160.setCell ⟨gb299, 0, none⟩ (.bool t295)).setCell ⟨gb299, 1, none⟩ (.int .u64 t296)).setCell ⟨gb299, 2, none⟩ (.int .u64 t297)).heap[gb291]? = some (.cells #[.bool t287, .int .u64 t288, .int .u64 t289] 29 (0, 0))) := ⟨by (with_reducible repeat (first | refine bN_ _ ?_ | refine bd_ ?_ | refine ba_ _ ?_)); refine blk_far ?_ NB291_299.out _; (with_reducible repeat (first | refine bN_ _ ?_ | refine bd_ ?_ | refine ba_ _ ?_)); refine blk_far ?_ NB291_299.out _; (with_reducible repeat (first | refine bN_ _ ?_ | refine bd_ ?_ | refine ba_ _ ?_)); refine blk_far ?_ NB291_299.out _; (with_reducible repeat (first | refine bN_ _ ?_ | refine bd_ ?_ | refine ba_ _ ?_)); exact BK291.out⟩
                have n4_ : Aside0 ((((w160.setCell ⟨gb299, 0, none⟩ (.bool t295)).setCell ⟨gb299, 1, none⟩ (.int .u64 t296)).setCell ⟨gb299, 2, none⟩ (.int .u64 t297)).heap[gb299]? = some (.cells #[.bool t295, .int .u64 t296, .int .u64 t297] 29 (0, 0))) := ⟨by (with_reducible repeat (first | refine bN_ _ ?_ | refine bd_ ?_ | refine ba_ _ ?_)); refine blk_put (cs := #[.bool t295, .int .u64 t296, .int .u64 0]) ?_ 2 _ rfl; (with_reducible repeat (first | refine bN_ _ ?_ | refine bd_ ?_ | refine ba_ _ ?_)); refine blk_put (cs := #[.bool t295, .int .u64 0, .int .u64 0]) ?_ 1 _ rfl; (with_reducible repeat (first | refine bN_ _ ?_ | refine bd_ ?_ | refine ba_ _ ?_)); refine blk_put (cs := #[.bool false, .int .u64 0, .int .u64 0]) ?_ 0 _ rfl; (with_reducible repeat (first | refine bN_ _ ?_ | refine bd_ ?_ | refine ba_ _ ?_)); exact BK299.out⟩
                have n5_ : Aside0 (Below w.heap.size w (((w160.setCell ⟨gb299, 0, none⟩ (.bool t295)).setCell ⟨gb299, 1, none⟩ (.int .u64 t296)).setCell ⟨gb299, 2, none⟩ (.int .u64 t297))) := ⟨by repeat (first | (with_reducible first | exact HB.out | apply below_alloc | apply pw_below_drewN | apply below_drew1 | refine below_set ?_ GE271.out | refine below_set ?_ GE276.out | refine below_set ?_ GE281.out | refine below_set ?_ GE291.out | refine below_set ?_ GE299.out) | exact HB.out)⟩
                (try clear BK271)
                (try clear BK276)
                (try clear BK281)
                (try clear BK291)
                (try clear BK299)
                (try clear HB)
                generalize (((w160.setCell ⟨gb299, 0, none⟩ (.bool t295)).setCell ⟨gb299, 1, none⟩ (.int .u64 t296)).setCell ⟨gb299, 2, none⟩ (.int .u64 t297)) = w166 at n0_ n1_ n2_ n3_ n4_ n5_ ⊢
                have BK271 := n0_
                have BK276 := n1_
                have BK281 := n2_
                have BK291 := n3_
                have BK299 := n4_
                have HB := n5_
                clear n0_ n1_ n2_ n3_ n4_ n5_
                have n0_ := Aside0.mk (blk_drew BK271.out)
                have n1_ := Aside0.mk (blk_drew BK276.out)
                have n2_ := Aside0.mk (blk_drew BK281.out)
                have n3_ := Aside0.mk (blk_drew BK291.out)
                have n4_ := Aside0.mk (blk_drew BK299.out)
                have n5_ := Aside0.mk (below_drew1 HB.out)
                clear BK271
                clear BK276
                clear BK281
                clear BK291
                clear BK299
                clear HB
                have BK271 := n0_
                have BK276 := n1_
                have BK281 := n2_
                have BK291 := n3_
                have BK299 := n4_
                have HB := n5_
                clear n0_ n1_ n2_ n3_ n4_ n5_
                refine start_ (n := 21) (S := fun w' => w'.cell? ⟨gb271, 0, none⟩ = some (.bool t267) ∧ w'.cell? ⟨gb271, 1, none⟩ = some (.int .u64 t268) ∧ w'.cell? ⟨gb271, 2, none⟩ = some (.int .u64 t269)) (ds := []) #[false, false, false, false, false, false, false, false, false, false, false, false, false, false, false, false, false, false, false, false, false] (by kernel_rfl) rfl rfl ⟨(blk_cell BK271.out 0).trans rfl, (blk_cell BK271.out 1).trans rfl, (blk_cell BK271.out 2).trans rfl⟩ (fun hHeld => ?_); refine with_tabW laws_FnScale.tab13 laws_FnScale.bits13 (fun HT_ HW_ => ?_)
                generalize w166.drew = w167 at BK271 BK276 BK281 BK291 BK299 HB hHeld ⊢
                refine pure_ (i := 0) (N := some 63) (v := ?_) (a' := ?_) #[true, false, false, false, false, false, false, false, false, false, false, false, false, false, false, false, false, false, false, false, false] rfl rfl (any_of HT_.out (by kernel_rfl)) (fun _ _ _ h => h) (Or.inl ⟨by rfl, ?_⟩) ?_ ?_
                rotate_left
                · intro w'
                  go_simp
                  with_reducible rfl
                rotate_left
                · simp only [Act.put, List.setIfInBounds_toArray, List.set_cons_zero, List.set_cons_succ, i64_w, i32_w]
                  rfl
                refine pure_ (i := 1) (N := some 64) (v := ?_) (a' := ?_) #[true, true, false, false, false, false, false, false, false, false, false, false, false, false, false, false, false, false, false, false, false] rfl rfl (any_of HT_.out (by kernel_rfl)) (fun _ _ _ h => h) (Or.inl ⟨by rfl, ?_⟩) ?_ ?_
                rotate_left
                · intro w'
                  go_simp
                  with_reducible rfl
                rotate_left
                · simp only [Act.put, List.setIfInBounds_toArray, List.set_cons_zero, List.set_cons_succ, i64_w, i32_w]
                  rfl
                refine pure_ (i := 2) (N := some 65) (v := ?_) (a' := ?_) #[true, true, true, false, false, false, false, false, false, false, false, false, false, false, false, false, false, false, false, false, false] rfl rfl (any_of HT_.out (by kernel_rfl)) (fun _ _ _ h => h) (Or.inl ⟨by rfl, ?_⟩) ?_ ?_
                rotate_left
                · intro w'
                  go_simp
                  with_reducible rfl
                rotate_left
                · simp only [Act.put, List.setIfInBounds_toArray, List.set_cons_zero, List.set_cons_succ, i64_w, i32_w]
                  rfl
                refine pure_ (i := 3) (N := some 66) (v := undef) (a' := ?_) #[true, true, true, true, false, false, false, false, false, false, false, false, false, false, false, false, false, false, false, false, false] rfl rfl (any_of HT_.out (by kernel_rfl)) (fun _ _ _ h => h) (Or.inr ⟨by rfl, rfl⟩) ?_ ?_
                rotate_left
                · simp only [Act.put, List.setIfInBounds_toArray, List.set_cons_zero, List.set_cons_succ, i64_w, i32_w]
                  rfl
                refine pure_ (i := 4) (N := some 67) (v := undef) (a' := ?_) #[true, true, true, true, true, false, false, false, false, false, false, false, false, false, false, false, false, false, false, false, false] rfl rfl (any_of HT_.out (by kernel_rfl)) (fun _ _ _ h => h) (Or.inr ⟨by rfl, rfl⟩) ?_ ?_
                rotate_left
                · simp only [Act.put, List.setIfInBounds_toArray, List.set_cons_zero, List.set_cons_succ, i64_w, i32_w]
                  rfl
                refine pure_ (i := 5) (N := some 68) (v := ?_) (a' := ?_) #[true, true, true, true, true, true, false, false, false, false, false, false, false, false, false, false, false, false, false, false, false] rfl rfl (any_of HT_.out (by kernel_rfl)) (fun _ _ _ h => h) (Or.inl ⟨by rfl, ?_⟩) ?_ ?_
                rotate_left
                · intro w'
                  go_simp
                  with_reducible rfl
                rotate_left
                · simp only [Act.put, List.setIfInBounds_toArray, List.set_cons_zero, List.set_cons_succ, i64_w, i32_w]
                  rfl
                refine pure_ (i := 6) (N := some 69) (v := ?_) (a' := ?_) #[true, true, true, true, true, true, true, false, false, false, false, false, false, false, false, false, false, false, false, false, false] rfl rfl (any_of HT_.out (by kernel_rfl)) (fun _ _ _ h => h) (Or.inl ⟨by rfl, ?_⟩) ?_ ?_
                rotate_left
                · intro w'
                  go_simp
                  with_reducible rfl
                rotate_left
                · simp only [Act.put, List.setIfInBounds_toArray, List.set_cons_zero, List.set_cons_succ, i64_w, i32_w]
                  rfl
                refine take_ (i := 7) (N := some 70) (v := ?_) (a' := ?_) #[true, true, true, true, true, true, true, true, false, false, false, false, false, false, false, false, false, false, false, false, false] rfl rfl (take_ofW HT_.out HW_.out (by kernel_rfl)) (fun _ _ _ h => h) (Or.inl ⟨by rfl, ?_⟩) hHeld ?_ ?_
                rotate_left
                · rintro w' ⟨s0, s1, s2⟩
                  go_simp
                  with_reducible rfl
                rotate_left
                · simp only [Act.put, List.setIfInBounds_toArray, List.set_cons_zero, List.set_cons_succ, i64_w, i32_w]
                  rfl
                refine one_ (i := 8) (N := some 71) #[true, true, true, true, true, true, true, true, true, false, false, false, false, false, false, false, false, false, false, false, false] rfl rfl (one_of HT_.out (by kernel_rfl)) (by decide) (fun K hK => ?_)
                refine goes_ Try.func17 (by kernel_rfl) rfl #[.agg #[.bool t267, .int .u64 t268, .int .u64 t269]] (by rfl) rfl rfl mp_ ?_
                with_reducible refine (spec_WideOk.calls t267 t268 t269 false _ A122.out).mono ?_
                rintro e w168 ⟨rfl, hb⟩
                refine ⟨_, rfl, ?_⟩
                have n0_ := Aside0.mk (blk_below (g := gb271) (o := .cells #[.bool t267, .int .u64 t268, .int .u64 t269] 29 (0, 0)) (by (with_reducible repeat (first | refine bN_ _ ?_ | refine bd_ ?_ | refine ba_ _ ?_)); exact BK271.out) hb)
                have n1_ := Aside0.mk (blk_below (g := gb276) (o := .cells #[.bool t272, .int .u64 t273, .int .u64 t274] 29 (0, 0)) (by (with_reducible repeat (first | refine bN_ _ ?_ | refine bd_ ?_ | refine ba_ _ ?_)); exact BK276.out) hb)
                have n2_ := Aside0.mk (blk_below (g := gb281) (o := .cells #[.bool t277, .int .u64 t278, .int .u64 t279] 29 (0, 0)) (by (with_reducible repeat (first | refine bN_ _ ?_ | refine bd_ ?_ | refine ba_ _ ?_)); exact BK281.out) hb)
                have n3_ := Aside0.mk (blk_below (g := gb291) (o := .cells #[.bool t287, .int .u64 t288, .int .u64 t289] 29 (0, 0)) (by (with_reducible repeat (first | refine bN_ _ ?_ | refine bd_ ?_ | refine ba_ _ ?_)); exact BK291.out) hb)
                have n4_ := Aside0.mk (blk_below (g := gb299) (o := .cells #[.bool t295, .int .u64 t296, .int .u64 t297] 29 (0, 0)) (by (with_reducible repeat (first | refine bN_ _ ?_ | refine bd_ ?_ | refine ba_ _ ?_)); exact BK299.out) hb)
                have n5_ := Aside0.mk (below_step bel_ hb)
                clear BK271
                clear BK276
                clear BK281
                clear BK291
                clear BK299
                clear HB
                have BK271 := n0_
                have BK276 := n1_
                have BK281 := n2_
                have BK291 := n3_
                have BK299 := n4_
                have HB := n5_
                clear n0_ n1_ n2_ n3_ n4_ n5_
                (try clear hb)
                (try clear hb2)
                (try clear hk)
                (try clear hi)
                refine hK.out _ _ ⟨(blk_cell BK271.out 0).trans rfl, (blk_cell BK271.out 1).trans rfl, (blk_cell BK271.out 2).trans rfl⟩ (fun hHeld => ?_)
                clear hK K
                refine norm_ (a' := ?_) ?_ ?_
                rotate_left
                · show Act.put _ (some 71) _ = _
                  simp only [Act.put, List.setIfInBounds_toArray, List.set_cons_zero, List.set_cons_succ, i64_w, i32_w]
                  rfl
                refine pure_ (i := 9) (N := some 72) (v := ?_) (a' := ?_) #[true, true, true, true, true, true, true, true, true, true, false, false, false, false, false, false, false, false, false, false, false] rfl rfl (any_of HT_.out (by kernel_rfl)) (fun _ _ _ h => h) (Or.inl ⟨by rfl, ?_⟩) ?_ ?_
                rotate_left
                · intro w'
                  go_simp
                  with_reducible rfl
                rotate_left
                · simp only [Act.put, List.setIfInBounds_toArray, List.set_cons_zero, List.set_cons_succ, i64_w, i32_w]
                  rfl
                refine pure_ (i := 10) (N := some 73) (v := ?_) (a' := ?_) #[true, true, true, true, true, true, true, true, true, true, true, false, false, false, false, false, false, false, false, false, false] rfl rfl (any_of HT_.out (by kernel_rfl)) (fun _ _ _ h => h) (Or.inl ⟨by rfl, ?_⟩) ?_ ?_
                rotate_left
                · intro w'
                  go_simp
                  with_reducible rfl
                rotate_left
                · simp only [Act.put, List.setIfInBounds_toArray, List.set_cons_zero, List.set_cons_succ, i64_w, i32_w]
                  rfl
                refine pure_ (i := 11) (N := some 74) (v := undef) (a' := ?_) #[true, true, true, true, true, true, true, true, true, true, true, true, false, false, false, false, false, false, false, false, false] rfl rfl (any_of HT_.out (by kernel_rfl)) (fun _ _ _ h => h) (Or.inr ⟨by rfl, rfl⟩) ?_ ?_
                rotate_left
                · simp only [Act.put, List.setIfInBounds_toArray, List.set_cons_zero, List.set_cons_succ, i64_w, i32_w]
                  rfl
                refine pure_ (i := 12) (N := some 75) (v := undef) (a' := ?_) #[true, true, true, true, true, true, true, true, true, true, true, true, true, false, false, false, false, false, false, false, false] rfl rfl (any_of HT_.out (by kernel_rfl)) (fun _ _ _ h => h) (Or.inr ⟨by rfl, rfl⟩) ?_ ?_
                rotate_left
                · simp only [Act.put, List.setIfInBounds_toArray, List.set_cons_zero, List.set_cons_succ, i64_w, i32_w]
                  rfl
                refine pure_ (i := 13) (N := some 76) (v := undef) (a' := ?_) #[true, true, true, true, true, true, true, true, true, true, true, true, true, true, false, false, false, false, false, false, false] rfl rfl (any_of HT_.out (by kernel_rfl)) (fun _ _ _ h => h) (Or.inr ⟨by rfl, rfl⟩) ?_ ?_
                rotate_left
                · simp only [Act.put, List.setIfInBounds_toArray, List.set_cons_zero, List.set_cons_succ, i64_w, i32_w]
                  rfl
                refine pure_ (i := 14) (N := some 77) (v := undef) (a' := ?_) #[true, true, true, true, true, true, true, true, true, true, true, true, true, true, true, false, false, false, false, false, false] rfl rfl (any_of HT_.out (by kernel_rfl)) (fun _ _ _ h => h) (Or.inr ⟨by rfl, rfl⟩) ?_ ?_
                rotate_left
                · simp only [Act.put, List.setIfInBounds_toArray, List.set_cons_zero, List.set_cons_succ, i64_w, i32_w]
                  rfl
                refine pure_ (i := 15) (N := some 78) (v := undef) (a' := ?_) #[true, true, true, true, true, true, true, true, true, true, true, true, true, true, true, true, false, false, false, false, false] rfl rfl (any_of HT_.out (by kernel_rfl)) (fun _ _ _ h => h) (Or.inr ⟨by rfl, rfl⟩) ?_ ?_
                rotate_left
                · simp only [Act.put, List.setIfInBounds_toArray, List.set_cons_zero, List.set_cons_succ, i64_w, i32_w]
                  rfl
                refine pure_ (i := 16) (N := some 79) (v := undef) (a' := ?_) #[true, true, true, true, true, true, true, true, true, true, true, true, true, true, true, true, true, false, false, false, false] rfl rfl (any_of HT_.out (by kernel_rfl)) (fun _ _ _ h => h) (Or.inr ⟨by rfl, rfl⟩) ?_ ?_
                rotate_left
                · simp only [Act.put, List.setIfInBounds_toArray, List.set_cons_zero, List.set_cons_succ, i64_w, i32_w]
                  rfl
                refine pure_ (i := 17) (N := some 80) (v := undef) (a' := ?_) #[true, true, true, true, true, true, true, true, true, true, true, true, true, true, true, true, true, true, false, false, false] rfl rfl (any_of HT_.out (by kernel_rfl)) (fun _ _ _ h => h) (Or.inr ⟨by rfl, rfl⟩) ?_ ?_
                rotate_left
                · simp only [Act.put, List.setIfInBounds_toArray, List.set_cons_zero, List.set_cons_succ, i64_w, i32_w]
                  rfl
                refine pure_ (i := 18) (N := some 81) (v := ?_) (a' := ?_) #[true, true, true, true, true, true, true, true, true, true, true, true, true, true, true, true, true, true, true, false, false] rfl rfl (any_of HT_.out (by kernel_rfl)) (fun _ _ _ h => h) (Or.inl ⟨by rfl, ?_⟩) ?_ ?_
                rotate_left
                · intro w'
                  go_simp
                  with_reducible rfl
                rotate_left
                · simp only [Act.put, List.setIfInBounds_toArray, List.set_cons_zero, List.set_cons_succ, i64_w, i32_w]
                  rfl
                refine pure_ (i := 19) (N := some 82) (v := ?_) (a' := ?_) #[true, true, true, true, true, true, true, true, true, true, true, true, true, true, true, true, true, true, true, true, false] rfl rfl (any_of HT_.out (by kernel_rfl)) (fun _ _ _ h => h) (Or.inl ⟨by rfl, ?_⟩) ?_ ?_
                rotate_left
                · intro w'
                  go_simp
                  with_reducible rfl
                rotate_left
                · simp only [Act.put, List.setIfInBounds_toArray, List.set_cons_zero, List.set_cons_succ, i64_w, i32_w]
                  rfl
                refine pure_ (i := 20) (N := some 2) (v := ?_) (a' := ?_) #[true, true, true, true, true, true, true, true, true, true, true, true, true, true, true, true, true, true, true, true, true] rfl rfl (any_of HT_.out (by kernel_rfl)) (fun _ _ _ h => h) (Or.inl ⟨by rfl, ?_⟩) ?_ ?_
                rotate_left
                · intro w'
                  go_simp
                  with_reducible rfl
                rotate_left
                · simp only [Act.put, List.setIfInBounds_toArray, List.set_cons_zero, List.set_cons_succ, i64_w, i32_w]
                  rfl
                refine done_ (done_of HT_.out (by kernel_rfl)) ?_
                try go_wp2
                go_ret
                exact ⟨by first | rfl | (simp [errW_none, errW_some] <;> rfl) | (simp [*, errW_none, errW_some] <;> rfl), by repeat (first | (with_reducible first | exact HB.out | apply below_alloc | apply pw_below_drewN | apply below_drew1 | refine below_set ?_ GE271.out | refine below_set ?_ GE276.out | refine below_set ?_ GE281.out | refine below_set ?_ GE291.out | refine below_set ?_ GE299.out) | exact HB.out)⟩

/-- THE ONE PURE STATEMENT of laws_FnScale: yours. -/
def laws_FnScale.Pure : Prop := ∀ (l0 : List Int), l0.length ≤ maxLen → l0.length * 1 ≤ 140737488351232 → (∀ x ∈ l0, (Lit.int .u8 x).wf = true) → ∃ k, laws_FnScale.f k l0 = some true
theorem laws_FnScale.walk (P : laws_FnScale.Pure) (a0 : Option Addr) (len0 cap0 : Nat) (z0 : List Int) (w : World) (w0 : (a0 = none ∧ len0 = 0 ∧ cap0 = 0 ∧ z0 = []) ∨ ∃ x, a0 = some x ∧ len0 ≤ cap0 ∧ cap0 ≤ maxLen ∧ z0.length = cap0 ∧ (∀ i, i < z0.length → w.cell? (x.add i) = some (.int .u8 (z0.getD i 0))) ∧ ∀ n ∈ z0, (Lit.int .u8 n).wf = true) (y0 : len0 * 1 ≤ 140737488351232) :
    Calls Try.prog 10 #[.slice a0 len0 cap0] w fun e w' => e = .returned (.bool true) ∧ Below w.heap.size w w' := by
  obtain ⟨l0, rfl, hr0, hm0, hw0, hc0⟩ := ReadsInt.ofRowC w0
  obtain ⟨k, h⟩ := P l0 hm0 y0 hw0
  refine (laws_FnScale.calls k _ _ l0 true w (Kd.C_of_reads (d := (0 : Int)) (h1 := fun _ => rfl) hr0) hc0 h).mono ?_
  rintro e w' ⟨rfl, hd⟩
  exact ⟨rfl, hd⟩

end Go.Proofs.Ythognlaaedohgaa.PFnScale
