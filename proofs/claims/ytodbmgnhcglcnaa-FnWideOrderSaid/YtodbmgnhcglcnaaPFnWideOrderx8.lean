/- Contracts of Go functions, each with the Lean function that says what it computes: begun by the print, turned by this session. No condition beyond what each theorem states. -/
import Derived.Test.YtodbmgnhcglcnaaPFnWideOrderx0
import Derived.Test.YtodbmgnhcglcnaaPFnWideOrderx1
import Derived.Test.YtodbmgnhcglcnaaPFnWideOrderx2
import Derived.Test.YtodbmgnhcglcnaaPFnWideOrderx3
import Derived.Test.YtodbmgnhcglcnaaPFnWideOrderx4
import Derived.Test.YtodbmgnhcglcnaaPFnWideOrderx5
import Derived.Test.YtodbmgnhcglcnaaPFnWideOrderx6
import Derived.Test.YtodbmgnhcglcnaaPFnWideOrderx7
namespace Go.Proofs.Ytodbmgnhcglcnaa.PFnWideOrder
open Go.RowKit Go.Proofs.YtodbmgnhcglcnaaW.PrintWords Go.Proofs.YtodbmgnhcglcnaaW.PrintLast Go.Proofs.YtodbmgnhcglcnaaW.PrintMore
attribute [local go_sem] max2_int min2_int max_two min_two max_three min_three max_four min_four   -- for this text's walks alone
set_option linter.unusedVariables false
set_option linter.unusedSimpArgs false

attribute [local go_sem high] eqA30
/-! ### laws_FnWideOrder: function 4 -/
mutual
def laws_FnWideOrder.j0 : Nat → Int → Bool → Bool → Int → Int → Bool → Int → Int → Option (Bool)
  | 0, _, _, _, _, _, _, _, _ => none
  | k + 1, x5, x30, x308000, x308001, x308002, x309000, x309001, x309002 => if x30 = true then (some false) else ((spec_WideOk.f x308000 x308001 x308002).bind fun t312 => (if t312 = true then ((spec_WideOk.f x309000 x309001 x309002).bind fun t313 => (laws_FnWideOrder.j1 k x5 (!t313) x308000 x308001 x308002 x309000 x309001 x309002)) else (laws_FnWideOrder.j1 k x5 true x308000 x308001 x308002 x309000 x309001 x309002)))
def laws_FnWideOrder.j1 : Nat → Int → Bool → Bool → Int → Int → Bool → Int → Int → Option (Bool)
  | 0, _, _, _, _, _, _, _, _ => none
  | k + 1, x5, x38, x308000, x308001, x308002, x309000, x309001, x309002 => if x38 = true then (some true) else ((impl_SubWide.f k x308000 x308001 x308002 x309000 x309001 x309002).bind fun bt314 => (if ((x5 == 0) == (x308000 == x309000 && (x308001 == x309001 && (x308002 == x309002)))) = true then (if bt314.2.2.2 = true then ((impl_CompareWide.f k bt314.1 bt314.2.1 bt314.2.2.1 false 0 0).bind fun t319 => (some (t319 == x5))) else (some true)) else (some false)))
end
def laws_FnWideOrder.f (k : Nat) (l0 : List Int) : Option (Bool) := (laws_big.f l0).bind fun t300 => (if t300 = true then (some true) else ((spec_DrawCompareWide.f k l0).bind fun bt301 => ((impl_CompareWide.f k bt301.1 bt301.2.1 bt301.2.2.1 bt301.2.2.2.1 bt301.2.2.2.2.1 bt301.2.2.2.2.2).bind fun t309 => ((spec_CompareWide.f k bt301.1 bt301.2.1 bt301.2.2.1 bt301.2.2.2.1 bt301.2.2.2.2.1 bt301.2.2.2.2.2).bind fun t310 => (if t309 = t310 then ((impl_CompareWide.f k bt301.2.2.2.1 bt301.2.2.2.2.1 bt301.2.2.2.2.2 bt301.1 bt301.2.1 bt301.2.2.1).bind fun t311 => (laws_FnWideOrder.j0 k t309 (t309 != (wrap64 (-t311))) bt301.1 bt301.2.1 bt301.2.2.1 bt301.2.2.2.1 bt301.2.2.2.2.1 bt301.2.2.2.2.2)) else (laws_FnWideOrder.j0 k t309 true bt301.1 bt301.2.1 bt301.2.2.1 bt301.2.2.2.1 bt301.2.2.2.2.1 bt301.2.2.2.2.2))))))
theorem laws_FnWideOrder.mono_l : ∀ k, (∀ y0 y1 y2 y3 y4 y5 y6 y7, LeO (laws_FnWideOrder.j0 k y0 y1 y2 y3 y4 y5 y6 y7) (laws_FnWideOrder.j0 (k + 1) y0 y1 y2 y3 y4 y5 y6 y7)) ∧ (∀ y0 y1 y2 y3 y4 y5 y6 y7, LeO (laws_FnWideOrder.j1 k y0 y1 y2 y3 y4 y5 y6 y7) (laws_FnWideOrder.j1 (k + 1) y0 y1 y2 y3 y4 y5 y6 y7))
  | 0 => ⟨fun _ _ _ _ _ _ _ _ r h => by simp [laws_FnWideOrder.j0] at h, fun _ _ _ _ _ _ _ _ r h => by simp [laws_FnWideOrder.j1] at h⟩
  | k + 1 => by
    obtain ⟨ih0, ih1⟩ := laws_FnWideOrder.mono_l k
    refine ⟨?_, ?_⟩
    · intro y0 y1 y2 y3 y4 y5 y6 y7
      unfold laws_FnWideOrder.j0
      repeat' first
      | (with_reducible exact ih0 _ _ _ _ _ _ _ _)
      | (with_reducible exact ih1 _ _ _ _ _ _ _ _)
      | (with_reducible exact impl_CompareWide.mono _ _ _ _ _ _ _)
      | (with_reducible exact impl_SubWide.mono _ _ _ _ _ _ _)
      | (with_reducible exact spec_CompareWide.mono _ _ _ _ _ _ _)
      | (with_reducible exact spec_DrawCompareWide.mono _ _)
      | (with_reducible exact LeO.refl _)
      | (with_reducible exact LeO.none _)
      | (with_reducible refine LeO.ite ?_ ?_)
      | (with_reducible refine LeO.bind ?_ (fun _ => ?_))
      | exact ih0 _ _ _ _ _ _ _ _
      | exact ih1 _ _ _ _ _ _ _ _
      | exact impl_CompareWide.mono _ _ _ _ _ _ _
      | exact impl_SubWide.mono _ _ _ _ _ _ _
      | exact spec_CompareWide.mono _ _ _ _ _ _ _
      | exact spec_DrawCompareWide.mono _ _
      | exact LeO.none _
      | refine LeO.ite ?_ ?_
      | refine LeO.bind ?_ (fun _ => ?_)
    · intro y0 y1 y2 y3 y4 y5 y6 y7
      unfold laws_FnWideOrder.j1
      repeat' first
      | (with_reducible exact ih0 _ _ _ _ _ _ _ _)
      | (with_reducible exact ih1 _ _ _ _ _ _ _ _)
      | (with_reducible exact impl_CompareWide.mono _ _ _ _ _ _ _)
      | (with_reducible exact impl_SubWide.mono _ _ _ _ _ _ _)
      | (with_reducible exact spec_CompareWide.mono _ _ _ _ _ _ _)
      | (with_reducible exact spec_DrawCompareWide.mono _ _)
      | (with_reducible exact LeO.refl _)
      | (with_reducible exact LeO.none _)
      | (with_reducible refine LeO.ite ?_ ?_)
      | (with_reducible refine LeO.bind ?_ (fun _ => ?_))
      | exact ih0 _ _ _ _ _ _ _ _
      | exact ih1 _ _ _ _ _ _ _ _
      | exact impl_CompareWide.mono _ _ _ _ _ _ _
      | exact impl_SubWide.mono _ _ _ _ _ _ _
      | exact spec_CompareWide.mono _ _ _ _ _ _ _
      | exact spec_DrawCompareWide.mono _ _
      | exact LeO.none _
      | refine LeO.ite ?_ ?_
      | refine LeO.bind ?_ (fun _ => ?_)
theorem laws_FnWideOrder.mono : ∀ a0 k, LeO (laws_FnWideOrder.f k a0) (laws_FnWideOrder.f (k + 1) a0) := by
  intro a0 k
  obtain ⟨ih0, ih1⟩ := laws_FnWideOrder.mono_l k
  unfold laws_FnWideOrder.f
  repeat' first
      | (with_reducible exact ih0 _ _ _ _ _ _ _ _)
      | (with_reducible exact ih1 _ _ _ _ _ _ _ _)
      | (with_reducible exact impl_CompareWide.mono _ _ _ _ _ _ _)
      | (with_reducible exact impl_SubWide.mono _ _ _ _ _ _ _)
      | (with_reducible exact spec_CompareWide.mono _ _ _ _ _ _ _)
      | (with_reducible exact spec_DrawCompareWide.mono _ _)
      | (with_reducible exact LeO.refl _)
      | (with_reducible exact LeO.none _)
      | (with_reducible refine LeO.ite ?_ ?_)
      | (with_reducible refine LeO.bind ?_ (fun _ => ?_))
      | exact ih0 _ _ _ _ _ _ _ _
      | exact ih1 _ _ _ _ _ _ _ _
      | exact impl_CompareWide.mono _ _ _ _ _ _ _
      | exact impl_SubWide.mono _ _ _ _ _ _ _
      | exact spec_CompareWide.mono _ _ _ _ _ _ _
      | exact spec_DrawCompareWide.mono _ _
      | exact LeO.none _
      | refine LeO.ite ?_ ?_
      | refine LeO.bind ?_ (fun _ => ?_)
set_option maxHeartbeats 8000000 in
set_option maxRecDepth 100000 in
theorem laws_FnWideOrder.calls (k : Nat) (A0 : Option Addr) (c0 : Nat) (l0 : List Int) (r : Bool) (w : World) (hr0 : Kd.C (Kd.int .u8) w A0 l0.length l0) (hc0 : l0.length ≤ c0) (h : laws_FnWideOrder.f k l0 = some r) (hrt : Aside0 (r = true)) :
    Calls Try.prog 4 #[.slice A0 l0.length c0] w fun e w' => e = .returned (.bool r) ∧ Below w.heap.size w w' := by
  have hu30 := Try.underlying30
  have HR0 := Aside0.mk hr0
  have HC0 := Aside0.mk hc0
  clear hr0 hc0
  have HB := Aside0.mk (Below.refl w.heap.size w)
  have H : ((laws_big.f l0).bind fun t300 => (if t300 = true then (some true) else ((spec_DrawCompareWide.f k l0).bind fun bt301 => ((impl_CompareWide.f k bt301.1 bt301.2.1 bt301.2.2.1 bt301.2.2.2.1 bt301.2.2.2.2.1 bt301.2.2.2.2.2).bind fun t309 => ((spec_CompareWide.f k bt301.1 bt301.2.1 bt301.2.2.1 bt301.2.2.2.1 bt301.2.2.2.2.1 bt301.2.2.2.2.2).bind fun t310 => (if t309 = t310 then ((impl_CompareWide.f k bt301.2.2.2.1 bt301.2.2.2.2.1 bt301.2.2.2.2.2 bt301.1 bt301.2.1 bt301.2.2.1).bind fun t311 => (laws_FnWideOrder.j0 k t309 (t309 != (wrap64 (-t311))) bt301.1 bt301.2.1 bt301.2.2.1 bt301.2.2.2.1 bt301.2.2.2.2.1 bt301.2.2.2.2.2)) else (laws_FnWideOrder.j0 k t309 true bt301.1 bt301.2.1 bt301.2.2.1 bt301.2.2.2.1 bt301.2.2.2.2.1 bt301.2.2.2.2.2))))))) = some r := h
  clear h
  replace H := Option.bind_eq_some_iff.mp H
  obtain ⟨t300, A20, H⟩ := H
  replace H : (if t300 = true then (some true) else ((spec_DrawCompareWide.f k l0).bind fun bt301 => ((impl_CompareWide.f k bt301.1 bt301.2.1 bt301.2.2.1 bt301.2.2.2.1 bt301.2.2.2.2.1 bt301.2.2.2.2.2).bind fun t309 => ((spec_CompareWide.f k bt301.1 bt301.2.1 bt301.2.2.1 bt301.2.2.2.1 bt301.2.2.2.2.1 bt301.2.2.2.2.2).bind fun t310 => (if t309 = t310 then ((impl_CompareWide.f k bt301.2.2.2.1 bt301.2.2.2.2.1 bt301.2.2.2.2.2 bt301.1 bt301.2.1 bt301.2.2.1).bind fun t311 => (laws_FnWideOrder.j0 k t309 (t309 != (wrap64 (-t311))) bt301.1 bt301.2.1 bt301.2.2.1 bt301.2.2.2.1 bt301.2.2.2.2.1 bt301.2.2.2.2.2)) else (laws_FnWideOrder.j0 k t309 true bt301.1 bt301.2.1 bt301.2.2.1 bt301.2.2.2.1 bt301.2.2.2.2.1 bt301.2.2.2.2.2)))))) = some r := H
  have A2 := Aside0.mk A20
  clear A20
  by_cases c3 : t300 = true
  · subst c3
    have H1 : (some true) = some r := by rw [if_pos rfl] at H; exact H
    clear H
    have H := H1
    clear H1
    obtain rfl := Option.some.inj H
    go_enter Try.func4, Try.ntmps4
    go_wp2_with (first | ((with_reducible refine gate_callee (f := 8) rfl ?_); refine goesL_ (some 9) rfl rfl Try.func8 (by kernel_rfl) rfl #[.slice A0 l0.length c0] rfl mp_ ?_; (with_reducible refine (laws_big.calls _ _ l0 true _ ?side1 ?side2 A2.out).mono ?_); (case side1 => repeat (first | exact HR0.out | (with_reducible refine Kd.C_alloc ?_ _) | (with_reducible refine Kd.C_drewN ?_ _) | (with_reducible refine Kd.C_drew ?_))); (case side2 => exact HC0.out); rintro e w' ⟨rfl, ⟨nd, rfl⟩⟩; refine ⟨_, rfl, ?_⟩))
    go_ret
    exact ⟨by first | rfl | (simp [errW_none, errW_some] <;> rfl) | (simp [*, errW_none, errW_some] <;> rfl), by repeat (first | (with_reducible first | exact HB.out | apply below_alloc | apply pw_below_drewN | apply below_drew1) | exact HB.out)⟩
  · replace c3 := Bool.eq_false_iff.mpr c3
    subst c3
    have H1 : ((spec_DrawCompareWide.f k l0).bind fun bt301 => ((impl_CompareWide.f k bt301.1 bt301.2.1 bt301.2.2.1 bt301.2.2.2.1 bt301.2.2.2.2.1 bt301.2.2.2.2.2).bind fun t309 => ((spec_CompareWide.f k bt301.1 bt301.2.1 bt301.2.2.1 bt301.2.2.2.1 bt301.2.2.2.2.1 bt301.2.2.2.2.2).bind fun t310 => (if t309 = t310 then ((impl_CompareWide.f k bt301.2.2.2.1 bt301.2.2.2.2.1 bt301.2.2.2.2.2 bt301.1 bt301.2.1 bt301.2.2.1).bind fun t311 => (laws_FnWideOrder.j0 k t309 (t309 != (wrap64 (-t311))) bt301.1 bt301.2.1 bt301.2.2.1 bt301.2.2.2.1 bt301.2.2.2.2.1 bt301.2.2.2.2.2)) else (laws_FnWideOrder.j0 k t309 true bt301.1 bt301.2.1 bt301.2.2.1 bt301.2.2.2.1 bt301.2.2.2.2.1 bt301.2.2.2.2.2))))) = some r := by rw [if_neg (show ¬ (false = true) by decide)] at H; exact H
    clear H
    have H := H1
    clear H1
    replace H := Option.bind_eq_some_iff.mp H
    obtain ⟨⟨t301, t302, t303, t304, t305, t306⟩, A40, H⟩ := H
    replace H : ((impl_CompareWide.f k t301 t302 t303 t304 t305 t306).bind fun t309 => ((spec_CompareWide.f k t301 t302 t303 t304 t305 t306).bind fun t310 => (if t309 = t310 then ((impl_CompareWide.f k t304 t305 t306 t301 t302 t303).bind fun t311 => (laws_FnWideOrder.j0 k t309 (t309 != (wrap64 (-t311))) t301 t302 t303 t304 t305 t306)) else (laws_FnWideOrder.j0 k t309 true t301 t302 t303 t304 t305 t306)))) = some r := H
    have A4 := Aside0.mk A40
    clear A40
    replace H := Option.bind_eq_some_iff.mp H
    obtain ⟨t309, A50, H⟩ := H
    replace H : ((spec_CompareWide.f k t301 t302 t303 t304 t305 t306).bind fun t310 => (if t309 = t310 then ((impl_CompareWide.f k t304 t305 t306 t301 t302 t303).bind fun t311 => (laws_FnWideOrder.j0 k t309 (t309 != (wrap64 (-t311))) t301 t302 t303 t304 t305 t306)) else (laws_FnWideOrder.j0 k t309 true t301 t302 t303 t304 t305 t306))) = some r := H
    have A5 := Aside0.mk A50
    clear A50
    have HC6 := Aside0.mk H
    clear H
    go_enter Try.func4, Try.ntmps4
    go_upto_region 5 with (first | ((with_reducible refine gate_callee (f := 8) rfl ?_); refine goesL_ (some 9) rfl rfl Try.func8 (by kernel_rfl) rfl #[.slice A0 l0.length c0] rfl mp_ ?_; (with_reducible refine (laws_big.calls _ _ l0 false _ ?side1 ?side2 A2.out).mono ?_); (case side1 => repeat (first | exact HR0.out | (with_reducible refine Kd.C_alloc ?_ _) | (with_reducible refine Kd.C_drewN ?_ _) | (with_reducible refine Kd.C_drew ?_))); (case side2 => exact HC0.out); rintro e w' ⟨rfl, ⟨nd, rfl⟩⟩; refine ⟨_, rfl, ?_⟩) | ((with_reducible refine gate_callee (f := 16) rfl ?_); refine goesL_ (some 12) rfl rfl Try.func16 (by kernel_rfl) rfl #[.slice A0 l0.length c0] rfl mp_ ?_; (with_reducible refine (spec_DrawCompareWide.calls k _ _ l0 t301 t302 t303 t304 t305 t306 _ ?side1 ?side2 A4.out).mono ?_); (case side1 => repeat (first | exact HR0.out | (with_reducible refine Kd.C_alloc ?_ _) | (with_reducible refine Kd.C_drewN ?_ _) | (with_reducible refine Kd.C_drew ?_))); (case side2 => exact HC0.out); rintro e w7 ⟨rfl, hb⟩; refine ⟨_, rfl, ?_⟩; have n0_ := Aside0.mk (below_step bel_ hb); clear HB; have HB := n0_; clear n0_; (try clear hb); (try clear hb2); (try clear hk); (try clear hi)) | ((with_reducible refine gate_dst (N := 3) rfl ?_); refine box_event ?hg (N := 3) ?hd (cs := #[.bool false, .int .u64 0, .int .u64 0]) (t := 30) ?hr ?_; (case hd => rfl); (case hg => rfl); (case hr => first | (go_simp; done) | (go_simp; rfl)); intro gb307 hg w8 hbox hb; have n0_ := Aside0.mk (below_step bel_ hb); have n1_ := Aside0.mk (hbox); have n2_ := Aside0.mk ((by rw [hg]; exact (below_size bel_) : w.heap.size ≤ gb307)); have n3_ := Aside0.mk ((by rw [hg]; exact (below_size bel_) : w.heap.size ≤ gb307)); clear HB; have HB := n0_; have BK307 := n1_; have GW307 := n2_; have GE307 := n3_; clear n0_ n1_ n2_ n3_; clear hb hbox hg) | ((with_reducible refine gate_dst (N := 4) rfl ?_); refine box_event ?hg (N := 4) ?hd (cs := #[.bool false, .int .u64 0, .int .u64 0]) (t := 30) ?hr ?_; (case hd => rfl); (case hg => rfl); (case hr => first | (go_simp; done) | (go_simp; rfl)); intro gb308 hg w9 hbox hb; have n0_ := bb_ (g := gb307) (o := .cells #[.bool false, .int .u64 0, .int .u64 0] 30 (0, 0)) hb; have n1_ := Aside0.mk (below_step bel_ hb); have n2_ := Aside0.mk (hbox); have n3_ := Aside0.mk ((by rw [hg]; exact (below_size bel_) : w.heap.size ≤ gb308)); have n4_ := Aside0.mk ((by rw [hg]; exact (below_size bel_) : w.heap.size ≤ gb308)); have n5_ := nlt_ (g := gb307) (o := .cells #[.bool false, .int .u64 0, .int .u64 0] 30 (0, 0)) hg; have n6_ := ngt_ (g := gb307) (o := .cells #[.bool false, .int .u64 0, .int .u64 0] 30 (0, 0)) hg; clear BK307; clear HB; have BK307 := n0_; have HB := n1_; have BK308 := n2_; have GW308 := n3_; have GE308 := n4_; have NB307_308 := n5_; have NB308_307 := n6_; clear n0_ n1_ n2_ n3_ n4_ n5_ n6_; clear hb hbox hg; have hnb10 := NB307_308.out; have hnc10 := NB308_307.out; have hcz11_0 : w9.cell? ⟨gb307, 0, none⟩ = some (.bool false) := bc_; have hcz11_1 : w9.cell? ⟨gb307, 1, none⟩ = some (.int .u64 0) := bc_; have hcz11_2 : w9.cell? ⟨gb307, 2, none⟩ = some (.int .u64 0) := bc_; have hfz11_0 := blk_frozen BK307.out 0; have hfz11_1 := blk_frozen BK307.out 1; have hfz11_2 := blk_frozen BK307.out 2; have hcz12_0 : w9.cell? ⟨gb308, 0, none⟩ = some (.bool false) := bc_; have hcz12_1 : w9.cell? ⟨gb308, 1, none⟩ = some (.int .u64 0) := bc_; have hcz12_2 : w9.cell? ⟨gb308, 2, none⟩ = some (.int .u64 0) := bc_; have hfz12_0 := blk_frozen BK308.out 0; have hfz12_1 := blk_frozen BK308.out 1; have hfz12_2 := blk_frozen BK308.out 2) | ((with_reducible refine gate_callee (f := 17) rfl ?_); refine goesL_ (some 17) rfl rfl Try.func17 (by kernel_rfl) rfl #[.agg #[.bool t301, .int .u64 t302, .int .u64 t303], .agg #[.bool t304, .int .u64 t305, .int .u64 t306]] rfl mp_ ?_; (with_reducible refine (impl_CompareWide.calls k t301 t302 t303 t304 t305 t306 t309 _ A5.out).mono ?_); rintro e w13 ⟨rfl, hb⟩; refine ⟨_, rfl, ?_⟩; have n0_ := Aside0.mk (blk_below (g := gb307) (o := .cells #[.bool t301, .int .u64 t302, .int .u64 t303] 30 (0, 0)) (by (with_reducible repeat (first | refine bN_ _ ?_ | refine bd_ ?_ | refine ba_ _ ?_)); refine blk_far ?_ NB307_308.out _; (with_reducible repeat (first | refine bN_ _ ?_ | refine bd_ ?_ | refine ba_ _ ?_)); refine blk_far ?_ NB307_308.out _; (with_reducible repeat (first | refine bN_ _ ?_ | refine bd_ ?_ | refine ba_ _ ?_)); refine blk_far ?_ NB307_308.out _; (with_reducible repeat (first | refine bN_ _ ?_ | refine bd_ ?_ | refine ba_ _ ?_)); refine blk_put (cs := #[.bool t301, .int .u64 t302, .int .u64 0]) ?_ 2 _ rfl; (with_reducible repeat (first | refine bN_ _ ?_ | refine bd_ ?_ | refine ba_ _ ?_)); refine blk_put (cs := #[.bool t301, .int .u64 0, .int .u64 0]) ?_ 1 _ rfl; (with_reducible repeat (first | refine bN_ _ ?_ | refine bd_ ?_ | refine ba_ _ ?_)); refine blk_put (cs := #[.bool false, .int .u64 0, .int .u64 0]) ?_ 0 _ rfl; (with_reducible repeat (first | refine bN_ _ ?_ | refine bd_ ?_ | refine ba_ _ ?_)); exact BK307.out) hb); have n1_ := Aside0.mk (blk_below (g := gb308) (o := .cells #[.bool t304, .int .u64 t305, .int .u64 t306] 30 (0, 0)) (by (with_reducible repeat (first | refine bN_ _ ?_ | refine bd_ ?_ | refine ba_ _ ?_)); refine blk_put (cs := #[.bool t304, .int .u64 t305, .int .u64 0]) ?_ 2 _ rfl; (with_reducible repeat (first | refine bN_ _ ?_ | refine bd_ ?_ | refine ba_ _ ?_)); refine blk_put (cs := #[.bool t304, .int .u64 0, .int .u64 0]) ?_ 1 _ rfl; (with_reducible repeat (first | refine bN_ _ ?_ | refine bd_ ?_ | refine ba_ _ ?_)); refine blk_put (cs := #[.bool false, .int .u64 0, .int .u64 0]) ?_ 0 _ rfl; (with_reducible repeat (first | refine bN_ _ ?_ | refine bd_ ?_ | refine ba_ _ ?_)); refine blk_far ?_ NB308_307.out _; (with_reducible repeat (first | refine bN_ _ ?_ | refine bd_ ?_ | refine ba_ _ ?_)); refine blk_far ?_ NB308_307.out _; (with_reducible repeat (first | refine bN_ _ ?_ | refine bd_ ?_ | refine ba_ _ ?_)); refine blk_far ?_ NB308_307.out _; (with_reducible repeat (first | refine bN_ _ ?_ | refine bd_ ?_ | refine ba_ _ ?_)); exact BK308.out) hb); have n2_ := Aside0.mk (below_step bel_ hb); clear BK307; clear BK308; clear HB; have BK307 := n0_; have BK308 := n1_; have HB := n2_; clear n0_ n1_ n2_; (try clear hb); (try clear hb2); (try clear hk); (try clear hi)))
    (try simp only [Act.put, la_, lb_, lc_])
    go_cut [30] (fun v30 wc => ∃ (kq : Nat) (x30_5 : Bool), v30 = .bool x30_5 ∧ Aside0 (laws_FnWideOrder.j0 kq t309 x30_5 t301 t302 t303 t304 t305 t306 = some r) ∧ Aside0 (kq ≤ k) ∧ Aside0 (wc.heap[gb307]? = some (.cells #[.bool t301, .int .u64 t302, .int .u64 t303] 30 (0, 0))) ∧ Aside0 (wc.heap[gb308]? = some (.cells #[.bool t304, .int .u64 t305, .int .u64 t306] 30 (0, 0))) ∧ Aside0 (Below w.heap.size w wc))
    case first =>
      have H := HC6.out
      clear HC6
      replace H := Option.bind_eq_some_iff.mp H
      obtain ⟨t310, A140, H⟩ := H
      replace H : (if t309 = t310 then ((impl_CompareWide.f k t304 t305 t306 t301 t302 t303).bind fun t311 => (laws_FnWideOrder.j0 k t309 (t309 != (wrap64 (-t311))) t301 t302 t303 t304 t305 t306)) else (laws_FnWideOrder.j0 k t309 true t301 t302 t303 t304 t305 t306)) = some r := H
      have A14 := Aside0.mk A140
      clear A140
      by_cases c15 : t309 = t310
      · rw [if_pos c15] at H
        have c15b0 : (t309 == t310) = true := beq_iff_eq.mpr c15
        have c15b1 : (t309 != t310) = false := bne_eq_false_iff_eq.mpr c15
        clear c15
        (first | rw [c15b0] | (simp only [i64_w, i32_w]; rw [c15b0]) | skip)
        replace H := Option.bind_eq_some_iff.mp H
        obtain ⟨t311, A160, H⟩ := H
        replace H : (laws_FnWideOrder.j0 k t309 (t309 != (wrap64 (-t311))) t301 t302 t303 t304 t305 t306) = some r := H
        have A16 := Aside0.mk A160
        clear A160
        have H' := Aside0.mk H
        clear H
        have hnb17 := NB307_308.out
        have hnc17 := NB308_307.out
        have hcz18_0 : w13.cell? ⟨gb307, 0, none⟩ = some (.bool t301) := bc_
        have hcz18_1 : w13.cell? ⟨gb307, 1, none⟩ = some (.int .u64 t302) := bc_
        have hcz18_2 : w13.cell? ⟨gb307, 2, none⟩ = some (.int .u64 t303) := bc_
        have hfz18_0 := blk_frozen BK307.out 0
        have hfz18_1 := blk_frozen BK307.out 1
        have hfz18_2 := blk_frozen BK307.out 2
        have hcz19_0 : w13.cell? ⟨gb308, 0, none⟩ = some (.bool t304) := bc_
        have hcz19_1 : w13.cell? ⟨gb308, 1, none⟩ = some (.int .u64 t305) := bc_
        have hcz19_2 : w13.cell? ⟨gb308, 2, none⟩ = some (.int .u64 t306) := bc_
        have hfz19_0 := blk_frozen BK308.out 0
        have hfz19_1 := blk_frozen BK308.out 1
        have hfz19_2 := blk_frozen BK308.out 2
        go_wp2_with (first | ((with_reducible refine gate_callee (f := 18) rfl ?_); refine goesL_ (some 21) rfl rfl Try.func18 (by kernel_rfl) rfl #[.agg #[.bool t301, .int .u64 t302, .int .u64 t303], .agg #[.bool t304, .int .u64 t305, .int .u64 t306]] rfl mp_ ?_; (with_reducible refine (spec_CompareWide.calls k t301 t302 t303 t304 t305 t306 t310 _ A14.out).mono ?_); rintro e w20 ⟨rfl, hb⟩; refine ⟨_, rfl, ?_⟩; have n0_ := bb_ (g := gb307) (o := .cells #[.bool t301, .int .u64 t302, .int .u64 t303] 30 (0, 0)) hb; have n1_ := bb_ (g := gb308) (o := .cells #[.bool t304, .int .u64 t305, .int .u64 t306] 30 (0, 0)) hb; have n2_ := Aside0.mk (below_step bel_ hb); clear BK307; clear BK308; clear HB; have BK307 := n0_; have BK308 := n1_; have HB := n2_; clear n0_ n1_ n2_; (try clear hb); (try clear hb2); (try clear hk); (try clear hi); have hcz21_0 : w20.cell? ⟨gb308, 0, none⟩ = some (.bool t304) := bc_; have hcz21_1 : w20.cell? ⟨gb308, 1, none⟩ = some (.int .u64 t305) := bc_; have hcz21_2 : w20.cell? ⟨gb308, 2, none⟩ = some (.int .u64 t306) := bc_; have hfz21_0 := blk_frozen BK308.out 0; have hfz21_1 := blk_frozen BK308.out 1; have hfz21_2 := blk_frozen BK308.out 2; have hcz22_0 : w20.cell? ⟨gb307, 0, none⟩ = some (.bool t301) := bc_; have hcz22_1 : w20.cell? ⟨gb307, 1, none⟩ = some (.int .u64 t302) := bc_; have hcz22_2 : w20.cell? ⟨gb307, 2, none⟩ = some (.int .u64 t303) := bc_; have hfz22_0 := blk_frozen BK307.out 0; have hfz22_1 := blk_frozen BK307.out 1; have hfz22_2 := blk_frozen BK307.out 2) | (go_at_call 17; (with_reducible refine (impl_CompareWide.calls k t304 t305 t306 t301 t302 t303 t311 _ A16.out).mono ?_); rintro e w23 ⟨rfl, hb⟩; have n0_ := bb_ (g := gb307) (o := .cells #[.bool t301, .int .u64 t302, .int .u64 t303] 30 (0, 0)) hb; have n1_ := bb_ (g := gb308) (o := .cells #[.bool t304, .int .u64 t305, .int .u64 t306] 30 (0, 0)) hb; have n2_ := Aside0.mk (below_step bel_ hb); clear BK307; clear BK308; clear HB; have BK307 := n0_; have BK308 := n1_; have HB := n2_; clear n0_ n1_ n2_; (try clear hb); (try clear hb2); (try clear hk); (try clear hi)))
        go_meet
        case rel => exact ⟨_, ((t309 != (wrap64 (-t311)))), (by first | rfl | (simp; done) | (simp [*]; done)), H', ⟨by first | omega | exact Nat.le_refl _⟩, ⟨by (with_reducible repeat (first | refine bN_ _ ?_ | refine bd_ ?_ | refine ba_ _ ?_)); exact BK307.out⟩, ⟨by (with_reducible repeat (first | refine bN_ _ ?_ | refine bd_ ?_ | refine ba_ _ ?_)); exact BK308.out⟩, ⟨by repeat (first | (with_reducible first | exact HB.out | apply below_alloc | apply pw_below_drewN | apply below_drew1 | refine below_set ?_ GE307.out | refine below_set ?_ GE308.out) | exact HB.out)⟩⟩
      · rw [if_neg c15] at H
        have c15b0 : (t309 == t310) = false := beq_eq_false_iff_ne.mpr c15
        have c15b1 : (t309 != t310) = true := bne_iff_ne.mpr c15
        (first | rw [c15b0] | (simp only [i64_w, i32_w]; rw [c15b0]) | skip)
        have H' := Aside0.mk H
        clear H
        have hnb24 := NB307_308.out
        have hnc24 := NB308_307.out
        have hcz25_0 : w13.cell? ⟨gb307, 0, none⟩ = some (.bool t301) := bc_
        have hcz25_1 : w13.cell? ⟨gb307, 1, none⟩ = some (.int .u64 t302) := bc_
        have hcz25_2 : w13.cell? ⟨gb307, 2, none⟩ = some (.int .u64 t303) := bc_
        have hfz25_0 := blk_frozen BK307.out 0
        have hfz25_1 := blk_frozen BK307.out 1
        have hfz25_2 := blk_frozen BK307.out 2
        have hcz26_0 : w13.cell? ⟨gb308, 0, none⟩ = some (.bool t304) := bc_
        have hcz26_1 : w13.cell? ⟨gb308, 1, none⟩ = some (.int .u64 t305) := bc_
        have hcz26_2 : w13.cell? ⟨gb308, 2, none⟩ = some (.int .u64 t306) := bc_
        have hfz26_0 := blk_frozen BK308.out 0
        have hfz26_1 := blk_frozen BK308.out 1
        have hfz26_2 := blk_frozen BK308.out 2
        go_wp2_with (first | ((with_reducible refine gate_callee (f := 18) rfl ?_); refine goesL_ (some 21) rfl rfl Try.func18 (by kernel_rfl) rfl #[.agg #[.bool t301, .int .u64 t302, .int .u64 t303], .agg #[.bool t304, .int .u64 t305, .int .u64 t306]] rfl mp_ ?_; (with_reducible refine (spec_CompareWide.calls k t301 t302 t303 t304 t305 t306 t310 _ A14.out).mono ?_); rintro e w27 ⟨rfl, hb⟩; refine ⟨_, rfl, ?_⟩; have n0_ := bb_ (g := gb307) (o := .cells #[.bool t301, .int .u64 t302, .int .u64 t303] 30 (0, 0)) hb; have n1_ := bb_ (g := gb308) (o := .cells #[.bool t304, .int .u64 t305, .int .u64 t306] 30 (0, 0)) hb; have n2_ := Aside0.mk (below_step bel_ hb); clear BK307; clear BK308; clear HB; have BK307 := n0_; have BK308 := n1_; have HB := n2_; clear n0_ n1_ n2_; (try clear hb); (try clear hb2); (try clear hk); (try clear hi)))
        go_meet
        case rel => exact ⟨_, (true), (by first | rfl | (simp; done) | (simp [*]; done)), H', ⟨by first | omega | exact Nat.le_refl _⟩, ⟨by (with_reducible repeat (first | refine bN_ _ ?_ | refine bd_ ?_ | refine ba_ _ ?_)); exact BK307.out⟩, ⟨by (with_reducible repeat (first | refine bN_ _ ?_ | refine bd_ ?_ | refine ba_ _ ?_)); exact BK308.out⟩, ⟨by repeat (first | (with_reducible first | exact HB.out | apply below_alloc | apply pw_below_drewN | apply below_drew1 | refine below_set ?_ GE307.out | refine below_set ?_ GE308.out) | exact HB.out)⟩⟩
    case rest =>
      clear HC6
      try clear c1
      try clear c2
      try clear p2
      try clear c3
      try clear c4
      try clear p6
      try clear c8
      try clear c10
      try clear c15
      try clear c15b0
      try clear c15b1
      try clear c16
      try clear c17
      try clear c18
      try clear c24
      try clear hcz11_0
      try clear hcz11_1
      try clear hcz11_2
      try clear hcz12_0
      try clear hcz12_1
      try clear hcz12_2
      try clear hcz18_0
      try clear hcz18_1
      try clear hcz18_2
      try clear hcz19_0
      try clear hcz19_1
      try clear hcz19_2
      try clear hcz21_0
      try clear hcz21_1
      try clear hcz21_2
      try clear hcz22_0
      try clear hcz22_1
      try clear hcz22_2
      try clear hcz25_0
      try clear hcz25_1
      try clear hcz25_2
      try clear hcz26_0
      try clear hcz26_1
      try clear hcz26_2
      try clear hfz11_0
      try clear hfz11_1
      try clear hfz11_2
      try clear hfz12_0
      try clear hfz12_1
      try clear hfz12_2
      try clear hfz18_0
      try clear hfz18_1
      try clear hfz18_2
      try clear hfz19_0
      try clear hfz19_1
      try clear hfz19_2
      try clear hfz21_0
      try clear hfz21_1
      try clear hfz21_2
      try clear hfz22_0
      try clear hfz22_1
      try clear hfz22_2
      try clear hfz25_0
      try clear hfz25_1
      try clear hfz25_2
      try clear hfz26_0
      try clear hfz26_1
      try clear hfz26_2
      obtain ⟨kq, x30_5, rfl, HA, HJ5, BK307, BK308, HB⟩ := hcut
      cases kq with
      | zero => exact absurd HA.out (by simp [laws_FnWideOrder.j0])
      | succ kj5 =>
        have H := HA.out
        clear HA
        simp only [laws_FnWideOrder.j0] at H
        by_cases c28 : x30_5 = true
        · subst c28
          have H1 : (some false) = some r := by rw [if_pos rfl] at H; exact H
          clear H
          have H := H1
          clear H1
          exact absurd ((Option.some.inj H).trans hrt.out) (by decide)
        · replace c28 := Bool.eq_false_iff.mpr c28
          subst c28
          have H1 : ((spec_WideOk.f t301 t302 t303).bind fun t312 => (if t312 = true then ((spec_WideOk.f t304 t305 t306).bind fun t313 => (laws_FnWideOrder.j1 kj5 t309 (!t313) t301 t302 t303 t304 t305 t306)) else (laws_FnWideOrder.j1 kj5 t309 true t301 t302 t303 t304 t305 t306))) = some r := by rw [if_neg (show ¬ (false = true) by decide)] at H; exact H
          clear H
          have H := H1
          clear H1
          have HC29 := Aside0.mk H
          clear H
          go_upto_region 7 with (fail)
          go_cut [38] (fun v38 wc => ∃ (kq : Nat) (x38_28 : Bool), v38 = .bool x38_28 ∧ Aside0 (laws_FnWideOrder.j1 kq t309 x38_28 t301 t302 t303 t304 t305 t306 = some r) ∧ Aside0 (kq ≤ kj5) ∧ Aside0 (wc.heap[gb307]? = some (.cells #[.bool t301, .int .u64 t302, .int .u64 t303] 30 (0, 0))) ∧ Aside0 (wc.heap[gb308]? = some (.cells #[.bool t304, .int .u64 t305, .int .u64 t306] 30 (0, 0))) ∧ Aside0 (Below w.heap.size w wc))
          case first =>
            have H := HC29.out
            clear HC29
            replace H := Option.bind_eq_some_iff.mp H
            obtain ⟨t312, A300, H⟩ := H
            replace H : (if t312 = true then ((spec_WideOk.f t304 t305 t306).bind fun t313 => (laws_FnWideOrder.j1 kj5 t309 (!t313) t301 t302 t303 t304 t305 t306)) else (laws_FnWideOrder.j1 kj5 t309 true t301 t302 t303 t304 t305 t306)) = some r := H
            have A30 := Aside0.mk A300
            clear A300
            by_cases c31 : t312 = true
            · subst c31
              have H1 : ((spec_WideOk.f t304 t305 t306).bind fun t313 => (laws_FnWideOrder.j1 kj5 t309 (!t313) t301 t302 t303 t304 t305 t306)) = some r := by rw [if_pos rfl] at H; exact H
              clear H
              have H := H1
              clear H1
              replace H := Option.bind_eq_some_iff.mp H
              obtain ⟨t313, A320, H⟩ := H
              replace H : (laws_FnWideOrder.j1 kj5 t309 (!t313) t301 t302 t303 t304 t305 t306) = some r := H
              have A32 := Aside0.mk A320
              clear A320
              have H' := Aside0.mk H
              clear H
              have hnb33 := NB307_308.out
              have hnc33 := NB308_307.out
              have hcz34_0 : wc.cell? ⟨gb307, 0, none⟩ = some (.bool t301) := bc_
              have hcz34_1 : wc.cell? ⟨gb307, 1, none⟩ = some (.int .u64 t302) := bc_
              have hcz34_2 : wc.cell? ⟨gb307, 2, none⟩ = some (.int .u64 t303) := bc_
              have hfz34_0 := blk_frozen BK307.out 0
              have hfz34_1 := blk_frozen BK307.out 1
              have hfz34_2 := blk_frozen BK307.out 2
              go_wp2_with (first | ((with_reducible refine gate_callee (f := 19) rfl ?_); refine goesL_ (some 32) rfl rfl Try.func19 (by kernel_rfl) rfl #[.agg #[.bool t301, .int .u64 t302, .int .u64 t303]] rfl mp_ ?_; (with_reducible refine (spec_WideOk.calls t301 t302 t303 true _ A30.out).mono ?_); rintro e w35 ⟨rfl, hb⟩; refine ⟨_, rfl, ?_⟩; have n0_ := bb_ (g := gb307) (o := .cells #[.bool t301, .int .u64 t302, .int .u64 t303] 30 (0, 0)) hb; have n1_ := bb_ (g := gb308) (o := .cells #[.bool t304, .int .u64 t305, .int .u64 t306] 30 (0, 0)) hb; have n2_ := Aside0.mk (below_step bel_ hb); clear BK307; clear BK308; clear HB; have BK307 := n0_; have BK308 := n1_; have HB := n2_; clear n0_ n1_ n2_; (try clear hb); (try clear hb2); (try clear hk); (try clear hi); have hcz36_0 : w35.cell? ⟨gb308, 0, none⟩ = some (.bool t304) := bc_; have hcz36_1 : w35.cell? ⟨gb308, 1, none⟩ = some (.int .u64 t305) := bc_; have hcz36_2 : w35.cell? ⟨gb308, 2, none⟩ = some (.int .u64 t306) := bc_; have hfz36_0 := blk_frozen BK308.out 0; have hfz36_1 := blk_frozen BK308.out 1; have hfz36_2 := blk_frozen BK308.out 2) | (go_at_call 19; (with_reducible refine (spec_WideOk.calls t304 t305 t306 t313 _ A32.out).mono ?_); rintro e w37 ⟨rfl, hb⟩; have n0_ := bb_ (g := gb307) (o := .cells #[.bool t301, .int .u64 t302, .int .u64 t303] 30 (0, 0)) hb; have n1_ := bb_ (g := gb308) (o := .cells #[.bool t304, .int .u64 t305, .int .u64 t306] 30 (0, 0)) hb; have n2_ := Aside0.mk (below_step bel_ hb); clear BK307; clear BK308; clear HB; have BK307 := n0_; have BK308 := n1_; have HB := n2_; clear n0_ n1_ n2_; (try clear hb); (try clear hb2); (try clear hk); (try clear hi)))
              go_meet
              case rel => exact ⟨_, (!t313), (by first | rfl | (simp; done) | (simp [*]; done)), H', ⟨by have := HJ5.out; first | omega | exact Nat.le_refl _⟩, ⟨by (with_reducible repeat (first | refine bN_ _ ?_ | refine bd_ ?_ | refine ba_ _ ?_)); exact BK307.out⟩, ⟨by (with_reducible repeat (first | refine bN_ _ ?_ | refine bd_ ?_ | refine ba_ _ ?_)); exact BK308.out⟩, ⟨by repeat (first | (with_reducible first | exact HB.out | apply below_alloc | apply pw_below_drewN | apply below_drew1 | refine below_set ?_ GE307.out | refine below_set ?_ GE308.out) | exact HB.out)⟩⟩
            · replace c31 := Bool.eq_false_iff.mpr c31
              subst c31
              have H1 : (laws_FnWideOrder.j1 kj5 t309 true t301 t302 t303 t304 t305 t306) = some r := by rw [if_neg (show ¬ (false = true) by decide)] at H; exact H
              clear H
              have H := H1
              clear H1
              have H' := Aside0.mk H
              clear H
              have hnb38 := NB307_308.out
              have hnc38 := NB308_307.out
              have hcz39_0 : wc.cell? ⟨gb307, 0, none⟩ = some (.bool t301) := bc_
              have hcz39_1 : wc.cell? ⟨gb307, 1, none⟩ = some (.int .u64 t302) := bc_
              have hcz39_2 : wc.cell? ⟨gb307, 2, none⟩ = some (.int .u64 t303) := bc_
              have hfz39_0 := blk_frozen BK307.out 0
              have hfz39_1 := blk_frozen BK307.out 1
              have hfz39_2 := blk_frozen BK307.out 2
              go_wp2_with (first | ((with_reducible refine gate_callee (f := 19) rfl ?_); refine goesL_ (some 32) rfl rfl Try.func19 (by kernel_rfl) rfl #[.agg #[.bool t301, .int .u64 t302, .int .u64 t303]] rfl mp_ ?_; (with_reducible refine (spec_WideOk.calls t301 t302 t303 false _ A30.out).mono ?_); rintro e w40 ⟨rfl, hb⟩; refine ⟨_, rfl, ?_⟩; have n0_ := bb_ (g := gb307) (o := .cells #[.bool t301, .int .u64 t302, .int .u64 t303] 30 (0, 0)) hb; have n1_ := bb_ (g := gb308) (o := .cells #[.bool t304, .int .u64 t305, .int .u64 t306] 30 (0, 0)) hb; have n2_ := Aside0.mk (below_step bel_ hb); clear BK307; clear BK308; clear HB; have BK307 := n0_; have BK308 := n1_; have HB := n2_; clear n0_ n1_ n2_; (try clear hb); (try clear hb2); (try clear hk); (try clear hi)))
              go_meet
              case rel => exact ⟨_, (true), (by first | rfl | (simp; done) | (simp [*]; done)), H', ⟨by have := HJ5.out; first | omega | exact Nat.le_refl _⟩, ⟨by (with_reducible repeat (first | refine bN_ _ ?_ | refine bd_ ?_ | refine ba_ _ ?_)); exact BK307.out⟩, ⟨by (with_reducible repeat (first | refine bN_ _ ?_ | refine bd_ ?_ | refine ba_ _ ?_)); exact BK308.out⟩, ⟨by repeat (first | (with_reducible first | exact HB.out | apply below_alloc | apply pw_below_drewN | apply below_drew1 | refine below_set ?_ GE307.out | refine below_set ?_ GE308.out) | exact HB.out)⟩⟩
          case rest =>
            clear HC29
            try clear c1
            try clear c2
            try clear p2
            try clear c3
            try clear c4
            try clear p6
            try clear c8
            try clear c10
            try clear c15
            try clear c15b0
            try clear c15b1
            try clear c16
            try clear c17
            try clear c18
            try clear c19
            try clear c24
            try clear c28
            try clear c31
            try clear c33
            try clear c38
            try clear hcz11_0
            try clear hcz11_1
            try clear hcz11_2
            try clear hcz12_0
            try clear hcz12_1
            try clear hcz12_2
            try clear hcz18_0
            try clear hcz18_1
            try clear hcz18_2
            try clear hcz19_0
            try clear hcz19_1
            try clear hcz19_2
            try clear hcz21_0
            try clear hcz21_1
            try clear hcz21_2
            try clear hcz22_0
            try clear hcz22_1
            try clear hcz22_2
            try clear hcz25_0
            try clear hcz25_1
            try clear hcz25_2
            try clear hcz26_0
            try clear hcz26_1
            try clear hcz26_2
            try clear hcz34_0
            try clear hcz34_1
            try clear hcz34_2
            try clear hcz36_0
            try clear hcz36_1
            try clear hcz36_2
            try clear hcz39_0
            try clear hcz39_1
            try clear hcz39_2
            try clear hfz11_0
            try clear hfz11_1
            try clear hfz11_2
            try clear hfz12_0
            try clear hfz12_1
            try clear hfz12_2
            try clear hfz18_0
            try clear hfz18_1
            try clear hfz18_2
            try clear hfz19_0
            try clear hfz19_1
            try clear hfz19_2
            try clear hfz21_0
            try clear hfz21_1
            try clear hfz21_2
            try clear hfz22_0
            try clear hfz22_1
            try clear hfz22_2
            try clear hfz25_0
            try clear hfz25_1
            try clear hfz25_2
            try clear hfz26_0
            try clear hfz26_1
            try clear hfz26_2
            try clear hfz34_0
            try clear hfz34_1
            try clear hfz34_2
            try clear hfz36_0
            try clear hfz36_1
            try clear hfz36_2
            try clear hfz39_0
            try clear hfz39_1
            try clear hfz39_2
            try clear p2
            try clear p6
            obtain ⟨kq, x38_28, rfl, HA, HJ28, BK307, BK308, HB⟩ := hcut
            cases kq with
            | zero => exact absurd HA.out (by simp [laws_FnWideOrder.j1])
            | succ kj28 =>
              have H := HA.out
              clear HA
              simp only [laws_FnWideOrder.j1] at H
              by_cases c41 : x38_28 = true
              · subst c41
                have H1 : (some true) = some r := by rw [if_pos rfl] at H; exact H
                clear H
                have H := H1
                clear H1
                obtain rfl := Option.some.inj H
                go_wp2
                go_ret
                exact ⟨by first | rfl | (simp [errW_none, errW_some] <;> rfl) | (simp [*, errW_none, errW_some] <;> rfl), by repeat (first | (with_reducible first | exact HB.out | apply below_alloc | apply pw_below_drewN | apply below_drew1 | refine below_set ?_ GE307.out | refine below_set ?_ GE308.out) | exact HB.out)⟩
              · replace c41 := Bool.eq_false_iff.mpr c41
                subst c41
                have H1 : ((impl_SubWide.f kj28 t301 t302 t303 t304 t305 t306).bind fun bt314 => (if ((t309 == 0) == (t301 == t304 && (t302 == t305 && (t303 == t306)))) = true then (if bt314.2.2.2 = true then ((impl_CompareWide.f kj28 bt314.1 bt314.2.1 bt314.2.2.1 false 0 0).bind fun t319 => (some (t319 == t309))) else (some true)) else (some false))) = some r := by rw [if_neg (show ¬ (false = true) by decide)] at H; exact H
                clear H
                have H := H1
                clear H1
                replace H := Option.bind_eq_some_iff.mp H
                obtain ⟨⟨t314, t315, t316, t317⟩, A420, H⟩ := H
                replace H : (if ((t309 == 0) == (t301 == t304 && (t302 == t305 && (t303 == t306)))) = true then (if t317 = true then ((impl_CompareWide.f kj28 t314 t315 t316 false 0 0).bind fun t319 => (some (t319 == t309))) else (some true)) else (some false)) = some r := H
                have A42 := Aside0.mk A420
                clear A420
                by_cases c43 : ((t309 == 0) == (t301 == t304 && (t302 == t305 && (t303 == t306)))) = true
                · rw [if_pos c43] at H
                  have c43b0 : ((t309 == 0) == (t301 == t304 && (t302 == t305 && (t303 == t306)))) = true := c43
                  (try (have c43b1 : decide ((t309 == 0) = (t301 == t304 && (t302 == t305 && (t303 == t306)))) = true := by simpa using c43))
                  (try (have c43b2 : ((t309 == 0) == (t301 == t304 && (t302 == t305 && (t303 == t306)))) = true := by simpa using c43))
                  clear c43
                  by_cases c44 : t317 = true
                  · subst c44
                    have H1 : ((impl_CompareWide.f kj28 t314 t315 t316 false 0 0).bind fun t319 => (some (t319 == t309))) = some r := by rw [if_pos rfl] at H; exact H
                    clear H
                    have H := H1
                    clear H1
                    replace H := Option.bind_eq_some_iff.mp H
                    obtain ⟨t319, A450, H⟩ := H
                    replace H : (some (t319 == t309)) = some r := H
                    have A45 := Aside0.mk A450
                    clear A450
                    obtain rfl := Option.some.inj H
                    have hnb46 := NB307_308.out
                    have hnc46 := NB308_307.out
                    have hcz47_0 : wc.cell? ⟨gb307, 0, none⟩ = some (.bool t301) := bc_
                    have hcz47_1 : wc.cell? ⟨gb307, 1, none⟩ = some (.int .u64 t302) := bc_
                    have hcz47_2 : wc.cell? ⟨gb307, 2, none⟩ = some (.int .u64 t303) := bc_
                    have hfz47_0 := blk_frozen BK307.out 0
                    have hfz47_1 := blk_frozen BK307.out 1
                    have hfz47_2 := blk_frozen BK307.out 2
                    have hcz48_0 : wc.cell? ⟨gb308, 0, none⟩ = some (.bool t304) := bc_
                    have hcz48_1 : wc.cell? ⟨gb308, 1, none⟩ = some (.int .u64 t305) := bc_
                    have hcz48_2 : wc.cell? ⟨gb308, 2, none⟩ = some (.int .u64 t306) := bc_
                    have hfz48_0 := blk_frozen BK308.out 0
                    have hfz48_1 := blk_frozen BK308.out 1
                    have hfz48_2 := blk_frozen BK308.out 2
                    go_wp2_with (first | ((with_reducible refine gate_callee (f := 14) rfl ?_); refine goesL_ (some 42) rfl rfl Try.func14 (by kernel_rfl) rfl #[.agg #[.bool t301, .int .u64 t302, .int .u64 t303], .agg #[.bool t304, .int .u64 t305, .int .u64 t306]] rfl mp_ ?_; (with_reducible refine (impl_SubWide.calls kj28 t301 t302 t303 t304 t305 t306 t314 t315 t316 true _ A42.out).mono ?_); rintro e w49 ⟨rfl, hb⟩; refine ⟨_, rfl, ?_⟩; have n0_ := bb_ (g := gb307) (o := .cells #[.bool t301, .int .u64 t302, .int .u64 t303] 30 (0, 0)) hb; have n1_ := bb_ (g := gb308) (o := .cells #[.bool t304, .int .u64 t305, .int .u64 t306] 30 (0, 0)) hb; have n2_ := Aside0.mk (below_step bel_ hb); clear BK307; clear BK308; clear HB; have BK307 := n0_; have BK308 := n1_; have HB := n2_; clear n0_ n1_ n2_; (try clear hb); (try clear hb2); (try clear hk); (try clear hi)) | ((with_reducible refine gate_dst (N := 6) rfl ?_); refine box_event ?hg (N := 6) ?hd (cs := #[.bool false, .int .u64 0, .int .u64 0]) (t := 30) ?hr ?_; (case hd => rfl); (case hg => rfl); (case hr => first | (go_simp; done) | (go_simp; rfl)); intro gb318 hg w50 hbox hb; have n0_ := bb_ (g := gb307) (o := .cells #[.bool t301, .int .u64 t302, .int .u64 t303] 30 (0, 0)) hb; have n1_ := bb_ (g := gb308) (o := .cells #[.bool t304, .int .u64 t305, .int .u64 t306] 30 (0, 0)) hb; have n2_ := Aside0.mk (below_step bel_ hb); have n3_ := Aside0.mk (hbox); have n4_ := Aside0.mk ((by rw [hg]; exact (below_size bel_) : w.heap.size ≤ gb318)); have n5_ := Aside0.mk ((by rw [hg]; exact (below_size bel_) : w.heap.size ≤ gb318)); have n6_ := nlt_ (g := gb307) (o := .cells #[.bool t301, .int .u64 t302, .int .u64 t303] 30 (0, 0)) hg; have n7_ := ngt_ (g := gb307) (o := .cells #[.bool t301, .int .u64 t302, .int .u64 t303] 30 (0, 0)) hg; have n8_ := nlt_ (g := gb308) (o := .cells #[.bool t304, .int .u64 t305, .int .u64 t306] 30 (0, 0)) hg; have n9_ := ngt_ (g := gb308) (o := .cells #[.bool t304, .int .u64 t305, .int .u64 t306] 30 (0, 0)) hg; clear BK307; clear BK308; clear HB; have BK307 := n0_; have BK308 := n1_; have HB := n2_; have BK318 := n3_; have GW318 := n4_; have GE318 := n5_; have NB307_318 := n6_; have NB318_307 := n7_; have NB308_318 := n8_; have NB318_308 := n9_; clear n0_ n1_ n2_ n3_ n4_ n5_ n6_ n7_ n8_ n9_; clear hb hbox hg; have hnb51 := NB318_307.out; have hnc51 := NB307_318.out; have hnb52 := NB318_308.out; have hnc52 := NB308_318.out; have hcz53_0 : w50.cell? ⟨gb318, 0, none⟩ = some (.bool false) := bc_; have hcz53_1 : w50.cell? ⟨gb318, 1, none⟩ = some (.int .u64 0) := bc_; have hcz53_2 : w50.cell? ⟨gb318, 2, none⟩ = some (.int .u64 0) := bc_; have hfz53_0 := blk_frozen BK318.out 0; have hfz53_1 := blk_frozen BK318.out 1; have hfz53_2 := blk_frozen BK318.out 2; have hcz54_0 : w50.cell? ⟨gb307, 0, none⟩ = some (.bool t301) := bc_; have hcz54_1 : w50.cell? ⟨gb307, 1, none⟩ = some (.int .u64 t302) := bc_; have hcz54_2 : w50.cell? ⟨gb307, 2, none⟩ = some (.int .u64 t303) := bc_; have hfz54_0 := blk_frozen BK307.out 0; have hfz54_1 := blk_frozen BK307.out 1; have hfz54_2 := blk_frozen BK307.out 2; have hcz55_0 : w50.cell? ⟨gb308, 0, none⟩ = some (.bool t304) := bc_; have hcz55_1 : w50.cell? ⟨gb308, 1, none⟩ = some (.int .u64 t305) := bc_; have hcz55_2 : w50.cell? ⟨gb308, 2, none⟩ = some (.int .u64 t306) := bc_; have hfz55_0 := blk_frozen BK308.out 0; have hfz55_1 := blk_frozen BK308.out 1; have hfz55_2 := blk_frozen BK308.out 2) | (go_at_call 17; (with_reducible refine (impl_CompareWide.calls kj28 t314 t315 t316 false 0 0 t319 _ A45.out).mono ?_); rintro e w56 ⟨rfl, hb⟩; have n0_ := Aside0.mk (blk_below (g := gb307) (o := .cells #[.bool t301, .int .u64 t302, .int .u64 t303] 30 (0, 0)) (by (with_reducible repeat (first | refine bN_ _ ?_ | refine bd_ ?_ | refine ba_ _ ?_)); refine blk_far ?_ NB307_318.out _; (with_reducible repeat (first | refine bN_ _ ?_ | refine bd_ ?_ | refine ba_ _ ?_)); refine blk_far ?_ NB307_318.out _; (with_reducible repeat (first | refine bN_ _ ?_ | refine bd_ ?_ | refine ba_ _ ?_)); refine blk_far ?_ NB307_318.out _; (with_reducible repeat (first | refine bN_ _ ?_ | refine bd_ ?_ | refine ba_ _ ?_)); exact BK307.out) hb); have n1_ := Aside0.mk (blk_below (g := gb308) (o := .cells #[.bool t304, .int .u64 t305, .int .u64 t306] 30 (0, 0)) (by (with_reducible repeat (first | refine bN_ _ ?_ | refine bd_ ?_ | refine ba_ _ ?_)); refine blk_far ?_ NB308_318.out _; (with_reducible repeat (first | refine bN_ _ ?_ | refine bd_ ?_ | refine ba_ _ ?_)); refine blk_far ?_ NB308_318.out _; (with_reducible repeat (first | refine bN_ _ ?_ | refine bd_ ?_ | refine ba_ _ ?_)); refine blk_far ?_ NB308_318.out _; (with_reducible repeat (first | refine bN_ _ ?_ | refine bd_ ?_ | refine ba_ _ ?_)); exact BK308.out) hb); have n2_ := Aside0.mk (blk_below (g := gb318) (o := .cells #[.bool t314, .int .u64 t315, .int .u64 t316] 30 (0, 0)) (by (with_reducible repeat (first | refine bN_ _ ?_ | refine bd_ ?_ | refine ba_ _ ?_)); refine blk_put (cs := #[.bool t314, .int .u64 t315, .int .u64 0]) ?_ 2 _ rfl; (with_reducible repeat (first | refine bN_ _ ?_ | refine bd_ ?_ | refine ba_ _ ?_)); refine blk_put (cs := #[.bool t314, .int .u64 0, .int .u64 0]) ?_ 1 _ rfl; (with_reducible repeat (first | refine bN_ _ ?_ | refine bd_ ?_ | refine ba_ _ ?_)); refine blk_put (cs := #[.bool false, .int .u64 0, .int .u64 0]) ?_ 0 _ rfl; (with_reducible repeat (first | refine bN_ _ ?_ | refine bd_ ?_ | refine ba_ _ ?_)); exact BK318.out) hb); have n3_ := Aside0.mk (below_step bel_ hb); clear BK307; clear BK308; clear BK318; clear HB; have BK307 := n0_; have BK308 := n1_; have BK318 := n2_; have HB := n3_; clear n0_ n1_ n2_ n3_; (try clear hb); (try clear hb2); (try clear hk); (try clear hi)))
                    go_ret
                    exact ⟨by first | rfl | (simp [errW_none, errW_some] <;> rfl) | (simp [*, errW_none, errW_some] <;> rfl), by repeat (first | (with_reducible first | exact HB.out | apply below_alloc | apply pw_below_drewN | apply below_drew1 | refine below_set ?_ GE307.out | refine below_set ?_ GE308.out | refine below_set ?_ GE318.out) | exact HB.out)⟩
                  · replace c44 := Bool.eq_false_iff.mpr c44
                    subst c44
                    have H1 : (some true) = some r := by rw [if_neg (show ¬ (false = true) by decide)] at H; exact H
                    clear H
                    have H := H1
                    clear H1
                    obtain rfl := Option.some.inj H
                    have hnb57 := NB307_308.out
                    have hnc57 := NB308_307.out
                    have hcz58_0 : wc.cell? ⟨gb307, 0, none⟩ = some (.bool t301) := bc_
                    have hcz58_1 : wc.cell? ⟨gb307, 1, none⟩ = some (.int .u64 t302) := bc_
                    have hcz58_2 : wc.cell? ⟨gb307, 2, none⟩ = some (.int .u64 t303) := bc_
                    have hfz58_0 := blk_frozen BK307.out 0
                    have hfz58_1 := blk_frozen BK307.out 1
                    have hfz58_2 := blk_frozen BK307.out 2
                    have hcz59_0 : wc.cell? ⟨gb308, 0, none⟩ = some (.bool t304) := bc_
                    have hcz59_1 : wc.cell? ⟨gb308, 1, none⟩ = some (.int .u64 t305) := bc_
                    have hcz59_2 : wc.cell? ⟨gb308, 2, none⟩ = some (.int .u64 t306) := bc_
                    have hfz59_0 := blk_frozen BK308.out 0
                    have hfz59_1 := blk_frozen BK308.out 1
                    have hfz59_2 := blk_frozen BK308.out 2
                    go_wp2_with (first | ((with_reducible refine gate_callee (f := 14) rfl ?_); refine goesL_ (some 42) rfl rfl Try.func14 (by kernel_rfl) rfl #[.agg #[.bool t301, .int .u64 t302, .int .u64 t303], .agg #[.bool t304, .int .u64 t305, .int .u64 t306]] rfl mp_ ?_; (with_reducible refine (impl_SubWide.calls kj28 t301 t302 t303 t304 t305 t306 t314 t315 t316 false _ A42.out).mono ?_); rintro e w60 ⟨rfl, hb⟩; refine ⟨_, rfl, ?_⟩; have n0_ := bb_ (g := gb307) (o := .cells #[.bool t301, .int .u64 t302, .int .u64 t303] 30 (0, 0)) hb; have n1_ := bb_ (g := gb308) (o := .cells #[.bool t304, .int .u64 t305, .int .u64 t306] 30 (0, 0)) hb; have n2_ := Aside0.mk (below_step bel_ hb); clear BK307; clear BK308; clear HB; have BK307 := n0_; have BK308 := n1_; have HB := n2_; clear n0_ n1_ n2_; (try clear hb); (try clear hb2); (try clear hk); (try clear hi)) | ((with_reducible refine gate_dst (N := 6) rfl ?_); refine box_event ?hg (N := 6) ?hd (cs := #[.bool false, .int .u64 0, .int .u64 0]) (t := 30) ?hr ?_; (case hd => rfl); (case hg => rfl); (case hr => first | (go_simp; done) | (go_simp; rfl)); intro gb318 hg w61 hbox hb; have n0_ := bb_ (g := gb307) (o := .cells #[.bool t301, .int .u64 t302, .int .u64 t303] 30 (0, 0)) hb; have n1_ := bb_ (g := gb308) (o := .cells #[.bool t304, .int .u64 t305, .int .u64 t306] 30 (0, 0)) hb; have n2_ := Aside0.mk (below_step bel_ hb); have n3_ := Aside0.mk (hbox); have n4_ := Aside0.mk ((by rw [hg]; exact (below_size bel_) : w.heap.size ≤ gb318)); have n5_ := Aside0.mk ((by rw [hg]; exact (below_size bel_) : w.heap.size ≤ gb318)); have n6_ := nlt_ (g := gb307) (o := .cells #[.bool t301, .int .u64 t302, .int .u64 t303] 30 (0, 0)) hg; have n7_ := ngt_ (g := gb307) (o := .cells #[.bool t301, .int .u64 t302, .int .u64 t303] 30 (0, 0)) hg; have n8_ := nlt_ (g := gb308) (o := .cells #[.bool t304, .int .u64 t305, .int .u64 t306] 30 (0, 0)) hg; have n9_ := ngt_ (g := gb308) (o := .cells #[.bool t304, .int .u64 t305, .int .u64 t306] 30 (0, 0)) hg; clear BK307; clear BK308; clear HB; have BK307 := n0_; have BK308 := n1_; have HB := n2_; have BK318 := n3_; have GW318 := n4_; have GE318 := n5_; have NB307_318 := n6_; have NB318_307 := n7_; have NB308_318 := n8_; have NB318_308 := n9_; clear n0_ n1_ n2_ n3_ n4_ n5_ n6_ n7_ n8_ n9_; clear hb hbox hg; have hnb62 := NB318_307.out; have hnc62 := NB307_318.out; have hnb63 := NB318_308.out; have hnc63 := NB308_318.out; have hcz64_0 : w61.cell? ⟨gb318, 0, none⟩ = some (.bool false) := bc_; have hcz64_1 : w61.cell? ⟨gb318, 1, none⟩ = some (.int .u64 0) := bc_; have hcz64_2 : w61.cell? ⟨gb318, 2, none⟩ = some (.int .u64 0) := bc_; have hfz64_0 := blk_frozen BK318.out 0; have hfz64_1 := blk_frozen BK318.out 1; have hfz64_2 := blk_frozen BK318.out 2; have hcz65_0 : w61.cell? ⟨gb307, 0, none⟩ = some (.bool t301) := bc_; have hcz65_1 : w61.cell? ⟨gb307, 1, none⟩ = some (.int .u64 t302) := bc_; have hcz65_2 : w61.cell? ⟨gb307, 2, none⟩ = some (.int .u64 t303) := bc_; have hfz65_0 := blk_frozen BK307.out 0; have hfz65_1 := blk_frozen BK307.out 1; have hfz65_2 := blk_frozen BK307.out 2; have hcz66_0 : w61.cell? ⟨gb308, 0, none⟩ = some (.bool t304) := bc_; have hcz66_1 : w61.cell? ⟨gb308, 1, none⟩ = some (.int .u64 t305) := bc_; have hcz66_2 : w61.cell? ⟨gb308, 2, none⟩ = some (.int .u64 t306) := bc_; have hfz66_0 := blk_frozen BK308.out 0; have hfz66_1 := blk_frozen BK308.out 1; have hfz66_2 := blk_frozen BK308.out 2))
                    go_ret
                    exact ⟨by first | rfl | (simp [errW_none, errW_some] <;> rfl) | (simp [*, errW_none, errW_some] <;> rfl), by repeat (first | (with_reducible first | exact HB.out | apply below_alloc | apply pw_below_drewN | apply below_drew1 | refine below_set ?_ GE307.out | refine below_set ?_ GE308.out | refine below_set ?_ GE318.out) | exact HB.out)⟩
                · rw [if_neg c43] at H
                  have c43b0 : ((t309 == 0) == (t301 == t304 && (t302 == t305 && (t303 == t306)))) = false := by simpa using c43
                  (try (have c43b1 : decide ((t309 == 0) = (t301 == t304 && (t302 == t305 && (t303 == t306)))) = false := by simpa using c43))
                  (try (have c43b2 : ((t309 == 0) == (t301 == t304 && (t302 == t305 && (t303 == t306)))) = false := by simpa using c43))
                  (try (have c43b3 : ¬ ((t309 == 0) = (t301 == t304 && (t302 == t305 && (t303 == t306)))) := by simpa using c43))
                  clear c43
                  exact absurd ((Option.some.inj H).trans hrt.out) (by decide)

/-- THE ONE PURE STATEMENT of laws_FnWideOrder: yours. -/
def laws_FnWideOrder.Pure : Prop := ∀ (l0 : List Int), l0.length ≤ maxLen → l0.length * 1 ≤ 140737488351232 → (∀ x ∈ l0, (Lit.int .u8 x).wf = true) → ∃ k, laws_FnWideOrder.f k l0 = some true
theorem laws_FnWideOrder.walk (P : laws_FnWideOrder.Pure) (a0 : Option Addr) (len0 cap0 : Nat) (z0 : List Int) (w : World) (w0 : (a0 = none ∧ len0 = 0 ∧ cap0 = 0 ∧ z0 = []) ∨ ∃ x, a0 = some x ∧ len0 ≤ cap0 ∧ cap0 ≤ maxLen ∧ z0.length = cap0 ∧ (∀ i, i < z0.length → w.cell? (x.add i) = some (.int .u8 (z0.getD i 0))) ∧ ∀ n ∈ z0, (Lit.int .u8 n).wf = true) (y0 : len0 * 1 ≤ 140737488351232) :
    Calls Try.prog 4 #[.slice a0 len0 cap0] w fun e w' => e = .returned (.bool true) ∧ Below w.heap.size w w' := by
  obtain ⟨l0, rfl, hr0, hm0, hw0, hc0⟩ := ReadsInt.ofRowC w0
  obtain ⟨k, h⟩ := P l0 hm0 y0 hw0
  refine (laws_FnWideOrder.calls k _ _ l0 true w (Kd.C_of_reads (d := (0 : Int)) (h1 := fun _ => rfl) hr0) hc0 h ⟨rfl⟩).mono ?_
  rintro e w' ⟨rfl, hd⟩
  exact ⟨rfl, hd⟩

end Go.Proofs.Ytodbmgnhcglcnaa.PFnWideOrder
