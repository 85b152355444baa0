/- Contracts of Go functions, each with the Lean function that says what it computes: begun by the print, turned by this session. No condition beyond what each theorem states. -/
import Derived.Test.YtodbmgnhcglcnaaPFnFloorx0
import Derived.Test.YtodbmgnhcglcnaaPFnFloorx2
import Derived.Test.YtodbmgnhcglcnaaPFnFloorx3
import Derived.Test.YtodbmgnhcglcnaaPFnFloorx4
import Derived.Test.YtodbmgnhcglcnaaPFnFloorx5
namespace Go.Proofs.Ytodbmgnhcglcnaa.PFnFloor
open Go.RowKit Go.Proofs.YtodbmgnhcglcnaaW.PrintWords Go.Proofs.YtodbmgnhcglcnaaW.PrintLast Go.Proofs.YtodbmgnhcglcnaaW.PrintMore
attribute [local go_sem] max2_int min2_int max_two min_two max_three min_three max_four min_four   -- for this text's walks alone
set_option linter.unusedVariables false
set_option linter.unusedSimpArgs false

/-! ### laws_FnFloor: function 3 -/
def laws_FnFloor.f (k : Nat) (l0 : List Int) : Option (Bool) := (laws_big.f l0).bind fun t243 => (if t243 = true then (some true) else ((spec_DrawFloorDiv.f k l0).bind fun bt244 => ((impl_FloorDiv.f k bt244.1 bt244.2).bind fun bt246 => ((spec_FloorDiv.f k bt244.1 bt244.2).bind fun bt248 => (if (bt246.2 != bt248.2) = true then (some false) else (if bt246.2 = true then ((spec_WideOf.f bt246.1).bind fun bt250 => ((spec_ScaleWide.f bt250.1 bt250.2.1 bt250.2.2 bt244.2).bind fun bt253 => ((spec_WideOf.f bt244.1).bind fun bt258 => ((impl_SubWide.f k bt258.1 bt258.2.1 bt258.2.2 bt253.1 bt253.2.1 bt253.2.2.1).bind fun bt261 => ((impl_IntOf.f bt261.1 bt261.2.1 bt261.2.2.1).bind fun bt266 => (if bt261.2.2.2 = true then (if bt266.2 = true then (if bt244.2 > 0 then (if bt266.1 ≥ 0 then (if bt266.1 < bt244.2 then (some true) else (if bt244.2 < 0 then (if bt266.1 ≤ 0 then (some (decide (bt266.1 > bt244.2))) else (some false)) else (some false))) else (if bt244.2 < 0 then (if bt266.1 ≤ 0 then (some (decide (bt266.1 > bt244.2))) else (some false)) else (some false))) else (if bt244.2 < 0 then (if bt266.1 ≤ 0 then (some (decide (bt266.1 > bt244.2))) else (some false)) else (some false))) else (some false)) else (some false))))))) else (some (bt246.1 == 0))))))))
theorem laws_FnFloor.mono : ∀ a0 k, LeO (laws_FnFloor.f k a0) (laws_FnFloor.f (k + 1) a0) := by
  intro a0 k
  unfold laws_FnFloor.f
  repeat' first
      | (with_reducible exact impl_FloorDiv.mono _ _ _)
      | (with_reducible exact impl_SubWide.mono _ _ _ _ _ _ _)
      | (with_reducible exact spec_DrawFloorDiv.mono _ _)
      | (with_reducible exact spec_FloorDiv.mono _ _ _)
      | (with_reducible exact LeO.refl _)
      | (with_reducible exact LeO.none _)
      | (with_reducible refine LeO.ite ?_ ?_)
      | (with_reducible refine LeO.bind ?_ (fun _ => ?_))
      | exact impl_FloorDiv.mono _ _ _
      | exact impl_SubWide.mono _ _ _ _ _ _ _
      | exact spec_DrawFloorDiv.mono _ _
      | exact spec_FloorDiv.mono _ _ _
      | exact LeO.none _
      | refine LeO.ite ?_ ?_
      | refine LeO.bind ?_ (fun _ => ?_)
def laws_FnFloor.T11 : Bool × List (List Nat × List Nat) := (true, [([], []), ([0], [0]), ([], []), ([1, 2, 1], [1, 2]), ([3], [3]), ([4], [4]), ([4], [4]), ([], []), ([7, 5, 3, 0, 1, 2, 3, 4, 5, 7], [5, 7]), ([6, 8, 0, 1, 2, 3, 4, 5, 6, 7, 8], [6])])
def laws_FnFloor.B11 : List Nat := [0, 1, 0, 7, 15, 31, 31, 0, 191, 511]
theorem laws_FnFloor.tab11 : rtab .any (opsOf Try.f3 11) = laws_FnFloor.T11 := by kernel_rfl
theorem laws_FnFloor.bits11 : waitsOk laws_FnFloor.T11.2 laws_FnFloor.B11 = true := by kernel_rfl
set_option maxHeartbeats 8000000 in
set_option maxRecDepth 100000 in
theorem laws_FnFloor.calls (k : Nat) (A0 : Option Addr) (c0 : Nat) (l0 : List Int) (r : Bool) (w : World) (hr0 : Kd.C (Kd.int .u8) w A0 l0.length l0) (hc0 : l0.length ≤ c0) (h : laws_FnFloor.f k l0 = some r) (hrt : Aside0 (r = true)) :
    Calls Try.prog 3 #[.slice A0 l0.length c0] w fun e w' => e = .returned (.bool r) ∧ Below w.heap.size w w' := by
  have hu30 := Try.underlying30
  have HR0 := Aside0.mk hr0
  have HC0 := Aside0.mk hc0
  clear hr0 hc0
  have HB := Aside0.mk (Below.refl w.heap.size w)
  have H : ((laws_big.f l0).bind fun t243 => (if t243 = true then (some true) else ((spec_DrawFloorDiv.f k l0).bind fun bt244 => ((impl_FloorDiv.f k bt244.1 bt244.2).bind fun bt246 => ((spec_FloorDiv.f k bt244.1 bt244.2).bind fun bt248 => (if (bt246.2 != bt248.2) = true then (some false) else (if bt246.2 = true then ((spec_WideOf.f bt246.1).bind fun bt250 => ((spec_ScaleWide.f bt250.1 bt250.2.1 bt250.2.2 bt244.2).bind fun bt253 => ((spec_WideOf.f bt244.1).bind fun bt258 => ((impl_SubWide.f k bt258.1 bt258.2.1 bt258.2.2 bt253.1 bt253.2.1 bt253.2.2.1).bind fun bt261 => ((impl_IntOf.f bt261.1 bt261.2.1 bt261.2.2.1).bind fun bt266 => (if bt261.2.2.2 = true then (if bt266.2 = true then (if bt244.2 > 0 then (if bt266.1 ≥ 0 then (if bt266.1 < bt244.2 then (some true) else (if bt244.2 < 0 then (if bt266.1 ≤ 0 then (some (decide (bt266.1 > bt244.2))) else (some false)) else (some false))) else (if bt244.2 < 0 then (if bt266.1 ≤ 0 then (some (decide (bt266.1 > bt244.2))) else (some false)) else (some false))) else (if bt244.2 < 0 then (if bt266.1 ≤ 0 then (some (decide (bt266.1 > bt244.2))) else (some false)) else (some false))) else (some false)) else (some false))))))) else (some (bt246.1 == 0))))))))) = some r := h
  clear h
  replace H := Option.bind_eq_some_iff.mp H
  obtain ⟨t243, A20, H⟩ := H
  replace H : (if t243 = true then (some true) else ((spec_DrawFloorDiv.f k l0).bind fun bt244 => ((impl_FloorDiv.f k bt244.1 bt244.2).bind fun bt246 => ((spec_FloorDiv.f k bt244.1 bt244.2).bind fun bt248 => (if (bt246.2 != bt248.2) = true then (some false) else (if bt246.2 = true then ((spec_WideOf.f bt246.1).bind fun bt250 => ((spec_ScaleWide.f bt250.1 bt250.2.1 bt250.2.2 bt244.2).bind fun bt253 => ((spec_WideOf.f bt244.1).bind fun bt258 => ((impl_SubWide.f k bt258.1 bt258.2.1 bt258.2.2 bt253.1 bt253.2.1 bt253.2.2.1).bind fun bt261 => ((impl_IntOf.f bt261.1 bt261.2.1 bt261.2.2.1).bind fun bt266 => (if bt261.2.2.2 = true then (if bt266.2 = true then (if bt244.2 > 0 then (if bt266.1 ≥ 0 then (if bt266.1 < bt244.2 then (some true) else (if bt244.2 < 0 then (if bt266.1 ≤ 0 then (some (decide (bt266.1 > bt244.2))) else (some false)) else (some false))) else (if bt244.2 < 0 then (if bt266.1 ≤ 0 then (some (decide (bt266.1 > bt244.2))) else (some false)) else (some false))) else (if bt244.2 < 0 then (if bt266.1 ≤ 0 then (some (decide (bt266.1 > bt244.2))) else (some false)) else (some false))) else (some false)) else (some false))))))) else (some (bt246.1 == 0)))))))) = some r := H
  have A2 := Aside0.mk A20
  clear A20
  by_cases c3 : t243 = true
  · subst c3
    have H1 : (some true) = some r := by rw [if_pos rfl] at H; exact H
    clear H
    have H := H1
    clear H1
    obtain rfl := Option.some.inj H
    go_enter Try.func3, Try.ntmps3
    go_wp2_with (first | ((with_reducible refine gate_callee (f := 8) rfl ?_); refine goesL_ (some 16) rfl rfl Try.func8 (by kernel_rfl) rfl #[.slice A0 l0.length c0] rfl mp_ ?_; (with_reducible refine (laws_big.calls _ _ l0 true _ ?side1 ?side2 A2.out).mono ?_); (case side1 => repeat (first | exact HR0.out | (with_reducible refine Kd.C_alloc ?_ _) | (with_reducible refine Kd.C_drewN ?_ _) | (with_reducible refine Kd.C_drew ?_))); (case side2 => exact HC0.out); rintro e w' ⟨rfl, ⟨nd, rfl⟩⟩; refine ⟨_, rfl, ?_⟩))
    go_ret
    exact ⟨by first | rfl | (simp [errW_none, errW_some] <;> rfl) | (simp [*, errW_none, errW_some] <;> rfl), by repeat (first | (with_reducible first | exact HB.out | apply below_alloc | apply pw_below_drewN | apply below_drew1) | exact HB.out)⟩
  · replace c3 := Bool.eq_false_iff.mpr c3
    subst c3
    have H1 : ((spec_DrawFloorDiv.f k l0).bind fun bt244 => ((impl_FloorDiv.f k bt244.1 bt244.2).bind fun bt246 => ((spec_FloorDiv.f k bt244.1 bt244.2).bind fun bt248 => (if (bt246.2 != bt248.2) = true then (some false) else (if bt246.2 = true then ((spec_WideOf.f bt246.1).bind fun bt250 => ((spec_ScaleWide.f bt250.1 bt250.2.1 bt250.2.2 bt244.2).bind fun bt253 => ((spec_WideOf.f bt244.1).bind fun bt258 => ((impl_SubWide.f k bt258.1 bt258.2.1 bt258.2.2 bt253.1 bt253.2.1 bt253.2.2.1).bind fun bt261 => ((impl_IntOf.f bt261.1 bt261.2.1 bt261.2.2.1).bind fun bt266 => (if bt261.2.2.2 = true then (if bt266.2 = true then (if bt244.2 > 0 then (if bt266.1 ≥ 0 then (if bt266.1 < bt244.2 then (some true) else (if bt244.2 < 0 then (if bt266.1 ≤ 0 then (some (decide (bt266.1 > bt244.2))) else (some false)) else (some false))) else (if bt244.2 < 0 then (if bt266.1 ≤ 0 then (some (decide (bt266.1 > bt244.2))) else (some false)) else (some false))) else (if bt244.2 < 0 then (if bt266.1 ≤ 0 then (some (decide (bt266.1 > bt244.2))) else (some false)) else (some false))) else (some false)) else (some false))))))) else (some (bt246.1 == 0))))))) = some r := by rw [if_neg (show ¬ (false = true) by decide)] at H; exact H
    clear H
    have H := H1
    clear H1
    replace H := Option.bind_eq_some_iff.mp H
    obtain ⟨⟨t244, t245⟩, A40, H⟩ := H
    replace H : ((impl_FloorDiv.f k t244 t245).bind fun bt246 => ((spec_FloorDiv.f k t244 t245).bind fun bt248 => (if (bt246.2 != bt248.2) = true then (some false) else (if bt246.2 = true then ((spec_WideOf.f bt246.1).bind fun bt250 => ((spec_ScaleWide.f bt250.1 bt250.2.1 bt250.2.2 t245).bind fun bt253 => ((spec_WideOf.f t244).bind fun bt258 => ((impl_SubWide.f k bt258.1 bt258.2.1 bt258.2.2 bt253.1 bt253.2.1 bt253.2.2.1).bind fun bt261 => ((impl_IntOf.f bt261.1 bt261.2.1 bt261.2.2.1).bind fun bt266 => (if bt261.2.2.2 = true then (if bt266.2 = true then (if t245 > 0 then (if bt266.1 ≥ 0 then (if bt266.1 < t245 then (some true) else (if t245 < 0 then (if bt266.1 ≤ 0 then (some (decide (bt266.1 > t245))) else (some false)) else (some false))) else (if t245 < 0 then (if bt266.1 ≤ 0 then (some (decide (bt266.1 > t245))) else (some false)) else (some false))) else (if t245 < 0 then (if bt266.1 ≤ 0 then (some (decide (bt266.1 > t245))) else (some false)) else (some false))) else (some false)) else (some false))))))) else (some (bt246.1 == 0)))))) = some r := H
    have A4 := Aside0.mk A40
    clear A40
    replace H := Option.bind_eq_some_iff.mp H
    obtain ⟨⟨t246, t247⟩, A50, H⟩ := H
    replace H : ((spec_FloorDiv.f k t244 t245).bind fun bt248 => (if (t247 != bt248.2) = true then (some false) else (if t247 = true then ((spec_WideOf.f t246).bind fun bt250 => ((spec_ScaleWide.f bt250.1 bt250.2.1 bt250.2.2 t245).bind fun bt253 => ((spec_WideOf.f t244).bind fun bt258 => ((impl_SubWide.f k bt258.1 bt258.2.1 bt258.2.2 bt253.1 bt253.2.1 bt253.2.2.1).bind fun bt261 => ((impl_IntOf.f bt261.1 bt261.2.1 bt261.2.2.1).bind fun bt266 => (if bt261.2.2.2 = true then (if bt266.2 = true then (if t245 > 0 then (if bt266.1 ≥ 0 then (if bt266.1 < t245 then (some true) else (if t245 < 0 then (if bt266.1 ≤ 0 then (some (decide (bt266.1 > t245))) else (some false)) else (some false))) else (if t245 < 0 then (if bt266.1 ≤ 0 then (some (decide (bt266.1 > t245))) else (some false)) else (some false))) else (if t245 < 0 then (if bt266.1 ≤ 0 then (some (decide (bt266.1 > t245))) else (some false)) else (some false))) else (some false)) else (some false))))))) else (some (t246 == 0))))) = some r := H
    have A5 := Aside0.mk A50
    clear A50
    replace H := Option.bind_eq_some_iff.mp H
    obtain ⟨⟨t248, t249⟩, A60, H⟩ := H
    replace H : (if (t247 != t249) = true then (some false) else (if t247 = true then ((spec_WideOf.f t246).bind fun bt250 => ((spec_ScaleWide.f bt250.1 bt250.2.1 bt250.2.2 t245).bind fun bt253 => ((spec_WideOf.f t244).bind fun bt258 => ((impl_SubWide.f k bt258.1 bt258.2.1 bt258.2.2 bt253.1 bt253.2.1 bt253.2.2.1).bind fun bt261 => ((impl_IntOf.f bt261.1 bt261.2.1 bt261.2.2.1).bind fun bt266 => (if bt261.2.2.2 = true then (if bt266.2 = true then (if t245 > 0 then (if bt266.1 ≥ 0 then (if bt266.1 < t245 then (some true) else (if t245 < 0 then (if bt266.1 ≤ 0 then (some (decide (bt266.1 > t245))) else (some false)) else (some false))) else (if t245 < 0 then (if bt266.1 ≤ 0 then (some (decide (bt266.1 > t245))) else (some false)) else (some false))) else (if t245 < 0 then (if bt266.1 ≤ 0 then (some (decide (bt266.1 > t245))) else (some false)) else (some false))) else (some false)) else (some false))))))) else (some (t246 == 0)))) = some r := H
    have A6 := Aside0.mk A60
    clear A60
    by_cases c7 : (t247 != t249) = true
    · rw [if_pos c7] at H
      have c7b0 : (t247 != t249) = true := c7
      (try (have c7b1 : decide (t247 = t249) = false := by simpa using c7))
      (try (have c7b2 : (t247 == t249) = false := by simpa using c7))
      (try (have c7b3 : ¬ (t247 = t249) := by simpa using c7))
      clear c7
      exact absurd ((Option.some.inj H).trans hrt.out) (by decide)
    · rw [if_neg c7] at H
      have c7b0 : (t247 != t249) = false := by simpa using c7
      (try (have c7b1 : decide (t247 = t249) = true := by simpa using c7))
      (try (have c7b2 : (t247 == t249) = true := by simpa using c7))
      clear c7
      by_cases c8 : t247 = true
      · subst c8
        have H1 : ((spec_WideOf.f t246).bind fun bt250 => ((spec_ScaleWide.f bt250.1 bt250.2.1 bt250.2.2 t245).bind fun bt253 => ((spec_WideOf.f t244).bind fun bt258 => ((impl_SubWide.f k bt258.1 bt258.2.1 bt258.2.2 bt253.1 bt253.2.1 bt253.2.2.1).bind fun bt261 => ((impl_IntOf.f bt261.1 bt261.2.1 bt261.2.2.1).bind fun bt266 => (if bt261.2.2.2 = true then (if bt266.2 = true then (if t245 > 0 then (if bt266.1 ≥ 0 then (if bt266.1 < t245 then (some true) else (if t245 < 0 then (if bt266.1 ≤ 0 then (some (decide (bt266.1 > t245))) else (some false)) else (some false))) else (if t245 < 0 then (if bt266.1 ≤ 0 then (some (decide (bt266.1 > t245))) else (some false)) else (some false))) else (if t245 < 0 then (if bt266.1 ≤ 0 then (some (decide (bt266.1 > t245))) else (some false)) else (some false))) else (some false)) else (some false))))))) = some r := by rw [if_pos rfl] at H; exact H
        clear H
        have H := H1
        clear H1
        replace H := Option.bind_eq_some_iff.mp H
        obtain ⟨⟨t250, t251, t252⟩, A90, H⟩ := H
        replace H : ((spec_ScaleWide.f t250 t251 t252 t245).bind fun bt253 => ((spec_WideOf.f t244).bind fun bt258 => ((impl_SubWide.f k bt258.1 bt258.2.1 bt258.2.2 bt253.1 bt253.2.1 bt253.2.2.1).bind fun bt261 => ((impl_IntOf.f bt261.1 bt261.2.1 bt261.2.2.1).bind fun bt266 => (if bt261.2.2.2 = true then (if bt266.2 = true then (if t245 > 0 then (if bt266.1 ≥ 0 then (if bt266.1 < t245 then (some true) else (if t245 < 0 then (if bt266.1 ≤ 0 then (some (decide (bt266.1 > t245))) else (some false)) else (some false))) else (if t245 < 0 then (if bt266.1 ≤ 0 then (some (decide (bt266.1 > t245))) else (some false)) else (some false))) else (if t245 < 0 then (if bt266.1 ≤ 0 then (some (decide (bt266.1 > t245))) else (some false)) else (some false))) else (some false)) else (some false)))))) = some r := H
        have A9 := Aside0.mk A90
        clear A90
        replace H := Option.bind_eq_some_iff.mp H
        obtain ⟨⟨t253, t254, t255, t256⟩, A100, H⟩ := H
        replace H : ((spec_WideOf.f t244).bind fun bt258 => ((impl_SubWide.f k bt258.1 bt258.2.1 bt258.2.2 t253 t254 t255).bind fun bt261 => ((impl_IntOf.f bt261.1 bt261.2.1 bt261.2.2.1).bind fun bt266 => (if bt261.2.2.2 = true then (if bt266.2 = true then (if t245 > 0 then (if bt266.1 ≥ 0 then (if bt266.1 < t245 then (some true) else (if t245 < 0 then (if bt266.1 ≤ 0 then (some (decide (bt266.1 > t245))) else (some false)) else (some false))) else (if t245 < 0 then (if bt266.1 ≤ 0 then (some (decide (bt266.1 > t245))) else (some false)) else (some false))) else (if t245 < 0 then (if bt266.1 ≤ 0 then (some (decide (bt266.1 > t245))) else (some false)) else (some false))) else (some false)) else (some false))))) = some r := H
        have A10 := Aside0.mk A100
        clear A100
        replace H := Option.bind_eq_some_iff.mp H
        obtain ⟨⟨t258, t259, t260⟩, A110, H⟩ := H
        replace H : ((impl_SubWide.f k t258 t259 t260 t253 t254 t255).bind fun bt261 => ((impl_IntOf.f bt261.1 bt261.2.1 bt261.2.2.1).bind fun bt266 => (if bt261.2.2.2 = true then (if bt266.2 = true then (if t245 > 0 then (if bt266.1 ≥ 0 then (if bt266.1 < t245 then (some true) else (if t245 < 0 then (if bt266.1 ≤ 0 then (some (decide (bt266.1 > t245))) else (some false)) else (some false))) else (if t245 < 0 then (if bt266.1 ≤ 0 then (some (decide (bt266.1 > t245))) else (some false)) else (some false))) else (if t245 < 0 then (if bt266.1 ≤ 0 then (some (decide (bt266.1 > t245))) else (some false)) else (some false))) else (some false)) else (some false)))) = some r := H
        have A11 := Aside0.mk A110
        clear A110
        replace H := Option.bind_eq_some_iff.mp H
        obtain ⟨⟨t261, t262, t263, t264⟩, A120, H⟩ := H
        replace H : ((impl_IntOf.f t261 t262 t263).bind fun bt266 => (if t264 = true then (if bt266.2 = true then (if t245 > 0 then (if bt266.1 ≥ 0 then (if bt266.1 < t245 then (some true) else (if t245 < 0 then (if bt266.1 ≤ 0 then (some (decide (bt266.1 > t245))) else (some false)) else (some false))) else (if t245 < 0 then (if bt266.1 ≤ 0 then (some (decide (bt266.1 > t245))) else (some false)) else (some false))) else (if t245 < 0 then (if bt266.1 ≤ 0 then (some (decide (bt266.1 > t245))) else (some false)) else (some false))) else (some false)) else (some false))) = some r := H
        have A12 := Aside0.mk A120
        clear A120
        replace H := Option.bind_eq_some_iff.mp H
        obtain ⟨⟨t266, t267⟩, A130, H⟩ := H
        replace H : (if t264 = true then (if t267 = true then (if t245 > 0 then (if t266 ≥ 0 then (if t266 < t245 then (some true) else (if t245 < 0 then (if t266 ≤ 0 then (some (decide (t266 > t245))) else (some false)) else (some false))) else (if t245 < 0 then (if t266 ≤ 0 then (some (decide (t266 > t245))) else (some false)) else (some false))) else (if t245 < 0 then (if t266 ≤ 0 then (some (decide (t266 > t245))) else (some false)) else (some false))) else (some false)) else (some false)) = some r := H
        have A13 := Aside0.mk A130
        clear A130
        by_cases c14 : t264 = true
        · subst c14
          have H1 : (if t267 = true then (if t245 > 0 then (if t266 ≥ 0 then (if t266 < t245 then (some true) else (if t245 < 0 then (if t266 ≤ 0 then (some (decide (t266 > t245))) else (some false)) else (some false))) else (if t245 < 0 then (if t266 ≤ 0 then (some (decide (t266 > t245))) else (some false)) else (some false))) else (if t245 < 0 then (if t266 ≤ 0 then (some (decide (t266 > t245))) else (some false)) else (some false))) else (some false)) = some r := by rw [if_pos rfl] at H; exact H
          clear H
          have H := H1
          clear H1
          by_cases c15 : t267 = true
          · subst c15
            have H1 : (if t245 > 0 then (if t266 ≥ 0 then (if t266 < t245 then (some true) else (if t245 < 0 then (if t266 ≤ 0 then (some (decide (t266 > t245))) else (some false)) else (some false))) else (if t245 < 0 then (if t266 ≤ 0 then (some (decide (t266 > t245))) else (some false)) else (some false))) else (if t245 < 0 then (if t266 ≤ 0 then (some (decide (t266 > t245))) else (some false)) else (some false))) = some r := by rw [if_pos rfl] at H; exact H
            clear H
            have H := H1
            clear H1
            by_cases c16 : t245 > 0
            · rw [if_pos c16] at H
              have c16b0 : decide (0 < t245) = true := decide_eq_true c16
              clear c16
              by_cases c17 : t266 ≥ 0
              · rw [if_pos c17] at H
                have c17b0 : decide (0 ≤ t266) = true := decide_eq_true c17
                clear c17
                by_cases c18 : t266 < t245
                · rw [if_pos c18] at H
                  have c18b0 : decide (t266 < t245) = true := decide_eq_true c18
                  clear c18
                  obtain rfl := Option.some.inj H
                  go_enter Try.func3, Try.ntmps3
                  try go_wp2_with (first | ((with_reducible refine gate_callee (f := 8) rfl ?_); refine goesL_ (some 16) rfl rfl Try.func8 (by kernel_rfl) rfl #[.slice A0 l0.length c0] rfl mp_ ?_; (with_reducible refine (laws_big.calls _ _ l0 false _ ?side1 ?side2 A2.out).mono ?_); (case side1 => repeat (first | exact HR0.out | (with_reducible refine Kd.C_alloc ?_ _) | (with_reducible refine Kd.C_drewN ?_ _) | (with_reducible refine Kd.C_drew ?_))); (case side2 => exact HC0.out); rintro e w' ⟨rfl, ⟨nd, rfl⟩⟩; refine ⟨_, rfl, ?_⟩) | ((with_reducible refine gate_callee (f := 9) rfl ?_); refine goesL_ (some 19) rfl rfl Try.func9 (by kernel_rfl) rfl #[.slice A0 l0.length c0] rfl mp_ ?_; (with_reducible refine (spec_DrawFloorDiv.calls k _ _ l0 t244 t245 _ ?side1 ?side2 A4.out).mono ?_); (case side1 => repeat (first | exact HR0.out | (with_reducible refine Kd.C_alloc ?_ _) | (with_reducible refine Kd.C_drewN ?_ _) | (with_reducible refine Kd.C_drew ?_))); (case side2 => exact HC0.out); rintro e w19 ⟨rfl, hb⟩; refine ⟨_, rfl, ?_⟩; have n0_ := Aside0.mk (below_step bel_ hb); clear HB; have HB := n0_; clear n0_; (try clear hb); (try clear hb2); (try clear hk); (try clear hi)) | ((with_reducible refine gate_callee (f := 10) rfl ?_); refine goesL_ (some 25) rfl rfl Try.func10 (by kernel_rfl) rfl #[.int .i64 t244, .int .i64 t245] rfl mp_ ?_; (with_reducible refine (impl_FloorDiv.calls k t244 t245 t246 true _ A5.out).mono ?_); rintro e w' ⟨rfl, ⟨nd, rfl⟩⟩; refine ⟨_, rfl, ?_⟩; (try (rw [drewN_self w19]; generalize hq_ : World.drewN w19 _ = w19; have n0_ : Aside0 (Below w.heap.size w w19) := ⟨by rw [← hq_]; exact bel_⟩; clear HB hq_; have HB := n0_; clear n0_))) | ((with_reducible refine gate_callee (f := 11) rfl ?_); refine goesL_ (some 31) rfl rfl Try.func11 (by kernel_rfl) rfl #[.int .i64 t244, .int .i64 t245] rfl mp_ ?_; (with_reducible refine (spec_FloorDiv.calls k t244 t245 t248 t249 _ A6.out).mono ?_); rintro e w' ⟨rfl, ⟨nd, rfl⟩⟩; refine ⟨_, rfl, ?_⟩; (try (rw [drewN_self w19]; generalize hq_ : World.drewN w19 _ = w19; have n0_ : Aside0 (Below w.heap.size w w19) := ⟨by rw [← hq_]; exact bel_⟩; clear HB hq_; have HB := n0_; clear n0_))) | ((with_reducible refine gate_callee (f := 13) rfl ?_); refine goesL_ (some 43) rfl rfl Try.func13 (by kernel_rfl) rfl #[.int .i64 t246] rfl mp_ ?_; (with_reducible refine (spec_WideOf.calls t246 t250 t251 t252 _ A9.out).mono ?_); rintro e w20 ⟨rfl, hb⟩; refine ⟨_, rfl, ?_⟩; have n0_ := Aside0.mk (below_step bel_ hb); clear HB; have HB := n0_; clear n0_; (try clear hb); (try clear hb2); (try clear hk); (try clear hi)) | ((with_reducible refine gate_callee (f := 12) rfl ?_); refine goesL_ (some 45) rfl rfl Try.func12 (by kernel_rfl) rfl #[.agg #[.bool t250, .int .u64 t251, .int .u64 t252], .int .i64 t245] rfl mp_ ?_; (with_reducible refine (spec_ScaleWide.calls t250 t251 t252 t245 t253 t254 t255 t256 _ A10.out).mono ?_); rintro e w21 ⟨rfl, hb⟩; refine ⟨_, rfl, ?_⟩; have n0_ := Aside0.mk (below_step bel_ hb); clear HB; have HB := n0_; clear n0_; (try clear hb); (try clear hb2); (try clear hk); (try clear hi)) | ((with_reducible refine gate_dst (N := 9) rfl ?_); refine box_event ?hg (N := 9) ?hd (cs := #[.bool false, .int .u64 0, .int .u64 0]) (t := 30) ?hr ?_; (case hd => rfl); (case hg => rfl); (case hr => first | (go_simp; done) | (go_simp; rfl)); intro gb257 hg w22 hbox hb; have n0_ := Aside0.mk (below_step bel_ hb); have n1_ := Aside0.mk (hbox); have n2_ := Aside0.mk ((by rw [hg]; exact (below_size bel_) : w.heap.size ≤ gb257)); have n3_ := Aside0.mk ((by rw [hg]; exact (below_size bel_) : w.heap.size ≤ gb257)); clear HB; have HB := n0_; have BK257 := n1_; have GW257 := n2_; have GE257 := n3_; clear n0_ n1_ n2_ n3_; clear hb hbox hg; have hcz23_0 : w22.cell? ⟨gb257, 0, none⟩ = some (.bool false) := bc_; have hcz23_1 : w22.cell? ⟨gb257, 1, none⟩ = some (.int .u64 0) := bc_; have hcz23_2 : w22.cell? ⟨gb257, 2, none⟩ = some (.int .u64 0) := bc_; have hfz23_0 := blk_frozen BK257.out 0; have hfz23_1 := blk_frozen BK257.out 1; have hfz23_2 := blk_frozen BK257.out 2))
                  have n0_ : Aside0 ((((w22.setCell ⟨gb257, 0, none⟩ (.bool t253)).setCell ⟨gb257, 1, none⟩ (.int .u64 t254)).setCell ⟨gb257, 2, none⟩ (.int .u64 t255)).heap[gb257]? = some (.cells #[.bool t253, .int .u64 t254, .int .u64 t255] 30 (0, 0))) := ⟨by (with_reducible repeat (first | refine bN_ _ ?_ | refine bd_ ?_ | refine ba_ _ ?_)); refine blk_put (cs := #[.bool t253, .int .u64 t254, .int .u64 0]) ?_ 2 _ rfl; (with_reducible repeat (first | refine bN_ _ ?_ | refine bd_ ?_ | refine ba_ _ ?_)); refine blk_put (cs := #[.bool t253, .int .u64 0, .int .u64 0]) ?_ 1 _ rfl; (with_reducible repeat (first | refine bN_ _ ?_ | refine bd_ ?_ | refine ba_ _ ?_)); refine blk_put (cs := #[.bool false, .int .u64 0, .int .u64 0]) ?_ 0 _ rfl; (with_reducible repeat (first | refine bN_ _ ?_ | refine bd_ ?_ | refine ba_ _ ?_)); exact BK257.out⟩
                  have n1_ : Aside0 (Below w.heap.size w (((w22.setCell ⟨gb257, 0, none⟩ (.bool t253)).setCell ⟨gb257, 1, none⟩ (.int .u64 t254)).setCell ⟨gb257, 2, none⟩ (.int .u64 t255))) := ⟨by repeat (first | (with_reducible first | exact HB.out | apply below_alloc | apply pw_below_drewN | apply below_drew1 | refine below_set ?_ GE257.out) | exact HB.out)⟩
                  (try clear BK257)
                  (try clear HB)
                  generalize (((w22.setCell ⟨gb257, 0, none⟩ (.bool t253)).setCell ⟨gb257, 1, none⟩ (.int .u64 t254)).setCell ⟨gb257, 2, none⟩ (.int .u64 t255)) = w24 at n0_ n1_ ⊢
                  have BK257 := n0_
                  have HB := n1_
                  clear n0_ n1_
                  have n0_ := Aside0.mk (blk_drew BK257.out)
                  have n1_ := Aside0.mk (below_drew1 HB.out)
                  clear BK257
                  clear HB
                  have BK257 := n0_
                  have HB := n1_
                  clear n0_ n1_
                  refine start_ (n := 10) (S := fun w' => w'.cell? ⟨gb257, 0, none⟩ = some (.bool t253) ∧ w'.cell? ⟨gb257, 1, none⟩ = some (.int .u64 t254) ∧ w'.cell? ⟨gb257, 2, none⟩ = some (.int .u64 t255)) (ds := []) #[false, false, false, false, false, false, false, false, false, false] (by kernel_rfl) rfl rfl ⟨bc_, bc_, bc_⟩ (fun hHeld => ?_); refine with_tabW laws_FnFloor.tab11 laws_FnFloor.bits11 (fun HT_ HW_ => ?_)
                  generalize w24.drew = w25 at BK257 HB hHeld ⊢
                  refine pure_ (i := 0) (N := some 49) (v := ?_) (a' := ?_) #[true, false, false, false, false, false, false, false, false, false] rfl rfl (any_of HT_.out (by kernel_rfl)) (fun _ _ _ h => h) (Or.inl ⟨by rfl, ?_⟩) ?_ ?_
                  rotate_left
                  · intro w'
                    go_simp
                    with_reducible rfl
                  rotate_left
                  · simp only [Act.put, la_, lb_, lc_, i64_w, i32_w]
                    rfl
                  refine take_ (i := 2) (N := some 51) (v := ?_) (a' := ?_) #[true, false, true, false, false, false, false, false, false, false] rfl rfl (take_ofW HT_.out HW_.out (by kernel_rfl)) (fun _ _ _ h => h) (Or.inl ⟨by rfl, ?_⟩) hHeld ?_ ?_
                  rotate_left
                  · rintro w' ⟨s0, s1, s2⟩
                    go_simp
                    with_reducible rfl
                  rotate_left
                  · simp only [Act.put, la_, lb_, lc_, i64_w, i32_w]
                    rfl
                  refine join_ (σ := Nat) 2 #[true, true, true, true, true, true, true, true, false, false] (fun s_ => [(50, .agg #[.bool t258, .int .u64 t259, .int .u64 t260]), (52, .tuple #[.agg #[.bool t261, .int .u64 t262, .int .u64 t263], .bool true]), (11, .pointer (some ⟨s_, 0, none⟩)), (48, .tuple #[.agg #[.bool t261, .int .u64 t262, .int .u64 t263], .bool true]), (53, .agg #[.bool t261, .int .u64 t262, .int .u64 t263]), (54, .bool true)]) (fun s_ w' => (w'.cell? ⟨gb257, 0, none⟩ = some (.bool t253) ∧ w'.cell? ⟨gb257, 1, none⟩ = some (.int .u64 t254) ∧ w'.cell? ⟨gb257, 2, none⟩ = some (.int .u64 t255)) ∧ (w'.heap[gb257]? = some (.cells #[.bool t253, .int .u64 t254, .int .u64 t255] 30 (0, 0))) ∧ (w'.heap[s_]? = some (.cells #[.bool false, .int .u64 0, .int .u64 0] 30 (0, 0))) ∧ (w.heap.size ≤ s_) ∧ (w.heap.size ≤ s_) ∧ (gb257 ≠ s_) ∧ (s_ ≠ gb257) ∧ (Below w.heap.size w w')) ?_ ?_
                  rotate_left
                  · intro hCont
                    refine two_ (i := 1) (j := 7) (Ni := some 50) (Nj := some 11) #[true, true, true, false, false, false, false, false, false, false] #[true, false, true, false, false, false, false, true, false, false] rfl rfl rfl rfl (two_of HT_.out (by kernel_rfl)) (by decide) (by decide) (fun K hK => ?_) (fun K hK => ?_)
                    · skip
                      refine goes_ Try.func13 (by kernel_rfl) rfl #[.int .i64 t244] (by rfl) rfl rfl mp_ ?_
                      with_reducible refine (spec_WideOf.calls t244 t258 t259 t260 _ A11.out).mono ?_
                      rintro e w26 ⟨rfl, hb⟩
                      refine ⟨_, rfl, ?_⟩
                      have n0_ := bb_ (g := gb257) (o := .cells #[.bool t253, .int .u64 t254, .int .u64 t255] 30 (0, 0)) hb
                      have n1_ := Aside0.mk (below_step bel_ hb)
                      clear BK257
                      clear HB
                      have BK257 := n0_
                      have HB := n1_
                      clear n0_ n1_
                      (try clear hb)
                      (try clear hb2)
                      (try clear hk)
                      (try clear hi)
                      refine hK.out _ _ ⟨bc_, bc_, bc_⟩ (fun hHeld => ?_)
                      clear hK K
                      refine norm_ (a' := ?_) ?_ ?_
                      rotate_left
                      · show Act.put _ (some 50) _ = _
                        simp only [Act.put, la_, lb_, lc_, i64_w, i32_w]
                        rfl
                      refine two_ (i := 3) (j := 7) (Ni := some 52) (Nj := some 11) #[true, true, true, true, false, false, false, false, false, false] #[true, true, true, false, false, false, false, true, false, false] rfl rfl rfl rfl (two_of HT_.out (by kernel_rfl)) (by decide) (by decide) (fun K hK => ?_) (fun K hK => ?_)
                      · skip
                        refine goes_ Try.func14 (by kernel_rfl) rfl #[.agg #[.bool t258, .int .u64 t259, .int .u64 t260], .agg #[.bool t253, .int .u64 t254, .int .u64 t255]] (by rfl) rfl rfl mp_ ?_
                        with_reducible refine (impl_SubWide.calls k t258 t259 t260 t253 t254 t255 t261 t262 t263 true _ A12.out).mono ?_
                        rintro e w27 ⟨rfl, hb⟩
                        refine ⟨_, rfl, ?_⟩
                        have n0_ := bb_ (g := gb257) (o := .cells #[.bool t253, .int .u64 t254, .int .u64 t255] 30 (0, 0)) hb
                        have n1_ := Aside0.mk (below_step bel_ hb)
                        clear BK257
                        clear HB
                        have BK257 := n0_
                        have HB := n1_
                        clear n0_ n1_
                        (try clear hb)
                        (try clear hb2)
                        (try clear hk)
                        (try clear hi)
                        refine hK.out _ _ ⟨bc_, bc_, bc_⟩ (fun hHeld => ?_)
                        clear hK K
                        refine norm_ (a' := ?_) ?_ ?_
                        rotate_left
                        · show Act.put _ (some 52) _ = _
                          simp only [Act.put, la_, lb_, lc_, i64_w, i32_w]
                          rfl
                        refine pure_ (i := 4) (N := some 48) (v := ?_) (a' := ?_) #[true, true, true, true, true, false, false, false, false, false] rfl rfl (any_of HT_.out (by kernel_rfl)) (fun _ _ _ h => h) (Or.inl ⟨by rfl, ?_⟩) ?_ ?_
                        rotate_left
                        · intro w'
                          go_simp
                          with_reducible rfl
                        rotate_left
                        · simp only [Act.put, la_, lb_, lc_, i64_w, i32_w]
                          rfl
                        refine pure_ (i := 5) (N := some 53) (v := ?_) (a' := ?_) #[true, true, true, true, true, true, false, false, false, false] rfl rfl (any_of HT_.out (by kernel_rfl)) (fun _ _ _ h => h) (Or.inl ⟨by rfl, ?_⟩) ?_ ?_
                        rotate_left
                        · intro w'
                          go_simp
                          with_reducible rfl
                        rotate_left
                        · simp only [Act.put, la_, lb_, lc_, i64_w, i32_w]
                          rfl
                        refine pure_ (i := 6) (N := some 54) (v := ?_) (a' := ?_) #[true, true, true, true, true, true, true, false, false, false] rfl rfl (any_of HT_.out (by kernel_rfl)) (fun _ _ _ h => h) (Or.inl ⟨by rfl, ?_⟩) ?_ ?_
                        rotate_left
                        · intro w'
                          go_simp
                          with_reducible rfl
                        rotate_left
                        · simp only [Act.put, la_, lb_, lc_, i64_w, i32_w]
                          rfl
                        refine one_ (i := 7) (N := some 11) #[true, true, true, true, true, true, true, true, false, false] rfl rfl (one_of HT_.out (by kernel_rfl)) (by decide) (fun K hK => ?_)
                        refine box_step ?hg (N := 11) ?hd (cs := #[.bool false, .int .u64 0, .int .u64 0]) (t := 30) ?hr ?_; (case hd => rfl); (case hg => rfl); (case hr => first | (go_simp; done) | (go_simp; rfl))
                        intro gb265 hg w28 hbox hb
                        have n0_ := bb_ (g := gb257) (o := .cells #[.bool t253, .int .u64 t254, .int .u64 t255] 30 (0, 0)) hb
                        have n1_ := Aside0.mk (below_step bel_ hb)
                        have n2_ := Aside0.mk (hbox)
                        have n3_ := Aside0.mk ((by rw [hg]; exact (below_size bel_) : w.heap.size ≤ gb265))
                        have n4_ := Aside0.mk ((by rw [hg]; exact (below_size bel_) : w.heap.size ≤ gb265))
                        have n5_ := nlt_ (g := gb257) (o := .cells #[.bool t253, .int .u64 t254, .int .u64 t255] 30 (0, 0)) hg
                        have n6_ := ngt_ (g := gb257) (o := .cells #[.bool t253, .int .u64 t254, .int .u64 t255] 30 (0, 0)) hg
                        clear BK257
                        clear HB
                        have BK257 := n0_
                        have HB := n1_
                        have BK265 := n2_
                        have GW265 := n3_
                        have GE265 := n4_
                        have NB257_265 := n5_
                        have NB265_257 := n6_
                        clear n0_ n1_ n2_ n3_ n4_ n5_ n6_
                        clear hb hbox hg
                        refine hK.out _ _ ⟨bc_, bc_, bc_⟩ (fun hHeld => ?_)
                        clear hK K
                        refine norm_ (a' := ?_) ?_ ?_
                        rotate_left
                        · show Act.put _ (some 11) _ = _
                          simp only [Act.put, la_, lb_, lc_, i64_w, i32_w]
                          rfl
                        exact norm_ (by simp only [putAll, Act.put, la_, lb_, lc_]) (hCont (gb265) _ ⟨hHeld, (by (with_reducible repeat (first | refine bN_ _ ?_ | refine bd_ ?_ | refine ba_ _ ?_)); exact BK257.out), (by (with_reducible repeat (first | refine bN_ _ ?_ | refine bd_ ?_ | refine ba_ _ ?_)); exact BK265.out), GW265.out, GE265.out, NB257_265.out, NB265_257.out, bel_⟩)
                      · skip
                        refine box_step ?hg (N := 11) ?hd (cs := #[.bool false, .int .u64 0, .int .u64 0]) (t := 30) ?hr ?_; (case hd => rfl); (case hg => rfl); (case hr => first | (go_simp; done) | (go_simp; rfl))
                        intro gb265 hg w27 hbox hb
                        have n0_ := bb_ (g := gb257) (o := .cells #[.bool t253, .int .u64 t254, .int .u64 t255] 30 (0, 0)) hb
                        have n1_ := Aside0.mk (below_step bel_ hb)
                        have n2_ := Aside0.mk (hbox)
                        have n3_ := Aside0.mk ((by rw [hg]; exact (below_size bel_) : w.heap.size ≤ gb265))
                        have n4_ := Aside0.mk ((by rw [hg]; exact (below_size bel_) : w.heap.size ≤ gb265))
                        have n5_ := nlt_ (g := gb257) (o := .cells #[.bool t253, .int .u64 t254, .int .u64 t255] 30 (0, 0)) hg
                        have n6_ := ngt_ (g := gb257) (o := .cells #[.bool t253, .int .u64 t254, .int .u64 t255] 30 (0, 0)) hg
                        clear BK257
                        clear HB
                        have BK257 := n0_
                        have HB := n1_
                        have BK265 := n2_
                        have GW265 := n3_
                        have GE265 := n4_
                        have NB257_265 := n5_
                        have NB265_257 := n6_
                        clear n0_ n1_ n2_ n3_ n4_ n5_ n6_
                        clear hb hbox hg
                        refine hK.out _ _ ⟨bc_, bc_, bc_⟩ (fun hHeld => ?_)
                        clear hK K
                        refine norm_ (a' := ?_) ?_ ?_
                        rotate_left
                        · show Act.put _ (some 11) _ = _
                          simp only [Act.put, la_, lb_, lc_, i64_w, i32_w]
                          rfl
                        refine one_ (i := 3) (N := some 52) #[true, true, true, true, false, false, false, true, false, false] rfl rfl (one_of HT_.out (by kernel_rfl)) (by decide) (fun K hK => ?_)
                        refine goes_ Try.func14 (by kernel_rfl) rfl #[.agg #[.bool t258, .int .u64 t259, .int .u64 t260], .agg #[.bool t253, .int .u64 t254, .int .u64 t255]] (by rfl) rfl rfl mp_ ?_
                        with_reducible refine (impl_SubWide.calls k t258 t259 t260 t253 t254 t255 t261 t262 t263 true _ A12.out).mono ?_
                        rintro e w28 ⟨rfl, hb⟩
                        refine ⟨_, rfl, ?_⟩
                        have n0_ := bb_ (g := gb257) (o := .cells #[.bool t253, .int .u64 t254, .int .u64 t255] 30 (0, 0)) hb
                        have n1_ := bb_ (g := gb265) (o := .cells #[.bool false, .int .u64 0, .int .u64 0] 30 (0, 0)) hb
                        have n2_ := Aside0.mk (below_step bel_ hb)
                        clear BK257
                        clear BK265
                        clear HB
                        have BK257 := n0_
                        have BK265 := n1_
                        have HB := n2_
                        clear n0_ n1_ n2_
                        (try clear hb)
                        (try clear hb2)
                        (try clear hk)
                        (try clear hi)
                        refine hK.out _ _ ⟨bc_, bc_, bc_⟩ (fun hHeld => ?_)
                        clear hK K
                        refine norm_ (a' := ?_) ?_ ?_
                        rotate_left
                        · show Act.put _ (some 52) _ = _
                          simp only [Act.put, la_, lb_, lc_, i64_w, i32_w]
                          rfl
                        refine pure_ (i := 4) (N := some 48) (v := ?_) (a' := ?_) #[true, true, true, true, true, false, false, true, false, false] rfl rfl (any_of HT_.out (by kernel_rfl)) (fun _ _ _ h => h) (Or.inl ⟨by rfl, ?_⟩) ?_ ?_
                        rotate_left
                        · intro w'
                          go_simp
                          with_reducible rfl
                        rotate_left
                        · simp only [Act.put, la_, lb_, lc_, i64_w, i32_w]
                          rfl
                        refine pure_ (i := 5) (N := some 53) (v := ?_) (a' := ?_) #[true, true, true, true, true, true, false, true, false, false] rfl rfl (any_of HT_.out (by kernel_rfl)) (fun _ _ _ h => h) (Or.inl ⟨by rfl, ?_⟩) ?_ ?_
                        rotate_left
                        · intro w'
                          go_simp
                          with_reducible rfl
                        rotate_left
                        · simp only [Act.put, la_, lb_, lc_, i64_w, i32_w]
                          rfl
                        refine pure_ (i := 6) (N := some 54) (v := ?_) (a' := ?_) #[true, true, true, true, true, true, true, true, false, false] rfl rfl (any_of HT_.out (by kernel_rfl)) (fun _ _ _ h => h) (Or.inl ⟨by rfl, ?_⟩) ?_ ?_
                        rotate_left
                        · intro w'
                          go_simp
                          with_reducible rfl
                        rotate_left
                        · simp only [Act.put, la_, lb_, lc_, i64_w, i32_w]
                          rfl
                        exact norm_ (by simp only [putAll, Act.put, la_, lb_, lc_]) (hCont (gb265) _ ⟨hHeld, (by (with_reducible repeat (first | refine bN_ _ ?_ | refine bd_ ?_ | refine ba_ _ ?_)); exact BK257.out), (by (with_reducible repeat (first | refine bN_ _ ?_ | refine bd_ ?_ | refine ba_ _ ?_)); exact BK265.out), GW265.out, GE265.out, NB257_265.out, NB265_257.out, bel_⟩)
                    · skip
                      refine box_step ?hg (N := 11) ?hd (cs := #[.bool false, .int .u64 0, .int .u64 0]) (t := 30) ?hr ?_; (case hd => rfl); (case hg => rfl); (case hr => first | (go_simp; done) | (go_simp; rfl))
                      intro gb265 hg w26 hbox hb
                      have n0_ := bb_ (g := gb257) (o := .cells #[.bool t253, .int .u64 t254, .int .u64 t255] 30 (0, 0)) hb
                      have n1_ := Aside0.mk (below_step bel_ hb)
                      have n2_ := Aside0.mk (hbox)
                      have n3_ := Aside0.mk ((by rw [hg]; exact (below_size bel_) : w.heap.size ≤ gb265))
                      have n4_ := Aside0.mk ((by rw [hg]; exact (below_size bel_) : w.heap.size ≤ gb265))
                      have n5_ := nlt_ (g := gb257) (o := .cells #[.bool t253, .int .u64 t254, .int .u64 t255] 30 (0, 0)) hg
                      have n6_ := ngt_ (g := gb257) (o := .cells #[.bool t253, .int .u64 t254, .int .u64 t255] 30 (0, 0)) hg
                      clear BK257
                      clear HB
                      have BK257 := n0_
                      have HB := n1_
                      have BK265 := n2_
                      have GW265 := n3_
                      have GE265 := n4_
                      have NB257_265 := n5_
                      have NB265_257 := n6_
                      clear n0_ n1_ n2_ n3_ n4_ n5_ n6_
                      clear hb hbox hg
                      refine hK.out _ _ ⟨bc_, bc_, bc_⟩ (fun hHeld => ?_)
                      clear hK K
                      refine norm_ (a' := ?_) ?_ ?_
                      rotate_left
                      · show Act.put _ (some 11) _ = _
                        simp only [Act.put, la_, lb_, lc_, i64_w, i32_w]
                        rfl
                      refine one_ (i := 1) (N := some 50) #[true, true, true, false, false, false, false, true, false, false] rfl rfl (one_of HT_.out (by kernel_rfl)) (by decide) (fun K hK => ?_)
                      refine goes_ Try.func13 (by kernel_rfl) rfl #[.int .i64 t244] (by rfl) rfl rfl mp_ ?_
                      with_reducible refine (spec_WideOf.calls t244 t258 t259 t260 _ A11.out).mono ?_
                      rintro e w27 ⟨rfl, hb⟩
                      refine ⟨_, rfl, ?_⟩
                      have n0_ := bb_ (g := gb257) (o := .cells #[.bool t253, .int .u64 t254, .int .u64 t255] 30 (0, 0)) hb
                      have n1_ := bb_ (g := gb265) (o := .cells #[.bool false, .int .u64 0, .int .u64 0] 30 (0, 0)) hb
                      have n2_ := Aside0.mk (below_step bel_ hb)
                      clear BK257
                      clear BK265
                      clear HB
                      have BK257 := n0_
                      have BK265 := n1_
                      have HB := n2_
                      clear n0_ n1_ n2_
                      (try clear hb)
                      (try clear hb2)
                      (try clear hk)
                      (try clear hi)
                      refine hK.out _ _ ⟨bc_, bc_, bc_⟩ (fun hHeld => ?_)
                      clear hK K
                      refine norm_ (a' := ?_) ?_ ?_
                      rotate_left
                      · show Act.put _ (some 50) _ = _
                        simp only [Act.put, la_, lb_, lc_, i64_w, i32_w]
                        rfl
                      refine one_ (i := 3) (N := some 52) #[true, true, true, true, false, false, false, true, false, false] rfl rfl (one_of HT_.out (by kernel_rfl)) (by decide) (fun K hK => ?_)
                      refine goes_ Try.func14 (by kernel_rfl) rfl #[.agg #[.bool t258, .int .u64 t259, .int .u64 t260], .agg #[.bool t253, .int .u64 t254, .int .u64 t255]] (by rfl) rfl rfl mp_ ?_
                      with_reducible refine (impl_SubWide.calls k t258 t259 t260 t253 t254 t255 t261 t262 t263 true _ A12.out).mono ?_
                      rintro e w28 ⟨rfl, hb⟩
                      refine ⟨_, rfl, ?_⟩
                      have n0_ := bb_ (g := gb257) (o := .cells #[.bool t253, .int .u64 t254, .int .u64 t255] 30 (0, 0)) hb
                      have n1_ := bb_ (g := gb265) (o := .cells #[.bool false, .int .u64 0, .int .u64 0] 30 (0, 0)) hb
                      have n2_ := Aside0.mk (below_step bel_ hb)
                      clear BK257
                      clear BK265
                      clear HB
                      have BK257 := n0_
                      have BK265 := n1_
                      have HB := n2_
                      clear n0_ n1_ n2_
                      (try clear hb)
                      (try clear hb2)
                      (try clear hk)
                      (try clear hi)
                      refine hK.out _ _ ⟨bc_, bc_, bc_⟩ (fun hHeld => ?_)
                      clear hK K
                      refine norm_ (a' := ?_) ?_ ?_
                      rotate_left
                      · show Act.put _ (some 52) _ = _
                        simp only [Act.put, la_, lb_, lc_, i64_w, i32_w]
                        rfl
                      refine pure_ (i := 4) (N := some 48) (v := ?_) (a' := ?_) #[true, true, true, true, true, false, false, true, false, false] rfl rfl (any_of HT_.out (by kernel_rfl)) (fun _ _ _ h => h) (Or.inl ⟨by rfl, ?_⟩) ?_ ?_
                      rotate_left
                      · intro w'
                        go_simp
                        with_reducible rfl
                      rotate_left
                      · simp only [Act.put, la_, lb_, lc_, i64_w, i32_w]
                        rfl
                      refine pure_ (i := 5) (N := some 53) (v := ?_) (a' := ?_) #[true, true, true, true, true, true, false, true, false, false] rfl rfl (any_of HT_.out (by kernel_rfl)) (fun _ _ _ h => h) (Or.inl ⟨by rfl, ?_⟩) ?_ ?_
                      rotate_left
                      · intro w'
                        go_simp
                        with_reducible rfl
                      rotate_left
                      · simp only [Act.put, la_, lb_, lc_, i64_w, i32_w]
                        rfl
                      refine pure_ (i := 6) (N := some 54) (v := ?_) (a' := ?_) #[true, true, true, true, true, true, true, true, false, false] rfl rfl (any_of HT_.out (by kernel_rfl)) (fun _ _ _ h => h) (Or.inl ⟨by rfl, ?_⟩) ?_ ?_
                      rotate_left
                      · intro w'
                        go_simp
                        with_reducible rfl
                      rotate_left
                      · simp only [Act.put, la_, lb_, lc_, i64_w, i32_w]
                        rfl
                      exact norm_ (by simp only [putAll, Act.put, la_, lb_, lc_]) (hCont (gb265) _ ⟨hHeld, (by (with_reducible repeat (first | refine bN_ _ ?_ | refine bd_ ?_ | refine ba_ _ ?_)); exact BK257.out), (by (with_reducible repeat (first | refine bN_ _ ?_ | refine bd_ ?_ | refine ba_ _ ?_)); exact BK265.out), GW265.out, GE265.out, NB257_265.out, NB265_257.out, bel_⟩)
                  rintro gb265 w29 ⟨hS_, h0_, h1_, h2_, h3_, h4_, h5_, h6_⟩
                  have n0_ : Aside0 (w29.heap[gb257]? = some (.cells #[.bool t253, .int .u64 t254, .int .u64 t255] 30 (0, 0))) := ⟨h0_⟩
                  have n1_ : Aside0 (w29.heap[gb265]? = some (.cells #[.bool false, .int .u64 0, .int .u64 0] 30 (0, 0))) := ⟨h1_⟩
                  have n2_ : Aside0 (w.heap.size ≤ gb265) := ⟨h2_⟩
                  have n3_ : Aside0 (w.heap.size ≤ gb265) := ⟨h3_⟩
                  have n4_ : Aside0 (gb257 ≠ gb265) := ⟨h4_⟩
                  have n5_ : Aside0 (gb265 ≠ gb257) := ⟨h5_⟩
                  have n6_ : Aside0 (Below w.heap.size w w29) := ⟨h6_⟩
                  clear BK257
                  clear HB
                  clear h0_ h1_ h2_ h3_ h4_ h5_ h6_
                  have BK257 := n0_
                  have BK265 := n1_
                  have GW265 := n2_
                  have GE265 := n3_
                  have NB257_265 := n4_
                  have NB265_257 := n5_
                  have HB := n6_
                  clear n0_ n1_ n2_ n3_ n4_ n5_ n6_
                  have hHeld : w29.cell? ⟨gb257, 0, none⟩ = some (.bool t253) ∧ w29.cell? ⟨gb257, 1, none⟩ = some (.int .u64 t254) ∧ w29.cell? ⟨gb257, 2, none⟩ = some (.int .u64 t255) := hS_
                  refine norm_ (a' := ?_) ?_ ?_
                  rotate_left
                  · simp only [putAll, Act.put, la_, lb_, lc_]
                    rfl
                  refine one_ (i := 8) (N := none) #[true, true, true, true, true, true, true, true, true, false] rfl rfl (one_of HT_.out (by kernel_rfl)) (by decide) (fun K hK => ?_)
                  have hs30 : w29.cell? ⟨gb265, 0, none⟩ = some (.bool false) := (blk_cell BK265.out 0).trans rfl
                  have hfs30 := blk_frozen BK265.out 0
                  have hns30_0 := NB257_265.out
                  have hms30_0 := NB265_257.out
                  have hs31 : w29.cell? ⟨gb265, 1, none⟩ = some (.int .u64 0) := (blk_cell BK265.out 1).trans rfl
                  have hfs31 := blk_frozen BK265.out 1
                  have hns31_0 := NB257_265.out
                  have hms31_0 := NB265_257.out
                  have hs32 : w29.cell? ⟨gb265, 2, none⟩ = some (.int .u64 0) := (blk_cell BK265.out 2).trans rfl
                  have hfs32 := blk_frozen BK265.out 2
                  have hns32_0 := NB257_265.out
                  have hms32_0 := NB265_257.out
                  refine skip_ (w1 := ?_) (by rfl) rfl ?_ ?_
                  rotate_left
                  · go_simp
                    rfl
                  refine hK.out _ _ ⟨((cell_far (p := ⟨gb265, _, none⟩) NB257_265.out _).trans (((cell_far (p := ⟨gb265, _, none⟩) NB257_265.out _).trans (((cell_far (p := ⟨gb265, _, none⟩) NB257_265.out _).trans (hHeld.1)))))), ((cell_far (p := ⟨gb265, _, none⟩) NB257_265.out _).trans (((cell_far (p := ⟨gb265, _, none⟩) NB257_265.out _).trans (((cell_far (p := ⟨gb265, _, none⟩) NB257_265.out _).trans (hHeld.2.1)))))), ((cell_far (p := ⟨gb265, _, none⟩) NB257_265.out _).trans (((cell_far (p := ⟨gb265, _, none⟩) NB257_265.out _).trans (((cell_far (p := ⟨gb265, _, none⟩) NB257_265.out _).trans (hHeld.2.2))))))⟩ (fun hHeld => ?_)
                  clear hK K
                  refine pure_ (i := 9) (N := some 12) (v := ?_) (a' := ?_) #[true, true, true, true, true, true, true, true, true, true] rfl rfl (any_of HT_.out (by kernel_rfl)) (fun _ _ _ h => h) (Or.inl ⟨by rfl, ?_⟩) ?_ ?_
                  rotate_left
                  · intro w'
                    go_simp
                    with_reducible rfl
                  rotate_left
                  · simp only [Act.put, la_, lb_, lc_, i64_w, i32_w]
                    rfl
                  refine done_ (done_of HT_.out (by kernel_rfl)) ?_
                  have hnb33 := NB265_257.out
                  have hnc33 := NB257_265.out
                  have hcz34_0 : w29.cell? ⟨gb265, 0, none⟩ = some (.bool false) := bc_
                  have hcz34_1 : w29.cell? ⟨gb265, 1, none⟩ = some (.int .u64 0) := bc_
                  have hcz34_2 : w29.cell? ⟨gb265, 2, none⟩ = some (.int .u64 0) := bc_
                  have hfz34_0 := blk_frozen BK265.out 0
                  have hfz34_1 := blk_frozen BK265.out 1
                  have hfz34_2 := blk_frozen BK265.out 2
                  try go_wp2_with (first | ((with_reducible refine gate_callee (f := 15) rfl ?_); refine goesL_ (some 57) rfl rfl Try.func15 (by kernel_rfl) rfl #[.agg #[.bool t261, .int .u64 t262, .int .u64 t263]] rfl mp_ ?_; (with_reducible refine (impl_IntOf.calls t261 t262 t263 t266 true _ A13.out).mono ?_); rintro e w35 ⟨rfl, hb⟩; refine ⟨_, rfl, ?_⟩; have n0_ := Aside0.mk (blk_below (g := gb257) (o := .cells #[.bool t253, .int .u64 t254, .int .u64 t255] 30 (0, 0)) (by (with_reducible repeat (first | refine bN_ _ ?_ | refine bd_ ?_ | refine ba_ _ ?_)); refine blk_far ?_ NB257_265.out _; (with_reducible repeat (first | refine bN_ _ ?_ | refine bd_ ?_ | refine ba_ _ ?_)); refine blk_far ?_ NB257_265.out _; (with_reducible repeat (first | refine bN_ _ ?_ | refine bd_ ?_ | refine ba_ _ ?_)); refine blk_far ?_ NB257_265.out _; (with_reducible repeat (first | refine bN_ _ ?_ | refine bd_ ?_ | refine ba_ _ ?_)); exact BK257.out) hb); have n1_ := Aside0.mk (blk_below (g := gb265) (o := .cells #[.bool t261, .int .u64 t262, .int .u64 t263] 30 (0, 0)) (by (with_reducible repeat (first | refine bN_ _ ?_ | refine bd_ ?_ | refine ba_ _ ?_)); refine blk_put (cs := #[.bool t261, .int .u64 t262, .int .u64 0]) ?_ 2 _ rfl; (with_reducible repeat (first | refine bN_ _ ?_ | refine bd_ ?_ | refine ba_ _ ?_)); refine blk_put (cs := #[.bool t261, .int .u64 0, .int .u64 0]) ?_ 1 _ rfl; (with_reducible repeat (first | refine bN_ _ ?_ | refine bd_ ?_ | refine ba_ _ ?_)); refine blk_put (cs := #[.bool false, .int .u64 0, .int .u64 0]) ?_ 0 _ rfl; (with_reducible repeat (first | refine bN_ _ ?_ | refine bd_ ?_ | refine ba_ _ ?_)); exact BK265.out) hb); have n2_ := Aside0.mk (below_step bel_ hb); clear BK257; clear BK265; clear HB; have BK257 := n0_; have BK265 := n1_; have HB := n2_; clear n0_ n1_ n2_; (try clear hb); (try clear hb2); (try clear hk); (try clear hi)))
                  go_ret
                  exact ⟨by first | rfl | (simp [errW_none, errW_some] <;> rfl) | (simp [*, errW_none, errW_some] <;> rfl), by repeat (first | (with_reducible first | exact HB.out | apply below_alloc | apply pw_below_drewN | apply below_drew1 | refine below_set ?_ GE257.out | refine below_set ?_ GE265.out) | exact HB.out)⟩
                · rw [if_neg c18] at H
                  have c18b0 : decide (t266 < t245) = false := decide_eq_false c18
                  clear c18
                  by_cases c36 : t245 < 0
                  · rw [if_pos c36] at H
                    have c36b0 : decide (t245 < 0) = true := decide_eq_true c36
                    clear c36
                    by_cases c37 : t266 ≤ 0
                    · rw [if_pos c37] at H
                      have c37b0 : decide (t266 ≤ 0) = true := decide_eq_true c37
                      clear c37
                      obtain rfl := Option.some.inj H
                      go_enter Try.func3, Try.ntmps3
                      try go_wp2_with (first | ((with_reducible refine gate_callee (f := 8) rfl ?_); refine goesL_ (some 16) rfl rfl Try.func8 (by kernel_rfl) rfl #[.slice A0 l0.length c0] rfl mp_ ?_; (with_reducible refine (laws_big.calls _ _ l0 false _ ?side1 ?side2 A2.out).mono ?_); (case side1 => repeat (first | exact HR0.out | (with_reducible refine Kd.C_alloc ?_ _) | (with_reducible refine Kd.C_drewN ?_ _) | (with_reducible refine Kd.C_drew ?_))); (case side2 => exact HC0.out); rintro e w' ⟨rfl, ⟨nd, rfl⟩⟩; refine ⟨_, rfl, ?_⟩) | ((with_reducible refine gate_callee (f := 9) rfl ?_); refine goesL_ (some 19) rfl rfl Try.func9 (by kernel_rfl) rfl #[.slice A0 l0.length c0] rfl mp_ ?_; (with_reducible refine (spec_DrawFloorDiv.calls k _ _ l0 t244 t245 _ ?side1 ?side2 A4.out).mono ?_); (case side1 => repeat (first | exact HR0.out | (with_reducible refine Kd.C_alloc ?_ _) | (with_reducible refine Kd.C_drewN ?_ _) | (with_reducible refine Kd.C_drew ?_))); (case side2 => exact HC0.out); rintro e w38 ⟨rfl, hb⟩; refine ⟨_, rfl, ?_⟩; have n0_ := Aside0.mk (below_step bel_ hb); clear HB; have HB := n0_; clear n0_; (try clear hb); (try clear hb2); (try clear hk); (try clear hi)) | ((with_reducible refine gate_callee (f := 10) rfl ?_); refine goesL_ (some 25) rfl rfl Try.func10 (by kernel_rfl) rfl #[.int .i64 t244, .int .i64 t245] rfl mp_ ?_; (with_reducible refine (impl_FloorDiv.calls k t244 t245 t246 true _ A5.out).mono ?_); rintro e w' ⟨rfl, ⟨nd, rfl⟩⟩; refine ⟨_, rfl, ?_⟩; (try (rw [drewN_self w38]; generalize hq_ : World.drewN w38 _ = w38; have n0_ : Aside0 (Below w.heap.size w w38) := ⟨by rw [← hq_]; exact bel_⟩; clear HB hq_; have HB := n0_; clear n0_))) | ((with_reducible refine gate_callee (f := 11) rfl ?_); refine goesL_ (some 31) rfl rfl Try.func11 (by kernel_rfl) rfl #[.int .i64 t244, .int .i64 t245] rfl mp_ ?_; (with_reducible refine (spec_FloorDiv.calls k t244 t245 t248 t249 _ A6.out).mono ?_); rintro e w' ⟨rfl, ⟨nd, rfl⟩⟩; refine ⟨_, rfl, ?_⟩; (try (rw [drewN_self w38]; generalize hq_ : World.drewN w38 _ = w38; have n0_ : Aside0 (Below w.heap.size w w38) := ⟨by rw [← hq_]; exact bel_⟩; clear HB hq_; have HB := n0_; clear n0_))) | ((with_reducible refine gate_callee (f := 13) rfl ?_); refine goesL_ (some 43) rfl rfl Try.func13 (by kernel_rfl) rfl #[.int .i64 t246] rfl mp_ ?_; (with_reducible refine (spec_WideOf.calls t246 t250 t251 t252 _ A9.out).mono ?_); rintro e w39 ⟨rfl, hb⟩; refine ⟨_, rfl, ?_⟩; have n0_ := Aside0.mk (below_step bel_ hb); clear HB; have HB := n0_; clear n0_; (try clear hb); (try clear hb2); (try clear hk); (try clear hi)) | ((with_reducible refine gate_callee (f := 12) rfl ?_); refine goesL_ (some 45) rfl rfl Try.func12 (by kernel_rfl) rfl #[.agg #[.bool t250, .int .u64 t251, .int .u64 t252], .int .i64 t245] rfl mp_ ?_; (with_reducible refine (spec_ScaleWide.calls t250 t251 t252 t245 t253 t254 t255 t256 _ A10.out).mono ?_); rintro e w40 ⟨rfl, hb⟩; refine ⟨_, rfl, ?_⟩; have n0_ := Aside0.mk (below_step bel_ hb); clear HB; have HB := n0_; clear n0_; (try clear hb); (try clear hb2); (try clear hk); (try clear hi)) | ((with_reducible refine gate_dst (N := 9) rfl ?_); refine box_event ?hg (N := 9) ?hd (cs := #[.bool false, .int .u64 0, .int .u64 0]) (t := 30) ?hr ?_; (case hd => rfl); (case hg => rfl); (case hr => first | (go_simp; done) | (go_simp; rfl)); intro gb257 hg w41 hbox hb; have n0_ := Aside0.mk (below_step bel_ hb); have n1_ := Aside0.mk (hbox); have n2_ := Aside0.mk ((by rw [hg]; exact (below_size bel_) : w.heap.size ≤ gb257)); have n3_ := Aside0.mk ((by rw [hg]; exact (below_size bel_) : w.heap.size ≤ gb257)); clear HB; have HB := n0_; have BK257 := n1_; have GW257 := n2_; have GE257 := n3_; clear n0_ n1_ n2_ n3_; clear hb hbox hg; have hcz42_0 : w41.cell? ⟨gb257, 0, none⟩ = some (.bool false) := bc_; have hcz42_1 : w41.cell? ⟨gb257, 1, none⟩ = some (.int .u64 0) := bc_; have hcz42_2 : w41.cell? ⟨gb257, 2, none⟩ = some (.int .u64 0) := bc_; have hfz42_0 := blk_frozen BK257.out 0; have hfz42_1 := blk_frozen BK257.out 1; have hfz42_2 := blk_frozen BK257.out 2))
                      have n0_ : Aside0 ((((w41.setCell ⟨gb257, 0, none⟩ (.bool t253)).setCell ⟨gb257, 1, none⟩ (.int .u64 t254)).setCell ⟨gb257, 2, none⟩ (.int .u64 t255)).heap[gb257]? = some (.cells #[.bool t253, .int .u64 t254, .int .u64 t255] 30 (0, 0))) := ⟨by (with_reducible repeat (first | refine bN_ _ ?_ | refine bd_ ?_ | refine ba_ _ ?_)); refine blk_put (cs := #[.bool t253, .int .u64 t254, .int .u64 0]) ?_ 2 _ rfl; (with_reducible repeat (first | refine bN_ _ ?_ | refine bd_ ?_ | refine ba_ _ ?_)); refine blk_put (cs := #[.bool t253, .int .u64 0, .int .u64 0]) ?_ 1 _ rfl; (with_reducible repeat (first | refine bN_ _ ?_ | refine bd_ ?_ | refine ba_ _ ?_)); refine blk_put (cs := #[.bool false, .int .u64 0, .int .u64 0]) ?_ 0 _ rfl; (with_reducible repeat (first | refine bN_ _ ?_ | refine bd_ ?_ | refine ba_ _ ?_)); exact BK257.out⟩
                      have n1_ : Aside0 (Below w.heap.size w (((w41.setCell ⟨gb257, 0, none⟩ (.bool t253)).setCell ⟨gb257, 1, none⟩ (.int .u64 t254)).setCell ⟨gb257, 2, none⟩ (.int .u64 t255))) := ⟨by repeat (first | (with_reducible first | exact HB.out | apply below_alloc | apply pw_below_drewN | apply below_drew1 | refine below_set ?_ GE257.out) | exact HB.out)⟩
                      (try clear BK257)
                      (try clear HB)
                      generalize (((w41.setCell ⟨gb257, 0, none⟩ (.bool t253)).setCell ⟨gb257, 1, none⟩ (.int .u64 t254)).setCell ⟨gb257, 2, none⟩ (.int .u64 t255)) = w43 at n0_ n1_ ⊢
                      have BK257 := n0_
                      have HB := n1_
                      clear n0_ n1_
                      have n0_ := Aside0.mk (blk_drew BK257.out)
                      have n1_ := Aside0.mk (below_drew1 HB.out)
                      clear BK257
                      clear HB
                      have BK257 := n0_
                      have HB := n1_
                      clear n0_ n1_
                      refine start_ (n := 10) (S := fun w' => w'.cell? ⟨gb257, 0, none⟩ = some (.bool t253) ∧ w'.cell? ⟨gb257, 1, none⟩ = some (.int .u64 t254) ∧ w'.cell? ⟨gb257, 2, none⟩ = some (.int .u64 t255)) (ds := []) #[false, false, false, false, false, false, false, false, false, false] (by kernel_rfl) rfl rfl ⟨bc_, bc_, bc_⟩ (fun hHeld => ?_); refine with_tabW laws_FnFloor.tab11 laws_FnFloor.bits11 (fun HT_ HW_ => ?_)
                      generalize w43.drew = w44 at BK257 HB hHeld ⊢
                      refine pure_ (i := 0) (N := some 49) (v := ?_) (a' := ?_) #[true, false, false, false, false, false, false, false, false, false] rfl rfl (any_of HT_.out (by kernel_rfl)) (fun _ _ _ h => h) (Or.inl ⟨by rfl, ?_⟩) ?_ ?_
                      rotate_left
                      · intro w'
                        go_simp
                        with_reducible rfl
                      rotate_left
                      · simp only [Act.put, la_, lb_, lc_, i64_w, i32_w]
                        rfl
                      refine take_ (i := 2) (N := some 51) (v := ?_) (a' := ?_) #[true, false, true, false, false, false, false, false, false, false] rfl rfl (take_ofW HT_.out HW_.out (by kernel_rfl)) (fun _ _ _ h => h) (Or.inl ⟨by rfl, ?_⟩) hHeld ?_ ?_
                      rotate_left
                      · rintro w' ⟨s0, s1, s2⟩
                        go_simp
                        with_reducible rfl
                      rotate_left
                      · simp only [Act.put, la_, lb_, lc_, i64_w, i32_w]
                        rfl
                      refine join_ (σ := Nat) 2 #[true, true, true, true, true, true, true, true, false, false] (fun s_ => [(50, .agg #[.bool t258, .int .u64 t259, .int .u64 t260]), (52, .tuple #[.agg #[.bool t261, .int .u64 t262, .int .u64 t263], .bool true]), (11, .pointer (some ⟨s_, 0, none⟩)), (48, .tuple #[.agg #[.bool t261, .int .u64 t262, .int .u64 t263], .bool true]), (53, .agg #[.bool t261, .int .u64 t262, .int .u64 t263]), (54, .bool true)]) (fun s_ w' => (w'.cell? ⟨gb257, 0, none⟩ = some (.bool t253) ∧ w'.cell? ⟨gb257, 1, none⟩ = some (.int .u64 t254) ∧ w'.cell? ⟨gb257, 2, none⟩ = some (.int .u64 t255)) ∧ (w'.heap[gb257]? = some (.cells #[.bool t253, .int .u64 t254, .int .u64 t255] 30 (0, 0))) ∧ (w'.heap[s_]? = some (.cells #[.bool false, .int .u64 0, .int .u64 0] 30 (0, 0))) ∧ (w.heap.size ≤ s_) ∧ (w.heap.size ≤ s_) ∧ (gb257 ≠ s_) ∧ (s_ ≠ gb257) ∧ (Below w.heap.size w w')) ?_ ?_
                      rotate_left
                      · intro hCont
                        refine two_ (i := 1) (j := 7) (Ni := some 50) (Nj := some 11) #[true, true, true, false, false, false, false, false, false, false] #[true, false, true, false, false, false, false, true, false, false] rfl rfl rfl rfl (two_of HT_.out (by kernel_rfl)) (by decide) (by decide) (fun K hK => ?_) (fun K hK => ?_)
                        · skip
                          refine goes_ Try.func13 (by kernel_rfl) rfl #[.int .i64 t244] (by rfl) rfl rfl mp_ ?_
                          with_reducible refine (spec_WideOf.calls t244 t258 t259 t260 _ A11.out).mono ?_
                          rintro e w45 ⟨rfl, hb⟩
                          refine ⟨_, rfl, ?_⟩
                          have n0_ := bb_ (g := gb257) (o := .cells #[.bool t253, .int .u64 t254, .int .u64 t255] 30 (0, 0)) hb
                          have n1_ := Aside0.mk (below_step bel_ hb)
                          clear BK257
                          clear HB
                          have BK257 := n0_
                          have HB := n1_
                          clear n0_ n1_
                          (try clear hb)
                          (try clear hb2)
                          (try clear hk)
                          (try clear hi)
                          refine hK.out _ _ ⟨bc_, bc_, bc_⟩ (fun hHeld => ?_)
                          clear hK K
                          refine norm_ (a' := ?_) ?_ ?_
                          rotate_left
                          · show Act.put _ (some 50) _ = _
                            simp only [Act.put, la_, lb_, lc_, i64_w, i32_w]
                            rfl
                          refine two_ (i := 3) (j := 7) (Ni := some 52) (Nj := some 11) #[true, true, true, true, false, false, false, false, false, false] #[true, true, true, false, false, false, false, true, false, false] rfl rfl rfl rfl (two_of HT_.out (by kernel_rfl)) (by decide) (by decide) (fun K hK => ?_) (fun K hK => ?_)
                          · skip
                            refine goes_ Try.func14 (by kernel_rfl) rfl #[.agg #[.bool t258, .int .u64 t259, .int .u64 t260], .agg #[.bool t253, .int .u64 t254, .int .u64 t255]] (by rfl) rfl rfl mp_ ?_
                            with_reducible refine (impl_SubWide.calls k t258 t259 t260 t253 t254 t255 t261 t262 t263 true _ A12.out).mono ?_
                            rintro e w46 ⟨rfl, hb⟩
                            refine ⟨_, rfl, ?_⟩
                            have n0_ := bb_ (g := gb257) (o := .cells #[.bool t253, .int .u64 t254, .int .u64 t255] 30 (0, 0)) hb
                            have n1_ := Aside0.mk (below_step bel_ hb)
                            clear BK257
                            clear HB
                            have BK257 := n0_
                            have HB := n1_
                            clear n0_ n1_
                            (try clear hb)
                            (try clear hb2)
                            (try clear hk)
                            (try clear hi)
                            refine hK.out _ _ ⟨bc_, bc_, bc_⟩ (fun hHeld => ?_)
                            clear hK K
                            refine norm_ (a' := ?_) ?_ ?_
                            rotate_left
                            · show Act.put _ (some 52) _ = _
                              simp only [Act.put, la_, lb_, lc_, i64_w, i32_w]
                              rfl
                            refine pure_ (i := 4) (N := some 48) (v := ?_) (a' := ?_) #[true, true, true, true, true, false, false, false, false, false] rfl rfl (any_of HT_.out (by kernel_rfl)) (fun _ _ _ h => h) (Or.inl ⟨by rfl, ?_⟩) ?_ ?_
                            rotate_left
                            · intro w'
                              go_simp
                              with_reducible rfl
                            rotate_left
                            · simp only [Act.put, la_, lb_, lc_, i64_w, i32_w]
                              rfl
                            refine pure_ (i := 5) (N := some 53) (v := ?_) (a' := ?_) #[true, true, true, true, true, true, false, false, false, false] rfl rfl (any_of HT_.out (by kernel_rfl)) (fun _ _ _ h => h) (Or.inl ⟨by rfl, ?_⟩) ?_ ?_
                            rotate_left
                            · intro w'
                              go_simp
                              with_reducible rfl
                            rotate_left
                            · simp only [Act.put, la_, lb_, lc_, i64_w, i32_w]
                              rfl
                            refine pure_ (i := 6) (N := some 54) (v := ?_) (a' := ?_) #[true, true, true, true, true, true, true, false, false, false] rfl rfl (any_of HT_.out (by kernel_rfl)) (fun _ _ _ h => h) (Or.inl ⟨by rfl, ?_⟩) ?_ ?_
                            rotate_left
                            · intro w'
                              go_simp
                              with_reducible rfl
                            rotate_left
                            · simp only [Act.put, la_, lb_, lc_, i64_w, i32_w]
                              rfl
                            refine one_ (i := 7) (N := some 11) #[true, true, true, true, true, true, true, true, false, false] rfl rfl (one_of HT_.out (by kernel_rfl)) (by decide) (fun K hK => ?_)
                            refine box_step ?hg (N := 11) ?hd (cs := #[.bool false, .int .u64 0, .int .u64 0]) (t := 30) ?hr ?_; (case hd => rfl); (case hg => rfl); (case hr => first | (go_simp; done) | (go_simp; rfl))
                            intro gb265 hg w47 hbox hb
                            have n0_ := bb_ (g := gb257) (o := .cells #[.bool t253, .int .u64 t254, .int .u64 t255] 30 (0, 0)) hb
                            have n1_ := Aside0.mk (below_step bel_ hb)
                            have n2_ := Aside0.mk (hbox)
                            have n3_ := Aside0.mk ((by rw [hg]; exact (below_size bel_) : w.heap.size ≤ gb265))
                            have n4_ := Aside0.mk ((by rw [hg]; exact (below_size bel_) : w.heap.size ≤ gb265))
                            have n5_ := nlt_ (g := gb257) (o := .cells #[.bool t253, .int .u64 t254, .int .u64 t255] 30 (0, 0)) hg
                            have n6_ := ngt_ (g := gb257) (o := .cells #[.bool t253, .int .u64 t254, .int .u64 t255] 30 (0, 0)) hg
                            clear BK257
                            clear HB
                            have BK257 := n0_
                            have HB := n1_
                            have BK265 := n2_
                            have GW265 := n3_
                            have GE265 := n4_
                            have NB257_265 := n5_
                            have NB265_257 := n6_
                            clear n0_ n1_ n2_ n3_ n4_ n5_ n6_
                            clear hb hbox hg
                            refine hK.out _ _ ⟨bc_, bc_, bc_⟩ (fun hHeld => ?_)
                            clear hK K
                            refine norm_ (a' := ?_) ?_ ?_
                            rotate_left
                            · show Act.put _ (some 11) _ = _
                              simp only [Act.put, la_, lb_, lc_, i64_w, i32_w]
                              rfl
                            exact norm_ (by simp only [putAll, Act.put, la_, lb_, lc_]) (hCont (gb265) _ ⟨hHeld, (by (with_reducible repeat (first | refine bN_ _ ?_ | refine bd_ ?_ | refine ba_ _ ?_)); exact BK257.out), (by (with_reducible repeat (first | refine bN_ _ ?_ | refine bd_ ?_ | refine ba_ _ ?_)); exact BK265.out), GW265.out, GE265.out, NB257_265.out, NB265_257.out, bel_⟩)
                          · skip
                            refine box_step ?hg (N := 11) ?hd (cs := #[.bool false, .int .u64 0, .int .u64 0]) (t := 30) ?hr ?_; (case hd => rfl); (case hg => rfl); (case hr => first | (go_simp; done) | (go_simp; rfl))
                            intro gb265 hg w46 hbox hb
                            have n0_ := bb_ (g := gb257) (o := .cells #[.bool t253, .int .u64 t254, .int .u64 t255] 30 (0, 0)) hb
                            have n1_ := Aside0.mk (below_step bel_ hb)
                            have n2_ := Aside0.mk (hbox)
                            have n3_ := Aside0.mk ((by rw [hg]; exact (below_size bel_) : w.heap.size ≤ gb265))
                            have n4_ := Aside0.mk ((by rw [hg]; exact (below_size bel_) : w.heap.size ≤ gb265))
                            have n5_ := nlt_ (g := gb257) (o := .cells #[.bool t253, .int .u64 t254, .int .u64 t255] 30 (0, 0)) hg
                            have n6_ := ngt_ (g := gb257) (o := .cells #[.bool t253, .int .u64 t254, .int .u64 t255] 30 (0, 0)) hg
                            clear BK257
                            clear HB
                            have BK257 := n0_
                            have HB := n1_
                            have BK265 := n2_
                            have GW265 := n3_
                            have GE265 := n4_
                            have NB257_265 := n5_
                            have NB265_257 := n6_
                            clear n0_ n1_ n2_ n3_ n4_ n5_ n6_
                            clear hb hbox hg
                            refine hK.out _ _ ⟨bc_, bc_, bc_⟩ (fun hHeld => ?_)
                            clear hK K
                            refine norm_ (a' := ?_) ?_ ?_
                            rotate_left
                            · show Act.put _ (some 11) _ = _
                              simp only [Act.put, la_, lb_, lc_, i64_w, i32_w]
                              rfl
                            refine one_ (i := 3) (N := some 52) #[true, true, true, true, false, false, false, true, false, false] rfl rfl (one_of HT_.out (by kernel_rfl)) (by decide) (fun K hK => ?_)
                            refine goes_ Try.func14 (by kernel_rfl) rfl #[.agg #[.bool t258, .int .u64 t259, .int .u64 t260], .agg #[.bool t253, .int .u64 t254, .int .u64 t255]] (by rfl) rfl rfl mp_ ?_
                            with_reducible refine (impl_SubWide.calls k t258 t259 t260 t253 t254 t255 t261 t262 t263 true _ A12.out).mono ?_
                            rintro e w47 ⟨rfl, hb⟩
                            refine ⟨_, rfl, ?_⟩
                            have n0_ := bb_ (g := gb257) (o := .cells #[.bool t253, .int .u64 t254, .int .u64 t255] 30 (0, 0)) hb
                            have n1_ := bb_ (g := gb265) (o := .cells #[.bool false, .int .u64 0, .int .u64 0] 30 (0, 0)) hb
                            have n2_ := Aside0.mk (below_step bel_ hb)
                            clear BK257
                            clear BK265
                            clear HB
                            have BK257 := n0_
                            have BK265 := n1_
                            have HB := n2_
                            clear n0_ n1_ n2_
                            (try clear hb)
                            (try clear hb2)
                            (try clear hk)
                            (try clear hi)
                            refine hK.out _ _ ⟨bc_, bc_, bc_⟩ (fun hHeld => ?_)
                            clear hK K
                            refine norm_ (a' := ?_) ?_ ?_
                            rotate_left
                            · show Act.put _ (some 52) _ = _
                              simp only [Act.put, la_, lb_, lc_, i64_w, i32_w]
                              rfl
                            refine pure_ (i := 4) (N := some 48) (v := ?_) (a' := ?_) #[true, true, true, true, true, false, false, true, false, false] rfl rfl (any_of HT_.out (by kernel_rfl)) (fun _ _ _ h => h) (Or.inl ⟨by rfl, ?_⟩) ?_ ?_
                            rotate_left
                            · intro w'
                              go_simp
                              with_reducible rfl
                            rotate_left
                            · simp only [Act.put, la_, lb_, lc_, i64_w, i32_w]
                              rfl
                            refine pure_ (i := 5) (N := some 53) (v := ?_) (a' := ?_) #[true, true, true, true, true, true, false, true, false, false] rfl rfl (any_of HT_.out (by kernel_rfl)) (fun _ _ _ h => h) (Or.inl ⟨by rfl, ?_⟩) ?_ ?_
                            rotate_left
                            · intro w'
                              go_simp
                              with_reducible rfl
                            rotate_left
                            · simp only [Act.put, la_, lb_, lc_, i64_w, i32_w]
                              rfl
                            refine pure_ (i := 6) (N := some 54) (v := ?_) (a' := ?_) #[true, true, true, true, true, true, true, true, false, false] rfl rfl (any_of HT_.out (by kernel_rfl)) (fun _ _ _ h => h) (Or.inl ⟨by rfl, ?_⟩) ?_ ?_
                            rotate_left
                            · intro w'
                              go_simp
                              with_reducible rfl
                            rotate_left
                            · simp only [Act.put, la_, lb_, lc_, i64_w, i32_w]
                              rfl
                            exact norm_ (by simp only [putAll, Act.put, la_, lb_, lc_]) (hCont (gb265) _ ⟨hHeld, (by (with_reducible repeat (first | refine bN_ _ ?_ | refine bd_ ?_ | refine ba_ _ ?_)); exact BK257.out), (by (with_reducible repeat (first | refine bN_ _ ?_ | refine bd_ ?_ | refine ba_ _ ?_)); exact BK265.out), GW265.out, GE265.out, NB257_265.out, NB265_257.out, bel_⟩)
                        · skip
                          refine box_step ?hg (N := 11) ?hd (cs := #[.bool false, .int .u64 0, .int .u64 0]) (t := 30) ?hr ?_; (case hd => rfl); (case hg => rfl); (case hr => first | (go_simp; done) | (go_simp; rfl))
                          intro gb265 hg w45 hbox hb
                          have n0_ := bb_ (g := gb257) (o := .cells #[.bool t253, .int .u64 t254, .int .u64 t255] 30 (0, 0)) hb
                          have n1_ := Aside0.mk (below_step bel_ hb)
                          have n2_ := Aside0.mk (hbox)
                          have n3_ := Aside0.mk ((by rw [hg]; exact (below_size bel_) : w.heap.size ≤ gb265))
                          have n4_ := Aside0.mk ((by rw [hg]; exact (below_size bel_) : w.heap.size ≤ gb265))
                          have n5_ := nlt_ (g := gb257) (o := .cells #[.bool t253, .int .u64 t254, .int .u64 t255] 30 (0, 0)) hg
                          have n6_ := ngt_ (g := gb257) (o := .cells #[.bool t253, .int .u64 t254, .int .u64 t255] 30 (0, 0)) hg
                          clear BK257
                          clear HB
                          have BK257 := n0_
                          have HB := n1_
                          have BK265 := n2_
                          have GW265 := n3_
                          have GE265 := n4_
                          have NB257_265 := n5_
                          have NB265_257 := n6_
                          clear n0_ n1_ n2_ n3_ n4_ n5_ n6_
                          clear hb hbox hg
                          refine hK.out _ _ ⟨bc_, bc_, bc_⟩ (fun hHeld => ?_)
                          clear hK K
                          refine norm_ (a' := ?_) ?_ ?_
                          rotate_left
                          · show Act.put _ (some 11) _ = _
                            simp only [Act.put, la_, lb_, lc_, i64_w, i32_w]
                            rfl
                          refine one_ (i := 1) (N := some 50) #[true, true, true, false, false, false, false, true, false, false] rfl rfl (one_of HT_.out (by kernel_rfl)) (by decide) (fun K hK => ?_)
                          refine goes_ Try.func13 (by kernel_rfl) rfl #[.int .i64 t244] (by rfl) rfl rfl mp_ ?_
                          with_reducible refine (spec_WideOf.calls t244 t258 t259 t260 _ A11.out).mono ?_
                          rintro e w46 ⟨rfl, hb⟩
                          refine ⟨_, rfl, ?_⟩
                          have n0_ := bb_ (g := gb257) (o := .cells #[.bool t253, .int .u64 t254, .int .u64 t255] 30 (0, 0)) hb
                          have n1_ := bb_ (g := gb265) (o := .cells #[.bool false, .int .u64 0, .int .u64 0] 30 (0, 0)) hb
                          have n2_ := Aside0.mk (below_step bel_ hb)
                          clear BK257
                          clear BK265
                          clear HB
                          have BK257 := n0_
                          have BK265 := n1_
                          have HB := n2_
                          clear n0_ n1_ n2_
                          (try clear hb)
                          (try clear hb2)
                          (try clear hk)
                          (try clear hi)
                          refine hK.out _ _ ⟨bc_, bc_, bc_⟩ (fun hHeld => ?_)
                          clear hK K
                          refine norm_ (a' := ?_) ?_ ?_
                          rotate_left
                          · show Act.put _ (some 50) _ = _
                            simp only [Act.put, la_, lb_, lc_, i64_w, i32_w]
                            rfl
                          refine one_ (i := 3) (N := some 52) #[true, true, true, true, false, false, false, true, false, false] rfl rfl (one_of HT_.out (by kernel_rfl)) (by decide) (fun K hK => ?_)
                          refine goes_ Try.func14 (by kernel_rfl) rfl #[.agg #[.bool t258, .int .u64 t259, .int .u64 t260], .agg #[.bool t253, .int .u64 t254, .int .u64 t255]] (by rfl) rfl rfl mp_ ?_
                          with_reducible refine (impl_SubWide.calls k t258 t259 t260 t253 t254 t255 t261 t262 t263 true _ A12.out).mono ?_
                          rintro e w47 ⟨rfl, hb⟩
                          refine ⟨_, rfl, ?_⟩
                          have n0_ := bb_ (g := gb257) (o := .cells #[.bool t253, .int .u64 t254, .int .u64 t255] 30 (0, 0)) hb
                          have n1_ := bb_ (g := gb265) (o := .cells #[.bool false, .int .u64 0, .int .u64 0] 30 (0, 0)) hb
                          have n2_ := Aside0.mk (below_step bel_ hb)
                          clear BK257
                          clear BK265
                          clear HB
                          have BK257 := n0_
                          have BK265 := n1_
                          have HB := n2_
                          clear n0_ n1_ n2_
                          (try clear hb)
                          (try clear hb2)
                          (try clear hk)
                          (try clear hi)
                          refine hK.out _ _ ⟨bc_, bc_, bc_⟩ (fun hHeld => ?_)
                          clear hK K
                          refine norm_ (a' := ?_) ?_ ?_
                          rotate_left
                          · show Act.put _ (some 52) _ = _
                            simp only [Act.put, la_, lb_, lc_, i64_w, i32_w]
                            rfl
                          refine pure_ (i := 4) (N := some 48) (v := ?_) (a' := ?_) #[true, true, true, true, true, false, false, true, false, false] rfl rfl (any_of HT_.out (by kernel_rfl)) (fun _ _ _ h => h) (Or.inl ⟨by rfl, ?_⟩) ?_ ?_
                          rotate_left
                          · intro w'
                            go_simp
                            with_reducible rfl
                          rotate_left
                          · simp only [Act.put, la_, lb_, lc_, i64_w, i32_w]
                            rfl
                          refine pure_ (i := 5) (N := some 53) (v := ?_) (a' := ?_) #[true, true, true, true, true, true, false, true, false, false] rfl rfl (any_of HT_.out (by kernel_rfl)) (fun _ _ _ h => h) (Or.inl ⟨by rfl, ?_⟩) ?_ ?_
                          rotate_left
                          · intro w'
                            go_simp
                            with_reducible rfl
                          rotate_left
                          · simp only [Act.put, la_, lb_, lc_, i64_w, i32_w]
                            rfl
                          refine pure_ (i := 6) (N := some 54) (v := ?_) (a' := ?_) #[true, true, true, true, true, true, true, true, false, false] rfl rfl (any_of HT_.out (by kernel_rfl)) (fun _ _ _ h => h) (Or.inl ⟨by rfl, ?_⟩) ?_ ?_
                          rotate_left
                          · intro w'
                            go_simp
                            with_reducible rfl
                          rotate_left
                          · simp only [Act.put, la_, lb_, lc_, i64_w, i32_w]
                            rfl
                          exact norm_ (by simp only [putAll, Act.put, la_, lb_, lc_]) (hCont (gb265) _ ⟨hHeld, (by (with_reducible repeat (first | refine bN_ _ ?_ | refine bd_ ?_ | refine ba_ _ ?_)); exact BK257.out), (by (with_reducible repeat (first | refine bN_ _ ?_ | refine bd_ ?_ | refine ba_ _ ?_)); exact BK265.out), GW265.out, GE265.out, NB257_265.out, NB265_257.out, bel_⟩)
                      rintro gb265 w48 ⟨hS_, h0_, h1_, h2_, h3_, h4_, h5_, h6_⟩
                      have n0_ : Aside0 (w48.heap[gb257]? = some (.cells #[.bool t253, .int .u64 t254, .int .u64 t255] 30 (0, 0))) := ⟨h0_⟩
                      have n1_ : Aside0 (w48.heap[gb265]? = some (.cells #[.bool false, .int .u64 0, .int .u64 0] 30 (0, 0))) := ⟨h1_⟩
                      have n2_ : Aside0 (w.heap.size ≤ gb265) := ⟨h2_⟩
                      have n3_ : Aside0 (w.heap.size ≤ gb265) := ⟨h3_⟩
                      have n4_ : Aside0 (gb257 ≠ gb265) := ⟨h4_⟩
                      have n5_ : Aside0 (gb265 ≠ gb257) := ⟨h5_⟩
                      have n6_ : Aside0 (Below w.heap.size w w48) := ⟨h6_⟩
                      clear BK257
                      clear HB
                      clear h0_ h1_ h2_ h3_ h4_ h5_ h6_
                      have BK257 := n0_
                      have BK265 := n1_
                      have GW265 := n2_
                      have GE265 := n3_
                      have NB257_265 := n4_
                      have NB265_257 := n5_
                      have HB := n6_
                      clear n0_ n1_ n2_ n3_ n4_ n5_ n6_
                      have hHeld : w48.cell? ⟨gb257, 0, none⟩ = some (.bool t253) ∧ w48.cell? ⟨gb257, 1, none⟩ = some (.int .u64 t254) ∧ w48.cell? ⟨gb257, 2, none⟩ = some (.int .u64 t255) := hS_
                      refine norm_ (a' := ?_) ?_ ?_
                      rotate_left
                      · simp only [putAll, Act.put, la_, lb_, lc_]
                        rfl
                      refine one_ (i := 8) (N := none) #[true, true, true, true, true, true, true, true, true, false] rfl rfl (one_of HT_.out (by kernel_rfl)) (by decide) (fun K hK => ?_)
                      have hs49 : w48.cell? ⟨gb265, 0, none⟩ = some (.bool false) := (blk_cell BK265.out 0).trans rfl
                      have hfs49 := blk_frozen BK265.out 0
                      have hns49_0 := NB257_265.out
                      have hms49_0 := NB265_257.out
                      have hs50 : w48.cell? ⟨gb265, 1, none⟩ = some (.int .u64 0) := (blk_cell BK265.out 1).trans rfl
                      have hfs50 := blk_frozen BK265.out 1
                      have hns50_0 := NB257_265.out
                      have hms50_0 := NB265_257.out
                      have hs51 : w48.cell? ⟨gb265, 2, none⟩ = some (.int .u64 0) := (blk_cell BK265.out 2).trans rfl
                      have hfs51 := blk_frozen BK265.out 2
                      have hns51_0 := NB257_265.out
                      have hms51_0 := NB265_257.out
                      refine skip_ (w1 := ?_) (by rfl) rfl ?_ ?_
                      rotate_left
                      · go_simp
                        rfl
                      refine hK.out _ _ ⟨((cell_far (p := ⟨gb265, _, none⟩) NB257_265.out _).trans (((cell_far (p := ⟨gb265, _, none⟩) NB257_265.out _).trans (((cell_far (p := ⟨gb265, _, none⟩) NB257_265.out _).trans (hHeld.1)))))), ((cell_far (p := ⟨gb265, _, none⟩) NB257_265.out _).trans (((cell_far (p := ⟨gb265, _, none⟩) NB257_265.out _).trans (((cell_far (p := ⟨gb265, _, none⟩) NB257_265.out _).trans (hHeld.2.1)))))), ((cell_far (p := ⟨gb265, _, none⟩) NB257_265.out _).trans (((cell_far (p := ⟨gb265, _, none⟩) NB257_265.out _).trans (((cell_far (p := ⟨gb265, _, none⟩) NB257_265.out _).trans (hHeld.2.2))))))⟩ (fun hHeld => ?_)
                      clear hK K
                      refine pure_ (i := 9) (N := some 12) (v := ?_) (a' := ?_) #[true, true, true, true, true, true, true, true, true, true] rfl rfl (any_of HT_.out (by kernel_rfl)) (fun _ _ _ h => h) (Or.inl ⟨by rfl, ?_⟩) ?_ ?_
                      rotate_left
                      · intro w'
                        go_simp
                        with_reducible rfl
                      rotate_left
                      · simp only [Act.put, la_, lb_, lc_, i64_w, i32_w]
                        rfl
                      refine done_ (done_of HT_.out (by kernel_rfl)) ?_
                      have hnb52 := NB265_257.out
                      have hnc52 := NB257_265.out
                      have hcz53_0 : w48.cell? ⟨gb265, 0, none⟩ = some (.bool false) := bc_
                      have hcz53_1 : w48.cell? ⟨gb265, 1, none⟩ = some (.int .u64 0) := bc_
                      have hcz53_2 : w48.cell? ⟨gb265, 2, none⟩ = some (.int .u64 0) := bc_
                      have hfz53_0 := blk_frozen BK265.out 0
                      have hfz53_1 := blk_frozen BK265.out 1
                      have hfz53_2 := blk_frozen BK265.out 2
                      try go_wp2_with (first | ((with_reducible refine gate_callee (f := 15) rfl ?_); refine goesL_ (some 57) rfl rfl Try.func15 (by kernel_rfl) rfl #[.agg #[.bool t261, .int .u64 t262, .int .u64 t263]] rfl mp_ ?_; (with_reducible refine (impl_IntOf.calls t261 t262 t263 t266 true _ A13.out).mono ?_); rintro e w54 ⟨rfl, hb⟩; refine ⟨_, rfl, ?_⟩; have n0_ := Aside0.mk (blk_below (g := gb257) (o := .cells #[.bool t253, .int .u64 t254, .int .u64 t255] 30 (0, 0)) (by (with_reducible repeat (first | refine bN_ _ ?_ | refine bd_ ?_ | refine ba_ _ ?_)); refine blk_far ?_ NB257_265.out _; (with_reducible repeat (first | refine bN_ _ ?_ | refine bd_ ?_ | refine ba_ _ ?_)); refine blk_far ?_ NB257_265.out _; (with_reducible repeat (first | refine bN_ _ ?_ | refine bd_ ?_ | refine ba_ _ ?_)); refine blk_far ?_ NB257_265.out _; (with_reducible repeat (first | refine bN_ _ ?_ | refine bd_ ?_ | refine ba_ _ ?_)); exact BK257.out) hb); have n1_ := Aside0.mk (blk_below (g := gb265) (o := .cells #[.bool t261, .int .u64 t262, .int .u64 t263] 30 (0, 0)) (by (with_reducible repeat (first | refine bN_ _ ?_ | refine bd_ ?_ | refine ba_ _ ?_)); refine blk_put (cs := #[.bool t261, .int .u64 t262, .int .u64 0]) ?_ 2 _ rfl; (with_reducible repeat (first | refine bN_ _ ?_ | refine bd_ ?_ | refine ba_ _ ?_)); refine blk_put (cs := #[.bool t261, .int .u64 0, .int .u64 0]) ?_ 1 _ rfl; (with_reducible repeat (first | refine bN_ _ ?_ | refine bd_ ?_ | refine ba_ _ ?_)); refine blk_put (cs := #[.bool false, .int .u64 0, .int .u64 0]) ?_ 0 _ rfl; (with_reducible repeat (first | refine bN_ _ ?_ | refine bd_ ?_ | refine ba_ _ ?_)); exact BK265.out) hb); have n2_ := Aside0.mk (below_step bel_ hb); clear BK257; clear BK265; clear HB; have BK257 := n0_; have BK265 := n1_; have HB := n2_; clear n0_ n1_ n2_; (try clear hb); (try clear hb2); (try clear hk); (try clear hi)))
                      go_ret
                      exact ⟨by first | rfl | (simp [errW_none, errW_some] <;> rfl) | (simp [*, errW_none, errW_some] <;> rfl), by repeat (first | (with_reducible first | exact HB.out | apply below_alloc | apply pw_below_drewN | apply below_drew1 | refine below_set ?_ GE257.out | refine below_set ?_ GE265.out) | exact HB.out)⟩
                    · rw [if_neg c37] at H
                      have c37b0 : decide (t266 ≤ 0) = false := decide_eq_false c37
                      clear c37
                      exact absurd ((Option.some.inj H).trans hrt.out) (by decide)
                  · rw [if_neg c36] at H
                    have c36b0 : decide (t245 < 0) = false := decide_eq_false c36
                    clear c36
                    exact absurd ((Option.some.inj H).trans hrt.out) (by decide)
              · rw [if_neg c17] at H
                have c17b0 : decide (0 ≤ t266) = false := decide_eq_false c17
                clear c17
                by_cases c55 : t245 < 0
                · rw [if_pos c55] at H
                  have c55b0 : decide (t245 < 0) = true := decide_eq_true c55
                  clear c55
                  by_cases c56 : t266 ≤ 0
                  · rw [if_pos c56] at H
                    have c56b0 : decide (t266 ≤ 0) = true := decide_eq_true c56
                    clear c56
                    obtain rfl := Option.some.inj H
                    go_enter Try.func3, Try.ntmps3
                    try go_wp2_with (first | ((with_reducible refine gate_callee (f := 8) rfl ?_); refine goesL_ (some 16) rfl rfl Try.func8 (by kernel_rfl) rfl #[.slice A0 l0.length c0] rfl mp_ ?_; (with_reducible refine (laws_big.calls _ _ l0 false _ ?side1 ?side2 A2.out).mono ?_); (case side1 => repeat (first | exact HR0.out | (with_reducible refine Kd.C_alloc ?_ _) | (with_reducible refine Kd.C_drewN ?_ _) | (with_reducible refine Kd.C_drew ?_))); (case side2 => exact HC0.out); rintro e w' ⟨rfl, ⟨nd, rfl⟩⟩; refine ⟨_, rfl, ?_⟩) | ((with_reducible refine gate_callee (f := 9) rfl ?_); refine goesL_ (some 19) rfl rfl Try.func9 (by kernel_rfl) rfl #[.slice A0 l0.length c0] rfl mp_ ?_; (with_reducible refine (spec_DrawFloorDiv.calls k _ _ l0 t244 t245 _ ?side1 ?side2 A4.out).mono ?_); (case side1 => repeat (first | exact HR0.out | (with_reducible refine Kd.C_alloc ?_ _) | (with_reducible refine Kd.C_drewN ?_ _) | (with_reducible refine Kd.C_drew ?_))); (case side2 => exact HC0.out); rintro e w57 ⟨rfl, hb⟩; refine ⟨_, rfl, ?_⟩; have n0_ := Aside0.mk (below_step bel_ hb); clear HB; have HB := n0_; clear n0_; (try clear hb); (try clear hb2); (try clear hk); (try clear hi)) | ((with_reducible refine gate_callee (f := 10) rfl ?_); refine goesL_ (some 25) rfl rfl Try.func10 (by kernel_rfl) rfl #[.int .i64 t244, .int .i64 t245] rfl mp_ ?_; (with_reducible refine (impl_FloorDiv.calls k t244 t245 t246 true _ A5.out).mono ?_); rintro e w' ⟨rfl, ⟨nd, rfl⟩⟩; refine ⟨_, rfl, ?_⟩; (try (rw [drewN_self w57]; generalize hq_ : World.drewN w57 _ = w57; have n0_ : Aside0 (Below w.heap.size w w57) := ⟨by rw [← hq_]; exact bel_⟩; clear HB hq_; have HB := n0_; clear n0_))) | ((with_reducible refine gate_callee (f := 11) rfl ?_); refine goesL_ (some 31) rfl rfl Try.func11 (by kernel_rfl) rfl #[.int .i64 t244, .int .i64 t245] rfl mp_ ?_; (with_reducible refine (spec_FloorDiv.calls k t244 t245 t248 t249 _ A6.out).mono ?_); rintro e w' ⟨rfl, ⟨nd, rfl⟩⟩; refine ⟨_, rfl, ?_⟩; (try (rw [drewN_self w57]; generalize hq_ : World.drewN w57 _ = w57; have n0_ : Aside0 (Below w.heap.size w w57) := ⟨by rw [← hq_]; exact bel_⟩; clear HB hq_; have HB := n0_; clear n0_))) | ((with_reducible refine gate_callee (f := 13) rfl ?_); refine goesL_ (some 43) rfl rfl Try.func13 (by kernel_rfl) rfl #[.int .i64 t246] rfl mp_ ?_; (with_reducible refine (spec_WideOf.calls t246 t250 t251 t252 _ A9.out).mono ?_); rintro e w58 ⟨rfl, hb⟩; refine ⟨_, rfl, ?_⟩; have n0_ := Aside0.mk (below_step bel_ hb); clear HB; have HB := n0_; clear n0_; (try clear hb); (try clear hb2); (try clear hk); (try clear hi)) | ((with_reducible refine gate_callee (f := 12) rfl ?_); refine goesL_ (some 45) rfl rfl Try.func12 (by kernel_rfl) rfl #[.agg #[.bool t250, .int .u64 t251, .int .u64 t252], .int .i64 t245] rfl mp_ ?_; (with_reducible refine (spec_ScaleWide.calls t250 t251 t252 t245 t253 t254 t255 t256 _ A10.out).mono ?_); rintro e w59 ⟨rfl, hb⟩; refine ⟨_, rfl, ?_⟩; have n0_ := Aside0.mk (below_step bel_ hb); clear HB; have HB := n0_; clear n0_; (try clear hb); (try clear hb2); (try clear hk); (try clear hi)) | ((with_reducible refine gate_dst (N := 9) rfl ?_); refine box_event ?hg (N := 9) ?hd (cs := #[.bool false, .int .u64 0, .int .u64 0]) (t := 30) ?hr ?_; (case hd => rfl); (case hg => rfl); (case hr => first | (go_simp; done) | (go_simp; rfl)); intro gb257 hg w60 hbox hb; have n0_ := Aside0.mk (below_step bel_ hb); have n1_ := Aside0.mk (hbox); have n2_ := Aside0.mk ((by rw [hg]; exact (below_size bel_) : w.heap.size ≤ gb257)); have n3_ := Aside0.mk ((by rw [hg]; exact (below_size bel_) : w.heap.size ≤ gb257)); clear HB; have HB := n0_; have BK257 := n1_; have GW257 := n2_; have GE257 := n3_; clear n0_ n1_ n2_ n3_; clear hb hbox hg; have hcz61_0 : w60.cell? ⟨gb257, 0, none⟩ = some (.bool false) := bc_; have hcz61_1 : w60.cell? ⟨gb257, 1, none⟩ = some (.int .u64 0) := bc_; have hcz61_2 : w60.cell? ⟨gb257, 2, none⟩ = some (.int .u64 0) := bc_; have hfz61_0 := blk_frozen BK257.out 0; have hfz61_1 := blk_frozen BK257.out 1; have hfz61_2 := blk_frozen BK257.out 2))
                    have n0_ : Aside0 ((((w60.setCell ⟨gb257, 0, none⟩ (.bool t253)).setCell ⟨gb257, 1, none⟩ (.int .u64 t254)).setCell ⟨gb257, 2, none⟩ (.int .u64 t255)).heap[gb257]? = some (.cells #[.bool t253, .int .u64 t254, .int .u64 t255] 30 (0, 0))) := ⟨by (with_reducible repeat (first | refine bN_ _ ?_ | refine bd_ ?_ | refine ba_ _ ?_)); refine blk_put (cs := #[.bool t253, .int .u64 t254, .int .u64 0]) ?_ 2 _ rfl; (with_reducible repeat (first | refine bN_ _ ?_ | refine bd_ ?_ | refine ba_ _ ?_)); refine blk_put (cs := #[.bool t253, .int .u64 0, .int .u64 0]) ?_ 1 _ rfl; (with_reducible repeat (first | refine bN_ _ ?_ | refine bd_ ?_ | refine ba_ _ ?_)); refine blk_put (cs := #[.bool false, .int .u64 0, .int .u64 0]) ?_ 0 _ rfl; (with_reducible repeat (first | refine bN_ _ ?_ | refine bd_ ?_ | refine ba_ _ ?_)); exact BK257.out⟩
                    have n1_ : Aside0 (Below w.heap.size w (((w60.setCell ⟨gb257, 0, none⟩ (.bool t253)).setCell ⟨gb257, 1, none⟩ (.int .u64 t254)).setCell ⟨gb257, 2, none⟩ (.int .u64 t255))) := ⟨by repeat (first | (with_reducible first | exact HB.out | apply below_alloc | apply pw_below_drewN | apply below_drew1 | refine below_set ?_ GE257.out) | exact HB.out)⟩
                    (try clear BK257)
                    (try clear HB)
                    generalize (((w60.setCell ⟨gb257, 0, none⟩ (.bool t253)).setCell ⟨gb257, 1, none⟩ (.int .u64 t254)).setCell ⟨gb257, 2, none⟩ (.int .u64 t255)) = w62 at n0_ n1_ ⊢
                    have BK257 := n0_
                    have HB := n1_
                    clear n0_ n1_
                    have n0_ := Aside0.mk (blk_drew BK257.out)
                    have n1_ := Aside0.mk (below_drew1 HB.out)
                    clear BK257
                    clear HB
                    have BK257 := n0_
                    have HB := n1_
                    clear n0_ n1_
                    refine start_ (n := 10) (S := fun w' => w'.cell? ⟨gb257, 0, none⟩ = some (.bool t253) ∧ w'.cell? ⟨gb257, 1, none⟩ = some (.int .u64 t254) ∧ w'.cell? ⟨gb257, 2, none⟩ = some (.int .u64 t255)) (ds := []) #[false, false, false, false, false, false, false, false, false, false] (by kernel_rfl) rfl rfl ⟨bc_, bc_, bc_⟩ (fun hHeld => ?_); refine with_tabW laws_FnFloor.tab11 laws_FnFloor.bits11 (fun HT_ HW_ => ?_)
                    generalize w62.drew = w63 at BK257 HB hHeld ⊢
                    refine pure_ (i := 0) (N := some 49) (v := ?_) (a' := ?_) #[true, false, false, false, false, false, false, false, false, false] rfl rfl (any_of HT_.out (by kernel_rfl)) (fun _ _ _ h => h) (Or.inl ⟨by rfl, ?_⟩) ?_ ?_
                    rotate_left
                    · intro w'
                      go_simp
                      with_reducible rfl
                    rotate_left
                    · simp only [Act.put, la_, lb_, lc_, i64_w, i32_w]
                      rfl
                    refine take_ (i := 2) (N := some 51) (v := ?_) (a' := ?_) #[true, false, true, false, false, false, false, false, false, false] rfl rfl (take_ofW HT_.out HW_.out (by kernel_rfl)) (fun _ _ _ h => h) (Or.inl ⟨by rfl, ?_⟩) hHeld ?_ ?_
                    rotate_left
                    · rintro w' ⟨s0, s1, s2⟩
                      go_simp
                      with_reducible rfl
                    rotate_left
                    · simp only [Act.put, la_, lb_, lc_, i64_w, i32_w]
                      rfl
                    refine join_ (σ := Nat) 2 #[true, true, true, true, true, true, true, true, false, false] (fun s_ => [(50, .agg #[.bool t258, .int .u64 t259, .int .u64 t260]), (52, .tuple #[.agg #[.bool t261, .int .u64 t262, .int .u64 t263], .bool true]), (11, .pointer (some ⟨s_, 0, none⟩)), (48, .tuple #[.agg #[.bool t261, .int .u64 t262, .int .u64 t263], .bool true]), (53, .agg #[.bool t261, .int .u64 t262, .int .u64 t263]), (54, .bool true)]) (fun s_ w' => (w'.cell? ⟨gb257, 0, none⟩ = some (.bool t253) ∧ w'.cell? ⟨gb257, 1, none⟩ = some (.int .u64 t254) ∧ w'.cell? ⟨gb257, 2, none⟩ = some (.int .u64 t255)) ∧ (w'.heap[gb257]? = some (.cells #[.bool t253, .int .u64 t254, .int .u64 t255] 30 (0, 0))) ∧ (w'.heap[s_]? = some (.cells #[.bool false, .int .u64 0, .int .u64 0] 30 (0, 0))) ∧ (w.heap.size ≤ s_) ∧ (w.heap.size ≤ s_) ∧ (gb257 ≠ s_) ∧ (s_ ≠ gb257) ∧ (Below w.heap.size w w')) ?_ ?_
                    rotate_left
                    · intro hCont
                      refine two_ (i := 1) (j := 7) (Ni := some 50) (Nj := some 11) #[true, true, true, false, false, false, false, false, false, false] #[true, false, true, false, false, false, false, true, false, false] rfl rfl rfl rfl (two_of HT_.out (by kernel_rfl)) (by decide) (by decide) (fun K hK => ?_) (fun K hK => ?_)
                      · skip
                        refine goes_ Try.func13 (by kernel_rfl) rfl #[.int .i64 t244] (by rfl) rfl rfl mp_ ?_
                        with_reducible refine (spec_WideOf.calls t244 t258 t259 t260 _ A11.out).mono ?_
                        rintro e w64 ⟨rfl, hb⟩
                        refine ⟨_, rfl, ?_⟩
                        have n0_ := bb_ (g := gb257) (o := .cells #[.bool t253, .int .u64 t254, .int .u64 t255] 30 (0, 0)) hb
                        have n1_ := Aside0.mk (below_step bel_ hb)
                        clear BK257
                        clear HB
                        have BK257 := n0_
                        have HB := n1_
                        clear n0_ n1_
                        (try clear hb)
                        (try clear hb2)
                        (try clear hk)
                        (try clear hi)
                        refine hK.out _ _ ⟨bc_, bc_, bc_⟩ (fun hHeld => ?_)
                        clear hK K
                        refine norm_ (a' := ?_) ?_ ?_
                        rotate_left
                        · show Act.put _ (some 50) _ = _
                          simp only [Act.put, la_, lb_, lc_, i64_w, i32_w]
                          rfl
                        refine two_ (i := 3) (j := 7) (Ni := some 52) (Nj := some 11) #[true, true, true, true, false, false, false, false, false, false] #[true, true, true, false, false, false, false, true, false, false] rfl rfl rfl rfl (two_of HT_.out (by kernel_rfl)) (by decide) (by decide) (fun K hK => ?_) (fun K hK => ?_)
                        · skip
                          refine goes_ Try.func14 (by kernel_rfl) rfl #[.agg #[.bool t258, .int .u64 t259, .int .u64 t260], .agg #[.bool t253, .int .u64 t254, .int .u64 t255]] (by rfl) rfl rfl mp_ ?_
                          with_reducible refine (impl_SubWide.calls k t258 t259 t260 t253 t254 t255 t261 t262 t263 true _ A12.out).mono ?_
                          rintro e w65 ⟨rfl, hb⟩
                          refine ⟨_, rfl, ?_⟩
                          have n0_ := bb_ (g := gb257) (o := .cells #[.bool t253, .int .u64 t254, .int .u64 t255] 30 (0, 0)) hb
                          have n1_ := Aside0.mk (below_step bel_ hb)
                          clear BK257
                          clear HB
                          have BK257 := n0_
                          have HB := n1_
                          clear n0_ n1_
                          (try clear hb)
                          (try clear hb2)
                          (try clear hk)
                          (try clear hi)
                          refine hK.out _ _ ⟨bc_, bc_, bc_⟩ (fun hHeld => ?_)
                          clear hK K
                          refine norm_ (a' := ?_) ?_ ?_
                          rotate_left
                          · show Act.put _ (some 52) _ = _
                            simp only [Act.put, la_, lb_, lc_, i64_w, i32_w]
                            rfl
                          refine pure_ (i := 4) (N := some 48) (v := ?_) (a' := ?_) #[true, true, true, true, true, false, false, false, false, false] rfl rfl (any_of HT_.out (by kernel_rfl)) (fun _ _ _ h => h) (Or.inl ⟨by rfl, ?_⟩) ?_ ?_
                          rotate_left
                          · intro w'
                            go_simp
                            with_reducible rfl
                          rotate_left
                          · simp only [Act.put, la_, lb_, lc_, i64_w, i32_w]
                            rfl
                          refine pure_ (i := 5) (N := some 53) (v := ?_) (a' := ?_) #[true, true, true, true, true, true, false, false, false, false] rfl rfl (any_of HT_.out (by kernel_rfl)) (fun _ _ _ h => h) (Or.inl ⟨by rfl, ?_⟩) ?_ ?_
                          rotate_left
                          · intro w'
                            go_simp
                            with_reducible rfl
                          rotate_left
                          · simp only [Act.put, la_, lb_, lc_, i64_w, i32_w]
                            rfl
                          refine pure_ (i := 6) (N := some 54) (v := ?_) (a' := ?_) #[true, true, true, true, true, true, true, false, false, false] rfl rfl (any_of HT_.out (by kernel_rfl)) (fun _ _ _ h => h) (Or.inl ⟨by rfl, ?_⟩) ?_ ?_
                          rotate_left
                          · intro w'
                            go_simp
                            with_reducible rfl
                          rotate_left
                          · simp only [Act.put, la_, lb_, lc_, i64_w, i32_w]
                            rfl
                          refine one_ (i := 7) (N := some 11) #[true, true, true, true, true, true, true, true, false, false] rfl rfl (one_of HT_.out (by kernel_rfl)) (by decide) (fun K hK => ?_)
                          refine box_step ?hg (N := 11) ?hd (cs := #[.bool false, .int .u64 0, .int .u64 0]) (t := 30) ?hr ?_; (case hd => rfl); (case hg => rfl); (case hr => first | (go_simp; done) | (go_simp; rfl))
                          intro gb265 hg w66 hbox hb
                          have n0_ := bb_ (g := gb257) (o := .cells #[.bool t253, .int .u64 t254, .int .u64 t255] 30 (0, 0)) hb
                          have n1_ := Aside0.mk (below_step bel_ hb)
                          have n2_ := Aside0.mk (hbox)
                          have n3_ := Aside0.mk ((by rw [hg]; exact (below_size bel_) : w.heap.size ≤ gb265))
                          have n4_ := Aside0.mk ((by rw [hg]; exact (below_size bel_) : w.heap.size ≤ gb265))
                          have n5_ := nlt_ (g := gb257) (o := .cells #[.bool t253, .int .u64 t254, .int .u64 t255] 30 (0, 0)) hg
                          have n6_ := ngt_ (g := gb257) (o := .cells #[.bool t253, .int .u64 t254, .int .u64 t255] 30 (0, 0)) hg
                          clear BK257
                          clear HB
                          have BK257 := n0_
                          have HB := n1_
                          have BK265 := n2_
                          have GW265 := n3_
                          have GE265 := n4_
                          have NB257_265 := n5_
                          have NB265_257 := n6_
                          clear n0_ n1_ n2_ n3_ n4_ n5_ n6_
                          clear hb hbox hg
                          refine hK.out _ _ ⟨bc_, bc_, bc_⟩ (fun hHeld => ?_)
                          clear hK K
                          refine norm_ (a' := ?_) ?_ ?_
                          rotate_left
                          · show Act.put _ (some 11) _ = _
                            simp only [Act.put, la_, lb_, lc_, i64_w, i32_w]
                            rfl
                          exact norm_ (by simp only [putAll, Act.put, la_, lb_, lc_]) (hCont (gb265) _ ⟨hHeld, (by (with_reducible repeat (first | refine bN_ _ ?_ | refine bd_ ?_ | refine ba_ _ ?_)); exact BK257.out), (by (with_reducible repeat (first | refine bN_ _ ?_ | refine bd_ ?_ | refine ba_ _ ?_)); exact BK265.out), GW265.out, GE265.out, NB257_265.out, NB265_257.out, bel_⟩)
                        · skip
                          refine box_step ?hg (N := 11) ?hd (cs := #[.bool false, .int .u64 0, .int .u64 0]) (t := 30) ?hr ?_; (case hd => rfl); (case hg => rfl); (case hr => first | (go_simp; done) | (go_simp; rfl))
                          intro gb265 hg w65 hbox hb
                          have n0_ := bb_ (g := gb257) (o := .cells #[.bool t253, .int .u64 t254, .int .u64 t255] 30 (0, 0)) hb
                          have n1_ := Aside0.mk (below_step bel_ hb)
                          have n2_ := Aside0.mk (hbox)
                          have n3_ := Aside0.mk ((by rw [hg]; exact (below_size bel_) : w.heap.size ≤ gb265))
                          have n4_ := Aside0.mk ((by rw [hg]; exact (below_size bel_) : w.heap.size ≤ gb265))
                          have n5_ := nlt_ (g := gb257) (o := .cells #[.bool t253, .int .u64 t254, .int .u64 t255] 30 (0, 0)) hg
                          have n6_ := ngt_ (g := gb257) (o := .cells #[.bool t253, .int .u64 t254, .int .u64 t255] 30 (0, 0)) hg
                          clear BK257
                          clear HB
                          have BK257 := n0_
                          have HB := n1_
                          have BK265 := n2_
                          have GW265 := n3_
                          have GE265 := n4_
                          have NB257_265 := n5_
                          have NB265_257 := n6_
                          clear n0_ n1_ n2_ n3_ n4_ n5_ n6_
                          clear hb hbox hg
                          refine hK.out _ _ ⟨bc_, bc_, bc_⟩ (fun hHeld => ?_)
                          clear hK K
                          refine norm_ (a' := ?_) ?_ ?_
                          rotate_left
                          · show Act.put _ (some 11) _ = _
                            simp only [Act.put, la_, lb_, lc_, i64_w, i32_w]
                            rfl
                          refine one_ (i := 3) (N := some 52) #[true, true, true, true, false, false, false, true, false, false] rfl rfl (one_of HT_.out (by kernel_rfl)) (by decide) (fun K hK => ?_)
                          refine goes_ Try.func14 (by kernel_rfl) rfl #[.agg #[.bool t258, .int .u64 t259, .int .u64 t260], .agg #[.bool t253, .int .u64 t254, .int .u64 t255]] (by rfl) rfl rfl mp_ ?_
                          with_reducible refine (impl_SubWide.calls k t258 t259 t260 t253 t254 t255 t261 t262 t263 true _ A12.out).mono ?_
                          rintro e w66 ⟨rfl, hb⟩
                          refine ⟨_, rfl, ?_⟩
                          have n0_ := bb_ (g := gb257) (o := .cells #[.bool t253, .int .u64 t254, .int .u64 t255] 30 (0, 0)) hb
                          have n1_ := bb_ (g := gb265) (o := .cells #[.bool false, .int .u64 0, .int .u64 0] 30 (0, 0)) hb
                          have n2_ := Aside0.mk (below_step bel_ hb)
                          clear BK257
                          clear BK265
                          clear HB
                          have BK257 := n0_
                          have BK265 := n1_
                          have HB := n2_
                          clear n0_ n1_ n2_
                          (try clear hb)
                          (try clear hb2)
                          (try clear hk)
                          (try clear hi)
                          refine hK.out _ _ ⟨bc_, bc_, bc_⟩ (fun hHeld => ?_)
                          clear hK K
                          refine norm_ (a' := ?_) ?_ ?_
                          rotate_left
                          · show Act.put _ (some 52) _ = _
                            simp only [Act.put, la_, lb_, lc_, i64_w, i32_w]
                            rfl
                          refine pure_ (i := 4) (N := some 48) (v := ?_) (a' := ?_) #[true, true, true, true, true, false, false, true, false, false] rfl rfl (any_of HT_.out (by kernel_rfl)) (fun _ _ _ h => h) (Or.inl ⟨by rfl, ?_⟩) ?_ ?_
                          rotate_left
                          · intro w'
                            go_simp
                            with_reducible rfl
                          rotate_left
                          · simp only [Act.put, la_, lb_, lc_, i64_w, i32_w]
                            rfl
                          refine pure_ (i := 5) (N := some 53) (v := ?_) (a' := ?_) #[true, true, true, true, true, true, false, true, false, false] rfl rfl (any_of HT_.out (by kernel_rfl)) (fun _ _ _ h => h) (Or.inl ⟨by rfl, ?_⟩) ?_ ?_
                          rotate_left
                          · intro w'
                            go_simp
                            with_reducible rfl
                          rotate_left
                          · simp only [Act.put, la_, lb_, lc_, i64_w, i32_w]
                            rfl
                          refine pure_ (i := 6) (N := some 54) (v := ?_) (a' := ?_) #[true, true, true, true, true, true, true, true, false, false] rfl rfl (any_of HT_.out (by kernel_rfl)) (fun _ _ _ h => h) (Or.inl ⟨by rfl, ?_⟩) ?_ ?_
                          rotate_left
                          · intro w'
                            go_simp
                            with_reducible rfl
                          rotate_left
                          · simp only [Act.put, la_, lb_, lc_, i64_w, i32_w]
                            rfl
                          exact norm_ (by simp only [putAll, Act.put, la_, lb_, lc_]) (hCont (gb265) _ ⟨hHeld, (by (with_reducible repeat (first | refine bN_ _ ?_ | refine bd_ ?_ | refine ba_ _ ?_)); exact BK257.out), (by (with_reducible repeat (first | refine bN_ _ ?_ | refine bd_ ?_ | refine ba_ _ ?_)); exact BK265.out), GW265.out, GE265.out, NB257_265.out, NB265_257.out, bel_⟩)
                      · skip
                        refine box_step ?hg (N := 11) ?hd (cs := #[.bool false, .int .u64 0, .int .u64 0]) (t := 30) ?hr ?_; (case hd => rfl); (case hg => rfl); (case hr => first | (go_simp; done) | (go_simp; rfl))
                        intro gb265 hg w64 hbox hb
                        have n0_ := bb_ (g := gb257) (o := .cells #[.bool t253, .int .u64 t254, .int .u64 t255] 30 (0, 0)) hb
                        have n1_ := Aside0.mk (below_step bel_ hb)
                        have n2_ := Aside0.mk (hbox)
                        have n3_ := Aside0.mk ((by rw [hg]; exact (below_size bel_) : w.heap.size ≤ gb265))
                        have n4_ := Aside0.mk ((by rw [hg]; exact (below_size bel_) : w.heap.size ≤ gb265))
                        have n5_ := nlt_ (g := gb257) (o := .cells #[.bool t253, .int .u64 t254, .int .u64 t255] 30 (0, 0)) hg
                        have n6_ := ngt_ (g := gb257) (o := .cells #[.bool t253, .int .u64 t254, .int .u64 t255] 30 (0, 0)) hg
                        clear BK257
                        clear HB
                        have BK257 := n0_
                        have HB := n1_
                        have BK265 := n2_
                        have GW265 := n3_
                        have GE265 := n4_
                        have NB257_265 := n5_
                        have NB265_257 := n6_
                        clear n0_ n1_ n2_ n3_ n4_ n5_ n6_
                        clear hb hbox hg
                        refine hK.out _ _ ⟨bc_, bc_, bc_⟩ (fun hHeld => ?_)
                        clear hK K
                        refine norm_ (a' := ?_) ?_ ?_
                        rotate_left
                        · show Act.put _ (some 11) _ = _
                          simp only [Act.put, la_, lb_, lc_, i64_w, i32_w]
                          rfl
                        refine one_ (i := 1) (N := some 50) #[true, true, true, false, false, false, false, true, false, false] rfl rfl (one_of HT_.out (by kernel_rfl)) (by decide) (fun K hK => ?_)
                        refine goes_ Try.func13 (by kernel_rfl) rfl #[.int .i64 t244] (by rfl) rfl rfl mp_ ?_
                        with_reducible refine (spec_WideOf.calls t244 t258 t259 t260 _ A11.out).mono ?_
                        rintro e w65 ⟨rfl, hb⟩
                        refine ⟨_, rfl, ?_⟩
                        have n0_ := bb_ (g := gb257) (o := .cells #[.bool t253, .int .u64 t254, .int .u64 t255] 30 (0, 0)) hb
                        have n1_ := bb_ (g := gb265) (o := .cells #[.bool false, .int .u64 0, .int .u64 0] 30 (0, 0)) hb
                        have n2_ := Aside0.mk (below_step bel_ hb)
                        clear BK257
                        clear BK265
                        clear HB
                        have BK257 := n0_
                        have BK265 := n1_
                        have HB := n2_
                        clear n0_ n1_ n2_
                        (try clear hb)
                        (try clear hb2)
                        (try clear hk)
                        (try clear hi)
                        refine hK.out _ _ ⟨bc_, bc_, bc_⟩ (fun hHeld => ?_)
                        clear hK K
                        refine norm_ (a' := ?_) ?_ ?_
                        rotate_left
                        · show Act.put _ (some 50) _ = _
                          simp only [Act.put, la_, lb_, lc_, i64_w, i32_w]
                          rfl
                        refine one_ (i := 3) (N := some 52) #[true, true, true, true, false, false, false, true, false, false] rfl rfl (one_of HT_.out (by kernel_rfl)) (by decide) (fun K hK => ?_)
                        refine goes_ Try.func14 (by kernel_rfl) rfl #[.agg #[.bool t258, .int .u64 t259, .int .u64 t260], .agg #[.bool t253, .int .u64 t254, .int .u64 t255]] (by rfl) rfl rfl mp_ ?_
                        with_reducible refine (impl_SubWide.calls k t258 t259 t260 t253 t254 t255 t261 t262 t263 true _ A12.out).mono ?_
                        rintro e w66 ⟨rfl, hb⟩
                        refine ⟨_, rfl, ?_⟩
                        have n0_ := bb_ (g := gb257) (o := .cells #[.bool t253, .int .u64 t254, .int .u64 t255] 30 (0, 0)) hb
                        have n1_ := bb_ (g := gb265) (o := .cells #[.bool false, .int .u64 0, .int .u64 0] 30 (0, 0)) hb
                        have n2_ := Aside0.mk (below_step bel_ hb)
                        clear BK257
                        clear BK265
                        clear HB
                        have BK257 := n0_
                        have BK265 := n1_
                        have HB := n2_
                        clear n0_ n1_ n2_
                        (try clear hb)
                        (try clear hb2)
                        (try clear hk)
                        (try clear hi)
                        refine hK.out _ _ ⟨bc_, bc_, bc_⟩ (fun hHeld => ?_)
                        clear hK K
                        refine norm_ (a' := ?_) ?_ ?_
                        rotate_left
                        · show Act.put _ (some 52) _ = _
                          simp only [Act.put, la_, lb_, lc_, i64_w, i32_w]
                          rfl
                        refine pure_ (i := 4) (N := some 48) (v := ?_) (a' := ?_) #[true, true, true, true, true, false, false, true, false, false] rfl rfl (any_of HT_.out (by kernel_rfl)) (fun _ _ _ h => h) (Or.inl ⟨by rfl, ?_⟩) ?_ ?_
                        rotate_left
                        · intro w'
                          go_simp
                          with_reducible rfl
                        rotate_left
                        · simp only [Act.put, la_, lb_, lc_, i64_w, i32_w]
                          rfl
                        refine pure_ (i := 5) (N := some 53) (v := ?_) (a' := ?_) #[true, true, true, true, true, true, false, true, false, false] rfl rfl (any_of HT_.out (by kernel_rfl)) (fun _ _ _ h => h) (Or.inl ⟨by rfl, ?_⟩) ?_ ?_
                        rotate_left
                        · intro w'
                          go_simp
                          with_reducible rfl
                        rotate_left
                        · simp only [Act.put, la_, lb_, lc_, i64_w, i32_w]
                          rfl
                        refine pure_ (i := 6) (N := some 54) (v := ?_) (a' := ?_) #[true, true, true, true, true, true, true, true, false, false] rfl rfl (any_of HT_.out (by kernel_rfl)) (fun _ _ _ h => h) (Or.inl ⟨by rfl, ?_⟩) ?_ ?_
                        rotate_left
                        · intro w'
                          go_simp
                          with_reducible rfl
                        rotate_left
                        · simp only [Act.put, la_, lb_, lc_, i64_w, i32_w]
                          rfl
                        exact norm_ (by simp only [putAll, Act.put, la_, lb_, lc_]) (hCont (gb265) _ ⟨hHeld, (by (with_reducible repeat (first | refine bN_ _ ?_ | refine bd_ ?_ | refine ba_ _ ?_)); exact BK257.out), (by (with_reducible repeat (first | refine bN_ _ ?_ | refine bd_ ?_ | refine ba_ _ ?_)); exact BK265.out), GW265.out, GE265.out, NB257_265.out, NB265_257.out, bel_⟩)
                    rintro gb265 w67 ⟨hS_, h0_, h1_, h2_, h3_, h4_, h5_, h6_⟩
                    have n0_ : Aside0 (w67.heap[gb257]? = some (.cells #[.bool t253, .int .u64 t254, .int .u64 t255] 30 (0, 0))) := ⟨h0_⟩
                    have n1_ : Aside0 (w67.heap[gb265]? = some (.cells #[.bool false, .int .u64 0, .int .u64 0] 30 (0, 0))) := ⟨h1_⟩
                    have n2_ : Aside0 (w.heap.size ≤ gb265) := ⟨h2_⟩
                    have n3_ : Aside0 (w.heap.size ≤ gb265) := ⟨h3_⟩
                    have n4_ : Aside0 (gb257 ≠ gb265) := ⟨h4_⟩
                    have n5_ : Aside0 (gb265 ≠ gb257) := ⟨h5_⟩
                    have n6_ : Aside0 (Below w.heap.size w w67) := ⟨h6_⟩
                    clear BK257
                    clear HB
                    clear h0_ h1_ h2_ h3_ h4_ h5_ h6_
                    have BK257 := n0_
                    have BK265 := n1_
                    have GW265 := n2_
                    have GE265 := n3_
                    have NB257_265 := n4_
                    have NB265_257 := n5_
                    have HB := n6_
                    clear n0_ n1_ n2_ n3_ n4_ n5_ n6_
                    have hHeld : w67.cell? ⟨gb257, 0, none⟩ = some (.bool t253) ∧ w67.cell? ⟨gb257, 1, none⟩ = some (.int .u64 t254) ∧ w67.cell? ⟨gb257, 2, none⟩ = some (.int .u64 t255) := hS_
                    refine norm_ (a' := ?_) ?_ ?_
                    rotate_left
                    · simp only [putAll, Act.put, la_, lb_, lc_]
                      rfl
                    refine one_ (i := 8) (N := none) #[true, true, true, true, true, true, true, true, true, false] rfl rfl (one_of HT_.out (by kernel_rfl)) (by decide) (fun K hK => ?_)
                    have hs68 : w67.cell? ⟨gb265, 0, none⟩ = some (.bool false) := (blk_cell BK265.out 0).trans rfl
                    have hfs68 := blk_frozen BK265.out 0
                    have hns68_0 := NB257_265.out
                    have hms68_0 := NB265_257.out
                    have hs69 : w67.cell? ⟨gb265, 1, none⟩ = some (.int .u64 0) := (blk_cell BK265.out 1).trans rfl
                    have hfs69 := blk_frozen BK265.out 1
                    have hns69_0 := NB257_265.out
                    have hms69_0 := NB265_257.out
                    have hs70 : w67.cell? ⟨gb265, 2, none⟩ = some (.int .u64 0) := (blk_cell BK265.out 2).trans rfl
                    have hfs70 := blk_frozen BK265.out 2
                    have hns70_0 := NB257_265.out
                    have hms70_0 := NB265_257.out
                    refine skip_ (w1 := ?_) (by rfl) rfl ?_ ?_
                    rotate_left
                    · go_simp
                      rfl
                    refine hK.out _ _ ⟨((cell_far (p := ⟨gb265, _, none⟩) NB257_265.out _).trans (((cell_far (p := ⟨gb265, _, none⟩) NB257_265.out _).trans (((cell_far (p := ⟨gb265, _, none⟩) NB257_265.out _).trans (hHeld.1)))))), ((cell_far (p := ⟨gb265, _, none⟩) NB257_265.out _).trans (((cell_far (p := ⟨gb265, _, none⟩) NB257_265.out _).trans (((cell_far (p := ⟨gb265, _, none⟩) NB257_265.out _).trans (hHeld.2.1)))))), ((cell_far (p := ⟨gb265, _, none⟩) NB257_265.out _).trans (((cell_far (p := ⟨gb265, _, none⟩) NB257_265.out _).trans (((cell_far (p := ⟨gb265, _, none⟩) NB257_265.out _).trans (hHeld.2.2))))))⟩ (fun hHeld => ?_)
                    clear hK K
                    refine pure_ (i := 9) (N := some 12) (v := ?_) (a' := ?_) #[true, true, true, true, true, true, true, true, true, true] rfl rfl (any_of HT_.out (by kernel_rfl)) (fun _ _ _ h => h) (Or.inl ⟨by rfl, ?_⟩) ?_ ?_
                    rotate_left
                    · intro w'
                      go_simp
                      with_reducible rfl
                    rotate_left
                    · simp only [Act.put, la_, lb_, lc_, i64_w, i32_w]
                      rfl
                    refine done_ (done_of HT_.out (by kernel_rfl)) ?_
                    have hnb71 := NB265_257.out
                    have hnc71 := NB257_265.out
                    have hcz72_0 : w67.cell? ⟨gb265, 0, none⟩ = some (.bool false) := bc_
                    have hcz72_1 : w67.cell? ⟨gb265, 1, none⟩ = some (.int .u64 0) := bc_
                    have hcz72_2 : w67.cell? ⟨gb265, 2, none⟩ = some (.int .u64 0) := bc_
                    have hfz72_0 := blk_frozen BK265.out 0
                    have hfz72_1 := blk_frozen BK265.out 1
                    have hfz72_2 := blk_frozen BK265.out 2
                    try go_wp2_with (first | ((with_reducible refine gate_callee (f := 15) rfl ?_); refine goesL_ (some 57) rfl rfl Try.func15 (by kernel_rfl) rfl #[.agg #[.bool t261, .int .u64 t262, .int .u64 t263]] rfl mp_ ?_; (with_reducible refine (impl_IntOf.calls t261 t262 t263 t266 true _ A13.out).mono ?_); rintro e w73 ⟨rfl, hb⟩; refine ⟨_, rfl, ?_⟩; have n0_ := Aside0.mk (blk_below (g := gb257) (o := .cells #[.bool t253, .int .u64 t254, .int .u64 t255] 30 (0, 0)) (by (with_reducible repeat (first | refine bN_ _ ?_ | refine bd_ ?_ | refine ba_ _ ?_)); refine blk_far ?_ NB257_265.out _; (with_reducible repeat (first | refine bN_ _ ?_ | refine bd_ ?_ | refine ba_ _ ?_)); refine blk_far ?_ NB257_265.out _; (with_reducible repeat (first | refine bN_ _ ?_ | refine bd_ ?_ | refine ba_ _ ?_)); refine blk_far ?_ NB257_265.out _; (with_reducible repeat (first | refine bN_ _ ?_ | refine bd_ ?_ | refine ba_ _ ?_)); exact BK257.out) hb); have n1_ := Aside0.mk (blk_below (g := gb265) (o := .cells #[.bool t261, .int .u64 t262, .int .u64 t263] 30 (0, 0)) (by (with_reducible repeat (first | refine bN_ _ ?_ | refine bd_ ?_ | refine ba_ _ ?_)); refine blk_put (cs := #[.bool t261, .int .u64 t262, .int .u64 0]) ?_ 2 _ rfl; (with_reducible repeat (first | refine bN_ _ ?_ | refine bd_ ?_ | refine ba_ _ ?_)); refine blk_put (cs := #[.bool t261, .int .u64 0, .int .u64 0]) ?_ 1 _ rfl; (with_reducible repeat (first | refine bN_ _ ?_ | refine bd_ ?_ | refine ba_ _ ?_)); refine blk_put (cs := #[.bool false, .int .u64 0, .int .u64 0]) ?_ 0 _ rfl; (with_reducible repeat (first | refine bN_ _ ?_ | refine bd_ ?_ | refine ba_ _ ?_)); exact BK265.out) hb); have n2_ := Aside0.mk (below_step bel_ hb); clear BK257; clear BK265; clear HB; have BK257 := n0_; have BK265 := n1_; have HB := n2_; clear n0_ n1_ n2_; (try clear hb); (try clear hb2); (try clear hk); (try clear hi)))
                    go_ret
                    exact ⟨by first | rfl | (simp [errW_none, errW_some] <;> rfl) | (simp [*, errW_none, errW_some] <;> rfl), by repeat (first | (with_reducible first | exact HB.out | apply below_alloc | apply pw_below_drewN | apply below_drew1 | refine below_set ?_ GE257.out | refine below_set ?_ GE265.out) | exact HB.out)⟩
                  · rw [if_neg c56] at H
                    have c56b0 : decide (t266 ≤ 0) = false := decide_eq_false c56
                    clear c56
                    exact absurd ((Option.some.inj H).trans hrt.out) (by decide)
                · rw [if_neg c55] at H
                  have c55b0 : decide (t245 < 0) = false := decide_eq_false c55
                  clear c55
                  exact absurd ((Option.some.inj H).trans hrt.out) (by decide)
            · rw [if_neg c16] at H
              have c16b0 : decide (0 < t245) = false := decide_eq_false c16
              clear c16
              by_cases c74 : t245 < 0
              · rw [if_pos c74] at H
                have c74b0 : decide (t245 < 0) = true := decide_eq_true c74
                clear c74
                by_cases c75 : t266 ≤ 0
                · rw [if_pos c75] at H
                  have c75b0 : decide (t266 ≤ 0) = true := decide_eq_true c75
                  clear c75
                  obtain rfl := Option.some.inj H
                  go_enter Try.func3, Try.ntmps3
                  try go_wp2_with (first | ((with_reducible refine gate_callee (f := 8) rfl ?_); refine goesL_ (some 16) rfl rfl Try.func8 (by kernel_rfl) rfl #[.slice A0 l0.length c0] rfl mp_ ?_; (with_reducible refine (laws_big.calls _ _ l0 false _ ?side1 ?side2 A2.out).mono ?_); (case side1 => repeat (first | exact HR0.out | (with_reducible refine Kd.C_alloc ?_ _) | (with_reducible refine Kd.C_drewN ?_ _) | (with_reducible refine Kd.C_drew ?_))); (case side2 => exact HC0.out); rintro e w' ⟨rfl, ⟨nd, rfl⟩⟩; refine ⟨_, rfl, ?_⟩) | ((with_reducible refine gate_callee (f := 9) rfl ?_); refine goesL_ (some 19) rfl rfl Try.func9 (by kernel_rfl) rfl #[.slice A0 l0.length c0] rfl mp_ ?_; (with_reducible refine (spec_DrawFloorDiv.calls k _ _ l0 t244 t245 _ ?side1 ?side2 A4.out).mono ?_); (case side1 => repeat (first | exact HR0.out | (with_reducible refine Kd.C_alloc ?_ _) | (with_reducible refine Kd.C_drewN ?_ _) | (with_reducible refine Kd.C_drew ?_))); (case side2 => exact HC0.out); rintro e w76 ⟨rfl, hb⟩; refine ⟨_, rfl, ?_⟩; have n0_ := Aside0.mk (below_step bel_ hb); clear HB; have HB := n0_; clear n0_; (try clear hb); (try clear hb2); (try clear hk); (try clear hi)) | ((with_reducible refine gate_callee (f := 10) rfl ?_); refine goesL_ (some 25) rfl rfl Try.func10 (by kernel_rfl) rfl #[.int .i64 t244, .int .i64 t245] rfl mp_ ?_; (with_reducible refine (impl_FloorDiv.calls k t244 t245 t246 true _ A5.out).mono ?_); rintro e w' ⟨rfl, ⟨nd, rfl⟩⟩; refine ⟨_, rfl, ?_⟩; (try (rw [drewN_self w76]; generalize hq_ : World.drewN w76 _ = w76; have n0_ : Aside0 (Below w.heap.size w w76) := ⟨by rw [← hq_]; exact bel_⟩; clear HB hq_; have HB := n0_; clear n0_))) | ((with_reducible refine gate_callee (f := 11) rfl ?_); refine goesL_ (some 31) rfl rfl Try.func11 (by kernel_rfl) rfl #[.int .i64 t244, .int .i64 t245] rfl mp_ ?_; (with_reducible refine (spec_FloorDiv.calls k t244 t245 t248 t249 _ A6.out).mono ?_); rintro e w' ⟨rfl, ⟨nd, rfl⟩⟩; refine ⟨_, rfl, ?_⟩; (try (rw [drewN_self w76]; generalize hq_ : World.drewN w76 _ = w76; have n0_ : Aside0 (Below w.heap.size w w76) := ⟨by rw [← hq_]; exact bel_⟩; clear HB hq_; have HB := n0_; clear n0_))) | ((with_reducible refine gate_callee (f := 13) rfl ?_); refine goesL_ (some 43) rfl rfl Try.func13 (by kernel_rfl) rfl #[.int .i64 t246] rfl mp_ ?_; (with_reducible refine (spec_WideOf.calls t246 t250 t251 t252 _ A9.out).mono ?_); rintro e w77 ⟨rfl, hb⟩; refine ⟨_, rfl, ?_⟩; have n0_ := Aside0.mk (below_step bel_ hb); clear HB; have HB := n0_; clear n0_; (try clear hb); (try clear hb2); (try clear hk); (try clear hi)) | ((with_reducible refine gate_callee (f := 12) rfl ?_); refine goesL_ (some 45) rfl rfl Try.func12 (by kernel_rfl) rfl #[.agg #[.bool t250, .int .u64 t251, .int .u64 t252], .int .i64 t245] rfl mp_ ?_; (with_reducible refine (spec_ScaleWide.calls t250 t251 t252 t245 t253 t254 t255 t256 _ A10.out).mono ?_); rintro e w78 ⟨rfl, hb⟩; refine ⟨_, rfl, ?_⟩; have n0_ := Aside0.mk (below_step bel_ hb); clear HB; have HB := n0_; clear n0_; (try clear hb); (try clear hb2); (try clear hk); (try clear hi)) | ((with_reducible refine gate_dst (N := 9) rfl ?_); refine box_event ?hg (N := 9) ?hd (cs := #[.bool false, .int .u64 0, .int .u64 0]) (t := 30) ?hr ?_; (case hd => rfl); (case hg => rfl); (case hr => first | (go_simp; done) | (go_simp; rfl)); intro gb257 hg w79 hbox hb; have n0_ := Aside0.mk (below_step bel_ hb); have n1_ := Aside0.mk (hbox); have n2_ := Aside0.mk ((by rw [hg]; exact (below_size bel_) : w.heap.size ≤ gb257)); have n3_ := Aside0.mk ((by rw [hg]; exact (below_size bel_) : w.heap.size ≤ gb257)); clear HB; have HB := n0_; have BK257 := n1_; have GW257 := n2_; have GE257 := n3_; clear n0_ n1_ n2_ n3_; clear hb hbox hg; have hcz80_0 : w79.cell? ⟨gb257, 0, none⟩ = some (.bool false) := bc_; have hcz80_1 : w79.cell? ⟨gb257, 1, none⟩ = some (.int .u64 0) := bc_; have hcz80_2 : w79.cell? ⟨gb257, 2, none⟩ = some (.int .u64 0) := bc_; have hfz80_0 := blk_frozen BK257.out 0; have hfz80_1 := blk_frozen BK257.out 1; have hfz80_2 := blk_frozen BK257.out 2))
                  have n0_ : Aside0 ((((w79.setCell ⟨gb257, 0, none⟩ (.bool t253)).setCell ⟨gb257, 1, none⟩ (.int .u64 t254)).setCell ⟨gb257, 2, none⟩ (.int .u64 t255)).heap[gb257]? = some (.cells #[.bool t253, .int .u64 t254, .int .u64 t255] 30 (0, 0))) := ⟨by (with_reducible repeat (first | refine bN_ _ ?_ | refine bd_ ?_ | refine ba_ _ ?_)); refine blk_put (cs := #[.bool t253, .int .u64 t254, .int .u64 0]) ?_ 2 _ rfl; (with_reducible repeat (first | refine bN_ _ ?_ | refine bd_ ?_ | refine ba_ _ ?_)); refine blk_put (cs := #[.bool t253, .int .u64 0, .int .u64 0]) ?_ 1 _ rfl; (with_reducible repeat (first | refine bN_ _ ?_ | refine bd_ ?_ | refine ba_ _ ?_)); refine blk_put (cs := #[.bool false, .int .u64 0, .int .u64 0]) ?_ 0 _ rfl; (with_reducible repeat (first | refine bN_ _ ?_ | refine bd_ ?_ | refine ba_ _ ?_)); exact BK257.out⟩
                  have n1_ : Aside0 (Below w.heap.size w (((w79.setCell ⟨gb257, 0, none⟩ (.bool t253)).setCell ⟨gb257, 1, none⟩ (.int .u64 t254)).setCell ⟨gb257, 2, none⟩ (.int .u64 t255))) := ⟨by repeat (first | (with_reducible first | exact HB.out | apply below_alloc | apply pw_below_drewN | apply below_drew1 | refine below_set ?_ GE257.out) | exact HB.out)⟩
                  (try clear BK257)
                  (try clear HB)
                  generalize (((w79.setCell ⟨gb257, 0, none⟩ (.bool t253)).setCell ⟨gb257, 1, none⟩ (.int .u64 t254)).setCell ⟨gb257, 2, none⟩ (.int .u64 t255)) = w81 at n0_ n1_ ⊢
                  have BK257 := n0_
                  have HB := n1_
                  clear n0_ n1_
                  have n0_ := Aside0.mk (blk_drew BK257.out)
                  have n1_ := Aside0.mk (below_drew1 HB.out)
                  clear BK257
                  clear HB
                  have BK257 := n0_
                  have HB := n1_
                  clear n0_ n1_
                  refine start_ (n := 10) (S := fun w' => w'.cell? ⟨gb257, 0, none⟩ = some (.bool t253) ∧ w'.cell? ⟨gb257, 1, none⟩ = some (.int .u64 t254) ∧ w'.cell? ⟨gb257, 2, none⟩ = some (.int .u64 t255)) (ds := []) #[false, false, false, false, false, false, false, false, false, false] (by kernel_rfl) rfl rfl ⟨bc_, bc_, bc_⟩ (fun hHeld => ?_); refine with_tabW laws_FnFloor.tab11 laws_FnFloor.bits11 (fun HT_ HW_ => ?_)
                  generalize w81.drew = w82 at BK257 HB hHeld ⊢
                  refine pure_ (i := 0) (N := some 49) (v := ?_) (a' := ?_) #[true, false, false, false, false, false, false, false, false, false] rfl rfl (any_of HT_.out (by kernel_rfl)) (fun _ _ _ h => h) (Or.inl ⟨by rfl, ?_⟩) ?_ ?_
                  rotate_left
                  · intro w'
                    go_simp
                    with_reducible rfl
                  rotate_left
                  · simp only [Act.put, la_, lb_, lc_, i64_w, i32_w]
                    rfl
                  refine take_ (i := 2) (N := some 51) (v := ?_) (a' := ?_) #[true, false, true, false, false, false, false, false, false, false] rfl rfl (take_ofW HT_.out HW_.out (by kernel_rfl)) (fun _ _ _ h => h) (Or.inl ⟨by rfl, ?_⟩) hHeld ?_ ?_
                  rotate_left
                  · rintro w' ⟨s0, s1, s2⟩
                    go_simp
                    with_reducible rfl
                  rotate_left
                  · simp only [Act.put, la_, lb_, lc_, i64_w, i32_w]
                    rfl
                  refine join_ (σ := Nat) 2 #[true, true, true, true, true, true, true, true, false, false] (fun s_ => [(50, .agg #[.bool t258, .int .u64 t259, .int .u64 t260]), (52, .tuple #[.agg #[.bool t261, .int .u64 t262, .int .u64 t263], .bool true]), (11, .pointer (some ⟨s_, 0, none⟩)), (48, .tuple #[.agg #[.bool t261, .int .u64 t262, .int .u64 t263], .bool true]), (53, .agg #[.bool t261, .int .u64 t262, .int .u64 t263]), (54, .bool true)]) (fun s_ w' => (w'.cell? ⟨gb257, 0, none⟩ = some (.bool t253) ∧ w'.cell? ⟨gb257, 1, none⟩ = some (.int .u64 t254) ∧ w'.cell? ⟨gb257, 2, none⟩ = some (.int .u64 t255)) ∧ (w'.heap[gb257]? = some (.cells #[.bool t253, .int .u64 t254, .int .u64 t255] 30 (0, 0))) ∧ (w'.heap[s_]? = some (.cells #[.bool false, .int .u64 0, .int .u64 0] 30 (0, 0))) ∧ (w.heap.size ≤ s_) ∧ (w.heap.size ≤ s_) ∧ (gb257 ≠ s_) ∧ (s_ ≠ gb257) ∧ (Below w.heap.size w w')) ?_ ?_
                  rotate_left
                  · intro hCont
                    refine two_ (i := 1) (j := 7) (Ni := some 50) (Nj := some 11) #[true, true, true, false, false, false, false, false, false, false] #[true, false, true, false, false, false, false, true, false, false] rfl rfl rfl rfl (two_of HT_.out (by kernel_rfl)) (by decide) (by decide) (fun K hK => ?_) (fun K hK => ?_)
                    · skip
                      refine goes_ Try.func13 (by kernel_rfl) rfl #[.int .i64 t244] (by rfl) rfl rfl mp_ ?_
                      with_reducible refine (spec_WideOf.calls t244 t258 t259 t260 _ A11.out).mono ?_
                      rintro e w83 ⟨rfl, hb⟩
                      refine ⟨_, rfl, ?_⟩
                      have n0_ := bb_ (g := gb257) (o := .cells #[.bool t253, .int .u64 t254, .int .u64 t255] 30 (0, 0)) hb
                      have n1_ := Aside0.mk (below_step bel_ hb)
                      clear BK257
                      clear HB
                      have BK257 := n0_
                      have HB := n1_
                      clear n0_ n1_
                      (try clear hb)
                      (try clear hb2)
                      (try clear hk)
                      (try clear hi)
                      refine hK.out _ _ ⟨bc_, bc_, bc_⟩ (fun hHeld => ?_)
                      clear hK K
                      refine norm_ (a' := ?_) ?_ ?_
                      rotate_left
                      · show Act.put _ (some 50) _ = _
                        simp only [Act.put, la_, lb_, lc_, i64_w, i32_w]
                        rfl
                      refine two_ (i := 3) (j := 7) (Ni := some 52) (Nj := some 11) #[true, true, true, true, false, false, false, false, false, false] #[true, true, true, false, false, false, false, true, false, false] rfl rfl rfl rfl (two_of HT_.out (by kernel_rfl)) (by decide) (by decide) (fun K hK => ?_) (fun K hK => ?_)
                      · skip
                        refine goes_ Try.func14 (by kernel_rfl) rfl #[.agg #[.bool t258, .int .u64 t259, .int .u64 t260], .agg #[.bool t253, .int .u64 t254, .int .u64 t255]] (by rfl) rfl rfl mp_ ?_
                        with_reducible refine (impl_SubWide.calls k t258 t259 t260 t253 t254 t255 t261 t262 t263 true _ A12.out).mono ?_
                        rintro e w84 ⟨rfl, hb⟩
                        refine ⟨_, rfl, ?_⟩
                        have n0_ := bb_ (g := gb257) (o := .cells #[.bool t253, .int .u64 t254, .int .u64 t255] 30 (0, 0)) hb
                        have n1_ := Aside0.mk (below_step bel_ hb)
                        clear BK257
                        clear HB
                        have BK257 := n0_
                        have HB := n1_
                        clear n0_ n1_
                        (try clear hb)
                        (try clear hb2)
                        (try clear hk)
                        (try clear hi)
                        refine hK.out _ _ ⟨bc_, bc_, bc_⟩ (fun hHeld => ?_)
                        clear hK K
                        refine norm_ (a' := ?_) ?_ ?_
                        rotate_left
                        · show Act.put _ (some 52) _ = _
                          simp only [Act.put, la_, lb_, lc_, i64_w, i32_w]
                          rfl
                        refine pure_ (i := 4) (N := some 48) (v := ?_) (a' := ?_) #[true, true, true, true, true, false, false, false, false, false] rfl rfl (any_of HT_.out (by kernel_rfl)) (fun _ _ _ h => h) (Or.inl ⟨by rfl, ?_⟩) ?_ ?_
                        rotate_left
                        · intro w'
                          go_simp
                          with_reducible rfl
                        rotate_left
                        · simp only [Act.put, la_, lb_, lc_, i64_w, i32_w]
                          rfl
                        refine pure_ (i := 5) (N := some 53) (v := ?_) (a' := ?_) #[true, true, true, true, true, true, false, false, false, false] rfl rfl (any_of HT_.out (by kernel_rfl)) (fun _ _ _ h => h) (Or.inl ⟨by rfl, ?_⟩) ?_ ?_
                        rotate_left
                        · intro w'
                          go_simp
                          with_reducible rfl
                        rotate_left
                        · simp only [Act.put, la_, lb_, lc_, i64_w, i32_w]
                          rfl
                        refine pure_ (i := 6) (N := some 54) (v := ?_) (a' := ?_) #[true, true, true, true, true, true, true, false, false, false] rfl rfl (any_of HT_.out (by kernel_rfl)) (fun _ _ _ h => h) (Or.inl ⟨by rfl, ?_⟩) ?_ ?_
                        rotate_left
                        · intro w'
                          go_simp
                          with_reducible rfl
                        rotate_left
                        · simp only [Act.put, la_, lb_, lc_, i64_w, i32_w]
                          rfl
                        refine one_ (i := 7) (N := some 11) #[true, true, true, true, true, true, true, true, false, false] rfl rfl (one_of HT_.out (by kernel_rfl)) (by decide) (fun K hK => ?_)
                        refine box_step ?hg (N := 11) ?hd (cs := #[.bool false, .int .u64 0, .int .u64 0]) (t := 30) ?hr ?_; (case hd => rfl); (case hg => rfl); (case hr => first | (go_simp; done) | (go_simp; rfl))
                        intro gb265 hg w85 hbox hb
                        have n0_ := bb_ (g := gb257) (o := .cells #[.bool t253, .int .u64 t254, .int .u64 t255] 30 (0, 0)) hb
                        have n1_ := Aside0.mk (below_step bel_ hb)
                        have n2_ := Aside0.mk (hbox)
                        have n3_ := Aside0.mk ((by rw [hg]; exact (below_size bel_) : w.heap.size ≤ gb265))
                        have n4_ := Aside0.mk ((by rw [hg]; exact (below_size bel_) : w.heap.size ≤ gb265))
                        have n5_ := nlt_ (g := gb257) (o := .cells #[.bool t253, .int .u64 t254, .int .u64 t255] 30 (0, 0)) hg
                        have n6_ := ngt_ (g := gb257) (o := .cells #[.bool t253, .int .u64 t254, .int .u64 t255] 30 (0, 0)) hg
                        clear BK257
                        clear HB
                        have BK257 := n0_
                        have HB := n1_
                        have BK265 := n2_
                        have GW265 := n3_
                        have GE265 := n4_
                        have NB257_265 := n5_
                        have NB265_257 := n6_
                        clear n0_ n1_ n2_ n3_ n4_ n5_ n6_
                        clear hb hbox hg
                        refine hK.out _ _ ⟨bc_, bc_, bc_⟩ (fun hHeld => ?_)
                        clear hK K
                        refine norm_ (a' := ?_) ?_ ?_
                        rotate_left
                        · show Act.put _ (some 11) _ = _
                          simp only [Act.put, la_, lb_, lc_, i64_w, i32_w]
                          rfl
                        exact norm_ (by simp only [putAll, Act.put, la_, lb_, lc_]) (hCont (gb265) _ ⟨hHeld, (by (with_reducible repeat (first | refine bN_ _ ?_ | refine bd_ ?_ | refine ba_ _ ?_)); exact BK257.out), (by (with_reducible repeat (first | refine bN_ _ ?_ | refine bd_ ?_ | refine ba_ _ ?_)); exact BK265.out), GW265.out, GE265.out, NB257_265.out, NB265_257.out, bel_⟩)
                      · skip
                        refine box_step ?hg (N := 11) ?hd (cs := #[.bool false, .int .u64 0, .int .u64 0]) (t := 30) ?hr ?_; (case hd => rfl); (case hg => rfl); (case hr => first | (go_simp; done) | (go_simp; rfl))
                        intro gb265 hg w84 hbox hb
                        have n0_ := bb_ (g := gb257) (o := .cells #[.bool t253, .int .u64 t254, .int .u64 t255] 30 (0, 0)) hb
                        have n1_ := Aside0.mk (below_step bel_ hb)
                        have n2_ := Aside0.mk (hbox)
                        have n3_ := Aside0.mk ((by rw [hg]; exact (below_size bel_) : w.heap.size ≤ gb265))
                        have n4_ := Aside0.mk ((by rw [hg]; exact (below_size bel_) : w.heap.size ≤ gb265))
                        have n5_ := nlt_ (g := gb257) (o := .cells #[.bool t253, .int .u64 t254, .int .u64 t255] 30 (0, 0)) hg
                        have n6_ := ngt_ (g := gb257) (o := .cells #[.bool t253, .int .u64 t254, .int .u64 t255] 30 (0, 0)) hg
                        clear BK257
                        clear HB
                        have BK257 := n0_
                        have HB := n1_
                        have BK265 := n2_
                        have GW265 := n3_
                        have GE265 := n4_
                        have NB257_265 := n5_
                        have NB265_257 := n6_
                        clear n0_ n1_ n2_ n3_ n4_ n5_ n6_
                        clear hb hbox hg
                        refine hK.out _ _ ⟨bc_, bc_, bc_⟩ (fun hHeld => ?_)
                        clear hK K
                        refine norm_ (a' := ?_) ?_ ?_
                        rotate_left
                        · show Act.put _ (some 11) _ = _
                          simp only [Act.put, la_, lb_, lc_, i64_w, i32_w]
                          rfl
                        refine one_ (i := 3) (N := some 52) #[true, true, true, true, false, false, false, true, false, false] rfl rfl (one_of HT_.out (by kernel_rfl)) (by decide) (fun K hK => ?_)
                        refine goes_ Try.func14 (by kernel_rfl) rfl #[.agg #[.bool t258, .int .u64 t259, .int .u64 t260], .agg #[.bool t253, .int .u64 t254, .int .u64 t255]] (by rfl) rfl rfl mp_ ?_
                        with_reducible refine (impl_SubWide.calls k t258 t259 t260 t253 t254 t255 t261 t262 t263 true _ A12.out).mono ?_
                        rintro e w85 ⟨rfl, hb⟩
                        refine ⟨_, rfl, ?_⟩
                        have n0_ := bb_ (g := gb257) (o := .cells #[.bool t253, .int .u64 t254, .int .u64 t255] 30 (0, 0)) hb
                        have n1_ := bb_ (g := gb265) (o := .cells #[.bool false, .int .u64 0, .int .u64 0] 30 (0, 0)) hb
                        have n2_ := Aside0.mk (below_step bel_ hb)
                        clear BK257
                        clear BK265
                        clear HB
                        have BK257 := n0_
                        have BK265 := n1_
                        have HB := n2_
                        clear n0_ n1_ n2_
                        (try clear hb)
                        (try clear hb2)
                        (try clear hk)
                        (try clear hi)
                        refine hK.out _ _ ⟨bc_, bc_, bc_⟩ (fun hHeld => ?_)
                        clear hK K
                        refine norm_ (a' := ?_) ?_ ?_
                        rotate_left
                        · show Act.put _ (some 52) _ = _
                          simp only [Act.put, la_, lb_, lc_, i64_w, i32_w]
                          rfl
                        refine pure_ (i := 4) (N := some 48) (v := ?_) (a' := ?_) #[true, true, true, true, true, false, false, true, false, false] rfl rfl (any_of HT_.out (by kernel_rfl)) (fun _ _ _ h => h) (Or.inl ⟨by rfl, ?_⟩) ?_ ?_
                        rotate_left
                        · intro w'
                          go_simp
                          with_reducible rfl
                        rotate_left
                        · simp only [Act.put, la_, lb_, lc_, i64_w, i32_w]
                          rfl
                        refine pure_ (i := 5) (N := some 53) (v := ?_) (a' := ?_) #[true, true, true, true, true, true, false, true, false, false] rfl rfl (any_of HT_.out (by kernel_rfl)) (fun _ _ _ h => h) (Or.inl ⟨by rfl, ?_⟩) ?_ ?_
                        rotate_left
                        · intro w'
                          go_simp
                          with_reducible rfl
                        rotate_left
                        · simp only [Act.put, la_, lb_, lc_, i64_w, i32_w]
                          rfl
                        refine pure_ (i := 6) (N := some 54) (v := ?_) (a' := ?_) #[true, true, true, true, true, true, true, true, false, false] rfl rfl (any_of HT_.out (by kernel_rfl)) (fun _ _ _ h => h) (Or.inl ⟨by rfl, ?_⟩) ?_ ?_
                        rotate_left
                        · intro w'
                          go_simp
                          with_reducible rfl
                        rotate_left
                        · simp only [Act.put, la_, lb_, lc_, i64_w, i32_w]
                          rfl
                        exact norm_ (by simp only [putAll, Act.put, la_, lb_, lc_]) (hCont (gb265) _ ⟨hHeld, (by (with_reducible repeat (first | refine bN_ _ ?_ | refine bd_ ?_ | refine ba_ _ ?_)); exact BK257.out), (by (with_reducible repeat (first | refine bN_ _ ?_ | refine bd_ ?_ | refine ba_ _ ?_)); exact BK265.out), GW265.out, GE265.out, NB257_265.out, NB265_257.out, bel_⟩)
                    · skip
                      refine box_step ?hg (N := 11) ?hd (cs := #[.bool false, .int .u64 0, .int .u64 0]) (t := 30) ?hr ?_; (case hd => rfl); (case hg => rfl); (case hr => first | (go_simp; done) | (go_simp; rfl))
                      intro gb265 hg w83 hbox hb
                      have n0_ := bb_ (g := gb257) (o := .cells #[.bool t253, .int .u64 t254, .int .u64 t255] 30 (0, 0)) hb
                      have n1_ := Aside0.mk (below_step bel_ hb)
                      have n2_ := Aside0.mk (hbox)
                      have n3_ := Aside0.mk ((by rw [hg]; exact (below_size bel_) : w.heap.size ≤ gb265))
                      have n4_ := Aside0.mk ((by rw [hg]; exact (below_size bel_) : w.heap.size ≤ gb265))
                      have n5_ := nlt_ (g := gb257) (o := .cells #[.bool t253, .int .u64 t254, .int .u64 t255] 30 (0, 0)) hg
                      have n6_ := ngt_ (g := gb257) (o := .cells #[.bool t253, .int .u64 t254, .int .u64 t255] 30 (0, 0)) hg
                      clear BK257
                      clear HB
                      have BK257 := n0_
                      have HB := n1_
                      have BK265 := n2_
                      have GW265 := n3_
                      have GE265 := n4_
                      have NB257_265 := n5_
                      have NB265_257 := n6_
                      clear n0_ n1_ n2_ n3_ n4_ n5_ n6_
                      clear hb hbox hg
                      refine hK.out _ _ ⟨bc_, bc_, bc_⟩ (fun hHeld => ?_)
                      clear hK K
                      refine norm_ (a' := ?_) ?_ ?_
                      rotate_left
                      · show Act.put _ (some 11) _ = _
                        simp only [Act.put, la_, lb_, lc_, i64_w, i32_w]
                        rfl
                      refine one_ (i := 1) (N := some 50) #[true, true, true, false, false, false, false, true, false, false] rfl rfl (one_of HT_.out (by kernel_rfl)) (by decide) (fun K hK => ?_)
                      refine goes_ Try.func13 (by kernel_rfl) rfl #[.int .i64 t244] (by rfl) rfl rfl mp_ ?_
                      with_reducible refine (spec_WideOf.calls t244 t258 t259 t260 _ A11.out).mono ?_
                      rintro e w84 ⟨rfl, hb⟩
                      refine ⟨_, rfl, ?_⟩
                      have n0_ := bb_ (g := gb257) (o := .cells #[.bool t253, .int .u64 t254, .int .u64 t255] 30 (0, 0)) hb
                      have n1_ := bb_ (g := gb265) (o := .cells #[.bool false, .int .u64 0, .int .u64 0] 30 (0, 0)) hb
                      have n2_ := Aside0.mk (below_step bel_ hb)
                      clear BK257
                      clear BK265
                      clear HB
                      have BK257 := n0_
                      have BK265 := n1_
                      have HB := n2_
                      clear n0_ n1_ n2_
                      (try clear hb)
                      (try clear hb2)
                      (try clear hk)
                      (try clear hi)
                      refine hK.out _ _ ⟨bc_, bc_, bc_⟩ (fun hHeld => ?_)
                      clear hK K
                      refine norm_ (a' := ?_) ?_ ?_
                      rotate_left
                      · show Act.put _ (some 50) _ = _
                        simp only [Act.put, la_, lb_, lc_, i64_w, i32_w]
                        rfl
                      refine one_ (i := 3) (N := some 52) #[true, true, true, true, false, false, false, true, false, false] rfl rfl (one_of HT_.out (by kernel_rfl)) (by decide) (fun K hK => ?_)
                      refine goes_ Try.func14 (by kernel_rfl) rfl #[.agg #[.bool t258, .int .u64 t259, .int .u64 t260], .agg #[.bool t253, .int .u64 t254, .int .u64 t255]] (by rfl) rfl rfl mp_ ?_
                      with_reducible refine (impl_SubWide.calls k t258 t259 t260 t253 t254 t255 t261 t262 t263 true _ A12.out).mono ?_
                      rintro e w85 ⟨rfl, hb⟩
                      refine ⟨_, rfl, ?_⟩
                      have n0_ := bb_ (g := gb257) (o := .cells #[.bool t253, .int .u64 t254, .int .u64 t255] 30 (0, 0)) hb
                      have n1_ := bb_ (g := gb265) (o := .cells #[.bool false, .int .u64 0, .int .u64 0] 30 (0, 0)) hb
                      have n2_ := Aside0.mk (below_step bel_ hb)
                      clear BK257
                      clear BK265
                      clear HB
                      have BK257 := n0_
                      have BK265 := n1_
                      have HB := n2_
                      clear n0_ n1_ n2_
                      (try clear hb)
                      (try clear hb2)
                      (try clear hk)
                      (try clear hi)
                      refine hK.out _ _ ⟨bc_, bc_, bc_⟩ (fun hHeld => ?_)
                      clear hK K
                      refine norm_ (a' := ?_) ?_ ?_
                      rotate_left
                      · show Act.put _ (some 52) _ = _
                        simp only [Act.put, la_, lb_, lc_, i64_w, i32_w]
                        rfl
                      refine pure_ (i := 4) (N := some 48) (v := ?_) (a' := ?_) #[true, true, true, true, true, false, false, true, false, false] rfl rfl (any_of HT_.out (by kernel_rfl)) (fun _ _ _ h => h) (Or.inl ⟨by rfl, ?_⟩) ?_ ?_
                      rotate_left
                      · intro w'
                        go_simp
                        with_reducible rfl
                      rotate_left
                      · simp only [Act.put, la_, lb_, lc_, i64_w, i32_w]
                        rfl
                      refine pure_ (i := 5) (N := some 53) (v := ?_) (a' := ?_) #[true, true, true, true, true, true, false, true, false, false] rfl rfl (any_of HT_.out (by kernel_rfl)) (fun _ _ _ h => h) (Or.inl ⟨by rfl, ?_⟩) ?_ ?_
                      rotate_left
                      · intro w'
                        go_simp
                        with_reducible rfl
                      rotate_left
                      · simp only [Act.put, la_, lb_, lc_, i64_w, i32_w]
                        rfl
                      refine pure_ (i := 6) (N := some 54) (v := ?_) (a' := ?_) #[true, true, true, true, true, true, true, true, false, false] rfl rfl (any_of HT_.out (by kernel_rfl)) (fun _ _ _ h => h) (Or.inl ⟨by rfl, ?_⟩) ?_ ?_
                      rotate_left
                      · intro w'
                        go_simp
                        with_reducible rfl
                      rotate_left
                      · simp only [Act.put, la_, lb_, lc_, i64_w, i32_w]
                        rfl
                      exact norm_ (by simp only [putAll, Act.put, la_, lb_, lc_]) (hCont (gb265) _ ⟨hHeld, (by (with_reducible repeat (first | refine bN_ _ ?_ | refine bd_ ?_ | refine ba_ _ ?_)); exact BK257.out), (by (with_reducible repeat (first | refine bN_ _ ?_ | refine bd_ ?_ | refine ba_ _ ?_)); exact BK265.out), GW265.out, GE265.out, NB257_265.out, NB265_257.out, bel_⟩)
                  rintro gb265 w86 ⟨hS_, h0_, h1_, h2_, h3_, h4_, h5_, h6_⟩
                  have n0_ : Aside0 (w86.heap[gb257]? = some (.cells #[.bool t253, .int .u64 t254, .int .u64 t255] 30 (0, 0))) := ⟨h0_⟩
                  have n1_ : Aside0 (w86.heap[gb265]? = some (.cells #[.bool false, .int .u64 0, .int .u64 0] 30 (0, 0))) := ⟨h1_⟩
                  have n2_ : Aside0 (w.heap.size ≤ gb265) := ⟨h2_⟩
                  have n3_ : Aside0 (w.heap.size ≤ gb265) := ⟨h3_⟩
                  have n4_ : Aside0 (gb257 ≠ gb265) := ⟨h4_⟩
                  have n5_ : Aside0 (gb265 ≠ gb257) := ⟨h5_⟩
                  have n6_ : Aside0 (Below w.heap.size w w86) := ⟨h6_⟩
                  clear BK257
                  clear HB
                  clear h0_ h1_ h2_ h3_ h4_ h5_ h6_
                  have BK257 := n0_
                  have BK265 := n1_
                  have GW265 := n2_
                  have GE265 := n3_
                  have NB257_265 := n4_
                  have NB265_257 := n5_
                  have HB := n6_
                  clear n0_ n1_ n2_ n3_ n4_ n5_ n6_
                  have hHeld : w86.cell? ⟨gb257, 0, none⟩ = some (.bool t253) ∧ w86.cell? ⟨gb257, 1, none⟩ = some (.int .u64 t254) ∧ w86.cell? ⟨gb257, 2, none⟩ = some (.int .u64 t255) := hS_
                  refine norm_ (a' := ?_) ?_ ?_
                  rotate_left
                  · simp only [putAll, Act.put, la_, lb_, lc_]
                    rfl
                  refine one_ (i := 8) (N := none) #[true, true, true, true, true, true, true, true, true, false] rfl rfl (one_of HT_.out (by kernel_rfl)) (by decide) (fun K hK => ?_)
                  have hs87 : w86.cell? ⟨gb265, 0, none⟩ = some (.bool false) := (blk_cell BK265.out 0).trans rfl
                  have hfs87 := blk_frozen BK265.out 0
                  have hns87_0 := NB257_265.out
                  have hms87_0 := NB265_257.out
                  have hs88 : w86.cell? ⟨gb265, 1, none⟩ = some (.int .u64 0) := (blk_cell BK265.out 1).trans rfl
                  have hfs88 := blk_frozen BK265.out 1
                  have hns88_0 := NB257_265.out
                  have hms88_0 := NB265_257.out
                  have hs89 : w86.cell? ⟨gb265, 2, none⟩ = some (.int .u64 0) := (blk_cell BK265.out 2).trans rfl
                  have hfs89 := blk_frozen BK265.out 2
                  have hns89_0 := NB257_265.out
                  have hms89_0 := NB265_257.out
                  refine skip_ (w1 := ?_) (by rfl) rfl ?_ ?_
                  rotate_left
                  · go_simp
                    rfl
                  refine hK.out _ _ ⟨((cell_far (p := ⟨gb265, _, none⟩) NB257_265.out _).trans (((cell_far (p := ⟨gb265, _, none⟩) NB257_265.out _).trans (((cell_far (p := ⟨gb265, _, none⟩) NB257_265.out _).trans (hHeld.1)))))), ((cell_far (p := ⟨gb265, _, none⟩) NB257_265.out _).trans (((cell_far (p := ⟨gb265, _, none⟩) NB257_265.out _).trans (((cell_far (p := ⟨gb265, _, none⟩) NB257_265.out _).trans (hHeld.2.1)))))), ((cell_far (p := ⟨gb265, _, none⟩) NB257_265.out _).trans (((cell_far (p := ⟨gb265, _, none⟩) NB257_265.out _).trans (((cell_far (p := ⟨gb265, _, none⟩) NB257_265.out _).trans (hHeld.2.2))))))⟩ (fun hHeld => ?_)
                  clear hK K
                  refine pure_ (i := 9) (N := some 12) (v := ?_) (a' := ?_) #[true, true, true, true, true, true, true, true, true, true] rfl rfl (any_of HT_.out (by kernel_rfl)) (fun _ _ _ h => h) (Or.inl ⟨by rfl, ?_⟩) ?_ ?_
                  rotate_left
                  · intro w'
                    go_simp
                    with_reducible rfl
                  rotate_left
                  · simp only [Act.put, la_, lb_, lc_, i64_w, i32_w]
                    rfl
                  refine done_ (done_of HT_.out (by kernel_rfl)) ?_
                  have hnb90 := NB265_257.out
                  have hnc90 := NB257_265.out
                  have hcz91_0 : w86.cell? ⟨gb265, 0, none⟩ = some (.bool false) := bc_
                  have hcz91_1 : w86.cell? ⟨gb265, 1, none⟩ = some (.int .u64 0) := bc_
                  have hcz91_2 : w86.cell? ⟨gb265, 2, none⟩ = some (.int .u64 0) := bc_
                  have hfz91_0 := blk_frozen BK265.out 0
                  have hfz91_1 := blk_frozen BK265.out 1
                  have hfz91_2 := blk_frozen BK265.out 2
                  try go_wp2_with (first | ((with_reducible refine gate_callee (f := 15) rfl ?_); refine goesL_ (some 57) rfl rfl Try.func15 (by kernel_rfl) rfl #[.agg #[.bool t261, .int .u64 t262, .int .u64 t263]] rfl mp_ ?_; (with_reducible refine (impl_IntOf.calls t261 t262 t263 t266 true _ A13.out).mono ?_); rintro e w92 ⟨rfl, hb⟩; refine ⟨_, rfl, ?_⟩; have n0_ := Aside0.mk (blk_below (g := gb257) (o := .cells #[.bool t253, .int .u64 t254, .int .u64 t255] 30 (0, 0)) (by (with_reducible repeat (first | refine bN_ _ ?_ | refine bd_ ?_ | refine ba_ _ ?_)); refine blk_far ?_ NB257_265.out _; (with_reducible repeat (first | refine bN_ _ ?_ | refine bd_ ?_ | refine ba_ _ ?_)); refine blk_far ?_ NB257_265.out _; (with_reducible repeat (first | refine bN_ _ ?_ | refine bd_ ?_ | refine ba_ _ ?_)); refine blk_far ?_ NB257_265.out _; (with_reducible repeat (first | refine bN_ _ ?_ | refine bd_ ?_ | refine ba_ _ ?_)); exact BK257.out) hb); have n1_ := Aside0.mk (blk_below (g := gb265) (o := .cells #[.bool t261, .int .u64 t262, .int .u64 t263] 30 (0, 0)) (by (with_reducible repeat (first | refine bN_ _ ?_ | refine bd_ ?_ | refine ba_ _ ?_)); refine blk_put (cs := #[.bool t261, .int .u64 t262, .int .u64 0]) ?_ 2 _ rfl; (with_reducible repeat (first | refine bN_ _ ?_ | refine bd_ ?_ | refine ba_ _ ?_)); refine blk_put (cs := #[.bool t261, .int .u64 0, .int .u64 0]) ?_ 1 _ rfl; (with_reducible repeat (first | refine bN_ _ ?_ | refine bd_ ?_ | refine ba_ _ ?_)); refine blk_put (cs := #[.bool false, .int .u64 0, .int .u64 0]) ?_ 0 _ rfl; (with_reducible repeat (first | refine bN_ _ ?_ | refine bd_ ?_ | refine ba_ _ ?_)); exact BK265.out) hb); have n2_ := Aside0.mk (below_step bel_ hb); clear BK257; clear BK265; clear HB; have BK257 := n0_; have BK265 := n1_; have HB := n2_; clear n0_ n1_ n2_; (try clear hb); (try clear hb2); (try clear hk); (try clear hi)))
                  go_ret
                  exact ⟨by first | rfl | (simp [errW_none, errW_some] <;> rfl) | (simp [*, errW_none, errW_some] <;> rfl), by repeat (first | (with_reducible first | exact HB.out | apply below_alloc | apply pw_below_drewN | apply below_drew1 | refine below_set ?_ GE257.out | refine below_set ?_ GE265.out) | exact HB.out)⟩
                · rw [if_neg c75] at H
                  have c75b0 : decide (t266 ≤ 0) = false := decide_eq_false c75
                  clear c75
                  exact absurd ((Option.some.inj H).trans hrt.out) (by decide)
              · rw [if_neg c74] at H
                have c74b0 : decide (t245 < 0) = false := decide_eq_false c74
                clear c74
                exact absurd ((Option.some.inj H).trans hrt.out) (by decide)
          · replace c15 := Bool.eq_false_iff.mpr c15
            subst c15
            have H1 : (some false) = some r := by rw [if_neg (show ¬ (false = true) by decide)] at H; exact H
            clear H
            have H := H1
            clear H1
            exact absurd ((Option.some.inj H).trans hrt.out) (by decide)
        · replace c14 := Bool.eq_false_iff.mpr c14
          subst c14
          have H1 : (some false) = some r := by rw [if_neg (show ¬ (false = true) by decide)] at H; exact H
          clear H
          have H := H1
          clear H1
          exact absurd ((Option.some.inj H).trans hrt.out) (by decide)
      · replace c8 := Bool.eq_false_iff.mpr c8
        subst c8
        have H1 : (some (t246 == 0)) = some r := by rw [if_neg (show ¬ (false = true) by decide)] at H; exact H
        clear H
        have H := H1
        clear H1
        obtain rfl := Option.some.inj H
        go_enter Try.func3, Try.ntmps3
        go_wp2_with (first | ((with_reducible refine gate_callee (f := 8) rfl ?_); refine goesL_ (some 16) rfl rfl Try.func8 (by kernel_rfl) rfl #[.slice A0 l0.length c0] rfl mp_ ?_; (with_reducible refine (laws_big.calls _ _ l0 false _ ?side1 ?side2 A2.out).mono ?_); (case side1 => repeat (first | exact HR0.out | (with_reducible refine Kd.C_alloc ?_ _) | (with_reducible refine Kd.C_drewN ?_ _) | (with_reducible refine Kd.C_drew ?_))); (case side2 => exact HC0.out); rintro e w' ⟨rfl, ⟨nd, rfl⟩⟩; refine ⟨_, rfl, ?_⟩) | ((with_reducible refine gate_callee (f := 9) rfl ?_); refine goesL_ (some 19) rfl rfl Try.func9 (by kernel_rfl) rfl #[.slice A0 l0.length c0] rfl mp_ ?_; (with_reducible refine (spec_DrawFloorDiv.calls k _ _ l0 t244 t245 _ ?side1 ?side2 A4.out).mono ?_); (case side1 => repeat (first | exact HR0.out | (with_reducible refine Kd.C_alloc ?_ _) | (with_reducible refine Kd.C_drewN ?_ _) | (with_reducible refine Kd.C_drew ?_))); (case side2 => exact HC0.out); rintro e w93 ⟨rfl, hb⟩; refine ⟨_, rfl, ?_⟩; have n0_ := Aside0.mk (below_step bel_ hb); clear HB; have HB := n0_; clear n0_; (try clear hb); (try clear hb2); (try clear hk); (try clear hi)) | ((with_reducible refine gate_callee (f := 10) rfl ?_); refine goesL_ (some 25) rfl rfl Try.func10 (by kernel_rfl) rfl #[.int .i64 t244, .int .i64 t245] rfl mp_ ?_; (with_reducible refine (impl_FloorDiv.calls k t244 t245 t246 false _ A5.out).mono ?_); rintro e w' ⟨rfl, ⟨nd, rfl⟩⟩; refine ⟨_, rfl, ?_⟩) | ((with_reducible refine gate_callee (f := 11) rfl ?_); refine goesL_ (some 31) rfl rfl Try.func11 (by kernel_rfl) rfl #[.int .i64 t244, .int .i64 t245] rfl mp_ ?_; (with_reducible refine (spec_FloorDiv.calls k t244 t245 t248 t249 _ A6.out).mono ?_); rintro e w' ⟨rfl, ⟨nd, rfl⟩⟩; refine ⟨_, rfl, ?_⟩))
        go_ret
        exact ⟨by first | rfl | (simp [errW_none, errW_some] <;> rfl) | (simp [*, errW_none, errW_some] <;> rfl), by repeat (first | (with_reducible first | exact HB.out | apply below_alloc | apply pw_below_drewN | apply below_drew1) | exact HB.out)⟩

/-- THE ONE PURE STATEMENT of laws_FnFloor: yours. -/
def laws_FnFloor.Pure : Prop := ∀ (l0 : List Int), l0.length ≤ maxLen → l0.length * 1 ≤ 140737488351232 → (∀ x ∈ l0, (Lit.int .u8 x).wf = true) → ∃ k, laws_FnFloor.f k l0 = some true
theorem laws_FnFloor.walk (P : laws_FnFloor.Pure) (a0 : Option Addr) (len0 cap0 : Nat) (z0 : List Int) (w : World) (w0 : (a0 = none ∧ len0 = 0 ∧ cap0 = 0 ∧ z0 = []) ∨ ∃ x, a0 = some x ∧ len0 ≤ cap0 ∧ cap0 ≤ maxLen ∧ z0.length = cap0 ∧ (∀ i, i < z0.length → w.cell? (x.add i) = some (.int .u8 (z0.getD i 0))) ∧ ∀ n ∈ z0, (Lit.int .u8 n).wf = true) (y0 : len0 * 1 ≤ 140737488351232) :
    Calls Try.prog 3 #[.slice a0 len0 cap0] w fun e w' => e = .returned (.bool true) ∧ Below w.heap.size w w' := by
  obtain ⟨l0, rfl, hr0, hm0, hw0, hc0⟩ := ReadsInt.ofRowC w0
  obtain ⟨k, h⟩ := P l0 hm0 y0 hw0
  refine (laws_FnFloor.calls k _ _ l0 true w (Kd.C_of_reads (d := (0 : Int)) (h1 := fun _ => rfl) hr0) hc0 h ⟨rfl⟩).mono ?_
  rintro e w' ⟨rfl, hd⟩
  exact ⟨rfl, hd⟩

end Go.Proofs.Ytodbmgnhcglcnaa.PFnFloor
