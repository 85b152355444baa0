/- Contracts of Go functions, each with the Lean function that says what it computes: begun by the print, turned by this session. No condition beyond what each theorem states. -/
import Derived.Test.YtkpgpifkbdpnkaaDoorPFnWideSmallx0
import Derived.Test.YtkpgpifkbdpnkaaDoorPFnWideSmallx1
import Derived.Test.YtkpgpifkbdpnkaaDoorPFnWideSmallx2
import Derived.Test.YtkpgpifkbdpnkaaDoorPFnWideSmallx4
import Derived.Test.YtkpgpifkbdpnkaaDoorPFnWideSmallx5
import Derived.Test.YtkpgpifkbdpnkaaDoorPFnWideSmallx7
import Derived.Test.YtkpgpifkbdpnkaaDoorPFnWideSmallx10
import Derived.Test.YtkpgpifkbdpnkaaDoorPFnWideSmallx11
namespace Go.Proofs.YtkpgpifkbdpnkaaDoor.PFnWideSmall
open Go.RowKit Go.Proofs.YtkpgpifkbdpnkaaDoorVFnWideSmall.PrintWords Go.Proofs.YtkpgpifkbdpnkaaDoorVFnWideSmall.PrintLast Go.Proofs.YtkpgpifkbdpnkaaDoorVFnWideSmall.PrintMore
attribute [local go_sem] max2_int min2_int max_two min_two max_three min_three max_four min_four   -- for this text's walks alone
set_option linter.unusedVariables false
set_option linter.unusedSimpArgs false

attribute [local go_sem high] eqA28
/-! ### laws_FnWideSmall: function 3 -/
def laws_FnWideSmall.j0 : Nat → Int → Bool → Bool → Bool → Bool → Int → Int → Bool → Int → Int → Option (Bool)
  | 0, _, _, _, _, _, _, _, _, _, _ => none
  | k + 1, x5, x7, x9, x48, x435000, x435001, x435002, x440000, x440001, x440002 => if x48 = true then (some (x7 == x9)) else ((impl_WideText.f k x440000 x440001 x440002).bind fun t445 => ((spec_WideText.f k x435000 x435001 x435002).bind fun t446 => ((spec_Digits.f k x5).bind fun t447 => (if t446.size + t447.size ≤ 9223372036854775807 then (some (t445.toList == (t446 ++ t447).toList)) else (none)))))
def laws_FnWideSmall.f (k : Nat) (l0 : List Int) : Option (Bool) := (laws_big.f l0).bind fun t423 => (if t423 = true then (some true) else ((spec_DrawDigits.f k l0).bind fun t424 => ((impl_WideOf.f t424).bind fun bt425 => ((impl_WideText.f k bt425.1 bt425.2.1 bt425.2.2).bind fun t428 => ((spec_Digits.f k t424).bind fun t429 => (if t428.toList = t429.toList then ((spec_DrawTenTimes.f k l0).bind fun bt430 => ((impl_TenTimes.f k bt430.1 bt430.2.1 bt430.2.2.1 bt430.2.2.2).bind fun bt435 => ((spec_TenTimes.f k bt430.1 bt430.2.1 bt430.2.2.1 bt430.2.2.2).bind fun bt440 => (if (bt435.2.2.2 != bt440.2.2.2) = true then (laws_FnWideSmall.j0 k bt430.2.2.2 bt435.2.2.2 bt440.2.2.2 true bt430.1 bt430.2.1 bt430.2.2.1 bt435.1 bt435.2.1 bt435.2.2.1) else (if bt435.2.2.2 = true then (laws_FnWideSmall.j0 k bt430.2.2.2 bt435.2.2.2 bt440.2.2.2 (!bt430.1 && (bt430.2.1 == 0 && (bt430.2.2.1 == 0))) bt430.1 bt430.2.1 bt430.2.2.1 bt435.1 bt435.2.1 bt435.2.2.1) else (laws_FnWideSmall.j0 k bt430.2.2.2 bt435.2.2.2 bt440.2.2.2 true bt430.1 bt430.2.1 bt430.2.2.1 bt435.1 bt435.2.1 bt435.2.2.1)))))) else (some false)))))))
theorem laws_FnWideSmall.mono_l : ∀ k, (∀ y0 y1 y2 y3 y4 y5 y6 y7 y8 y9, LeO (laws_FnWideSmall.j0 k y0 y1 y2 y3 y4 y5 y6 y7 y8 y9) (laws_FnWideSmall.j0 (k + 1) y0 y1 y2 y3 y4 y5 y6 y7 y8 y9))
  | 0 => fun _ _ _ _ _ _ _ _ _ _ r h => by simp [laws_FnWideSmall.j0] at h
  | k + 1 => by
    have ih0 := laws_FnWideSmall.mono_l k
    · intro y0 y1 y2 y3 y4 y5 y6 y7 y8 y9
      unfold laws_FnWideSmall.j0
      repeat' first
      | (with_reducible exact ih0 _ _ _ _ _ _ _ _ _ _)
      | (with_reducible exact impl_TenTimes.mono _ _ _ _ _)
      | (with_reducible exact impl_WideText.mono _ _ _ _)
      | (with_reducible exact spec_Digits.mono _ _)
      | (with_reducible exact spec_DrawDigits.mono _ _)
      | (with_reducible exact spec_DrawTenTimes.mono _ _)
      | (with_reducible exact spec_TenTimes.mono _ _ _ _ _)
      | (with_reducible exact spec_WideText.mono _ _ _ _)
      | (with_reducible exact LeO.refl _)
      | (with_reducible exact LeO.none _)
      | (with_reducible refine LeO.ite ?_ ?_)
      | (with_reducible refine LeO.bind ?_ (fun _ => ?_))
      | exact ih0 _ _ _ _ _ _ _ _ _ _
      | exact impl_TenTimes.mono _ _ _ _ _
      | exact impl_WideText.mono _ _ _ _
      | exact spec_Digits.mono _ _
      | exact spec_DrawDigits.mono _ _
      | exact spec_DrawTenTimes.mono _ _
      | exact spec_TenTimes.mono _ _ _ _ _
      | exact spec_WideText.mono _ _ _ _
      | exact LeO.none _
      | refine LeO.ite ?_ ?_
      | refine LeO.bind ?_ (fun _ => ?_)
theorem laws_FnWideSmall.mono : ∀ a0 k, LeO (laws_FnWideSmall.f k a0) (laws_FnWideSmall.f (k + 1) a0) := by
  intro a0 k
  have ih0 := laws_FnWideSmall.mono_l k
  unfold laws_FnWideSmall.f
  repeat' first
      | (with_reducible exact ih0 _ _ _ _ _ _ _ _ _ _)
      | (with_reducible exact impl_TenTimes.mono _ _ _ _ _)
      | (with_reducible exact impl_WideText.mono _ _ _ _)
      | (with_reducible exact spec_Digits.mono _ _)
      | (with_reducible exact spec_DrawDigits.mono _ _)
      | (with_reducible exact spec_DrawTenTimes.mono _ _)
      | (with_reducible exact spec_TenTimes.mono _ _ _ _ _)
      | (with_reducible exact spec_WideText.mono _ _ _ _)
      | (with_reducible exact LeO.refl _)
      | (with_reducible exact LeO.none _)
      | (with_reducible refine LeO.ite ?_ ?_)
      | (with_reducible refine LeO.bind ?_ (fun _ => ?_))
      | exact ih0 _ _ _ _ _ _ _ _ _ _
      | exact impl_TenTimes.mono _ _ _ _ _
      | exact impl_WideText.mono _ _ _ _
      | exact spec_Digits.mono _ _
      | exact spec_DrawDigits.mono _ _
      | exact spec_DrawTenTimes.mono _ _
      | exact spec_TenTimes.mono _ _ _ _ _
      | exact spec_WideText.mono _ _ _ _
      | exact LeO.none _
      | refine LeO.ite ?_ ?_
      | refine LeO.bind ?_ (fun _ => ?_)
def laws_FnWideSmall.T11 : Bool × List (List Nat × List Nat) := (true, [([], []), ([0], [0]), ([], []), ([2, 1], [2]), ([], []), ([4, 3], [4]), ([3, 5], [3, 5]), ([1, 6], [1, 6]), ([7, 5, 0, 1, 2, 3, 4, 5, 6, 7], [7])])
def laws_FnWideSmall.B11 : List Nat := [0, 1, 0, 7, 0, 31, 63, 127, 255]
theorem laws_FnWideSmall.tab11 : rtab .any (opsOf Tryd.f3 11) = laws_FnWideSmall.T11 := by kernel_rfl
theorem laws_FnWideSmall.bits11 : waitsOk laws_FnWideSmall.T11.2 laws_FnWideSmall.B11 = true := by kernel_rfl
set_option maxHeartbeats 8000000 in
set_option maxRecDepth 100000 in
theorem laws_FnWideSmall.calls (k : Nat) (A0 : Option Addr) (c0 : Nat) (l0 : List Int) (r : Bool) (w : World) (hr0 : Kd.C (Kd.int .u8) w A0 l0.length l0) (hc0 : l0.length ≤ c0) (h : laws_FnWideSmall.f k l0 = some r) (hrt : Aside0 (r = true)) (hl : Laid w) :
    Calls Tryd.prog 3 #[.slice A0 l0.length c0] w fun e w' => e = .returned (.bool r) ∧ Below w.heap.size w w' := by
  have hu28 := Tryd.underlying28
  have HR0 := Aside0.mk hr0
  have HC0 := Aside0.mk hc0
  clear hr0 hc0
  have HB := Aside0.mk (Below.refl w.heap.size w)
  have H : ((laws_big.f l0).bind fun t423 => (if t423 = true then (some true) else ((spec_DrawDigits.f k l0).bind fun t424 => ((impl_WideOf.f t424).bind fun bt425 => ((impl_WideText.f k bt425.1 bt425.2.1 bt425.2.2).bind fun t428 => ((spec_Digits.f k t424).bind fun t429 => (if t428.toList = t429.toList then ((spec_DrawTenTimes.f k l0).bind fun bt430 => ((impl_TenTimes.f k bt430.1 bt430.2.1 bt430.2.2.1 bt430.2.2.2).bind fun bt435 => ((spec_TenTimes.f k bt430.1 bt430.2.1 bt430.2.2.1 bt430.2.2.2).bind fun bt440 => (if (bt435.2.2.2 != bt440.2.2.2) = true then (laws_FnWideSmall.j0 k bt430.2.2.2 bt435.2.2.2 bt440.2.2.2 true bt430.1 bt430.2.1 bt430.2.2.1 bt435.1 bt435.2.1 bt435.2.2.1) else (if bt435.2.2.2 = true then (laws_FnWideSmall.j0 k bt430.2.2.2 bt435.2.2.2 bt440.2.2.2 (!bt430.1 && (bt430.2.1 == 0 && (bt430.2.2.1 == 0))) bt430.1 bt430.2.1 bt430.2.2.1 bt435.1 bt435.2.1 bt435.2.2.1) else (laws_FnWideSmall.j0 k bt430.2.2.2 bt435.2.2.2 bt440.2.2.2 true bt430.1 bt430.2.1 bt430.2.2.1 bt435.1 bt435.2.1 bt435.2.2.1)))))) else (some false)))))))) = some r := h
  clear h
  replace H := Option.bind_eq_some_iff.mp H
  obtain ⟨t423, A20, H⟩ := H
  replace H : (if t423 = true then (some true) else ((spec_DrawDigits.f k l0).bind fun t424 => ((impl_WideOf.f t424).bind fun bt425 => ((impl_WideText.f k bt425.1 bt425.2.1 bt425.2.2).bind fun t428 => ((spec_Digits.f k t424).bind fun t429 => (if t428.toList = t429.toList then ((spec_DrawTenTimes.f k l0).bind fun bt430 => ((impl_TenTimes.f k bt430.1 bt430.2.1 bt430.2.2.1 bt430.2.2.2).bind fun bt435 => ((spec_TenTimes.f k bt430.1 bt430.2.1 bt430.2.2.1 bt430.2.2.2).bind fun bt440 => (if (bt435.2.2.2 != bt440.2.2.2) = true then (laws_FnWideSmall.j0 k bt430.2.2.2 bt435.2.2.2 bt440.2.2.2 true bt430.1 bt430.2.1 bt430.2.2.1 bt435.1 bt435.2.1 bt435.2.2.1) else (if bt435.2.2.2 = true then (laws_FnWideSmall.j0 k bt430.2.2.2 bt435.2.2.2 bt440.2.2.2 (!bt430.1 && (bt430.2.1 == 0 && (bt430.2.2.1 == 0))) bt430.1 bt430.2.1 bt430.2.2.1 bt435.1 bt435.2.1 bt435.2.2.1) else (laws_FnWideSmall.j0 k bt430.2.2.2 bt435.2.2.2 bt440.2.2.2 true bt430.1 bt430.2.1 bt430.2.2.1 bt435.1 bt435.2.1 bt435.2.2.1)))))) else (some false))))))) = some r := H
  have A2 := Aside0.mk A20
  clear A20
  by_cases c3 : t423 = true
  · subst c3
    have H1 : (some true) = some r := by rw [if_pos rfl] at H; exact H
    clear H
    have H := H1
    clear H1
    obtain rfl := Option.some.inj H
    go_enter Tryd.func3, Tryd.ntmps3
    go_wp2_with (first | ((with_reducible refine gate_callee (f := 9) rfl ?_); refine goesL_ (some 11) rfl rfl Tryd.func9 (by kernel_rfl) rfl #[.slice A0 l0.length c0] rfl mp_ ?_; (with_reducible refine (laws_big.calls _ _ l0 true _ ?side1 ?side2 A2.out).mono ?_); (case side1 => repeat (first | exact HR0.out | (with_reducible refine Kd.C_alloc ?_ _) | (with_reducible refine Kd.C_drewN ?_ _) | (with_reducible refine Kd.C_drew ?_))); (case side2 => exact HC0.out); rintro e w' ⟨rfl, ⟨nd, rfl⟩⟩; refine ⟨_, rfl, ?_⟩))
    all_goals go_ret
    all_goals exact ⟨rf_, bel_⟩
  · replace c3 := Bool.eq_false_iff.mpr c3
    subst c3
    have H1 : ((spec_DrawDigits.f k l0).bind fun t424 => ((impl_WideOf.f t424).bind fun bt425 => ((impl_WideText.f k bt425.1 bt425.2.1 bt425.2.2).bind fun t428 => ((spec_Digits.f k t424).bind fun t429 => (if t428.toList = t429.toList then ((spec_DrawTenTimes.f k l0).bind fun bt430 => ((impl_TenTimes.f k bt430.1 bt430.2.1 bt430.2.2.1 bt430.2.2.2).bind fun bt435 => ((spec_TenTimes.f k bt430.1 bt430.2.1 bt430.2.2.1 bt430.2.2.2).bind fun bt440 => (if (bt435.2.2.2 != bt440.2.2.2) = true then (laws_FnWideSmall.j0 k bt430.2.2.2 bt435.2.2.2 bt440.2.2.2 true bt430.1 bt430.2.1 bt430.2.2.1 bt435.1 bt435.2.1 bt435.2.2.1) else (if bt435.2.2.2 = true then (laws_FnWideSmall.j0 k bt430.2.2.2 bt435.2.2.2 bt440.2.2.2 (!bt430.1 && (bt430.2.1 == 0 && (bt430.2.2.1 == 0))) bt430.1 bt430.2.1 bt430.2.2.1 bt435.1 bt435.2.1 bt435.2.2.1) else (laws_FnWideSmall.j0 k bt430.2.2.2 bt435.2.2.2 bt440.2.2.2 true bt430.1 bt430.2.1 bt430.2.2.1 bt435.1 bt435.2.1 bt435.2.2.1)))))) else (some false)))))) = some r := by rw [if_neg (show ¬ (false = true) by decide)] at H; exact H
    clear H
    have H := H1
    clear H1
    replace H := Option.bind_eq_some_iff.mp H
    obtain ⟨t424, A40, H⟩ := H
    replace H : ((impl_WideOf.f t424).bind fun bt425 => ((impl_WideText.f k bt425.1 bt425.2.1 bt425.2.2).bind fun t428 => ((spec_Digits.f k t424).bind fun t429 => (if t428.toList = t429.toList then ((spec_DrawTenTimes.f k l0).bind fun bt430 => ((impl_TenTimes.f k bt430.1 bt430.2.1 bt430.2.2.1 bt430.2.2.2).bind fun bt435 => ((spec_TenTimes.f k bt430.1 bt430.2.1 bt430.2.2.1 bt430.2.2.2).bind fun bt440 => (if (bt435.2.2.2 != bt440.2.2.2) = true then (laws_FnWideSmall.j0 k bt430.2.2.2 bt435.2.2.2 bt440.2.2.2 true bt430.1 bt430.2.1 bt430.2.2.1 bt435.1 bt435.2.1 bt435.2.2.1) else (if bt435.2.2.2 = true then (laws_FnWideSmall.j0 k bt430.2.2.2 bt435.2.2.2 bt440.2.2.2 (!bt430.1 && (bt430.2.1 == 0 && (bt430.2.2.1 == 0))) bt430.1 bt430.2.1 bt430.2.2.1 bt435.1 bt435.2.1 bt435.2.2.1) else (laws_FnWideSmall.j0 k bt430.2.2.2 bt435.2.2.2 bt440.2.2.2 true bt430.1 bt430.2.1 bt430.2.2.1 bt435.1 bt435.2.1 bt435.2.2.1)))))) else (some false))))) = some r := H
    have A4 := Aside0.mk A40
    clear A40
    replace H := Option.bind_eq_some_iff.mp H
    obtain ⟨⟨t425, t426, t427⟩, A50, H⟩ := H
    replace H : ((impl_WideText.f k t425 t426 t427).bind fun t428 => ((spec_Digits.f k t424).bind fun t429 => (if t428.toList = t429.toList then ((spec_DrawTenTimes.f k l0).bind fun bt430 => ((impl_TenTimes.f k bt430.1 bt430.2.1 bt430.2.2.1 bt430.2.2.2).bind fun bt435 => ((spec_TenTimes.f k bt430.1 bt430.2.1 bt430.2.2.1 bt430.2.2.2).bind fun bt440 => (if (bt435.2.2.2 != bt440.2.2.2) = true then (laws_FnWideSmall.j0 k bt430.2.2.2 bt435.2.2.2 bt440.2.2.2 true bt430.1 bt430.2.1 bt430.2.2.1 bt435.1 bt435.2.1 bt435.2.2.1) else (if bt435.2.2.2 = true then (laws_FnWideSmall.j0 k bt430.2.2.2 bt435.2.2.2 bt440.2.2.2 (!bt430.1 && (bt430.2.1 == 0 && (bt430.2.2.1 == 0))) bt430.1 bt430.2.1 bt430.2.2.1 bt435.1 bt435.2.1 bt435.2.2.1) else (laws_FnWideSmall.j0 k bt430.2.2.2 bt435.2.2.2 bt440.2.2.2 true bt430.1 bt430.2.1 bt430.2.2.1 bt435.1 bt435.2.1 bt435.2.2.1)))))) else (some false)))) = some r := H
    have A5 := Aside0.mk A50
    clear A50
    replace H := Option.bind_eq_some_iff.mp H
    obtain ⟨t428, A60, H⟩ := H
    replace H : ((spec_Digits.f k t424).bind fun t429 => (if t428.toList = t429.toList then ((spec_DrawTenTimes.f k l0).bind fun bt430 => ((impl_TenTimes.f k bt430.1 bt430.2.1 bt430.2.2.1 bt430.2.2.2).bind fun bt435 => ((spec_TenTimes.f k bt430.1 bt430.2.1 bt430.2.2.1 bt430.2.2.2).bind fun bt440 => (if (bt435.2.2.2 != bt440.2.2.2) = true then (laws_FnWideSmall.j0 k bt430.2.2.2 bt435.2.2.2 bt440.2.2.2 true bt430.1 bt430.2.1 bt430.2.2.1 bt435.1 bt435.2.1 bt435.2.2.1) else (if bt435.2.2.2 = true then (laws_FnWideSmall.j0 k bt430.2.2.2 bt435.2.2.2 bt440.2.2.2 (!bt430.1 && (bt430.2.1 == 0 && (bt430.2.2.1 == 0))) bt430.1 bt430.2.1 bt430.2.2.1 bt435.1 bt435.2.1 bt435.2.2.1) else (laws_FnWideSmall.j0 k bt430.2.2.2 bt435.2.2.2 bt440.2.2.2 true bt430.1 bt430.2.1 bt430.2.2.1 bt435.1 bt435.2.1 bt435.2.2.1)))))) else (some false))) = some r := H
    have A6 := Aside0.mk A60
    clear A60
    replace H := Option.bind_eq_some_iff.mp H
    obtain ⟨t429, A70, H⟩ := H
    replace H : (if t428.toList = t429.toList then ((spec_DrawTenTimes.f k l0).bind fun bt430 => ((impl_TenTimes.f k bt430.1 bt430.2.1 bt430.2.2.1 bt430.2.2.2).bind fun bt435 => ((spec_TenTimes.f k bt430.1 bt430.2.1 bt430.2.2.1 bt430.2.2.2).bind fun bt440 => (if (bt435.2.2.2 != bt440.2.2.2) = true then (laws_FnWideSmall.j0 k bt430.2.2.2 bt435.2.2.2 bt440.2.2.2 true bt430.1 bt430.2.1 bt430.2.2.1 bt435.1 bt435.2.1 bt435.2.2.1) else (if bt435.2.2.2 = true then (laws_FnWideSmall.j0 k bt430.2.2.2 bt435.2.2.2 bt440.2.2.2 (!bt430.1 && (bt430.2.1 == 0 && (bt430.2.2.1 == 0))) bt430.1 bt430.2.1 bt430.2.2.1 bt435.1 bt435.2.1 bt435.2.2.1) else (laws_FnWideSmall.j0 k bt430.2.2.2 bt435.2.2.2 bt440.2.2.2 true bt430.1 bt430.2.1 bt430.2.2.1 bt435.1 bt435.2.1 bt435.2.2.1)))))) else (some false)) = some r := H
    have A7 := Aside0.mk A70
    clear A70
    by_cases c8 : t428.toList = t429.toList
    · rw [if_pos c8] at H
      have c8b0 : (t428.toList == t429.toList) = true := beq_iff_eq.mpr c8
      have c8b1 : (t428.toList != t429.toList) = false := bne_eq_false_iff_eq.mpr c8
      clear c8
      replace H := Option.bind_eq_some_iff.mp H
      obtain ⟨⟨t430, t431, t432, t433⟩, A90, H⟩ := H
      replace H : ((impl_TenTimes.f k t430 t431 t432 t433).bind fun bt435 => ((spec_TenTimes.f k t430 t431 t432 t433).bind fun bt440 => (if (bt435.2.2.2 != bt440.2.2.2) = true then (laws_FnWideSmall.j0 k t433 bt435.2.2.2 bt440.2.2.2 true t430 t431 t432 bt435.1 bt435.2.1 bt435.2.2.1) else (if bt435.2.2.2 = true then (laws_FnWideSmall.j0 k t433 bt435.2.2.2 bt440.2.2.2 (!t430 && (t431 == 0 && (t432 == 0))) t430 t431 t432 bt435.1 bt435.2.1 bt435.2.2.1) else (laws_FnWideSmall.j0 k t433 bt435.2.2.2 bt440.2.2.2 true t430 t431 t432 bt435.1 bt435.2.1 bt435.2.2.1))))) = some r := H
      have A9 := Aside0.mk A90
      clear A90
      replace H := Option.bind_eq_some_iff.mp H
      obtain ⟨⟨t435, t436, t437, t438⟩, A100, H⟩ := H
      replace H : ((spec_TenTimes.f k t430 t431 t432 t433).bind fun bt440 => (if (t438 != bt440.2.2.2) = true then (laws_FnWideSmall.j0 k t433 t438 bt440.2.2.2 true t430 t431 t432 t435 t436 t437) else (if t438 = true then (laws_FnWideSmall.j0 k t433 t438 bt440.2.2.2 (!t430 && (t431 == 0 && (t432 == 0))) t430 t431 t432 t435 t436 t437) else (laws_FnWideSmall.j0 k t433 t438 bt440.2.2.2 true t430 t431 t432 t435 t436 t437)))) = some r := H
      have A10 := Aside0.mk A100
      clear A100
      replace H := Option.bind_eq_some_iff.mp H
      obtain ⟨⟨t440, t441, t442, t443⟩, A110, H⟩ := H
      replace H : (if (t438 != t443) = true then (laws_FnWideSmall.j0 k t433 t438 t443 true t430 t431 t432 t435 t436 t437) else (if t438 = true then (laws_FnWideSmall.j0 k t433 t438 t443 (!t430 && (t431 == 0 && (t432 == 0))) t430 t431 t432 t435 t436 t437) else (laws_FnWideSmall.j0 k t433 t438 t443 true t430 t431 t432 t435 t436 t437))) = some r := H
      have A11 := Aside0.mk A110
      clear A110
      have HC12 := Aside0.mk H
      clear H
      go_enter Tryd.func3, Tryd.ntmps3
      go_upto_region 9 with (first | ((with_reducible refine gate_callee (f := 9) rfl ?_); refine goesL_ (some 11) rfl rfl Tryd.func9 (by kernel_rfl) rfl #[.slice A0 l0.length c0] rfl mp_ ?_; (with_reducible refine (laws_big.calls _ _ l0 false _ ?side1 ?side2 A2.out).mono ?_); (case side1 => repeat (first | exact HR0.out | (with_reducible refine Kd.C_alloc ?_ _) | (with_reducible refine Kd.C_drewN ?_ _) | (with_reducible refine Kd.C_drew ?_))); (case side2 => exact HC0.out); rintro e w' ⟨rfl, ⟨nd, rfl⟩⟩; refine ⟨_, rfl, ?_⟩) | ((with_reducible refine gate_callee (f := 10) rfl ?_); refine goesL_ (some 13) rfl rfl Tryd.func10 (by kernel_rfl) rfl #[.slice A0 l0.length c0] rfl mp_ ?_; (with_reducible refine (spec_DrawDigits.calls k _ _ l0 t424 _ ?side1 ?side2 A4.out).mono ?_); (case side1 => repeat (first | exact HR0.out | (with_reducible refine Kd.C_alloc ?_ _) | (with_reducible refine Kd.C_drewN ?_ _) | (with_reducible refine Kd.C_drew ?_))); (case side2 => exact HC0.out); rintro e w13 ⟨rfl, hb⟩; refine ⟨_, rfl, ?_⟩; have n0_ := Aside0.mk (below_step bel_ hb); clear HB; have HB := n0_; clear n0_; (try clear hb); (try clear hb2); (try clear hk); (try clear hi)) | ((with_reducible refine gate_callee (f := 12) rfl ?_); refine goesL_ (some 15) rfl rfl Tryd.func12 (by kernel_rfl) rfl #[.int .i64 t424] rfl mp_ ?_; (with_reducible refine (impl_WideOf.calls t424 t425 t426 t427 _ A5.out).mono ?_); rintro e w14 ⟨rfl, hb⟩; refine ⟨_, rfl, ?_⟩; have n0_ := Aside0.mk (below_step bel_ hb); clear HB; have HB := n0_; clear n0_; (try clear hb); (try clear hb2); (try clear hk); (try clear hi)) | ((with_reducible refine gate_callee (f := 11) rfl ?_); refine goesL_ (some 16) rfl rfl Tryd.func11 (by kernel_rfl) rfl #[.agg #[.bool t425, .int .u64 t426, .int .u64 t427]] rfl mp_ ?_; (with_reducible refine (impl_WideText.calls k t425 t426 t427 t428 _ A6.out (laid_ hl)).mono ?_); rintro e w15 ⟨rfl, hb⟩; refine ⟨_, rfl, ?_⟩; have n0_ := Aside0.mk (below_step bel_ hb); clear HB; have HB := n0_; clear n0_; (try clear hb); (try clear hb2); (try clear hk); (try clear hi)) | ((with_reducible refine gate_callee (f := 13) rfl ?_); refine goesL_ (some 18) rfl rfl Tryd.func13 (by kernel_rfl) rfl #[.int .i64 t424] rfl mp_ ?_; (with_reducible refine (spec_Digits.calls k t424 t429 _ A7.out).mono ?_); rintro e w16 ⟨rfl, hb⟩; refine ⟨_, rfl, ?_⟩; have n0_ := Aside0.mk (below_step bel_ hb); clear HB; have HB := n0_; clear n0_; (try clear hb); (try clear hb2); (try clear hk); (try clear hi)) | ((with_reducible refine gate_callee (f := 14) rfl ?_); refine goesL_ (some 22) rfl rfl Tryd.func14 (by kernel_rfl) rfl #[.slice A0 l0.length c0] rfl mp_ ?_; (with_reducible refine (spec_DrawTenTimes.calls k _ _ l0 t430 t431 t432 t433 _ ?side1 ?side2 A9.out).mono ?_); (case side1 => repeat (first | exact (Kd.C_below HR0.out HB.out) | (with_reducible refine Kd.C_alloc ?_ _) | (with_reducible refine Kd.C_drewN ?_ _) | (with_reducible refine Kd.C_drew ?_))); (case side2 => exact HC0.out); rintro e w17 ⟨rfl, hb⟩; refine ⟨_, rfl, ?_⟩; have n0_ := Aside0.mk (below_step bel_ hb); clear HB; have HB := n0_; clear n0_; (try clear hb); (try clear hb2); (try clear hk); (try clear hi)) | ((with_reducible refine gate_dst (N := 4) rfl ?_); refine box_event ?hg (N := 4) ?hd (cs := #[.bool false, .int .u64 0, .int .u64 0]) (t := 28) ?hr ?_; (case hd => rfl); (case hg => rfl); (case hr => first | (go_simp; done) | (go_simp; rfl)); intro gb434 hg w18 hbox hb; have n0_ := Aside0.mk (below_step bel_ hb); have n1_ := Aside0.mk (hbox); have n2_ := bs_ (w := w) hg; have n3_ := bs_ (w := w) hg; clear HB; have HB := n0_; have BK434 := n1_; have GW434 := n2_; have GE434 := n3_; clear n0_ n1_ n2_ n3_; clear hb hbox hg; obtain ⟨hcz19_0, hcz19_1, hcz19_2, hfz19_0, hfz19_1, hfz19_2⟩ := cf3_ (w := w18) BK434.out) | ((with_reducible refine gate_callee (f := 15) rfl ?_); refine goesL_ (some 28) rfl rfl Tryd.func15 (by kernel_rfl) rfl #[.agg #[.bool t430, .int .u64 t431, .int .u64 t432], .int .i64 t433] rfl mp_ ?_; (with_reducible refine (impl_TenTimes.calls k t430 t431 t432 t433 t435 t436 t437 t438 _ A10.out).mono ?_); rintro e w20 ⟨rfl, hb⟩; refine ⟨_, rfl, ?_⟩; have n0_ := Aside0.mk (blk_below (g := gb434) (o := .cells #[.bool t430, .int .u64 t431, .int .u64 t432] 28 (0, 0)) (pu_ #[.bool t430, .int .u64 t431, .int .u64 0] 2 (h := (pu_ #[.bool t430, .int .u64 0, .int .u64 0] 1 (h := (pu_ #[.bool false, .int .u64 0, .int .u64 0] 0 (h := bk_)))))) hb); have n1_ := Aside0.mk (below_step bel_ hb); clear BK434; clear HB; have BK434 := n0_; have HB := n1_; clear n0_ n1_; (try clear hb); (try clear hb2); (try clear hk); (try clear hi)) | ((with_reducible refine gate_dst (N := 6) rfl ?_); refine box_event ?hg (N := 6) ?hd (cs := #[.bool false, .int .u64 0, .int .u64 0]) (t := 28) ?hr ?_; (case hd => rfl); (case hg => rfl); (case hr => first | (go_simp; done) | (go_simp; rfl)); intro gb439 hg w21 hbox hb; have n0_ := bb_ (g := gb434) hb; have n1_ := Aside0.mk (below_step bel_ hb); have n2_ := Aside0.mk (hbox); have n3_ := bs_ (w := w) hg; have n4_ := bs_ (w := w) hg; have n5_ := nlt_ (g := gb434) hg; have n6_ := ngt_ (g := gb434) hg; clear BK434; clear HB; have BK434 := n0_; have HB := n1_; have BK439 := n2_; have GW439 := n3_; have GE439 := n4_; have NB434_439 := n5_; have NB439_434 := n6_; clear n0_ n1_ n2_ n3_ n4_ n5_ n6_; clear hb hbox hg; have hnb22 := NB439_434.out; have hnc22 := NB434_439.out; obtain ⟨hcz23_0, hcz23_1, hcz23_2, hfz23_0, hfz23_1, hfz23_2⟩ := cf3_ (w := w21) BK439.out; obtain ⟨hcz24_0, hcz24_1, hcz24_2, hfz24_0, hfz24_1, hfz24_2⟩ := cf3_ (w := w21) BK434.out) | ((with_reducible refine gate_callee (f := 16) rfl ?_); refine goesL_ (some 34) rfl rfl Tryd.func16 (by kernel_rfl) rfl #[.agg #[.bool t430, .int .u64 t431, .int .u64 t432], .int .i64 t433] rfl mp_ ?_; (with_reducible refine (spec_TenTimes.calls k t430 t431 t432 t433 t440 t441 t442 t443 _ A11.out).mono ?_); rintro e w25 ⟨rfl, hb⟩; refine ⟨_, rfl, ?_⟩; have n0_ := Aside0.mk (blk_below (g := gb434) (o := .cells #[.bool t430, .int .u64 t431, .int .u64 t432] 28 (0, 0)) bk_ hb); have n1_ := Aside0.mk (blk_below (g := gb439) (o := .cells #[.bool t435, .int .u64 t436, .int .u64 t437] 28 (0, 0)) (pu_ #[.bool t435, .int .u64 t436, .int .u64 0] 2 (h := (pu_ #[.bool t435, .int .u64 0, .int .u64 0] 1 (h := (pu_ #[.bool false, .int .u64 0, .int .u64 0] 0 (h := bk_)))))) hb); have n2_ := Aside0.mk (below_step bel_ hb); clear BK434; clear BK439; clear HB; have BK434 := n0_; have BK439 := n1_; have HB := n2_; clear n0_ n1_ n2_; (try clear hb); (try clear hb2); (try clear hk); (try clear hi)) | ((with_reducible refine gate_dst (N := 8) rfl ?_); refine box_event ?hg (N := 8) ?hd (cs := #[.bool false, .int .u64 0, .int .u64 0]) (t := 28) ?hr ?_; (case hd => rfl); (case hg => rfl); (case hr => first | (go_simp; done) | (go_simp; rfl)); intro gb444 hg w26 hbox hb; have n0_ := bb_ (g := gb434) hb; have n1_ := bb_ (g := gb439) hb; have n2_ := Aside0.mk (below_step bel_ hb); have n3_ := Aside0.mk (hbox); have n4_ := bs_ (w := w) hg; have n5_ := bs_ (w := w) hg; have n6_ := nlt_ (g := gb434) hg; have n7_ := ngt_ (g := gb434) hg; have n8_ := nlt_ (g := gb439) hg; have n9_ := ngt_ (g := gb439) hg; clear BK434; clear BK439; clear HB; have BK434 := n0_; have BK439 := n1_; have HB := n2_; have BK444 := n3_; have GW444 := n4_; have GE444 := n5_; have NB434_444 := n6_; have NB444_434 := n7_; have NB439_444 := n8_; have NB444_439 := n9_; clear n0_ n1_ n2_ n3_ n4_ n5_ n6_ n7_ n8_ n9_; clear hb hbox hg; have hnb27 := NB444_434.out; have hnc27 := NB434_444.out; have hnb28 := NB444_439.out; have hnc28 := NB439_444.out; obtain ⟨hcz29_0, hcz29_1, hcz29_2, hfz29_0, hfz29_1, hfz29_2⟩ := cf3_ (w := w26) BK444.out))
      (try simp only [Act.put, la_, lb_, lc_])
      go_cut [48] (fun v48 wc => ∃ (kq : Nat) (x48_11 : Bool), v48 = .bool x48_11 ∧ Aside0 (laws_FnWideSmall.j0 kq t433 t438 t443 x48_11 t430 t431 t432 t435 t436 t437 = some r) ∧ Aside0 (kq ≤ k) ∧ Aside0 (wc.heap[gb434]? = some (.cells #[.bool t430, .int .u64 t431, .int .u64 t432] 28 (0, 0))) ∧ Aside0 (wc.heap[gb439]? = some (.cells #[.bool t435, .int .u64 t436, .int .u64 t437] 28 (0, 0))) ∧ Aside0 (wc.heap[gb444]? = some (.cells #[.bool t440, .int .u64 t441, .int .u64 t442] 28 (0, 0))) ∧ Aside0 (Below w.heap.size w wc))
      case first =>
        have H := HC12.out
        clear HC12
        by_cases c30 : (t438 != t443) = true
        · rw [if_pos c30] at H
          have c30b0 : (t438 != t443) = true := c30
          (try (have c30b1 : decide (t438 = t443) = false := by simpa using c30))
          (try (have c30b2 : (t438 == t443) = false := by simpa using c30))
          (try (have c30b3 : ¬ (t438 = t443) := by simpa using c30))
          clear c30
          (first | rw [c30b0] | (simp only [i64_w, i32_w]; rw [c30b0]) | skip)
          have H' := Aside0.mk H
          clear H
          go_wp2
          go_meet
          case rel => exact ⟨_, (true), (by first | rfl | (simp; done) | (simp [*]; done)), H', ⟨by first | omega | exact Nat.le_refl _⟩, ⟨by (with_reducible repeat (first | refine bN_ _ ?_ | refine bd_ ?_ | refine ba_ _ ?_)); refine blk_far ?_ NB434_444.out _; (with_reducible repeat (first | refine bN_ _ ?_ | refine bd_ ?_ | refine ba_ _ ?_)); refine blk_far ?_ NB434_444.out _; (with_reducible repeat (first | refine bN_ _ ?_ | refine bd_ ?_ | refine ba_ _ ?_)); refine blk_far ?_ NB434_444.out _; (with_reducible repeat (first | refine bN_ _ ?_ | refine bd_ ?_ | refine ba_ _ ?_)); exact BK434.out⟩, ⟨by (with_reducible repeat (first | refine bN_ _ ?_ | refine bd_ ?_ | refine ba_ _ ?_)); refine blk_far ?_ NB439_444.out _; (with_reducible repeat (first | refine bN_ _ ?_ | refine bd_ ?_ | refine ba_ _ ?_)); refine blk_far ?_ NB439_444.out _; (with_reducible repeat (first | refine bN_ _ ?_ | refine bd_ ?_ | refine ba_ _ ?_)); refine blk_far ?_ NB439_444.out _; (with_reducible repeat (first | refine bN_ _ ?_ | refine bd_ ?_ | refine ba_ _ ?_)); exact BK439.out⟩, ⟨by (with_reducible repeat (first | refine bN_ _ ?_ | refine bd_ ?_ | refine ba_ _ ?_)); refine blk_put (cs := #[.bool t440, .int .u64 t441, .int .u64 0]) ?_ 2 _ rfl; (with_reducible repeat (first | refine bN_ _ ?_ | refine bd_ ?_ | refine ba_ _ ?_)); refine blk_put (cs := #[.bool t440, .int .u64 0, .int .u64 0]) ?_ 1 _ rfl; (with_reducible repeat (first | refine bN_ _ ?_ | refine bd_ ?_ | refine ba_ _ ?_)); refine blk_put (cs := #[.bool false, .int .u64 0, .int .u64 0]) ?_ 0 _ rfl; (with_reducible repeat (first | refine bN_ _ ?_ | refine bd_ ?_ | refine ba_ _ ?_)); exact BK444.out⟩, ⟨bel_⟩⟩
        · rw [if_neg c30] at H
          have c30b0 : (t438 != t443) = false := by simpa using c30
          (try (have c30b1 : decide (t438 = t443) = true := by simpa using c30))
          (try (have c30b2 : (t438 == t443) = true := by simpa using c30))
          clear c30
          (first | rw [c30b0] | (simp only [i64_w, i32_w]; rw [c30b0]) | skip)
          by_cases c31 : t438 = true
          · subst c31
            have H1 : (laws_FnWideSmall.j0 k t433 true t443 (!t430 && (t431 == 0 && (t432 == 0))) t430 t431 t432 t435 t436 t437) = some r := by rw [if_pos rfl] at H; exact H
            clear H
            have H := H1
            clear H1
            have H' := Aside0.mk H
            clear H
            have hnb32 := NB434_439.out
            have hnc32 := NB439_434.out
            have hnb33 := NB434_444.out
            have hnc33 := NB444_434.out
            obtain ⟨hcz34_0, hcz34_1, hcz34_2, hfz34_0, hfz34_1, hfz34_2⟩ := cf3_ (w := w26) BK434.out
            go_wp2
            go_meet
            case rel => exact ⟨_, ((!t430 && (t431 == 0 && (t432 == 0)))), (by first | rfl | (simp; done) | (simp [*]; done)), H', ⟨by first | omega | exact Nat.le_refl _⟩, ⟨by (with_reducible repeat (first | refine bN_ _ ?_ | refine bd_ ?_ | refine ba_ _ ?_)); refine blk_far ?_ NB434_444.out _; (with_reducible repeat (first | refine bN_ _ ?_ | refine bd_ ?_ | refine ba_ _ ?_)); refine blk_far ?_ NB434_444.out _; (with_reducible repeat (first | refine bN_ _ ?_ | refine bd_ ?_ | refine ba_ _ ?_)); refine blk_far ?_ NB434_444.out _; (with_reducible repeat (first | refine bN_ _ ?_ | refine bd_ ?_ | refine ba_ _ ?_)); exact BK434.out⟩, ⟨by (with_reducible repeat (first | refine bN_ _ ?_ | refine bd_ ?_ | refine ba_ _ ?_)); refine blk_far ?_ NB439_444.out _; (with_reducible repeat (first | refine bN_ _ ?_ | refine bd_ ?_ | refine ba_ _ ?_)); refine blk_far ?_ NB439_444.out _; (with_reducible repeat (first | refine bN_ _ ?_ | refine bd_ ?_ | refine ba_ _ ?_)); refine blk_far ?_ NB439_444.out _; (with_reducible repeat (first | refine bN_ _ ?_ | refine bd_ ?_ | refine ba_ _ ?_)); exact BK439.out⟩, ⟨by (with_reducible repeat (first | refine bN_ _ ?_ | refine bd_ ?_ | refine ba_ _ ?_)); refine blk_put (cs := #[.bool t440, .int .u64 t441, .int .u64 0]) ?_ 2 _ rfl; (with_reducible repeat (first | refine bN_ _ ?_ | refine bd_ ?_ | refine ba_ _ ?_)); refine blk_put (cs := #[.bool t440, .int .u64 0, .int .u64 0]) ?_ 1 _ rfl; (with_reducible repeat (first | refine bN_ _ ?_ | refine bd_ ?_ | refine ba_ _ ?_)); refine blk_put (cs := #[.bool false, .int .u64 0, .int .u64 0]) ?_ 0 _ rfl; (with_reducible repeat (first | refine bN_ _ ?_ | refine bd_ ?_ | refine ba_ _ ?_)); exact BK444.out⟩, ⟨bel_⟩⟩
          · replace c31 := Bool.eq_false_iff.mpr c31
            subst c31
            have H1 : (laws_FnWideSmall.j0 k t433 false t443 true t430 t431 t432 t435 t436 t437) = some r := by rw [if_neg (show ¬ (false = true) by decide)] at H; exact H
            clear H
            have H := H1
            clear H1
            have H' := Aside0.mk H
            clear H
            go_wp2
            go_meet
            case rel => exact ⟨_, (true), (by first | rfl | (simp; done) | (simp [*]; done)), H', ⟨by first | omega | exact Nat.le_refl _⟩, ⟨by (with_reducible repeat (first | refine bN_ _ ?_ | refine bd_ ?_ | refine ba_ _ ?_)); refine blk_far ?_ NB434_444.out _; (with_reducible repeat (first | refine bN_ _ ?_ | refine bd_ ?_ | refine ba_ _ ?_)); refine blk_far ?_ NB434_444.out _; (with_reducible repeat (first | refine bN_ _ ?_ | refine bd_ ?_ | refine ba_ _ ?_)); refine blk_far ?_ NB434_444.out _; (with_reducible repeat (first | refine bN_ _ ?_ | refine bd_ ?_ | refine ba_ _ ?_)); exact BK434.out⟩, ⟨by (with_reducible repeat (first | refine bN_ _ ?_ | refine bd_ ?_ | refine ba_ _ ?_)); refine blk_far ?_ NB439_444.out _; (with_reducible repeat (first | refine bN_ _ ?_ | refine bd_ ?_ | refine ba_ _ ?_)); refine blk_far ?_ NB439_444.out _; (with_reducible repeat (first | refine bN_ _ ?_ | refine bd_ ?_ | refine ba_ _ ?_)); refine blk_far ?_ NB439_444.out _; (with_reducible repeat (first | refine bN_ _ ?_ | refine bd_ ?_ | refine ba_ _ ?_)); exact BK439.out⟩, ⟨by (with_reducible repeat (first | refine bN_ _ ?_ | refine bd_ ?_ | refine ba_ _ ?_)); refine blk_put (cs := #[.bool t440, .int .u64 t441, .int .u64 0]) ?_ 2 _ rfl; (with_reducible repeat (first | refine bN_ _ ?_ | refine bd_ ?_ | refine ba_ _ ?_)); refine blk_put (cs := #[.bool t440, .int .u64 0, .int .u64 0]) ?_ 1 _ rfl; (with_reducible repeat (first | refine bN_ _ ?_ | refine bd_ ?_ | refine ba_ _ ?_)); refine blk_put (cs := #[.bool false, .int .u64 0, .int .u64 0]) ?_ 0 _ rfl; (with_reducible repeat (first | refine bN_ _ ?_ | refine bd_ ?_ | refine ba_ _ ?_)); exact BK444.out⟩, ⟨bel_⟩⟩
      case rest =>
        clear HC12
        try clear c1
        try clear c2
        try clear p2
        try clear c3
        try clear c8
        try clear c8b0
        try clear c8b1
        try clear c9
        try clear c10
        try clear c11
        try clear c12
        try clear c13
        try clear c14
        try clear c15
        try clear c16
        try clear c22
        try clear c27
        try clear c28
        try clear c30
        try clear c30b0
        try clear c30b1
        try clear c30b2
        try clear c31
        try clear c32
        try clear c33
        try clear hcz19_0
        try clear hcz19_1
        try clear hcz19_2
        try clear hcz23_0
        try clear hcz23_1
        try clear hcz23_2
        try clear hcz24_0
        try clear hcz24_1
        try clear hcz24_2
        try clear hcz29_0
        try clear hcz29_1
        try clear hcz29_2
        try clear hcz34_0
        try clear hcz34_1
        try clear hcz34_2
        try clear hfz19_0
        try clear hfz19_1
        try clear hfz19_2
        try clear hfz23_0
        try clear hfz23_1
        try clear hfz23_2
        try clear hfz24_0
        try clear hfz24_1
        try clear hfz24_2
        try clear hfz29_0
        try clear hfz29_1
        try clear hfz29_2
        try clear hfz34_0
        try clear hfz34_1
        try clear hfz34_2
        obtain ⟨kq, x48_11, rfl, HA, HJ11, BK434, BK439, BK444, HB⟩ := hcut
        cases kq with
        | zero => exact absurd HA.out (by simp [laws_FnWideSmall.j0])
        | succ kj11 =>
          have H := HA.out
          clear HA
          simp only [laws_FnWideSmall.j0] at H
          by_cases c35 : x48_11 = true
          · subst c35
            have H1 : (some (t438 == t443)) = some r := by rw [if_pos rfl] at H; exact H
            clear H
            have H := H1
            clear H1
            obtain rfl := Option.some.inj H
            go_wp2
            all_goals go_ret
            all_goals exact ⟨rf_, bel_⟩
          · replace c35 := Bool.eq_false_iff.mpr c35
            subst c35
            have H1 : ((impl_WideText.f kj11 t435 t436 t437).bind fun t445 => ((spec_WideText.f kj11 t430 t431 t432).bind fun t446 => ((spec_Digits.f kj11 t433).bind fun t447 => (if t446.size + t447.size ≤ 9223372036854775807 then (some (t445.toList == (t446 ++ t447).toList)) else (none))))) = some r := by rw [if_neg (show ¬ (false = true) by decide)] at H; exact H
            clear H
            have H := H1
            clear H1
            replace H := Option.bind_eq_some_iff.mp H
            obtain ⟨t445, A360, H⟩ := H
            replace H : ((spec_WideText.f kj11 t430 t431 t432).bind fun t446 => ((spec_Digits.f kj11 t433).bind fun t447 => (if t446.size + t447.size ≤ 9223372036854775807 then (some (t445.toList == (t446 ++ t447).toList)) else (none)))) = some r := H
            have A36 := Aside0.mk A360
            clear A360
            replace H := Option.bind_eq_some_iff.mp H
            obtain ⟨t446, A370, H⟩ := H
            replace H : ((spec_Digits.f kj11 t433).bind fun t447 => (if t446.size + t447.size ≤ 9223372036854775807 then (some (t445.toList == (t446 ++ t447).toList)) else (none))) = some r := H
            have A37 := Aside0.mk A370
            clear A370
            replace H := Option.bind_eq_some_iff.mp H
            obtain ⟨t447, A380, H⟩ := H
            replace H : (if t446.size + t447.size ≤ 9223372036854775807 then (some (t445.toList == (t446 ++ t447).toList)) else (none)) = some r := H
            have A38 := Aside0.mk A380
            clear A380
            by_cases c39 : t446.size + t447.size ≤ 9223372036854775807
            · rw [if_pos c39] at H
              have c39b0 := eq_true c39
              have c39b1 : decide (t446.size + t447.size ≤ 9223372036854775807) = true := decide_eq_true c39
              try have c39b2 : (9223372036854775807 < t446.size + t447.size) = False := eq_false (Nat.not_lt.2 c39)
              obtain rfl := Option.some.inj H
              try go_wp2
              have n0_ := Aside0.mk (blk_drew BK434.out)
              have n1_ := Aside0.mk (blk_drew BK439.out)
              have n2_ := Aside0.mk (blk_drew BK444.out)
              have n3_ := Aside0.mk (below_drew1 HB.out)
              clear BK434
              clear BK439
              clear BK444
              clear HB
              have BK434 := n0_
              have BK439 := n1_
              have BK444 := n2_
              have HB := n3_
              clear n0_ n1_ n2_ n3_
              refine start_ (n := 9) (S := fun w' => w'.cell? ⟨gb439, 0, none⟩ = some (.bool t435) ∧ w'.cell? ⟨gb439, 1, none⟩ = some (.int .u64 t436) ∧ w'.cell? ⟨gb439, 2, none⟩ = some (.int .u64 t437) ∧ w'.cell? ⟨gb434, 0, none⟩ = some (.bool t430) ∧ w'.cell? ⟨gb434, 1, none⟩ = some (.int .u64 t431) ∧ w'.cell? ⟨gb434, 2, none⟩ = some (.int .u64 t432)) (ds := []) #[false, false, false, false, false, false, false, false, false] (by kernel_rfl) rfl rfl ⟨bc_, bc_, bc_, bc_, bc_, bc_⟩ (fun hHeld => ?_); refine with_tabW laws_FnWideSmall.tab11 laws_FnWideSmall.bits11 (fun HT_ HW_ => ?_)
              generalize wc.drew = w40 at BK434 BK439 BK444 HB hHeld ⊢
              refine pure_ (i := 4) (N := some 56) (v := ?_) (a' := ?_) #[false, false, false, false, true, false, false, false, false] rfl rfl (any_of HT_.out (by kernel_rfl)) (fun _ _ _ h => h) (Or.inl ⟨by rfl, ?_⟩) ?_ ?_
              rotate_left
              · intro w'
                go_simp
                with_reducible rfl
              rotate_left
              · simp only [Act.put, la_, lb_, lc_, i64_w, i32_w]
                rfl
              refine take_ (i := 0) (N := some 52) (v := ?_) (a' := ?_) #[true, false, false, false, true, false, false, false, false] rfl rfl (take_ofW HT_.out HW_.out (by kernel_rfl)) (fun _ _ _ h => h) (Or.inl ⟨by rfl, ?_⟩) hHeld ?_ ?_
              rotate_left
              · rintro w' ⟨s0, s1, s2, s3, s4, s5⟩
                go_simp
                with_reducible rfl
              rotate_left
              · simp only [Act.put, la_, lb_, lc_, i64_w, i32_w]
                rfl
              refine take_ (i := 2) (N := some 54) (v := ?_) (a' := ?_) #[true, false, true, false, true, false, false, false, false] rfl rfl (take_ofW HT_.out HW_.out (by kernel_rfl)) (fun _ _ _ h => h) (Or.inl ⟨by rfl, ?_⟩) hHeld ?_ ?_
              rotate_left
              · rintro w' ⟨s0, s1, s2, s3, s4, s5⟩
                go_simp
                with_reducible rfl
              rotate_left
              · simp only [Act.put, la_, lb_, lc_, i64_w, i32_w]
                rfl
              refine one_ (i := 1) (N := some 53) #[true, true, true, false, true, false, false, false, false] rfl rfl (one_of HT_.out (by kernel_rfl)) (by decide) (fun K hK => ?_)
              refine goes_ Tryd.func11 (by kernel_rfl) rfl #[.agg #[.bool t435, .int .u64 t436, .int .u64 t437]] (by rfl) rfl rfl mp_ ?_
              with_reducible refine (impl_WideText.calls kj11 t435 t436 t437 t445 _ A36.out (laid_ hl)).mono ?_
              rintro e w41 ⟨rfl, hb⟩
              refine ⟨_, rfl, ?_⟩
              have n0_ := bb_ (g := gb434) hb
              have n1_ := bb_ (g := gb439) hb
              have n2_ := bb_ (g := gb444) hb
              have n3_ := Aside0.mk (below_step bel_ hb)
              clear BK434
              clear BK439
              clear BK444
              clear HB
              have BK434 := n0_
              have BK439 := n1_
              have BK444 := n2_
              have HB := n3_
              clear n0_ n1_ n2_ n3_
              (try clear hb)
              (try clear hb2)
              (try clear hk)
              (try clear hi)
              refine hK.out _ _ ⟨bc_, bc_, bc_, bc_, bc_, bc_⟩ (fun hHeld => ?_)
              clear hK K
              refine norm_ (a' := ?_) ?_ ?_
              rotate_left
              · show Act.put _ (some 53) _ = _
                simp only [Act.put, la_, lb_, lc_, i64_w, i32_w]
                rfl
              refine one_ (i := 3) (N := some 55) #[true, true, true, true, true, false, false, false, false] rfl rfl (one_of HT_.out (by kernel_rfl)) (by decide) (fun K hK => ?_)
              refine goes_ Tryd.func17 (by kernel_rfl) rfl #[.agg #[.bool t430, .int .u64 t431, .int .u64 t432]] (by rfl) rfl rfl mp_ ?_
              with_reducible refine (spec_WideText.calls kj11 t430 t431 t432 t446 _ A37.out).mono ?_
              rintro e w42 ⟨rfl, hb⟩
              refine ⟨_, rfl, ?_⟩
              have n0_ := bb_ (g := gb434) hb
              have n1_ := bb_ (g := gb439) hb
              have n2_ := bb_ (g := gb444) hb
              have n3_ := Aside0.mk (below_step bel_ hb)
              clear BK434
              clear BK439
              clear BK444
              clear HB
              have BK434 := n0_
              have BK439 := n1_
              have BK444 := n2_
              have HB := n3_
              clear n0_ n1_ n2_ n3_
              (try clear hb)
              (try clear hb2)
              (try clear hk)
              (try clear hi)
              refine hK.out _ _ ⟨bc_, bc_, bc_, bc_, bc_, bc_⟩ (fun hHeld => ?_)
              clear hK K
              refine norm_ (a' := ?_) ?_ ?_
              rotate_left
              · show Act.put _ (some 55) _ = _
                simp only [Act.put, la_, lb_, lc_, i64_w, i32_w]
                rfl
              refine one_ (i := 5) (N := some 57) #[true, true, true, true, true, true, false, false, false] rfl rfl (one_of HT_.out (by kernel_rfl)) (by decide) (fun K hK => ?_)
              refine goes_ Tryd.func13 (by kernel_rfl) rfl #[.int .i64 t433] (by rfl) rfl rfl mp_ ?_
              with_reducible refine (spec_Digits.calls kj11 t433 t447 _ A38.out).mono ?_
              rintro e w43 ⟨rfl, hb⟩
              refine ⟨_, rfl, ?_⟩
              have n0_ := bb_ (g := gb434) hb
              have n1_ := bb_ (g := gb439) hb
              have n2_ := bb_ (g := gb444) hb
              have n3_ := Aside0.mk (below_step bel_ hb)
              clear BK434
              clear BK439
              clear BK444
              clear HB
              have BK434 := n0_
              have BK439 := n1_
              have BK444 := n2_
              have HB := n3_
              clear n0_ n1_ n2_ n3_
              (try clear hb)
              (try clear hb2)
              (try clear hk)
              (try clear hi)
              refine hK.out _ _ ⟨bc_, bc_, bc_, bc_, bc_, bc_⟩ (fun hHeld => ?_)
              clear hK K
              refine norm_ (a' := ?_) ?_ ?_
              rotate_left
              · show Act.put _ (some 57) _ = _
                simp only [Act.put, la_, lb_, lc_, i64_w, i32_w]
                rfl
              refine pure_ (i := 6) (N := some 58) (v := ?_) (a' := ?_) #[true, true, true, true, true, true, true, false, false] rfl rfl (any_of HT_.out (by kernel_rfl)) (fun _ _ _ h => h) (Or.inl ⟨by rfl, ?_⟩) ?_ ?_
              rotate_left
              · intro w'
                go_simp
                with_reducible rfl
              rotate_left
              · simp only [Act.put, la_, lb_, lc_, i64_w, i32_w]
                rfl
              refine pure_ (i := 7) (N := some 59) (v := ?_) (a' := ?_) #[true, true, true, true, true, true, true, true, false] rfl rfl (any_of HT_.out (by kernel_rfl)) (fun _ _ _ h => h) (Or.inl ⟨by rfl, ?_⟩) ?_ ?_
              rotate_left
              · intro w'
                go_simp
                with_reducible rfl
              rotate_left
              · simp only [Act.put, la_, lb_, lc_, i64_w, i32_w]
                rfl
              refine pure_ (i := 8) (N := some 2) (v := ?_) (a' := ?_) #[true, true, true, true, true, true, true, true, true] rfl rfl (any_of HT_.out (by kernel_rfl)) (fun _ _ _ h => h) (Or.inl ⟨by rfl, ?_⟩) ?_ ?_
              rotate_left
              · intro w'
                go_simp
                with_reducible rfl
              rotate_left
              · simp only [Act.put, la_, lb_, lc_, i64_w, i32_w]
                rfl
              refine done_ (done_of HT_.out (by kernel_rfl)) ?_
              try go_wp2
              all_goals go_ret
              all_goals exact ⟨rf_, bel_⟩
            · rw [if_neg c39] at H
              exact absurd H (by simp)
    · rw [if_neg c8] at H
      have c8b0 : (t428.toList == t429.toList) = false := beq_eq_false_iff_ne.mpr c8
      have c8b1 : (t428.toList != t429.toList) = true := bne_iff_ne.mpr c8
      exact absurd ((Option.some.inj H).trans hrt.out) (by decide)

/-- THE ONE PURE STATEMENT of laws_FnWideSmall: yours. -/
def laws_FnWideSmall.Pure : Prop := ∀ (l0 : List Int), l0.length ≤ maxLen → l0.length * 1 ≤ 140737488351232 → (∀ x ∈ l0, (Lit.int .u8 x).wf = true) → ∃ k, laws_FnWideSmall.f k l0 = some true
theorem laws_FnWideSmall.walk (P : laws_FnWideSmall.Pure) (a0 : Option Addr) (len0 cap0 : Nat) (z0 : List Int) (w : World) (w0 : (a0 = none ∧ len0 = 0 ∧ cap0 = 0 ∧ z0 = []) ∨ ∃ x, a0 = some x ∧ len0 ≤ cap0 ∧ cap0 ≤ maxLen ∧ z0.length = cap0 ∧ (∀ i, i < z0.length → w.cell? (x.add i) = some (.int .u8 (z0.getD i 0))) ∧ ∀ n ∈ z0, (Lit.int .u8 n).wf = true) (y0 : len0 * 1 ≤ 140737488351232) (hl : Laid w) :
    Calls Tryd.prog 3 #[.slice a0 len0 cap0] w fun e w' => e = .returned (.bool true) ∧ Below w.heap.size w w' := by
  obtain ⟨l0, rfl, hr0, hm0, hw0, hc0⟩ := ReadsInt.ofRowC w0
  obtain ⟨k, h⟩ := P l0 hm0 y0 hw0
  refine (laws_FnWideSmall.calls k _ _ l0 true w (Kd.C_of_reads (d := (0 : Int)) (h1 := fun _ => rfl) hr0) hc0 h ⟨rfl⟩ hl).mono ?_
  rintro e w' ⟨rfl, hd⟩
  exact ⟨rfl, hd⟩

end Go.Proofs.YtkpgpifkbdpnkaaDoor.PFnWideSmall
