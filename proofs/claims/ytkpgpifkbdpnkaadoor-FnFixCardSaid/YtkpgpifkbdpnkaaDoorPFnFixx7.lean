/- Contracts of Go functions, each with the Lean function that says what it computes: begun by the print, turned by this session. No condition beyond what each theorem states. -/
import Derived.Test.YtkpgpifkbdpnkaaDoorPFnFixx0
import Derived.Test.YtkpgpifkbdpnkaaDoorPFnFixx1
import Derived.Test.YtkpgpifkbdpnkaaDoorPFnFixx3
import Derived.Test.YtkpgpifkbdpnkaaDoorPFnFixx4
import Derived.Test.YtkpgpifkbdpnkaaDoorPFnFixx6
namespace Go.Proofs.YtkpgpifkbdpnkaaDoor.PFnFix
open Go.RowKit Go.Proofs.YtkpgpifkbdpnkaaDoorW.PrintWords Go.Proofs.YtkpgpifkbdpnkaaDoorW.PrintLast Go.Proofs.YtkpgpifkbdpnkaaDoorW.PrintMore
attribute [local go_sem] max2_int min2_int max_two min_two max_three min_three max_four min_four   -- for this text's walks alone
set_option linter.unusedVariables false
set_option linter.unusedSimpArgs false

/-! ### laws_FnFix: function 7 -/
mutual
def laws_FnFix.j0 : Nat → List Int → Bool → Option (Bool)
  | 0, _, _ => none
  | k + 1, x0, x44 => if x44 = true then (some false) else ((spec_DrawFixNormal.f k x0).bind fun t290 => ((impl_FixNormal.f k t290).bind fun bt291 => ((impl_ReadFix.f t290).bind fun bt293 => ((spec_ReadFix.f k t290).bind fun bt295 => (if (bt293.2 != bt295.2) = true then (laws_FnFix.j1 k bt291.1 bt291.2 bt293.1 true) else (laws_FnFix.j1 k bt291.1 bt291.2 bt293.1 (bt291.2 != bt293.2)))))))
def laws_FnFix.j1 : Nat → ByteArray → Bool → Int → Bool → Option (Bool)
  | 0, _, _, _, _ => none
  | k + 1, x8, x9, x10, x69 => if x69 = true then (some false) else ((impl_FixNormal.f k x8).bind fun bt297 => (if x9 = true then (if bt297.2 = true then (if bt297.1.toList = x8.toList then ((spec_FixText.f k x10).bind fun t299 => (some (x8.toList == t299.toList))) else (some false)) else (some false)) else (if x8.toList = ([] : List UInt8) then (some true) else (some false))))
end
def laws_FnFix.f (k : Nat) (l0 : List Int) : Option (Bool) := (laws_big.f l0).bind fun t284 => (if t284 = true then (some true) else ((spec_DrawFixText.f k l0).bind fun t285 => ((impl_FixText.f k t285).bind fun t286 => ((impl_ReadFix.f t286).bind fun bt287 => ((spec_FixText.f k t285).bind fun t289 => (if t286.toList = t289.toList then (if (bt287.2 != (t286.toList != ([] : List UInt8))) = true then (laws_FnFix.j0 k l0 true) else (if bt287.2 = true then (laws_FnFix.j0 k l0 (bt287.1 != t285)) else (laws_FnFix.j0 k l0 false))) else (laws_FnFix.j0 k l0 true)))))))
theorem laws_FnFix.mono_l : ∀ k, (∀ y0 y1, LeO (laws_FnFix.j0 k y0 y1) (laws_FnFix.j0 (k + 1) y0 y1)) ∧ (∀ y0 y1 y2 y3, LeO (laws_FnFix.j1 k y0 y1 y2 y3) (laws_FnFix.j1 (k + 1) y0 y1 y2 y3))
  | 0 => ⟨fun _ _ r h => by simp [laws_FnFix.j0] at h, fun _ _ _ _ r h => by simp [laws_FnFix.j1] at h⟩
  | k + 1 => by
    obtain ⟨ih0, ih1⟩ := laws_FnFix.mono_l k
    refine ⟨?_, ?_⟩
    · intro y0 y1
      unfold laws_FnFix.j0
      repeat' first
      | (with_reducible exact ih0 _ _)
      | (with_reducible exact ih1 _ _ _ _)
      | (with_reducible exact impl_FixNormal.mono _ _)
      | (with_reducible exact impl_FixText.mono _ _)
      | (with_reducible exact spec_DrawFixNormal.mono _ _)
      | (with_reducible exact spec_DrawFixText.mono _ _)
      | (with_reducible exact spec_FixText.mono _ _)
      | (with_reducible exact spec_ReadFix.mono _ _)
      | (with_reducible exact LeO.refl _)
      | (with_reducible exact LeO.none _)
      | (with_reducible refine LeO.ite ?_ ?_)
      | (with_reducible refine LeO.bind ?_ (fun _ => ?_))
      | exact ih0 _ _
      | exact ih1 _ _ _ _
      | exact impl_FixNormal.mono _ _
      | exact impl_FixText.mono _ _
      | exact spec_DrawFixNormal.mono _ _
      | exact spec_DrawFixText.mono _ _
      | exact spec_FixText.mono _ _
      | exact spec_ReadFix.mono _ _
      | exact LeO.none _
      | refine LeO.ite ?_ ?_
      | refine LeO.bind ?_ (fun _ => ?_)
    · intro y0 y1 y2 y3
      unfold laws_FnFix.j1
      repeat' first
      | (with_reducible exact ih0 _ _)
      | (with_reducible exact ih1 _ _ _ _)
      | (with_reducible exact impl_FixNormal.mono _ _)
      | (with_reducible exact impl_FixText.mono _ _)
      | (with_reducible exact spec_DrawFixNormal.mono _ _)
      | (with_reducible exact spec_DrawFixText.mono _ _)
      | (with_reducible exact spec_FixText.mono _ _)
      | (with_reducible exact spec_ReadFix.mono _ _)
      | (with_reducible exact LeO.refl _)
      | (with_reducible exact LeO.none _)
      | (with_reducible refine LeO.ite ?_ ?_)
      | (with_reducible refine LeO.bind ?_ (fun _ => ?_))
      | exact ih0 _ _
      | exact ih1 _ _ _ _
      | exact impl_FixNormal.mono _ _
      | exact impl_FixText.mono _ _
      | exact spec_DrawFixNormal.mono _ _
      | exact spec_DrawFixText.mono _ _
      | exact spec_FixText.mono _ _
      | exact spec_ReadFix.mono _ _
      | exact LeO.none _
      | refine LeO.ite ?_ ?_
      | refine LeO.bind ?_ (fun _ => ?_)
theorem laws_FnFix.mono : ∀ a0 k, LeO (laws_FnFix.f k a0) (laws_FnFix.f (k + 1) a0) := by
  intro a0 k
  obtain ⟨ih0, ih1⟩ := laws_FnFix.mono_l k
  unfold laws_FnFix.f
  repeat' first
      | (with_reducible exact ih0 _ _)
      | (with_reducible exact ih1 _ _ _ _)
      | (with_reducible exact impl_FixNormal.mono _ _)
      | (with_reducible exact impl_FixText.mono _ _)
      | (with_reducible exact spec_DrawFixNormal.mono _ _)
      | (with_reducible exact spec_DrawFixText.mono _ _)
      | (with_reducible exact spec_FixText.mono _ _)
      | (with_reducible exact spec_ReadFix.mono _ _)
      | (with_reducible exact LeO.refl _)
      | (with_reducible exact LeO.none _)
      | (with_reducible refine LeO.ite ?_ ?_)
      | (with_reducible refine LeO.bind ?_ (fun _ => ?_))
      | exact ih0 _ _
      | exact ih1 _ _ _ _
      | exact impl_FixNormal.mono _ _
      | exact impl_FixText.mono _ _
      | exact spec_DrawFixNormal.mono _ _
      | exact spec_DrawFixText.mono _ _
      | exact spec_FixText.mono _ _
      | exact spec_ReadFix.mono _ _
      | exact LeO.none _
      | refine LeO.ite ?_ ?_
      | refine LeO.bind ?_ (fun _ => ?_)
set_option maxHeartbeats 8000000 in
set_option maxRecDepth 100000 in
theorem laws_FnFix.calls (k : Nat) (A0 : Option Addr) (c0 : Nat) (l0 : List Int) (r : Bool) (w : World) (hr0 : Kd.C (Kd.int .u8) w A0 l0.length l0) (hc0 : l0.length ≤ c0) (h : laws_FnFix.f k l0 = some r) (hrt : Aside0 (r = true)) (hl : Laid w) :
    Calls Tryd.prog 7 #[.slice A0 l0.length c0] w fun e w' => e = .returned (.bool r) ∧ Below w.heap.size w w' := by
  have HR0 := Aside0.mk hr0
  have HC0 := Aside0.mk hc0
  clear hr0 hc0
  have HB := Aside0.mk (Below.refl w.heap.size w)
  have H : ((laws_big.f l0).bind fun t284 => (if t284 = true then (some true) else ((spec_DrawFixText.f k l0).bind fun t285 => ((impl_FixText.f k t285).bind fun t286 => ((impl_ReadFix.f t286).bind fun bt287 => ((spec_FixText.f k t285).bind fun t289 => (if t286.toList = t289.toList then (if (bt287.2 != (t286.toList != ([] : List UInt8))) = true then (laws_FnFix.j0 k l0 true) else (if bt287.2 = true then (laws_FnFix.j0 k l0 (bt287.1 != t285)) else (laws_FnFix.j0 k l0 false))) else (laws_FnFix.j0 k l0 true)))))))) = some r := h
  clear h
  replace H := Option.bind_eq_some_iff.mp H
  obtain ⟨t284, A20, H⟩ := H
  replace H : (if t284 = true then (some true) else ((spec_DrawFixText.f k l0).bind fun t285 => ((impl_FixText.f k t285).bind fun t286 => ((impl_ReadFix.f t286).bind fun bt287 => ((spec_FixText.f k t285).bind fun t289 => (if t286.toList = t289.toList then (if (bt287.2 != (t286.toList != ([] : List UInt8))) = true then (laws_FnFix.j0 k l0 true) else (if bt287.2 = true then (laws_FnFix.j0 k l0 (bt287.1 != t285)) else (laws_FnFix.j0 k l0 false))) else (laws_FnFix.j0 k l0 true))))))) = some r := H
  have A2 := Aside0.mk A20
  clear A20
  by_cases c3 : t284 = true
  · subst c3
    have H1 : (some true) = some r := by rw [if_pos rfl] at H; exact H
    clear H
    have H := H1
    clear H1
    obtain rfl := Option.some.inj H
    go_enter Tryd.func7, Tryd.ntmps7
    go_wp2_with (first | ((with_reducible refine gate_callee (f := 9) rfl ?_); refine goesL_ (some 17) rfl rfl Tryd.func9 (by kernel_rfl) rfl #[.slice A0 l0.length c0] rfl mp_ ?_; (with_reducible refine (laws_big.calls _ _ l0 true _ ?side1 ?side2 A2.out).mono ?_); (case side1 => repeat (first | exact HR0.out | (with_reducible refine Kd.C_alloc ?_ _) | (with_reducible refine Kd.C_drewN ?_ _) | (with_reducible refine Kd.C_drew ?_))); (case side2 => exact HC0.out); rintro e w' ⟨rfl, ⟨nd, rfl⟩⟩; refine ⟨_, rfl, ?_⟩))
    all_goals go_ret
    all_goals exact ⟨rf_, bel_⟩
  · replace c3 := Bool.eq_false_iff.mpr c3
    subst c3
    have H1 : ((spec_DrawFixText.f k l0).bind fun t285 => ((impl_FixText.f k t285).bind fun t286 => ((impl_ReadFix.f t286).bind fun bt287 => ((spec_FixText.f k t285).bind fun t289 => (if t286.toList = t289.toList then (if (bt287.2 != (t286.toList != ([] : List UInt8))) = true then (laws_FnFix.j0 k l0 true) else (if bt287.2 = true then (laws_FnFix.j0 k l0 (bt287.1 != t285)) else (laws_FnFix.j0 k l0 false))) else (laws_FnFix.j0 k l0 true)))))) = some r := by rw [if_neg (show ¬ (false = true) by decide)] at H; exact H
    clear H
    have H := H1
    clear H1
    replace H := Option.bind_eq_some_iff.mp H
    obtain ⟨t285, A40, H⟩ := H
    replace H : ((impl_FixText.f k t285).bind fun t286 => ((impl_ReadFix.f t286).bind fun bt287 => ((spec_FixText.f k t285).bind fun t289 => (if t286.toList = t289.toList then (if (bt287.2 != (t286.toList != ([] : List UInt8))) = true then (laws_FnFix.j0 k l0 true) else (if bt287.2 = true then (laws_FnFix.j0 k l0 (bt287.1 != t285)) else (laws_FnFix.j0 k l0 false))) else (laws_FnFix.j0 k l0 true))))) = some r := H
    have A4 := Aside0.mk A40
    clear A40
    replace H := Option.bind_eq_some_iff.mp H
    obtain ⟨t286, A50, H⟩ := H
    replace H : ((impl_ReadFix.f t286).bind fun bt287 => ((spec_FixText.f k t285).bind fun t289 => (if t286.toList = t289.toList then (if (bt287.2 != (t286.toList != ([] : List UInt8))) = true then (laws_FnFix.j0 k l0 true) else (if bt287.2 = true then (laws_FnFix.j0 k l0 (bt287.1 != t285)) else (laws_FnFix.j0 k l0 false))) else (laws_FnFix.j0 k l0 true)))) = some r := H
    have A5 := Aside0.mk A50
    clear A50
    replace H := Option.bind_eq_some_iff.mp H
    obtain ⟨⟨t287, t288⟩, A60, H⟩ := H
    replace H : ((spec_FixText.f k t285).bind fun t289 => (if t286.toList = t289.toList then (if (t288 != (t286.toList != ([] : List UInt8))) = true then (laws_FnFix.j0 k l0 true) else (if t288 = true then (laws_FnFix.j0 k l0 (t287 != t285)) else (laws_FnFix.j0 k l0 false))) else (laws_FnFix.j0 k l0 true))) = some r := H
    have A6 := Aside0.mk A60
    clear A60
    have HC7 := Aside0.mk H
    clear H
    go_enter Tryd.func7, Tryd.ntmps7
    go_upto_region 6 with (first | ((with_reducible refine gate_callee (f := 9) rfl ?_); refine goesL_ (some 17) rfl rfl Tryd.func9 (by kernel_rfl) rfl #[.slice A0 l0.length c0] rfl mp_ ?_; (with_reducible refine (laws_big.calls _ _ l0 false _ ?side1 ?side2 A2.out).mono ?_); (case side1 => repeat (first | exact HR0.out | (with_reducible refine Kd.C_alloc ?_ _) | (with_reducible refine Kd.C_drewN ?_ _) | (with_reducible refine Kd.C_drew ?_))); (case side2 => exact HC0.out); rintro e w' ⟨rfl, ⟨nd, rfl⟩⟩; refine ⟨_, rfl, ?_⟩) | ((with_reducible refine gate_callee (f := 33) rfl ?_); refine goesL_ (some 19) rfl rfl Tryd.func33 (by kernel_rfl) rfl #[.slice A0 l0.length c0] rfl mp_ ?_; (with_reducible refine (spec_DrawFixText.calls k _ _ l0 t285 _ ?side1 ?side2 A4.out).mono ?_); (case side1 => repeat (first | exact HR0.out | (with_reducible refine Kd.C_alloc ?_ _) | (with_reducible refine Kd.C_drewN ?_ _) | (with_reducible refine Kd.C_drew ?_))); (case side2 => exact HC0.out); rintro e w8 ⟨rfl, hb⟩; refine ⟨_, rfl, ?_⟩; have n0_ := Aside0.mk (below_step bel_ hb); clear HB; have HB := n0_; clear n0_; (try clear hb); (try clear hb2); (try clear hk); (try clear hi)) | ((with_reducible refine gate_callee (f := 34) rfl ?_); refine goesL_ (some 21) rfl rfl Tryd.func34 (by kernel_rfl) rfl #[.int .i64 t285] rfl mp_ ?_; (with_reducible refine (impl_FixText.calls k t285 t286 _ A5.out (laid_ hl)).mono ?_); rintro e w9 ⟨rfl, hb⟩; refine ⟨_, rfl, ?_⟩; have n0_ := Aside0.mk (below_step bel_ hb); clear HB; have HB := n0_; clear n0_; (try clear hb); (try clear hb2); (try clear hk); (try clear hi)) | ((with_reducible refine gate_callee (f := 35) rfl ?_); refine goesL_ (some 24) rfl rfl Tryd.func35 (by kernel_rfl) rfl #[.string t286] rfl mp_ ?_; (with_reducible refine (impl_ReadFix.calls t286 t287 t288 _ A6.out).mono ?_); rintro e w10 ⟨rfl, hb⟩; refine ⟨_, rfl, ?_⟩; have n0_ := Aside0.mk (below_step bel_ hb); clear HB; have HB := n0_; clear n0_; (try clear hb); (try clear hb2); (try clear hk); (try clear hi)))
    (try simp only [Act.put, la_, lb_, lc_])
    go_cut [44] (fun v44 wc => ∃ (kq : Nat) (x44_6 : Bool), v44 = .bool x44_6 ∧ Aside0 (laws_FnFix.j0 kq l0 x44_6 = some r) ∧ Aside0 (kq ≤ k) ∧ Aside0 (Below w.heap.size w wc))
    case first =>
      have H := HC7.out
      clear HC7
      replace H := Option.bind_eq_some_iff.mp H
      obtain ⟨t289, A110, H⟩ := H
      replace H : (if t286.toList = t289.toList then (if (t288 != (t286.toList != ([] : List UInt8))) = true then (laws_FnFix.j0 k l0 true) else (if t288 = true then (laws_FnFix.j0 k l0 (t287 != t285)) else (laws_FnFix.j0 k l0 false))) else (laws_FnFix.j0 k l0 true)) = some r := H
      have A11 := Aside0.mk A110
      clear A110
      by_cases c12 : t286.toList = t289.toList
      · rw [if_pos c12] at H
        have c12b0 : (t286.toList == t289.toList) = true := beq_iff_eq.mpr c12
        have c12b1 : (t286.toList != t289.toList) = false := bne_eq_false_iff_eq.mpr c12
        clear c12
        (first | rw [c12b0] | (simp only [i64_w, i32_w]; rw [c12b0]) | skip)
        by_cases c13 : (t288 != (t286.toList != ([] : List UInt8))) = true
        · rw [if_pos c13] at H
          have c13b0 : (t288 != (t286.toList != ([] : List UInt8))) = true := c13
          (try (have c13b1 : decide (t288 = (t286.toList != ([] : List UInt8))) = false := by simpa using c13))
          (try (have c13b2 : (t288 == (t286.toList != ([] : List UInt8))) = false := by simpa using c13))
          (try (have c13b3 : ¬ (t288 = (t286.toList != ([] : List UInt8))) := by simpa using c13))
          clear c13
          have H' := Aside0.mk H
          clear H
          have hN : (t286.toList != ([] : List UInt8)) = !t286.toList.isEmpty := by cases t286.toList <;> rfl
          cases hE : t286.toList.isEmpty <;> cases t288 <;> first | (exfalso; revert c13b0; rw [hN, hE]; decide) | skip
          all_goals go_wp2_with (first | ((with_reducible refine gate_callee (f := 36) rfl ?_); refine goesL_ (some 29) rfl rfl Tryd.func36 (by kernel_rfl) rfl #[.int .i64 t285] rfl mp_ ?_; (with_reducible refine (spec_FixText.calls k t285 t289 _ A11.out).mono ?_); rintro e w14 ⟨rfl, hb⟩; refine ⟨_, rfl, ?_⟩; have n0_ := Aside0.mk (below_step bel_ hb); clear HB; have HB := n0_; clear n0_; (try clear hb); (try clear hb2); (try clear hk); (try clear hi)))
          all_goals go_meet
          all_goals exact ⟨_, (true), (by first | rfl | (simp; done) | (simp [*]; done)), H', ⟨by first | omega | exact Nat.le_refl _⟩, ⟨bel_⟩⟩
        · rw [if_neg c13] at H
          have c13b0 : (t288 != (t286.toList != ([] : List UInt8))) = false := by simpa using c13
          (try (have c13b1 : decide (t288 = (t286.toList != ([] : List UInt8))) = true := by simpa using c13))
          (try (have c13b2 : (t288 == (t286.toList != ([] : List UInt8))) = true := by simpa using c13))
          clear c13
          by_cases c15 : t288 = true
          · subst c15
            have H1 : (laws_FnFix.j0 k l0 (t287 != t285)) = some r := by rw [if_pos rfl] at H; exact H
            clear H
            have H := H1
            clear H1
            have H' := Aside0.mk H
            clear H
            have hN : (t286.toList != ([] : List UInt8)) = !t286.toList.isEmpty := by cases t286.toList <;> rfl
            have hE : t286.toList.isEmpty = false := by
              cases hq_ : t286.toList.isEmpty
              · first | rfl | (exfalso; revert c13b0; rw [hN, hq_]; decide)
              · first | rfl | (exfalso; revert c13b0; rw [hN, hq_]; decide)
            go_wp2_with (first | ((with_reducible refine gate_callee (f := 36) rfl ?_); refine goesL_ (some 29) rfl rfl Tryd.func36 (by kernel_rfl) rfl #[.int .i64 t285] rfl mp_ ?_; (with_reducible refine (spec_FixText.calls k t285 t289 _ A11.out).mono ?_); rintro e w16 ⟨rfl, hb⟩; refine ⟨_, rfl, ?_⟩; have n0_ := Aside0.mk (below_step bel_ hb); clear HB; have HB := n0_; clear n0_; (try clear hb); (try clear hb2); (try clear hk); (try clear hi)))
            go_meet
            case rel => exact ⟨_, ((t287 != t285)), (by first | rfl | (simp; done) | (simp [*]; done)), H', ⟨by first | omega | exact Nat.le_refl _⟩, ⟨bel_⟩⟩
          · replace c15 := Bool.eq_false_iff.mpr c15
            subst c15
            have H1 : (laws_FnFix.j0 k l0 false) = some r := by rw [if_neg (show ¬ (false = true) by decide)] at H; exact H
            clear H
            have H := H1
            clear H1
            have H' := Aside0.mk H
            clear H
            have hN : (t286.toList != ([] : List UInt8)) = !t286.toList.isEmpty := by cases t286.toList <;> rfl
            have hE : t286.toList.isEmpty = true := by
              cases hq_ : t286.toList.isEmpty
              · first | rfl | (exfalso; revert c13b0; rw [hN, hq_]; decide)
              · first | rfl | (exfalso; revert c13b0; rw [hN, hq_]; decide)
            go_wp2_with (first | ((with_reducible refine gate_callee (f := 36) rfl ?_); refine goesL_ (some 29) rfl rfl Tryd.func36 (by kernel_rfl) rfl #[.int .i64 t285] rfl mp_ ?_; (with_reducible refine (spec_FixText.calls k t285 t289 _ A11.out).mono ?_); rintro e w17 ⟨rfl, hb⟩; refine ⟨_, rfl, ?_⟩; have n0_ := Aside0.mk (below_step bel_ hb); clear HB; have HB := n0_; clear n0_; (try clear hb); (try clear hb2); (try clear hk); (try clear hi)))
            go_meet
            case rel => exact ⟨_, (false), (by first | rfl | (simp; done) | (simp [*]; done)), H', ⟨by first | omega | exact Nat.le_refl _⟩, ⟨bel_⟩⟩
      · rw [if_neg c12] at H
        have c12b0 : (t286.toList == t289.toList) = false := beq_eq_false_iff_ne.mpr c12
        have c12b1 : (t286.toList != t289.toList) = true := bne_iff_ne.mpr c12
        (first | rw [c12b0] | (simp only [i64_w, i32_w]; rw [c12b0]) | skip)
        have H' := Aside0.mk H
        clear H
        go_wp2_with (first | ((with_reducible refine gate_callee (f := 36) rfl ?_); refine goesL_ (some 29) rfl rfl Tryd.func36 (by kernel_rfl) rfl #[.int .i64 t285] rfl mp_ ?_; (with_reducible refine (spec_FixText.calls k t285 t289 _ A11.out).mono ?_); rintro e w18 ⟨rfl, hb⟩; refine ⟨_, rfl, ?_⟩; have n0_ := Aside0.mk (below_step bel_ hb); clear HB; have HB := n0_; clear n0_; (try clear hb); (try clear hb2); (try clear hk); (try clear hi)))
        go_meet
        case rel => exact ⟨_, (true), (by first | rfl | (simp; done) | (simp [*]; done)), H', ⟨by first | omega | exact Nat.le_refl _⟩, ⟨bel_⟩⟩
    case rest =>
      clear HC7
      try clear c1
      try clear p2
      try clear c3
      try clear c7
      try clear c9
      try clear c12
      try clear c12b0
      try clear c12b1
      try clear c13
      try clear c13b0
      try clear c13b1
      try clear c13b2
      try clear c15
      obtain ⟨kq, x44_6, rfl, HA, HJ6, HB⟩ := hcut
      cases kq with
      | zero => exact absurd HA.out (by simp [laws_FnFix.j0])
      | succ kj6 =>
        have H := HA.out
        clear HA
        simp only [laws_FnFix.j0] at H
        by_cases c19 : x44_6 = true
        · subst c19
          have H1 : (some false) = some r := by rw [if_pos rfl] at H; exact H
          clear H
          have H := H1
          clear H1
          exact absurd ((Option.some.inj H).trans hrt.out) (by decide)
        · replace c19 := Bool.eq_false_iff.mpr c19
          subst c19
          have H1 : ((spec_DrawFixNormal.f kj6 l0).bind fun t290 => ((impl_FixNormal.f kj6 t290).bind fun bt291 => ((impl_ReadFix.f t290).bind fun bt293 => ((spec_ReadFix.f kj6 t290).bind fun bt295 => (if (bt293.2 != bt295.2) = true then (laws_FnFix.j1 kj6 bt291.1 bt291.2 bt293.1 true) else (laws_FnFix.j1 kj6 bt291.1 bt291.2 bt293.1 (bt291.2 != bt293.2))))))) = some r := by rw [if_neg (show ¬ (false = true) by decide)] at H; exact H
          clear H
          have H := H1
          clear H1
          replace H := Option.bind_eq_some_iff.mp H
          obtain ⟨t290, A200, H⟩ := H
          replace H : ((impl_FixNormal.f kj6 t290).bind fun bt291 => ((impl_ReadFix.f t290).bind fun bt293 => ((spec_ReadFix.f kj6 t290).bind fun bt295 => (if (bt293.2 != bt295.2) = true then (laws_FnFix.j1 kj6 bt291.1 bt291.2 bt293.1 true) else (laws_FnFix.j1 kj6 bt291.1 bt291.2 bt293.1 (bt291.2 != bt293.2)))))) = some r := H
          have A20 := Aside0.mk A200
          clear A200
          replace H := Option.bind_eq_some_iff.mp H
          obtain ⟨⟨t291, t292⟩, A210, H⟩ := H
          replace H : ((impl_ReadFix.f t290).bind fun bt293 => ((spec_ReadFix.f kj6 t290).bind fun bt295 => (if (bt293.2 != bt295.2) = true then (laws_FnFix.j1 kj6 t291 t292 bt293.1 true) else (laws_FnFix.j1 kj6 t291 t292 bt293.1 (t292 != bt293.2))))) = some r := H
          have A21 := Aside0.mk A210
          clear A210
          replace H := Option.bind_eq_some_iff.mp H
          obtain ⟨⟨t293, t294⟩, A220, H⟩ := H
          replace H : ((spec_ReadFix.f kj6 t290).bind fun bt295 => (if (t294 != bt295.2) = true then (laws_FnFix.j1 kj6 t291 t292 t293 true) else (laws_FnFix.j1 kj6 t291 t292 t293 (t292 != t294)))) = some r := H
          have A22 := Aside0.mk A220
          clear A220
          replace H := Option.bind_eq_some_iff.mp H
          obtain ⟨⟨t295, t296⟩, A230, H⟩ := H
          replace H : (if (t294 != t296) = true then (laws_FnFix.j1 kj6 t291 t292 t293 true) else (laws_FnFix.j1 kj6 t291 t292 t293 (t292 != t294))) = some r := H
          have A23 := Aside0.mk A230
          clear A230
          have HC24 := Aside0.mk H
          clear H
          go_upto_region 12 with (first | ((with_reducible refine gate_callee (f := 37) rfl ?_); refine goesL_ (some 46) rfl rfl Tryd.func37 (by kernel_rfl) rfl #[.slice A0 l0.length c0] rfl mp_ ?_; (with_reducible refine (spec_DrawFixNormal.calls kj6 _ _ l0 t290 _ ?side1 ?side2 A20.out).mono ?_); (case side1 => repeat (first | exact (Kd.C_below HR0.out HB.out) | (with_reducible refine Kd.C_alloc ?_ _) | (with_reducible refine Kd.C_drewN ?_ _) | (with_reducible refine Kd.C_drew ?_))); (case side2 => exact HC0.out); rintro e w25 ⟨rfl, hb⟩; refine ⟨_, rfl, ?_⟩; have n0_ := Aside0.mk (below_step bel_ hb); clear HB; have HB := n0_; clear n0_; (try clear hb); (try clear hb2); (try clear hk); (try clear hi)) | ((with_reducible refine gate_callee (f := 19) rfl ?_); refine goesL_ (some 49) rfl rfl Tryd.func19 (by kernel_rfl) rfl #[.string t290] rfl mp_ ?_; (with_reducible refine (impl_FixNormal.calls kj6 t290 t291 t292 _ A21.out (laid_ hl)).mono ?_); rintro e w26 ⟨rfl, hb⟩; refine ⟨_, rfl, ?_⟩; have n0_ := Aside0.mk (below_step bel_ hb); clear HB; have HB := n0_; clear n0_; (try clear hb); (try clear hb2); (try clear hk); (try clear hi)) | ((with_reducible refine gate_callee (f := 35) rfl ?_); refine goesL_ (some 54) rfl rfl Tryd.func35 (by kernel_rfl) rfl #[.string t290] rfl mp_ ?_; (with_reducible refine (impl_ReadFix.calls t290 t293 t294 _ A22.out).mono ?_); rintro e w27 ⟨rfl, hb⟩; refine ⟨_, rfl, ?_⟩; have n0_ := Aside0.mk (below_step bel_ hb); clear HB; have HB := n0_; clear n0_; (try clear hb); (try clear hb2); (try clear hk); (try clear hi)) | ((with_reducible refine gate_callee (f := 38) rfl ?_); refine goesL_ (some 59) rfl rfl Tryd.func38 (by kernel_rfl) rfl #[.string t290] rfl mp_ ?_; (with_reducible refine (spec_ReadFix.calls kj6 t290 t295 t296 _ A23.out).mono ?_); rintro e w28 ⟨rfl, hb⟩; refine ⟨_, rfl, ?_⟩; have n0_ := Aside0.mk (below_step bel_ hb); clear HB; have HB := n0_; clear n0_; (try clear hb); (try clear hb2); (try clear hk); (try clear hi)))
          (try simp only [Act.put, la_, lb_, lc_])
          go_cut [69] (fun v69 wc => ∃ (kq : Nat) (x69_23 : Bool), v69 = .bool x69_23 ∧ Aside0 (laws_FnFix.j1 kq t291 t292 t293 x69_23 = some r) ∧ Aside0 (kq ≤ kj6) ∧ Aside0 (Below w.heap.size w wc))
          case first =>
            have H := HC24.out
            clear HC24
            by_cases c29 : (t294 != t296) = true
            · rw [if_pos c29] at H
              have c29b0 : (t294 != t296) = true := c29
              (try (have c29b1 : decide (t294 = t296) = false := by simpa using c29))
              (try (have c29b2 : (t294 == t296) = false := by simpa using c29))
              (try (have c29b3 : ¬ (t294 = t296) := by simpa using c29))
              clear c29
              (first | rw [c29b0] | (simp only [i64_w, i32_w]; rw [c29b0]) | skip)
              have H' := Aside0.mk H
              clear H
              go_wp2
              go_meet
              case rel => exact ⟨_, (true), (by first | rfl | (simp; done) | (simp [*]; done)), H', ⟨by have := HJ6.out; first | omega | exact Nat.le_refl _⟩, ⟨bel_⟩⟩
            · rw [if_neg c29] at H
              have c29b0 : (t294 != t296) = false := by simpa using c29
              (try (have c29b1 : decide (t294 = t296) = true := by simpa using c29))
              (try (have c29b2 : (t294 == t296) = true := by simpa using c29))
              clear c29
              (first | rw [c29b0] | (simp only [i64_w, i32_w]; rw [c29b0]) | skip)
              have H' := Aside0.mk H
              clear H
              go_wp2
              go_meet
              case rel => exact ⟨_, ((t292 != t294)), (by first | rfl | (simp; done) | (simp [*]; done)), H', ⟨by have := HJ6.out; first | omega | exact Nat.le_refl _⟩, ⟨bel_⟩⟩
          case rest =>
            clear HC24
            try clear c1
            try clear c2
            try clear p2
            try clear c3
            try clear c7
            try clear c9
            try clear c12
            try clear c12b0
            try clear c12b1
            try clear c13
            try clear c13b0
            try clear c13b1
            try clear c13b2
            try clear c15
            try clear c19
            try clear c29
            try clear c29b0
            try clear c29b1
            try clear c29b2
            try clear p2
            obtain ⟨kq, x69_23, rfl, HA, HJ23, HB⟩ := hcut
            cases kq with
            | zero => exact absurd HA.out (by simp [laws_FnFix.j1])
            | succ kj23 =>
              have H := HA.out
              clear HA
              simp only [laws_FnFix.j1] at H
              by_cases c30 : x69_23 = true
              · subst c30
                have H1 : (some false) = some r := by rw [if_pos rfl] at H; exact H
                clear H
                have H := H1
                clear H1
                exact absurd ((Option.some.inj H).trans hrt.out) (by decide)
              · replace c30 := Bool.eq_false_iff.mpr c30
                subst c30
                have H1 : ((impl_FixNormal.f kj23 t291).bind fun bt297 => (if t292 = true then (if bt297.2 = true then (if bt297.1.toList = t291.toList then ((spec_FixText.f kj23 t293).bind fun t299 => (some (t291.toList == t299.toList))) else (some false)) else (some false)) else (if t291.toList = ([] : List UInt8) then (some true) else (some false)))) = some r := by rw [if_neg (show ¬ (false = true) by decide)] at H; exact H
                clear H
                have H := H1
                clear H1
                replace H := Option.bind_eq_some_iff.mp H
                obtain ⟨⟨t297, t298⟩, A310, H⟩ := H
                replace H : (if t292 = true then (if t298 = true then (if t297.toList = t291.toList then ((spec_FixText.f kj23 t293).bind fun t299 => (some (t291.toList == t299.toList))) else (some false)) else (some false)) else (if t291.toList = ([] : List UInt8) then (some true) else (some false))) = some r := H
                have A31 := Aside0.mk A310
                clear A310
                by_cases c32 : t292 = true
                · subst c32
                  have H1 : (if t298 = true then (if t297.toList = t291.toList then ((spec_FixText.f kj23 t293).bind fun t299 => (some (t291.toList == t299.toList))) else (some false)) else (some false)) = some r := by rw [if_pos rfl] at H; exact H
                  clear H
                  have H := H1
                  clear H1
                  by_cases c33 : t298 = true
                  · subst c33
                    have H1 : (if t297.toList = t291.toList then ((spec_FixText.f kj23 t293).bind fun t299 => (some (t291.toList == t299.toList))) else (some false)) = some r := by rw [if_pos rfl] at H; exact H
                    clear H
                    have H := H1
                    clear H1
                    by_cases c34 : t297.toList = t291.toList
                    · rw [if_pos c34] at H
                      have c34b0 : (t297.toList == t291.toList) = true := beq_iff_eq.mpr c34
                      have c34b1 : (t297.toList != t291.toList) = false := bne_eq_false_iff_eq.mpr c34
                      clear c34
                      replace H := Option.bind_eq_some_iff.mp H
                      obtain ⟨t299, A350, H⟩ := H
                      replace H : (some (t291.toList == t299.toList)) = some r := H
                      have A35 := Aside0.mk A350
                      clear A350
                      obtain rfl := Option.some.inj H
                      go_wp2_with (first | ((with_reducible refine gate_callee (f := 19) rfl ?_); refine goesL_ (some 72) rfl rfl Tryd.func19 (by kernel_rfl) rfl #[.string t291] rfl mp_ ?_; (with_reducible refine (impl_FixNormal.calls kj23 t291 t297 true _ A31.out (laid_ hl)).mono ?_); rintro e w36 ⟨rfl, hb⟩; refine ⟨_, rfl, ?_⟩; have n0_ := Aside0.mk (below_step bel_ hb); clear HB; have HB := n0_; clear n0_; (try clear hb); (try clear hb2); (try clear hk); (try clear hi)) | (go_at_call 36; (with_reducible refine (spec_FixText.calls kj23 t293 t299 _ A35.out).mono ?_); rintro e w37 ⟨rfl, hb⟩; have n0_ := Aside0.mk (below_step bel_ hb); clear HB; have HB := n0_; clear n0_; (try clear hb); (try clear hb2); (try clear hk); (try clear hi)))
                      all_goals go_ret
                      all_goals exact ⟨rf_, bel_⟩
                    · rw [if_neg c34] at H
                      have c34b0 : (t297.toList == t291.toList) = false := beq_eq_false_iff_ne.mpr c34
                      have c34b1 : (t297.toList != t291.toList) = true := bne_iff_ne.mpr c34
                      exact absurd ((Option.some.inj H).trans hrt.out) (by decide)
                  · replace c33 := Bool.eq_false_iff.mpr c33
                    subst c33
                    have H1 : (some false) = some r := by rw [if_neg (show ¬ (false = true) by decide)] at H; exact H
                    clear H
                    have H := H1
                    clear H1
                    exact absurd ((Option.some.inj H).trans hrt.out) (by decide)
                · replace c32 := Bool.eq_false_iff.mpr c32
                  subst c32
                  have H1 : (if t291.toList = ([] : List UInt8) then (some true) else (some false)) = some r := by rw [if_neg (show ¬ (false = true) by decide)] at H; exact H
                  clear H
                  have H := H1
                  clear H1
                  by_cases c38 : t291.toList = ([] : List UInt8)
                  · rw [if_pos c38] at H
                    have c38b0 : (t291.toList == ([] : List UInt8)) = true := beq_iff_eq.mpr c38
                    have c38b1 : (t291.toList != ([] : List UInt8)) = false := bne_eq_false_iff_eq.mpr c38
                    clear c38
                    obtain rfl := Option.some.inj H
                    go_wp2_with (first | ((with_reducible refine gate_callee (f := 19) rfl ?_); refine goesL_ (some 72) rfl rfl Tryd.func19 (by kernel_rfl) rfl #[.string t291] rfl mp_ ?_; (with_reducible refine (impl_FixNormal.calls kj23 t291 t297 t298 _ A31.out (laid_ hl)).mono ?_); rintro e w39 ⟨rfl, hb⟩; refine ⟨_, rfl, ?_⟩; have n0_ := Aside0.mk (below_step bel_ hb); clear HB; have HB := n0_; clear n0_; (try clear hb); (try clear hb2); (try clear hk); (try clear hi)))
                    all_goals go_ret
                    all_goals exact ⟨rf_, bel_⟩
                  · rw [if_neg c38] at H
                    have c38b0 : (t291.toList == ([] : List UInt8)) = false := beq_eq_false_iff_ne.mpr c38
                    have c38b1 : (t291.toList != ([] : List UInt8)) = true := bne_iff_ne.mpr c38
                    exact absurd ((Option.some.inj H).trans hrt.out) (by decide)

/-- THE ONE PURE STATEMENT of laws_FnFix: yours. -/
def laws_FnFix.Pure : Prop := ∀ (l0 : List Int), l0.length ≤ maxLen → l0.length * 1 ≤ 140737488351232 → (∀ x ∈ l0, (Lit.int .u8 x).wf = true) → ∃ k, laws_FnFix.f k l0 = some true
theorem laws_FnFix.walk (P : laws_FnFix.Pure) (a0 : Option Addr) (len0 cap0 : Nat) (z0 : List Int) (w : World) (w0 : (a0 = none ∧ len0 = 0 ∧ cap0 = 0 ∧ z0 = []) ∨ ∃ x, a0 = some x ∧ len0 ≤ cap0 ∧ cap0 ≤ maxLen ∧ z0.length = cap0 ∧ (∀ i, i < z0.length → w.cell? (x.add i) = some (.int .u8 (z0.getD i 0))) ∧ ∀ n ∈ z0, (Lit.int .u8 n).wf = true) (y0 : len0 * 1 ≤ 140737488351232) (hl : Laid w) :
    Calls Tryd.prog 7 #[.slice a0 len0 cap0] w fun e w' => e = .returned (.bool true) ∧ Below w.heap.size w w' := by
  obtain ⟨l0, rfl, hr0, hm0, hw0, hc0⟩ := ReadsInt.ofRowC w0
  obtain ⟨k, h⟩ := P l0 hm0 y0 hw0
  refine (laws_FnFix.calls k _ _ l0 true w (Kd.C_of_reads (d := (0 : Int)) (h1 := fun _ => rfl) hr0) hc0 h ⟨rfl⟩ hl).mono ?_
  rintro e w' ⟨rfl, hd⟩
  exact ⟨rfl, hd⟩

end Go.Proofs.YtkpgpifkbdpnkaaDoor.PFnFix
