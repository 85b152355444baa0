/- Contracts of Go functions, each with the Lean function that says what it computes: begun by the print, turned by this session. No condition beyond what each theorem states. -/
import Derived.Test.YtkpgpifkbdpnkaaDoorPFnFracTextx0
import Derived.Test.YtkpgpifkbdpnkaaDoorPFnFracTextx1
import Derived.Test.YtkpgpifkbdpnkaaDoorPFnFracTextx2
import Derived.Test.YtkpgpifkbdpnkaaDoorPFnFracTextx3
import Derived.Test.YtkpgpifkbdpnkaaDoorPFnFracTextx6
import Derived.Test.YtkpgpifkbdpnkaaDoorPFnFracTextx7
import Derived.Test.YtkpgpifkbdpnkaaDoorPFnFracTextx8
import Derived.Test.YtkpgpifkbdpnkaaDoorPFnFracTextx10
namespace Go.Proofs.YtkpgpifkbdpnkaaDoor.PFnFracText
open Go.RowKit Go.Proofs.YtkpgpifkbdpnkaaDoorVFnFracText.PrintWords Go.Proofs.YtkpgpifkbdpnkaaDoorVFnFracText.PrintLast Go.Proofs.YtkpgpifkbdpnkaaDoorVFnFracText.PrintMore
attribute [local go_sem] max2_int min2_int max_two min_two max_three min_three max_four min_four   -- for this text's walks alone
set_option linter.unusedVariables false
set_option linter.unusedSimpArgs false

attribute [local go_sem high] eqA28
-- NOT PRINTED: function 161 (strconv_ParseUint)

-- NOT PRINTED: function 149 (strconv_ParseInt)

-- NOT PRINTED: function 132 (strconv_Atoi_132)

-- NOT PRINTED: function 162 (stringslite_Clone)

-- NOT PRINTED: function 150 (strconv_syntaxError)

-- NOT PRINTED: function 151 (strconv_rangeError)

-- NOT PRINTED: function 163 (errors_New)

-- NOT PRINTED: function 152 (strconv_baseError)

-- NOT PRINTED: function 153 (strconv_bitSizeError)

-- NOT PRINTED: function 133 (strconv_toError)

-- NOT PRINTED: function 112 (strconv_Atoi_112)

/-! ### impl_IntText: function 84, by the shelf -/
def impl_IntText.f (a0 : ByteArray) : Option (Int × Bool) := if a0.size ≤ 281474976710656 then (match Lib.atoiAll a0.data.toList with | .ok v => if -9223372036854775808 ≤ v ∧ v ≤ 9223372036854775807 then (if Lib.itoa v = a0.data.toList then some (v, true) else some (0, false)) else none | _ => some (0, false)) else none
theorem impl_IntText.atoi (a0 : ByteArray) (hs : a0.size ≤ 281474976710656) (w : World) (hl : Laid w) :
    Calls Tryd.prog 112 #[.string a0] w fun e w' => (match Lib.atoiAll a0.data.toList with | .ok v => e = .returned (.tuple #[.int .i64 v, .nilIface]) | _ => ∃ (z : Int) (t : TypeId) (p : Value), e = .returned (.tuple #[.int .i64 z, .iface t p])) ∧ Below w.heap.size w w' := by
  cases hA : Lib.atoiAll a0.data.toList with
  | ok v =>
    refine (Tryd.strconv_Atoi_ok a0 (by omega) v hA w).mono ?_
    rintro e w' ⟨rfl, hw⟩
    refine ⟨rfl, ?_⟩
    rcases hw with rfl | ⟨t, rfl⟩
    · exact Below.refl _ _
    · exact bytes_below (Below.refl _ _) (Nat.le_refl _) _ _
  | «syntax» =>
    obtain ⟨ev, hv, hev⟩ := hl.errsyntax
    refine (Tryd.strconv_Atoi_syntax a0 hs hA ev w hv hev).mono ?_
    rintro e w' ⟨N, rfl, _, _, hb⟩
    exact ⟨⟨_, _, _, rfl⟩, hb⟩
  | range =>
    obtain ⟨ev, hv, hev⟩ := hl.errrange
    refine (Tryd.strconv_Atoi_range a0 hs hA ev w hv hev).mono ?_
    rintro e w' ⟨N, rfl, _, _, hb⟩
    exact ⟨⟨_, _, _, rfl⟩, hb⟩
theorem impl_IntText.digits (v : Int) (h0 : -9223372036854775808 ≤ v) (h1 : v ≤ 9223372036854775807) (w : World) (hl : Laid w) :
    Calls Tryd.prog 75 #[.int .i64 v] w fun e w' => e = .returned (.string ⟨(Lib.itoa v).toArray⟩) ∧ Below w.heap.size w w' := by
  go_enter Tryd.func75, Tryd.ntmps75
  go_wp2_with (go_at_call 102; refine (Tryd.strconv_Itoa v h0 h1 _ hl.pow10).mono ?_; rintro e w' ⟨rfl, hw⟩)
  go_ret
  obtain ⟨k, os, rfl⟩ := hw
  exact ⟨rfl, Lib.below_grow _ w (Nat.le_refl _) k os⟩
theorem impl_IntText.calls (a0 : ByteArray) (r1 : Int) (r2 : Bool) (w : World) (h : impl_IntText.f a0 = some (r1, r2)) (hl : Laid w) :
    Calls Tryd.prog 84 #[.string a0] w fun e w' => e = .returned (.tuple #[.int .i64 r1, .bool r2]) ∧ Below w.heap.size w w' := by
  unfold impl_IntText.f at h
  by_cases c : a0.size ≤ 281474976710656
  · rw [if_pos c] at h
    have hat := impl_IntText.atoi a0 c w hl
    cases hA : Lib.atoiAll a0.data.toList with
    | ok v =>
      rw [hA] at h
      simp only [hA] at hat
      by_cases cv : -9223372036854775808 ≤ v ∧ v ≤ 9223372036854775807
      · simp only [cv, and_self, if_true] at h
        by_cases ce : Lib.itoa v = a0.data.toList
        · rw [if_pos ce] at h
          simp only [Option.some.injEq, Prod.mk.injEq] at h
          obtain ⟨rfl, rfl⟩ := h
          have hne : ((⟨(Lib.itoa v).toArray⟩ : ByteArray).toList != a0.toList) = false := by
            rw [Lib.toList_data, Lib.toList_data, ce]; simp
          have hne2 : (Lib.itoa v == a0.toList) = true := by rw [Lib.toList_data, ce]; simp
          go_enter Tryd.func84, Tryd.ntmps84
          go_wp2_with (first | (go_at_call 112; refine hat.mono ?_; rintro e w1 ⟨rfl, hb⟩) | (go_at_call 75; refine (impl_IntText.digits v cv.1 cv.2 _ (hl.on hb)).mono ?_; rintro e w2 ⟨rfl, hb2⟩))
          all_goals go_ret2
          all_goals exact ⟨rfl, hb.trans (hb2.mono hb.size)⟩
        · rw [if_neg ce] at h
          simp only [Option.some.injEq, Prod.mk.injEq] at h
          obtain ⟨rfl, rfl⟩ := h
          have hne : ((⟨(Lib.itoa v).toArray⟩ : ByteArray).toList != a0.toList) = true := by
            rw [Lib.toList_data, Lib.toList_data]; simpa using ce
          have hne2 : (Lib.itoa v == a0.toList) = false := by rw [Lib.toList_data]; simpa using ce
          go_enter Tryd.func84, Tryd.ntmps84
          go_wp2_with (first | (go_at_call 112; refine hat.mono ?_; rintro e w1 ⟨rfl, hb⟩) | (go_at_call 75; refine (impl_IntText.digits v cv.1 cv.2 _ (hl.on hb)).mono ?_; rintro e w2 ⟨rfl, hb2⟩))
          all_goals go_ret2
          all_goals exact ⟨rfl, hb.trans (hb2.mono hb.size)⟩
      · simp only [cv, if_false] at h
        cases h
    | «syntax» =>
      rw [hA] at h
      simp only [hA] at hat
      simp only [Option.some.injEq, Prod.mk.injEq] at h
      obtain ⟨rfl, rfl⟩ := h
      go_enter Tryd.func84, Tryd.ntmps84
      go_wp2_with (go_at_call 112; refine hat.mono ?_; rintro e w1 ⟨⟨z_, t_, p_, rfl⟩, hb⟩)
      all_goals go_ret2
      all_goals exact ⟨rfl, hb⟩
    | range =>
      rw [hA] at h
      simp only [hA] at hat
      simp only [Option.some.injEq, Prod.mk.injEq] at h
      obtain ⟨rfl, rfl⟩ := h
      go_enter Tryd.func84, Tryd.ntmps84
      go_wp2_with (go_at_call 112; refine hat.mono ?_; rintro e w1 ⟨⟨z_, t_, p_, rfl⟩, hb⟩)
      all_goals go_ret2
      all_goals exact ⟨rfl, hb⟩
  · rw [if_neg c] at h
    cases h

/-! ### impl_Number: function 42 -/
def impl_Number.f (a0 : ByteArray) : Option (Int × Bool) := (impl_IntText.f a0).bind fun bt453 => (if bt453.2 = true then ((impl_within.f bt453.1 0 999999999).bind fun t455 => (if t455 = true then (some (bt453.1, true)) else (some (0, false)))) else (some (0, false)))
set_option maxHeartbeats 8000000 in
set_option maxRecDepth 100000 in
theorem impl_Number.calls (a0 : ByteArray) (r1 : Int) (r2 : Bool) (w : World) (h : impl_Number.f a0 = some (r1, r2)) (hl : Laid w) :
    Calls Tryd.prog 42 #[.string a0] w fun e w' => e = .returned (.tuple #[.int .i64 r1, .bool r2]) ∧ Below w.heap.size w w' := by
  have HB := Aside0.mk (Below.refl w.heap.size w)
  have H : ((impl_IntText.f a0).bind fun bt453 => (if bt453.2 = true then ((impl_within.f bt453.1 0 999999999).bind fun t455 => (if t455 = true then (some (bt453.1, true)) else (some (0, false)))) else (some (0, false)))) = some (r1, r2) := h
  clear h
  replace H := Option.bind_eq_some_iff.mp H
  obtain ⟨⟨t453, t454⟩, A20, H⟩ := H
  replace H : (if t454 = true then ((impl_within.f t453 0 999999999).bind fun t455 => (if t455 = true then (some (t453, true)) else (some (0, false)))) else (some (0, false))) = some (r1, r2) := H
  have A2 := Aside0.mk A20
  clear A20
  by_cases c3 : t454 = true
  · subst c3
    have H1 : ((impl_within.f t453 0 999999999).bind fun t455 => (if t455 = true then (some (t453, true)) else (some (0, false)))) = some (r1, r2) := by rw [if_pos rfl] at H; exact H
    clear H
    have H := H1
    clear H1
    replace H := Option.bind_eq_some_iff.mp H
    obtain ⟨t455, A40, H⟩ := H
    replace H : (if t455 = true then (some (t453, true)) else (some (0, false))) = some (r1, r2) := H
    have A4 := Aside0.mk A40
    clear A40
    by_cases c5 : t455 = true
    · subst c5
      have H1 : (some (t453, true)) = some (r1, r2) := by rw [if_pos rfl] at H; exact H
      clear H
      have H := H1
      clear H1
      simp only [Option.some.injEq, Prod.mk.injEq] at H
      obtain ⟨rfl, rfl⟩ := H
      go_enter Tryd.func42, Tryd.ntmps42
      go_wp2_with (first | ((with_reducible refine gate_callee (f := 84) rfl ?_); refine goesL_ (some 8) rfl rfl Tryd.func84 (by kernel_rfl) rfl #[.string a0] rfl mp_ ?_; (with_reducible refine (impl_IntText.calls a0 t453 true _ A2.out (laid_ hl)).mono ?_); rintro e w6 ⟨rfl, hb⟩; refine ⟨_, rfl, ?_⟩; have n0_ := Aside0.mk (below_step bel_ hb); clear HB; have HB := n0_; clear n0_; (try clear hb); (try clear hb2); (try clear hk); (try clear hi)) | (go_at_call 55; (with_reducible refine (impl_within.calls t453 0 999999999 true _ A4.out).mono ?_); rintro e w' ⟨rfl, ⟨nd, rfl⟩⟩))
      go_ret2
      exact ⟨rf_, bel_⟩
    · replace c5 := Bool.eq_false_iff.mpr c5
      subst c5
      have H1 : (some (0, false)) = some (r1, r2) := by rw [if_neg (show ¬ (false = true) by decide)] at H; exact H
      clear H
      have H := H1
      clear H1
      simp only [Option.some.injEq, Prod.mk.injEq] at H
      obtain ⟨rfl, rfl⟩ := H
      go_enter Tryd.func42, Tryd.ntmps42
      go_wp2_with (first | ((with_reducible refine gate_callee (f := 84) rfl ?_); refine goesL_ (some 8) rfl rfl Tryd.func84 (by kernel_rfl) rfl #[.string a0] rfl mp_ ?_; (with_reducible refine (impl_IntText.calls a0 t453 true _ A2.out (laid_ hl)).mono ?_); rintro e w7 ⟨rfl, hb⟩; refine ⟨_, rfl, ?_⟩; have n0_ := Aside0.mk (below_step bel_ hb); clear HB; have HB := n0_; clear n0_; (try clear hb); (try clear hb2); (try clear hk); (try clear hi)) | (go_at_call 55; (with_reducible refine (impl_within.calls t453 0 999999999 false _ A4.out).mono ?_); rintro e w' ⟨rfl, ⟨nd, rfl⟩⟩))
      go_ret2
      exact ⟨rf_, bel_⟩
  · replace c3 := Bool.eq_false_iff.mpr c3
    subst c3
    have H1 : (some (0, false)) = some (r1, r2) := by rw [if_neg (show ¬ (false = true) by decide)] at H; exact H
    clear H
    have H := H1
    clear H1
    simp only [Option.some.injEq, Prod.mk.injEq] at H
    obtain ⟨rfl, rfl⟩ := H
    go_enter Tryd.func42, Tryd.ntmps42
    go_wp2_with (first | ((with_reducible refine gate_callee (f := 84) rfl ?_); refine goesL_ (some 8) rfl rfl Tryd.func84 (by kernel_rfl) rfl #[.string a0] rfl mp_ ?_; (with_reducible refine (impl_IntText.calls a0 t453 false _ A2.out (laid_ hl)).mono ?_); rintro e w8 ⟨rfl, hb⟩; refine ⟨_, rfl, ?_⟩; have n0_ := Aside0.mk (below_step bel_ hb); clear HB; have HB := n0_; clear n0_; (try clear hb); (try clear hb2); (try clear hk); (try clear hi)))
    go_ret2
    exact ⟨rf_, bel_⟩

/-! ### laws_FnFracText: function 8 -/
def laws_FnFracText.j0 : Nat → ByteArray → Bool → Bool → Int → Int → Int → Option (Bool)
  | 0, _, _, _, _, _, _ => none
  | k + 1, x4, x26, x462000, x462001, x462002, x462003 => if x26 = true then (some false) else (if x4.toList = ([] : List UInt8) then (some true) else ((spec_Parts.f k x4 47).bind fun t465 => (if 0 < (t465.length : Int) then ((impl_ReadWide.f k (rdOf ByteArray.empty t465 0)).bind fun bt469 => (if 1 < (t465.length : Int) then ((impl_Number.f (rdOf ByteArray.empty t465 1)).bind fun bt475 => (if (t465.length : Int) = 2 then (if bt469.2.2.2 = true then (if bt475.2 = true then (if (bt469.1 == x462000 && (bt469.2.1 == x462001 && (bt469.2.2.1 == x462002))) = true then (some (bt475.1 == x462003)) else (some false)) else (some false)) else (some false)) else (some false))) else (none))) else (none))))
def laws_FnFracText.f (k : Nat) (l0 : List Int) : Option (Bool) := (laws_big.f l0).bind fun t456 => (if t456 = true then (some true) else ((spec_DrawFracText.f k l0).bind fun bt457 => ((impl_FracText.f k bt457.1 bt457.2.1 bt457.2.2.1 bt457.2.2.2).bind fun t462 => ((spec_FracText.f k bt457.1 bt457.2.1 bt457.2.2.1 bt457.2.2.2).bind fun t463 => (if t462.toList = t463.toList then ((impl_FracOk.f bt457.1 bt457.2.1 bt457.2.2.1 bt457.2.2.2).bind fun t464 => (laws_FnFracText.j0 k t462 ((t462.toList != ([] : List UInt8)) != t464) bt457.1 bt457.2.1 bt457.2.2.1 bt457.2.2.2)) else (laws_FnFracText.j0 k t462 true bt457.1 bt457.2.1 bt457.2.2.1 bt457.2.2.2))))))
theorem laws_FnFracText.mono_l : ∀ k, (∀ y0 y1 y2 y3 y4 y5, LeO (laws_FnFracText.j0 k y0 y1 y2 y3 y4 y5) (laws_FnFracText.j0 (k + 1) y0 y1 y2 y3 y4 y5))
  | 0 => fun _ _ _ _ _ _ r h => by simp [laws_FnFracText.j0] at h
  | k + 1 => by
    have ih0 := laws_FnFracText.mono_l k
    · intro y0 y1 y2 y3 y4 y5
      unfold laws_FnFracText.j0
      repeat' first
      | (with_reducible exact ih0 _ _ _ _ _ _)
      | (with_reducible exact impl_FracText.mono _ _ _ _ _)
      | (with_reducible exact impl_ReadWide.mono _ _)
      | (with_reducible exact spec_DrawFracText.mono _ _)
      | (with_reducible exact spec_FracText.mono _ _ _ _ _)
      | (with_reducible exact spec_Parts.mono _ _ _)
      | (with_reducible exact LeO.refl _)
      | (with_reducible exact LeO.none _)
      | (with_reducible refine LeO.ite ?_ ?_)
      | (with_reducible refine LeO.bind ?_ (fun _ => ?_))
      | exact ih0 _ _ _ _ _ _
      | exact impl_FracText.mono _ _ _ _ _
      | exact impl_ReadWide.mono _ _
      | exact spec_DrawFracText.mono _ _
      | exact spec_FracText.mono _ _ _ _ _
      | exact spec_Parts.mono _ _ _
      | exact LeO.none _
      | refine LeO.ite ?_ ?_
      | refine LeO.bind ?_ (fun _ => ?_)
theorem laws_FnFracText.mono : ∀ a0 k, LeO (laws_FnFracText.f k a0) (laws_FnFracText.f (k + 1) a0) := by
  intro a0 k
  have ih0 := laws_FnFracText.mono_l k
  unfold laws_FnFracText.f
  repeat' first
      | (with_reducible exact ih0 _ _ _ _ _ _)
      | (with_reducible exact impl_FracText.mono _ _ _ _ _)
      | (with_reducible exact impl_ReadWide.mono _ _)
      | (with_reducible exact spec_DrawFracText.mono _ _)
      | (with_reducible exact spec_FracText.mono _ _ _ _ _)
      | (with_reducible exact spec_Parts.mono _ _ _)
      | (with_reducible exact LeO.refl _)
      | (with_reducible exact LeO.none _)
      | (with_reducible refine LeO.ite ?_ ?_)
      | (with_reducible refine LeO.bind ?_ (fun _ => ?_))
      | exact ih0 _ _ _ _ _ _
      | exact impl_FracText.mono _ _ _ _ _
      | exact impl_ReadWide.mono _ _
      | exact spec_DrawFracText.mono _ _
      | exact spec_FracText.mono _ _ _ _ _
      | exact spec_Parts.mono _ _ _
      | exact LeO.none _
      | refine LeO.ite ?_ ?_
      | refine LeO.bind ?_ (fun _ => ?_)
set_option maxHeartbeats 8000000 in
set_option maxRecDepth 100000 in
theorem laws_FnFracText.calls (k : Nat) (A0 : Option Addr) (c0 : Nat) (l0 : List Int) (r : Bool) (w : World) (hr0 : Kd.C (Kd.int .u8) w A0 l0.length l0) (hc0 : l0.length ≤ c0) (h : laws_FnFracText.f k l0 = some r) (hrt : Aside0 (r = true)) (hl : Laid w) :
    Calls Tryd.prog 8 #[.slice A0 l0.length c0] w fun e w' => e = .returned (.bool r) ∧ Below w.heap.size w w' := by
  have hu43 := Tryd.underlying43
  have hu28 := Tryd.underlying28
  have HR0 := Aside0.mk hr0
  have HC0 := Aside0.mk hc0
  clear hr0 hc0
  have HB := Aside0.mk (Below.refl w.heap.size w)
  have H : ((laws_big.f l0).bind fun t456 => (if t456 = true then (some true) else ((spec_DrawFracText.f k l0).bind fun bt457 => ((impl_FracText.f k bt457.1 bt457.2.1 bt457.2.2.1 bt457.2.2.2).bind fun t462 => ((spec_FracText.f k bt457.1 bt457.2.1 bt457.2.2.1 bt457.2.2.2).bind fun t463 => (if t462.toList = t463.toList then ((impl_FracOk.f bt457.1 bt457.2.1 bt457.2.2.1 bt457.2.2.2).bind fun t464 => (laws_FnFracText.j0 k t462 ((t462.toList != ([] : List UInt8)) != t464) bt457.1 bt457.2.1 bt457.2.2.1 bt457.2.2.2)) else (laws_FnFracText.j0 k t462 true bt457.1 bt457.2.1 bt457.2.2.1 bt457.2.2.2))))))) = some r := h
  clear h
  replace H := Option.bind_eq_some_iff.mp H
  obtain ⟨t456, A20, H⟩ := H
  replace H : (if t456 = true then (some true) else ((spec_DrawFracText.f k l0).bind fun bt457 => ((impl_FracText.f k bt457.1 bt457.2.1 bt457.2.2.1 bt457.2.2.2).bind fun t462 => ((spec_FracText.f k bt457.1 bt457.2.1 bt457.2.2.1 bt457.2.2.2).bind fun t463 => (if t462.toList = t463.toList then ((impl_FracOk.f bt457.1 bt457.2.1 bt457.2.2.1 bt457.2.2.2).bind fun t464 => (laws_FnFracText.j0 k t462 ((t462.toList != ([] : List UInt8)) != t464) bt457.1 bt457.2.1 bt457.2.2.1 bt457.2.2.2)) else (laws_FnFracText.j0 k t462 true bt457.1 bt457.2.1 bt457.2.2.1 bt457.2.2.2)))))) = some r := H
  have A2 := Aside0.mk A20
  clear A20
  by_cases c3 : t456 = true
  · subst c3
    have H1 : (some true) = some r := by rw [if_pos rfl] at H; exact H
    clear H
    have H := H1
    clear H1
    obtain rfl := Option.some.inj H
    go_enter Tryd.func8, Tryd.ntmps8
    go_wp2_with (first | ((with_reducible refine gate_callee (f := 9) rfl ?_); refine goesL_ (some 11) rfl rfl Tryd.func9 (by kernel_rfl) rfl #[.slice A0 l0.length c0] rfl mp_ ?_; (with_reducible refine (laws_big.calls _ _ l0 true _ ?side1 ?side2 A2.out).mono ?_); (case side1 => repeat (first | exact HR0.out | (with_reducible refine Kd.C_alloc ?_ _) | (with_reducible refine Kd.C_drewN ?_ _) | (with_reducible refine Kd.C_drew ?_))); (case side2 => exact HC0.out); rintro e w' ⟨rfl, ⟨nd, rfl⟩⟩; refine ⟨_, rfl, ?_⟩))
    all_goals go_ret
    all_goals exact ⟨rf_, bel_⟩
  · replace c3 := Bool.eq_false_iff.mpr c3
    subst c3
    have H1 : ((spec_DrawFracText.f k l0).bind fun bt457 => ((impl_FracText.f k bt457.1 bt457.2.1 bt457.2.2.1 bt457.2.2.2).bind fun t462 => ((spec_FracText.f k bt457.1 bt457.2.1 bt457.2.2.1 bt457.2.2.2).bind fun t463 => (if t462.toList = t463.toList then ((impl_FracOk.f bt457.1 bt457.2.1 bt457.2.2.1 bt457.2.2.2).bind fun t464 => (laws_FnFracText.j0 k t462 ((t462.toList != ([] : List UInt8)) != t464) bt457.1 bt457.2.1 bt457.2.2.1 bt457.2.2.2)) else (laws_FnFracText.j0 k t462 true bt457.1 bt457.2.1 bt457.2.2.1 bt457.2.2.2))))) = some r := by rw [if_neg (show ¬ (false = true) by decide)] at H; exact H
    clear H
    have H := H1
    clear H1
    replace H := Option.bind_eq_some_iff.mp H
    obtain ⟨⟨t457, t458, t459, t460⟩, A40, H⟩ := H
    replace H : ((impl_FracText.f k t457 t458 t459 t460).bind fun t462 => ((spec_FracText.f k t457 t458 t459 t460).bind fun t463 => (if t462.toList = t463.toList then ((impl_FracOk.f t457 t458 t459 t460).bind fun t464 => (laws_FnFracText.j0 k t462 ((t462.toList != ([] : List UInt8)) != t464) t457 t458 t459 t460)) else (laws_FnFracText.j0 k t462 true t457 t458 t459 t460)))) = some r := H
    have A4 := Aside0.mk A40
    clear A40
    replace H := Option.bind_eq_some_iff.mp H
    obtain ⟨t462, A50, H⟩ := H
    replace H : ((spec_FracText.f k t457 t458 t459 t460).bind fun t463 => (if t462.toList = t463.toList then ((impl_FracOk.f t457 t458 t459 t460).bind fun t464 => (laws_FnFracText.j0 k t462 ((t462.toList != ([] : List UInt8)) != t464) t457 t458 t459 t460)) else (laws_FnFracText.j0 k t462 true t457 t458 t459 t460))) = some r := H
    have A5 := Aside0.mk A50
    clear A50
    have HC6 := Aside0.mk H
    clear H
    go_enter Tryd.func8, Tryd.ntmps8
    go_upto_region 5 with (first | ((with_reducible refine gate_callee (f := 9) rfl ?_); refine goesL_ (some 11) rfl rfl Tryd.func9 (by kernel_rfl) rfl #[.slice A0 l0.length c0] rfl mp_ ?_; (with_reducible refine (laws_big.calls _ _ l0 false _ ?side1 ?side2 A2.out).mono ?_); (case side1 => repeat (first | exact HR0.out | (with_reducible refine Kd.C_alloc ?_ _) | (with_reducible refine Kd.C_drewN ?_ _) | (with_reducible refine Kd.C_drew ?_))); (case side2 => exact HC0.out); rintro e w' ⟨rfl, ⟨nd, rfl⟩⟩; refine ⟨_, rfl, ?_⟩) | ((with_reducible refine gate_callee (f := 39) rfl ?_); refine goesL_ (some 13) rfl rfl Tryd.func39 (by kernel_rfl) rfl #[.slice A0 l0.length c0] rfl mp_ ?_; (with_reducible refine (spec_DrawFracText.calls k _ _ l0 t457 t458 t459 t460 _ ?side1 ?side2 A4.out).mono ?_); (case side1 => repeat (first | exact HR0.out | (with_reducible refine Kd.C_alloc ?_ _) | (with_reducible refine Kd.C_drewN ?_ _) | (with_reducible refine Kd.C_drew ?_))); (case side2 => exact HC0.out); rintro e w7 ⟨rfl, hb⟩; refine ⟨_, rfl, ?_⟩; have n0_ := Aside0.mk (below_step bel_ hb); clear HB; have HB := n0_; clear n0_; (try clear hb); (try clear hb2); (try clear hk); (try clear hi)) | ((with_reducible refine gate_dst (N := 3) rfl ?_); refine box_event ?hg (N := 3) ?hd (cs := #[.bool false, .int .u64 0, .int .u64 0, .int .i64 0]) (t := 43) ?hr ?_; (case hd => rfl); (case hg => rfl); (case hr => first | (go_simp; done) | (go_simp; rfl)); intro gb461 hg w8 hbox hb; have n0_ := Aside0.mk (below_step bel_ hb); have n1_ := Aside0.mk (hbox); have n2_ := bs_ (w := w) hg; have n3_ := bs_ (w := w) hg; clear HB; have HB := n0_; have BK461 := n1_; have GW461 := n2_; have GE461 := n3_; clear n0_ n1_ n2_ n3_; clear hb hbox hg; obtain ⟨hcz9_0, hcz9_1, hcz9_2, hcz9_3, hfz9_0, hfz9_1, hfz9_2, hfz9_3⟩ := cf4_ (w := w8) BK461.out) | ((with_reducible refine gate_callee (f := 32) rfl ?_); refine goesL_ (some 15) rfl rfl Tryd.func32 (by kernel_rfl) rfl #[.agg #[.bool t457, .int .u64 t458, .int .u64 t459, .int .i64 t460]] rfl mp_ ?_; (with_reducible refine (impl_FracText.calls k t457 t458 t459 t460 t462 _ A5.out (laid_ hl)).mono ?_); rintro e w10 ⟨rfl, hb⟩; refine ⟨_, rfl, ?_⟩; have n0_ := Aside0.mk (blk_below (g := gb461) (o := .cells #[.bool t457, .int .u64 t458, .int .u64 t459, .int .i64 t460] 43 (0, 0)) (pu_ #[.bool t457, .int .u64 t458, .int .u64 t459, .int .i64 0] 3 (h := (pu_ #[.bool t457, .int .u64 t458, .int .u64 0, .int .i64 0] 2 (h := (pu_ #[.bool t457, .int .u64 0, .int .u64 0, .int .i64 0] 1 (h := (pu_ #[.bool false, .int .u64 0, .int .u64 0, .int .i64 0] 0 (h := bk_)))))))) hb); have n1_ := Aside0.mk (below_step bel_ hb); clear BK461; clear HB; have BK461 := n0_; have HB := n1_; clear n0_ n1_; (try clear hb); (try clear hb2); (try clear hk); (try clear hi)))
    (try simp only [Act.put, la_, lb_, lc_])
    go_cut [26] (fun v26 wc => ∃ (kq : Nat) (x26_5 : Bool), v26 = .bool x26_5 ∧ Aside0 (laws_FnFracText.j0 kq t462 x26_5 t457 t458 t459 t460 = some r) ∧ Aside0 (kq ≤ k) ∧ Aside0 (wc.heap[gb461]? = some (.cells #[.bool t457, .int .u64 t458, .int .u64 t459, .int .i64 t460] 43 (0, 0))) ∧ Aside0 (Below w.heap.size w wc))
    case first =>
      have H := HC6.out
      clear HC6
      replace H := Option.bind_eq_some_iff.mp H
      obtain ⟨t463, A110, H⟩ := H
      replace H : (if t462.toList = t463.toList then ((impl_FracOk.f t457 t458 t459 t460).bind fun t464 => (laws_FnFracText.j0 k t462 ((t462.toList != ([] : List UInt8)) != t464) t457 t458 t459 t460)) else (laws_FnFracText.j0 k t462 true t457 t458 t459 t460)) = some r := H
      have A11 := Aside0.mk A110
      clear A110
      by_cases c12 : t462.toList = t463.toList
      · rw [if_pos c12] at H
        have c12b0 : (t462.toList == t463.toList) = true := beq_iff_eq.mpr c12
        have c12b1 : (t462.toList != t463.toList) = false := bne_eq_false_iff_eq.mpr c12
        clear c12
        (first | rw [c12b0] | (simp only [i64_w, i32_w]; rw [c12b0]) | skip)
        replace H := Option.bind_eq_some_iff.mp H
        obtain ⟨t464, A130, H⟩ := H
        replace H : (laws_FnFracText.j0 k t462 ((t462.toList != ([] : List UInt8)) != t464) t457 t458 t459 t460) = some r := H
        have A13 := Aside0.mk A130
        clear A130
        have H' := Aside0.mk H
        clear H
        obtain ⟨hcz14_0, hcz14_1, hcz14_2, hcz14_3, hfz14_0, hfz14_1, hfz14_2, hfz14_3⟩ := cf4_ (w := w10) BK461.out
        go_wp2_with (first | ((with_reducible refine gate_callee (f := 40) rfl ?_); refine goesL_ (some 18) rfl rfl Tryd.func40 (by kernel_rfl) rfl #[.agg #[.bool t457, .int .u64 t458, .int .u64 t459, .int .i64 t460]] rfl mp_ ?_; (with_reducible refine (spec_FracText.calls k t457 t458 t459 t460 t463 _ A11.out).mono ?_); rintro e w15 ⟨rfl, hb⟩; refine ⟨_, rfl, ?_⟩; have n0_ := bb_ (g := gb461) hb; have n1_ := Aside0.mk (below_step bel_ hb); clear BK461; clear HB; have BK461 := n0_; have HB := n1_; clear n0_ n1_; (try clear hb); (try clear hb2); (try clear hk); (try clear hi); obtain ⟨hcz16_0, hcz16_1, hcz16_2, hcz16_3, hfz16_0, hfz16_1, hfz16_2, hfz16_3⟩ := cf4_ (w := w15) BK461.out) | (go_at_call 30; (with_reducible refine (impl_FracOk.calls t457 t458 t459 t460 t464 _ A13.out).mono ?_); rintro e w17 ⟨rfl, hb⟩; have n0_ := bb_ (g := gb461) hb; have n1_ := Aside0.mk (below_step bel_ hb); clear BK461; clear HB; have BK461 := n0_; have HB := n1_; clear n0_ n1_; (try clear hb); (try clear hb2); (try clear hk); (try clear hi)))
        go_meet
        case rel => exact ⟨_, (((t462.toList != ([] : List UInt8)) != t464)), (by first | rfl | (simp; done) | (cases ht_ : t462.toList <;> cases t464 <;> (first | rfl | (simp [ht_]; done)))), H', ⟨by first | omega | exact Nat.le_refl _⟩, ⟨by (with_reducible repeat (first | refine bN_ _ ?_ | refine bd_ ?_ | refine ba_ _ ?_)); exact BK461.out⟩, ⟨bel_⟩⟩
      · rw [if_neg c12] at H
        have c12b0 : (t462.toList == t463.toList) = false := beq_eq_false_iff_ne.mpr c12
        have c12b1 : (t462.toList != t463.toList) = true := bne_iff_ne.mpr c12
        (first | rw [c12b0] | (simp only [i64_w, i32_w]; rw [c12b0]) | skip)
        have H' := Aside0.mk H
        clear H
        obtain ⟨hcz18_0, hcz18_1, hcz18_2, hcz18_3, hfz18_0, hfz18_1, hfz18_2, hfz18_3⟩ := cf4_ (w := w10) BK461.out
        go_wp2_with (first | ((with_reducible refine gate_callee (f := 40) rfl ?_); refine goesL_ (some 18) rfl rfl Tryd.func40 (by kernel_rfl) rfl #[.agg #[.bool t457, .int .u64 t458, .int .u64 t459, .int .i64 t460]] rfl mp_ ?_; (with_reducible refine (spec_FracText.calls k t457 t458 t459 t460 t463 _ A11.out).mono ?_); rintro e w19 ⟨rfl, hb⟩; refine ⟨_, rfl, ?_⟩; have n0_ := bb_ (g := gb461) hb; have n1_ := Aside0.mk (below_step bel_ hb); clear BK461; clear HB; have BK461 := n0_; have HB := n1_; clear n0_ n1_; (try clear hb); (try clear hb2); (try clear hk); (try clear hi)))
        go_meet
        case rel => exact ⟨_, (true), (by first | rfl | (simp; done) | (simp [*]; done)), H', ⟨by first | omega | exact Nat.le_refl _⟩, ⟨by (with_reducible repeat (first | refine bN_ _ ?_ | refine bd_ ?_ | refine ba_ _ ?_)); exact BK461.out⟩, ⟨bel_⟩⟩
    case rest =>
      clear HC6
      try clear c1
      try clear p2
      try clear c3
      try clear c4
      try clear c8
      try clear c9
      try clear c12
      try clear c12b0
      try clear c12b1
      try clear hcz14_0
      try clear hcz14_1
      try clear hcz14_2
      try clear hcz14_3
      try clear hcz16_0
      try clear hcz16_1
      try clear hcz16_2
      try clear hcz16_3
      try clear hcz18_0
      try clear hcz18_1
      try clear hcz18_2
      try clear hcz18_3
      try clear hcz9_0
      try clear hcz9_1
      try clear hcz9_2
      try clear hcz9_3
      try clear hfz14_0
      try clear hfz14_1
      try clear hfz14_2
      try clear hfz14_3
      try clear hfz16_0
      try clear hfz16_1
      try clear hfz16_2
      try clear hfz16_3
      try clear hfz18_0
      try clear hfz18_1
      try clear hfz18_2
      try clear hfz18_3
      try clear hfz9_0
      try clear hfz9_1
      try clear hfz9_2
      try clear hfz9_3
      obtain ⟨kq, x26_5, rfl, HA, HJ5, BK461, HB⟩ := hcut
      cases kq with
      | zero => exact absurd HA.out (by simp [laws_FnFracText.j0])
      | succ kj5 =>
        have H := HA.out
        clear HA
        simp only [laws_FnFracText.j0] at H
        by_cases c20 : x26_5 = true
        · subst c20
          have H1 : (some false) = some r := by rw [if_pos rfl] at H; exact H
          clear H
          have H := H1
          clear H1
          exact absurd ((Option.some.inj H).trans hrt.out) (by decide)
        · replace c20 := Bool.eq_false_iff.mpr c20
          subst c20
          have H1 : (if t462.toList = ([] : List UInt8) then (some true) else ((spec_Parts.f kj5 t462 47).bind fun t465 => (if 0 < (t465.length : Int) then ((impl_ReadWide.f kj5 (rdOf ByteArray.empty t465 0)).bind fun bt469 => (if 1 < (t465.length : Int) then ((impl_Number.f (rdOf ByteArray.empty t465 1)).bind fun bt475 => (if (t465.length : Int) = 2 then (if bt469.2.2.2 = true then (if bt475.2 = true then (if (bt469.1 == t457 && (bt469.2.1 == t458 && (bt469.2.2.1 == t459))) = true then (some (bt475.1 == t460)) else (some false)) else (some false)) else (some false)) else (some false))) else (none))) else (none)))) = some r := by rw [if_neg (show ¬ (false = true) by decide)] at H; exact H
          clear H
          have H := H1
          clear H1
          by_cases c21 : t462.toList = ([] : List UInt8)
          · rw [if_pos c21] at H
            have c21b0 : (t462.toList == ([] : List UInt8)) = true := beq_iff_eq.mpr c21
            have c21b1 : (t462.toList != ([] : List UInt8)) = false := bne_eq_false_iff_eq.mpr c21
            clear c21
            obtain rfl := Option.some.inj H
            go_wp2
            all_goals go_ret
            all_goals exact ⟨rf_, bel_⟩
          · rw [if_neg c21] at H
            have c21b0 : (t462.toList == ([] : List UInt8)) = false := beq_eq_false_iff_ne.mpr c21
            have c21b1 : (t462.toList != ([] : List UInt8)) = true := bne_iff_ne.mpr c21
            replace H := Option.bind_eq_some_iff.mp H
            obtain ⟨t465, A220, H⟩ := H
            replace H : (if 0 < (t465.length : Int) then ((impl_ReadWide.f kj5 (rdOf ByteArray.empty t465 0)).bind fun bt469 => (if 1 < (t465.length : Int) then ((impl_Number.f (rdOf ByteArray.empty t465 1)).bind fun bt475 => (if (t465.length : Int) = 2 then (if bt469.2.2.2 = true then (if bt475.2 = true then (if (bt469.1 == t457 && (bt469.2.1 == t458 && (bt469.2.2.1 == t459))) = true then (some (bt475.1 == t460)) else (some false)) else (some false)) else (some false)) else (some false))) else (none))) else (none)) = some r := H
            have A22 := Aside0.mk A220
            clear A220
            by_cases c23 : 0 < (t465.length : Int)
            · rw [if_pos c23] at H
              have c23b0 : decide (0 < (t465.length : Int)) = true := decide_eq_true c23
              have c23b1 : decide (0 < t465.length) = true := decide_eq_true (by omega)
              clear c23
              replace H := Option.bind_eq_some_iff.mp H
              obtain ⟨⟨t469, t470, t471, t472⟩, A240, H⟩ := H
              replace H : (if 1 < (t465.length : Int) then ((impl_Number.f (rdOf ByteArray.empty t465 1)).bind fun bt475 => (if (t465.length : Int) = 2 then (if t472 = true then (if bt475.2 = true then (if (t469 == t457 && (t470 == t458 && (t471 == t459))) = true then (some (bt475.1 == t460)) else (some false)) else (some false)) else (some false)) else (some false))) else (none)) = some r := H
              have A24 := Aside0.mk A240
              clear A240
              by_cases c25 : 1 < (t465.length : Int)
              · rw [if_pos c25] at H
                have c25b0 : decide (1 < (t465.length : Int)) = true := decide_eq_true c25
                have c25b1 : decide (1 < t465.length) = true := decide_eq_true (by omega)
                clear c25
                replace H := Option.bind_eq_some_iff.mp H
                obtain ⟨⟨t475, t476⟩, A260, H⟩ := H
                replace H : (if (t465.length : Int) = 2 then (if t472 = true then (if t476 = true then (if (t469 == t457 && (t470 == t458 && (t471 == t459))) = true then (some (t475 == t460)) else (some false)) else (some false)) else (some false)) else (some false)) = some r := H
                have A26 := Aside0.mk A260
                clear A260
                by_cases c27 : (t465.length : Int) = 2
                · rw [if_pos c27] at H
                  have c27b0 : ((t465.length : Int) == 2) = true := beq_iff_eq.mpr c27
                  have c27b1 : ((t465.length : Int) != 2) = false := bne_eq_false_iff_eq.mpr c27
                  clear c27
                  by_cases c28 : t472 = true
                  · subst c28
                    have H1 : (if t476 = true then (if (t469 == t457 && (t470 == t458 && (t471 == t459))) = true then (some (t475 == t460)) else (some false)) else (some false)) = some r := by rw [if_pos rfl] at H; exact H
                    clear H
                    have H := H1
                    clear H1
                    by_cases c29 : t476 = true
                    · subst c29
                      have H1 : (if (t469 == t457 && (t470 == t458 && (t471 == t459))) = true then (some (t475 == t460)) else (some false)) = some r := by rw [if_pos rfl] at H; exact H
                      clear H
                      have H := H1
                      clear H1
                      by_cases c30 : (t469 == t457 && (t470 == t458 && (t471 == t459))) = true
                      · rw [if_pos c30] at H
                        have c30b0 : (t469 == t457 && (t470 == t458 && (t471 == t459))) = true := c30
                        (try (have c30b1 : decide (t469 = t457 && (t470 == t458 && (t471 == t459))) = true := by simpa using c30))
                        (try (have c30b2 : (t469 == t457 && (t470 == t458 && (t471 == t459))) = true := by simpa using c30))
                        clear c30
                        obtain rfl := Option.some.inj H
                        go_wp2_with (first | ((with_reducible refine gate_callee (f := 41) rfl ?_); refine goesL_ (some 30) rfl rfl Tryd.func41 (by kernel_rfl) rfl #[.string t462, .int .u8 47] rfl mp_ ?_; (with_reducible refine (spec_Parts.calls kj5 t462 47 t465 _ A22.out).mono ?_); rintro e w31 ⟨v466, rfl, ho0, hb⟩; refine ⟨_, rfl, ?_⟩; have n0_ := Aside0.mk (Kd.R_lower ho0 (below_size bel_)); have n1_ := bb_ (g := gb461) hb; have n2_ := Aside0.mk (below_step bel_ hb); clear BK461; clear HB; have HO467 := n0_; have BK461 := n1_; have HB := n2_; clear n0_ n1_ n2_; (try clear hb); (try clear hb2); (try clear hk); (try clear hi); (try clear ho0); obtain ⟨Ao32, co32, eo32⟩ := Kd.R_slice HO467.out; subst eo32; have p468 : 0 ≤ (0 : Int) := (by omega); have q468 : 0 < (t465.length : Int) := of_decide_eq_true (by first | (with_reducible assumption) | assumption); obtain ⟨ad468, e468, hx468_0⟩ := Kd.at_string (Kd.R_reads' HO467.out).2.2 0 p468 q468; cases e468; have qi468 : (0 < t465.length) = True := eq_true (by omega); (try rw [show ((0 : Int)).toNat = 0 from rfl] at hx468_0); (try rw [Addr.add_zero'] at hx468_0); replace p468 := eq_true p468; replace q468 := eq_true q468) | ((with_reducible refine gate_callee (f := 21) rfl ?_); refine goesL_ (some 35) rfl rfl Tryd.func21 (by kernel_rfl) rfl #[.string (rdOf ByteArray.empty t465 0)] rfl mp_ ?_; (with_reducible refine (impl_ReadWide.calls kj5 (rdOf ByteArray.empty t465 0) t469 t470 t471 true _ A24.out (laid_ hl)).mono ?_); rintro e w33 ⟨rfl, hb⟩; refine ⟨_, rfl, ?_⟩; have n0_ := Aside0.mk (Kd.R_below (by (with_reducible repeat (first | apply Kd.R_alloc | apply Kd.R_drewN | apply Kd.R_drew)); exact HO467.out) hb); have n1_ := bb_ (g := gb461) hb; have n2_ := Aside0.mk (below_step bel_ hb); clear HO467; clear BK461; clear HB; have HO467 := n0_; have BK461 := n1_; have HB := n2_; clear n0_ n1_ n2_; (try clear hb); (try clear hb2); (try clear hk); (try clear hi)) | ((with_reducible refine gate_dst (N := 6) rfl ?_); refine box_event ?hg (N := 6) ?hd (cs := #[.bool false, .int .u64 0, .int .u64 0]) (t := 28) ?hr ?_; (case hd => rfl); (case hg => rfl); (case hr => first | (go_simp; done) | (go_simp; rfl)); intro gb473 hg w34 hbox hb; have n0_ := Aside0.mk (Kd.R_below (by (with_reducible repeat (first | apply Kd.R_alloc | apply Kd.R_drewN | apply Kd.R_drew)); exact HO467.out) hb); have n1_ := bb_ (g := gb461) hb; have n2_ := Aside0.mk (below_step bel_ hb); have n3_ := Aside0.mk (hbox); have n4_ := bs_ (w := w) hg; have n5_ := bs_ (w := w) hg; have n6_ := nlt_ (g := gb461) hg; have n7_ := ngt_ (g := gb461) hg; clear HO467; clear BK461; clear HB; have HO467 := n0_; have BK461 := n1_; have HB := n2_; have BK473 := n3_; have GW473 := n4_; have GE473 := n5_; have NB461_473 := n6_; have NB473_461 := n7_; clear n0_ n1_ n2_ n3_ n4_ n5_ n6_ n7_; clear hb hbox hg; have hnb35 := NB473_461.out; have hnc35 := NB461_473.out; obtain ⟨hcz36_0, hcz36_1, hcz36_2, hfz36_0, hfz36_1, hfz36_2⟩ := cf3_ (w := w34) BK473.out; have p474 : 0 ≤ (1 : Int) := (by omega); have q474 : 1 < (t465.length : Int) := of_decide_eq_true (by first | (with_reducible assumption) | assumption); obtain ⟨ad474, e474, hx474_0⟩ := Kd.at_string (Kd.R_reads' HO467.out).2.2 1 p474 q474; obtain rfl : ad468 = ad474 := (by injection e474); (try simp only [show (1 : Int).toNat = 1 from rfl, Nat.reduceMul, Nat.reduceEqDiff, Go.Addr.add, ↓reduceIte] at hx474_0); have qi474 : (1 < t465.length) = True := eq_true (by omega); (try rw [show ((1 : Int)).toNat = 1 from rfl] at hx474_0); have hn474_0 : ad468.block ≠ gb473 := Kd.own_blk (Kd.R_ne HO467.out BK473.out (by decide)); have hn474_1 : ad468.block ≠ gb473 := Kd.own_blk (Kd.R_ne HO467.out BK473.out (by decide)); have hn474_2 : ad468.block ≠ gb473 := Kd.own_blk (Kd.R_ne HO467.out BK473.out (by decide)); replace hx474_0 := (cell_far (p := ⟨gb473, 0, none⟩) (by first | (rw [add_block]; exact hn474_0) | (show (Addr.add _ _).block ≠ _; rw [add_block]; exact hn474_0) | exact hn474_0) (.bool t469)).trans hx474_0; replace hx474_0 := (cell_far (p := ⟨gb473, 1, none⟩) (by first | (rw [add_block]; exact hn474_1) | (show (Addr.add _ _).block ≠ _; rw [add_block]; exact hn474_1) | exact hn474_1) (.int .u64 t470)).trans hx474_0; replace hx474_0 := (cell_far (p := ⟨gb473, 2, none⟩) (by first | (rw [add_block]; exact hn474_2) | (show (Addr.add _ _).block ≠ _; rw [add_block]; exact hn474_2) | exact hn474_2) (.int .u64 t471)).trans hx474_0; clear hn474_0; clear hn474_1; clear hn474_2; replace p474 := eq_true p474; replace q474 := eq_true q474) | ((with_reducible refine gate_callee (f := 42) rfl ?_); refine goesL_ (some 42) rfl rfl Tryd.func42 (by kernel_rfl) rfl #[.string (rdOf ByteArray.empty t465 1)] rfl mp_ ?_; (with_reducible refine (impl_Number.calls (rdOf ByteArray.empty t465 1) t475 true _ A26.out (laid_ hl)).mono ?_); rintro e w37 ⟨rfl, hb⟩; refine ⟨_, rfl, ?_⟩; have n0_ := Aside0.mk (Kd.R_below (by (with_reducible repeat (first | apply Kd.R_alloc | apply Kd.R_drewN | apply Kd.R_drew)); exact (Kd.R_mono (Kd.R_far (p := ⟨gb473, 2, none⟩) (Kd.R_far (p := ⟨gb473, 1, none⟩) (Kd.R_far (p := ⟨gb473, 0, none⟩) (Kd.R_types HO467.out BK473.out (by decide)) (fun _ hk => hk.2) (.bool t469)) (fun _ hk => hk.2) (.int .u64 t470)) (fun _ hk => hk.2) (.int .u64 t471)) (fun _ h_ => h_.1))) hb); have n1_ := Aside0.mk (blk_below (g := gb461) (o := .cells #[.bool t457, .int .u64 t458, .int .u64 t459, .int .i64 t460] 43 (0, 0)) bk_ hb); have n2_ := Aside0.mk (blk_below (g := gb473) (o := .cells #[.bool t469, .int .u64 t470, .int .u64 t471] 28 (0, 0)) (pu_ #[.bool t469, .int .u64 t470, .int .u64 0] 2 (h := (pu_ #[.bool t469, .int .u64 0, .int .u64 0] 1 (h := (pu_ #[.bool false, .int .u64 0, .int .u64 0] 0 (h := bk_)))))) hb); have n3_ := Aside0.mk (below_step bel_ hb); clear HO467; clear BK461; clear BK473; clear HB; have HO467 := n0_; have BK461 := n1_; have BK473 := n2_; have HB := n3_; clear n0_ n1_ n2_ n3_; (try clear hb); (try clear hb2); (try clear hk); (try clear hi); obtain ⟨hcz38_0, hcz38_1, hcz38_2, hfz38_0, hfz38_1, hfz38_2⟩ := cf3_ (w := w37) BK473.out; obtain ⟨hcz39_0, hcz39_1, hcz39_2, hcz39_3, hfz39_0, hfz39_1, hfz39_2, hfz39_3⟩ := cf4_ (w := w37) BK461.out))
                        all_goals go_ret
                        all_goals exact ⟨rf_, bel_⟩
                      · rw [if_neg c30] at H
                        have c30b0 : (t469 == t457 && (t470 == t458 && (t471 == t459))) = false := by simpa using c30
                        (try (have c30b1 : decide (t469 = t457 && (t470 == t458 && (t471 == t459))) = false := by simpa using c30))
                        (try (have c30b2 : (t469 == t457 && (t470 == t458 && (t471 == t459))) = false := by simpa using c30))
                        (try (have c30b3 : ¬ (t469 = t457 && (t470 == t458 && (t471 == t459))) := by simpa using c30))
                        clear c30
                        exact absurd ((Option.some.inj H).trans hrt.out) (by decide)
                    · replace c29 := Bool.eq_false_iff.mpr c29
                      subst c29
                      have H1 : (some false) = some r := by rw [if_neg (show ¬ (false = true) by decide)] at H; exact H
                      clear H
                      have H := H1
                      clear H1
                      exact absurd ((Option.some.inj H).trans hrt.out) (by decide)
                  · replace c28 := Bool.eq_false_iff.mpr c28
                    subst c28
                    have H1 : (some false) = some r := by rw [if_neg (show ¬ (false = true) by decide)] at H; exact H
                    clear H
                    have H := H1
                    clear H1
                    exact absurd ((Option.some.inj H).trans hrt.out) (by decide)
                · rw [if_neg c27] at H
                  have c27b0 : ((t465.length : Int) == 2) = false := beq_eq_false_iff_ne.mpr c27
                  have c27b1 : ((t465.length : Int) != 2) = true := bne_iff_ne.mpr c27
                  exact absurd ((Option.some.inj H).trans hrt.out) (by decide)
              · rw [if_neg c25] at H
                exact absurd H (by simp)
            · rw [if_neg c23] at H
              exact absurd H (by simp)

/-- THE ONE PURE STATEMENT of laws_FnFracText: yours. -/
def laws_FnFracText.Pure : Prop := ∀ (l0 : List Int), l0.length ≤ maxLen → l0.length * 1 ≤ 140737488351232 → (∀ x ∈ l0, (Lit.int .u8 x).wf = true) → ∃ k, laws_FnFracText.f k l0 = some true
theorem laws_FnFracText.walk (P : laws_FnFracText.Pure) (a0 : Option Addr) (len0 cap0 : Nat) (z0 : List Int) (w : World) (w0 : (a0 = none ∧ len0 = 0 ∧ cap0 = 0 ∧ z0 = []) ∨ ∃ x, a0 = some x ∧ len0 ≤ cap0 ∧ cap0 ≤ maxLen ∧ z0.length = cap0 ∧ (∀ i, i < z0.length → w.cell? (x.add i) = some (.int .u8 (z0.getD i 0))) ∧ ∀ n ∈ z0, (Lit.int .u8 n).wf = true) (y0 : len0 * 1 ≤ 140737488351232) (hl : Laid w) :
    Calls Tryd.prog 8 #[.slice a0 len0 cap0] w fun e w' => e = .returned (.bool true) ∧ Below w.heap.size w w' := by
  obtain ⟨l0, rfl, hr0, hm0, hw0, hc0⟩ := ReadsInt.ofRowC w0
  obtain ⟨k, h⟩ := P l0 hm0 y0 hw0
  refine (laws_FnFracText.calls k _ _ l0 true w (Kd.C_of_reads (d := (0 : Int)) (h1 := fun _ => rfl) hr0) hc0 h ⟨rfl⟩ hl).mono ?_
  rintro e w' ⟨rfl, hd⟩
  exact ⟨rfl, hd⟩

end Go.Proofs.YtkpgpifkbdpnkaaDoor.PFnFracText
