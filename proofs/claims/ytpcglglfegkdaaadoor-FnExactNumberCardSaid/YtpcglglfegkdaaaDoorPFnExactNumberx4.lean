/- Contracts of Go functions, each with the Lean function that says what it computes: begun by the print, turned by this session. No condition beyond what each theorem states. -/
import Derived.Test.YtpcglglfegkdaaaDoorPFnExactNumberx0
import Derived.Test.YtpcglglfegkdaaaDoorPFnExactNumberx1
namespace Go.Proofs.YtpcglglfegkdaaaDoor.PFnExactNumber
open Go.RowKit Go.Proofs.YtpcglglfegkdaaaDoorW.PrintWords Go.Proofs.YtpcglglfegkdaaaDoorW.PrintLast Go.Proofs.YtpcglglfegkdaaaDoorW.PrintMore
attribute [local go_sem] max2_int min2_int max_two min_two max_three min_three max_four min_four   -- for this text's walks alone
set_option linter.unusedVariables false
set_option linter.unusedSimpArgs false

-- NOT PRINTED: function 132 (strconv_ParseUint)

-- NOT PRINTED: function 102 (strconv_ParseInt)

-- NOT PRINTED: function 79 (strconv_Atoi_79)

-- NOT PRINTED: function 133 (stringslite_Clone)

-- NOT PRINTED: function 103 (strconv_syntaxError)

-- NOT PRINTED: function 104 (strconv_rangeError)

-- NOT PRINTED: function 134 (errors_New)

-- NOT PRINTED: function 105 (strconv_baseError)

-- NOT PRINTED: function 106 (strconv_bitSizeError)

-- NOT PRINTED: function 80 (strconv_toError)

-- NOT PRINTED: function 47 (strconv_Atoi_47)

/-! ### impl_IntText: function 20, by the shelf -/
def impl_IntText.f (a0 : ByteArray) : Option (Int × Bool) := if a0.size ≤ 281474976710656 then (match Lib.atoiAll a0.data.toList with | .ok v => if -9223372036854775808 ≤ v ∧ v ≤ 9223372036854775807 then (if Lib.itoa v = a0.data.toList then some (v, true) else some (0, false)) else none | _ => some (0, false)) else none
theorem impl_IntText.atoi (a0 : ByteArray) (hs : a0.size ≤ 281474976710656) (w : World) (hl : Laid w) :
    Calls Tryd.prog 47 #[.string a0] w fun e w' => (match Lib.atoiAll a0.data.toList with | .ok v => e = .returned (.tuple #[.int .i64 v, .nilIface]) | _ => ∃ (z : Int) (t : TypeId) (p : Value), e = .returned (.tuple #[.int .i64 z, .iface t p])) ∧ Below w.heap.size w w' := by
  cases hA : Lib.atoiAll a0.data.toList with
  | ok v =>
    refine (Tryd.strconv_Atoi_ok a0 (by omega) v hA w).mono ?_
    rintro e w' ⟨rfl, hw⟩
    refine ⟨rfl, ?_⟩
    rcases hw with rfl | ⟨t, rfl⟩
    · exact Below.refl _ _
    · exact bytes_below (Below.refl _ _) (Nat.le_refl _) _ _
  | «syntax» =>
    obtain ⟨ev, hv, hev⟩ := hl.errsyntax
    refine (Tryd.strconv_Atoi_syntax a0 hs hA ev w hv hev).mono ?_
    rintro e w' ⟨N, rfl, _, _, hb⟩
    exact ⟨⟨_, _, _, rfl⟩, hb⟩
  | range =>
    obtain ⟨ev, hv, hev⟩ := hl.errrange
    refine (Tryd.strconv_Atoi_range a0 hs hA ev w hv hev).mono ?_
    rintro e w' ⟨N, rfl, _, _, hb⟩
    exact ⟨⟨_, _, _, rfl⟩, hb⟩
theorem impl_IntText.digits (v : Int) (h0 : -9223372036854775808 ≤ v) (h1 : v ≤ 9223372036854775807) (w : World) (hl : Laid w) :
    Calls Tryd.prog 25 #[.int .i64 v] w fun e w' => e = .returned (.string ⟨(Lib.itoa v).toArray⟩) ∧ Below w.heap.size w w' := by
  go_enter Tryd.func25, Tryd.ntmps25
  go_wp2_with (go_at_call 52; refine (Tryd.strconv_Itoa v h0 h1 _ hl.pow10).mono ?_; rintro e w' ⟨rfl, hw⟩)
  go_ret
  obtain ⟨k, os, rfl⟩ := hw
  exact ⟨rfl, Lib.below_grow _ w (Nat.le_refl _) k os⟩
theorem impl_IntText.calls (a0 : ByteArray) (r1 : Int) (r2 : Bool) (w : World) (h : impl_IntText.f a0 = some (r1, r2)) (hl : Laid w) :
    Calls Tryd.prog 20 #[.string a0] w fun e w' => e = .returned (.tuple #[.int .i64 r1, .bool r2]) ∧ Below w.heap.size w w' := by
  unfold impl_IntText.f at h
  by_cases c : a0.size ≤ 281474976710656
  · rw [if_pos c] at h
    have hat := impl_IntText.atoi a0 c w hl
    cases hA : Lib.atoiAll a0.data.toList with
    | ok v =>
      rw [hA] at h
      simp only [hA] at hat
      by_cases cv : -9223372036854775808 ≤ v ∧ v ≤ 9223372036854775807
      · simp only [cv, and_self, if_true] at h
        by_cases ce : Lib.itoa v = a0.data.toList
        · rw [if_pos ce] at h
          simp only [Option.some.injEq, Prod.mk.injEq] at h
          obtain ⟨rfl, rfl⟩ := h
          have hne : ((⟨(Lib.itoa v).toArray⟩ : ByteArray).toList != a0.toList) = false := by
            rw [Lib.toList_data, Lib.toList_data, ce]; simp
          have hne2 : (Lib.itoa v == a0.toList) = true := by rw [Lib.toList_data, ce]; simp
          go_enter Tryd.func20, Tryd.ntmps20
          go_wp2_with (first | (go_at_call 47; refine hat.mono ?_; rintro e w1 ⟨rfl, hb⟩) | (go_at_call 25; refine (impl_IntText.digits v cv.1 cv.2 _ (hl.on hb)).mono ?_; rintro e w2 ⟨rfl, hb2⟩))
          all_goals go_ret2
          all_goals exact ⟨rfl, hb.trans (hb2.mono hb.size)⟩
        · rw [if_neg ce] at h
          simp only [Option.some.injEq, Prod.mk.injEq] at h
          obtain ⟨rfl, rfl⟩ := h
          have hne : ((⟨(Lib.itoa v).toArray⟩ : ByteArray).toList != a0.toList) = true := by
            rw [Lib.toList_data, Lib.toList_data]; simpa using ce
          have hne2 : (Lib.itoa v == a0.toList) = false := by rw [Lib.toList_data]; simpa using ce
          go_enter Tryd.func20, Tryd.ntmps20
          go_wp2_with (first | (go_at_call 47; refine hat.mono ?_; rintro e w1 ⟨rfl, hb⟩) | (go_at_call 25; refine (impl_IntText.digits v cv.1 cv.2 _ (hl.on hb)).mono ?_; rintro e w2 ⟨rfl, hb2⟩))
          all_goals go_ret2
          all_goals exact ⟨rfl, hb.trans (hb2.mono hb.size)⟩
      · simp only [cv, if_false] at h
        cases h
    | «syntax» =>
      rw [hA] at h
      simp only [hA] at hat
      simp only [Option.some.injEq, Prod.mk.injEq] at h
      obtain ⟨rfl, rfl⟩ := h
      go_enter Tryd.func20, Tryd.ntmps20
      go_wp2_with (go_at_call 47; refine hat.mono ?_; rintro e w1 ⟨⟨z_, t_, p_, rfl⟩, hb⟩)
      all_goals go_ret2
      all_goals exact ⟨rfl, hb⟩
    | range =>
      rw [hA] at h
      simp only [hA] at hat
      simp only [Option.some.injEq, Prod.mk.injEq] at h
      obtain ⟨rfl, rfl⟩ := h
      go_enter Tryd.func20, Tryd.ntmps20
      go_wp2_with (go_at_call 47; refine hat.mono ?_; rintro e w1 ⟨⟨z_, t_, p_, rfl⟩, hb⟩)
      all_goals go_ret2
      all_goals exact ⟨rfl, hb⟩
  · rw [if_neg c] at h
    cases h

/-! ### impl_within: function 49 -/
def impl_within.f (a0 : Int) (a1 : Int) (a2 : Int) : Option (Bool) := if a0 ≥ a1 then (some (decide (a0 ≤ a2))) else (some false)
set_option maxHeartbeats 8000000 in
set_option maxRecDepth 100000 in
theorem impl_within.calls (a0 : Int) (a1 : Int) (a2 : Int) (r : Bool) (w : World) (h : impl_within.f a0 a1 a2 = some r) :
    Calls Tryd.prog 49 #[.int .i64 a0, .int .i64 a1, .int .i64 a2] w fun e w' => e = .returned (.bool r) ∧ Drawn0 w w' := by
  have H : (if a0 ≥ a1 then (some (decide (a0 ≤ a2))) else (some false)) = some r := h
  clear h
  by_cases c4 : a0 ≥ a1
  · rw [if_pos c4] at H
    have c4b0 : decide (a1 ≤ a0) = true := decide_eq_true c4
    clear c4
    obtain rfl := Option.some.inj H
    go_enter Tryd.func49, Tryd.ntmps49
    go_wp2
    go_ret
    exact ⟨by first | rfl | (simp; done) | (simp [*]; done), by repeat (first | exact Drawn0.refl _ | apply Drawn0.step)⟩
  · rw [if_neg c4] at H
    have c4b0 : decide (a1 ≤ a0) = false := decide_eq_false c4
    clear c4
    obtain rfl := Option.some.inj H
    go_enter Tryd.func49, Tryd.ntmps49
    go_wp2
    go_ret
    exact ⟨by first | rfl | (simp; done) | (simp [*]; done), by repeat (first | exact Drawn0.refl _ | apply Drawn0.step)⟩

/-! ### impl_Number: function 22 -/
def impl_Number.f (a0 : ByteArray) : Option (Int × Bool) := (impl_IntText.f a0).bind fun bt147 => (if bt147.2 = true then ((impl_within.f bt147.1 0 999999999).bind fun t149 => (if t149 = true then (some (bt147.1, true)) else (some (0, false)))) else (some (0, false)))
set_option maxHeartbeats 8000000 in
set_option maxRecDepth 100000 in
theorem impl_Number.calls (a0 : ByteArray) (r1 : Int) (r2 : Bool) (w : World) (h : impl_Number.f a0 = some (r1, r2)) (hl : Laid w) :
    Calls Tryd.prog 22 #[.string a0] w fun e w' => e = .returned (.tuple #[.int .i64 r1, .bool r2]) ∧ Below w.heap.size w w' := by
  have HB := Aside0.mk (Below.refl w.heap.size w)
  have H : ((impl_IntText.f a0).bind fun bt147 => (if bt147.2 = true then ((impl_within.f bt147.1 0 999999999).bind fun t149 => (if t149 = true then (some (bt147.1, true)) else (some (0, false)))) else (some (0, false)))) = some (r1, r2) := h
  clear h
  replace H := Option.bind_eq_some_iff.mp H
  obtain ⟨⟨t147, t148⟩, A20, H⟩ := H
  replace H : (if t148 = true then ((impl_within.f t147 0 999999999).bind fun t149 => (if t149 = true then (some (t147, true)) else (some (0, false)))) else (some (0, false))) = some (r1, r2) := H
  have A2 := Aside0.mk A20
  clear A20
  by_cases c3 : t148 = true
  · subst c3
    have H1 : ((impl_within.f t147 0 999999999).bind fun t149 => (if t149 = true then (some (t147, true)) else (some (0, false)))) = some (r1, r2) := by rw [if_pos rfl] at H; exact H
    clear H
    have H := H1
    clear H1
    replace H := Option.bind_eq_some_iff.mp H
    obtain ⟨t149, A40, H⟩ := H
    replace H : (if t149 = true then (some (t147, true)) else (some (0, false))) = some (r1, r2) := H
    have A4 := Aside0.mk A40
    clear A40
    by_cases c5 : t149 = true
    · subst c5
      have H1 : (some (t147, true)) = some (r1, r2) := by rw [if_pos rfl] at H; exact H
      clear H
      have H := H1
      clear H1
      simp only [Option.some.injEq, Prod.mk.injEq] at H
      obtain ⟨rfl, rfl⟩ := H
      go_enter Tryd.func22, Tryd.ntmps22
      go_wp2_with (first | ((with_reducible refine gate_callee (f := 20) rfl ?_); refine goesL_ (some 8) rfl rfl Tryd.func20 (by kernel_rfl) rfl #[.string a0] rfl mp_ ?_; (with_reducible refine (impl_IntText.calls a0 t147 true _ A2.out (laid_ hl)).mono ?_); rintro e w6 ⟨rfl, hb⟩; refine ⟨_, rfl, ?_⟩; have n0_ := Aside0.mk (below_step bel_ hb); clear HB; have HB := n0_; clear n0_; (try clear hb); (try clear hb2); (try clear hk); (try clear hi)) | (go_at_call 49; (with_reducible refine (impl_within.calls t147 0 999999999 true _ A4.out).mono ?_); rintro e w' ⟨rfl, ⟨nd, rfl⟩⟩))
      go_ret2
      exact ⟨rf_, bel_⟩
    · replace c5 := Bool.eq_false_iff.mpr c5
      subst c5
      have H1 : (some (0, false)) = some (r1, r2) := by rw [if_neg (show ¬ (false = true) by decide)] at H; exact H
      clear H
      have H := H1
      clear H1
      simp only [Option.some.injEq, Prod.mk.injEq] at H
      obtain ⟨rfl, rfl⟩ := H
      go_enter Tryd.func22, Tryd.ntmps22
      go_wp2_with (first | ((with_reducible refine gate_callee (f := 20) rfl ?_); refine goesL_ (some 8) rfl rfl Tryd.func20 (by kernel_rfl) rfl #[.string a0] rfl mp_ ?_; (with_reducible refine (impl_IntText.calls a0 t147 true _ A2.out (laid_ hl)).mono ?_); rintro e w7 ⟨rfl, hb⟩; refine ⟨_, rfl, ?_⟩; have n0_ := Aside0.mk (below_step bel_ hb); clear HB; have HB := n0_; clear n0_; (try clear hb); (try clear hb2); (try clear hk); (try clear hi)) | (go_at_call 49; (with_reducible refine (impl_within.calls t147 0 999999999 false _ A4.out).mono ?_); rintro e w' ⟨rfl, ⟨nd, rfl⟩⟩))
      go_ret2
      exact ⟨rf_, bel_⟩
  · replace c3 := Bool.eq_false_iff.mpr c3
    subst c3
    have H1 : (some (0, false)) = some (r1, r2) := by rw [if_neg (show ¬ (false = true) by decide)] at H; exact H
    clear H
    have H := H1
    clear H1
    simp only [Option.some.injEq, Prod.mk.injEq] at H
    obtain ⟨rfl, rfl⟩ := H
    go_enter Tryd.func22, Tryd.ntmps22
    go_wp2_with (first | ((with_reducible refine gate_callee (f := 20) rfl ?_); refine goesL_ (some 8) rfl rfl Tryd.func20 (by kernel_rfl) rfl #[.string a0] rfl mp_ ?_; (with_reducible refine (impl_IntText.calls a0 t147 false _ A2.out (laid_ hl)).mono ?_); rintro e w8 ⟨rfl, hb⟩; refine ⟨_, rfl, ?_⟩; have n0_ := Aside0.mk (below_step bel_ hb); clear HB; have HB := n0_; clear n0_; (try clear hb); (try clear hb2); (try clear hk); (try clear hi)))
    go_ret2
    exact ⟨rf_, bel_⟩

/-! ### laws_FnExactNumber: function 6 -/
def laws_FnExactNumber.f (k : Nat) (a0 : ByteArray) : Option (Bool) := if (a0.size : Int) > 1048576 then (some true) else ((spec_Number.f k a0).bind fun bt150 => ((impl_Number.f a0).bind fun bt152 => (if bt152.1 = bt150.1 then (if (bt152.2 != bt150.2) = true then (some false) else (some true)) else (some false))))
theorem laws_FnExactNumber.mono : ∀ a0 k, LeO (laws_FnExactNumber.f k a0) (laws_FnExactNumber.f (k + 1) a0) := by
  intro a0 k
  unfold laws_FnExactNumber.f
  repeat' first
      | (with_reducible exact spec_Number.mono _ _)
      | (with_reducible exact LeO.refl _)
      | (with_reducible exact LeO.none _)
      | (with_reducible refine LeO.ite ?_ ?_)
      | (with_reducible refine LeO.bind ?_ (fun _ => ?_))
      | exact spec_Number.mono _ _
      | exact LeO.none _
      | refine LeO.ite ?_ ?_
      | refine LeO.bind ?_ (fun _ => ?_)
set_option maxHeartbeats 8000000 in
set_option maxRecDepth 100000 in
theorem laws_FnExactNumber.calls (k : Nat) (a0 : ByteArray) (r : Bool) (w : World) (h : laws_FnExactNumber.f k a0 = some r) (hrt : Aside0 (r = true)) (hl : Laid w) :
    Calls Tryd.prog 6 #[.string a0] w fun e w' => e = .returned (.bool r) ∧ Below w.heap.size w w' := by
  have HB := Aside0.mk (Below.refl w.heap.size w)
  have H : (if (a0.size : Int) > 1048576 then (some true) else ((spec_Number.f k a0).bind fun bt150 => ((impl_Number.f a0).bind fun bt152 => (if bt152.1 = bt150.1 then (if (bt152.2 != bt150.2) = true then (some false) else (some true)) else (some false))))) = some r := h
  clear h
  by_cases c2 : (a0.size : Int) > 1048576
  · rw [if_pos c2] at H
    have c2b0 : decide (1048576 < (a0.size : Int)) = true := decide_eq_true c2
    have c2b1 : decide (1048576 < a0.size) = true := decide_eq_true (by omega)
    clear c2
    obtain rfl := Option.some.inj H
    go_enter Tryd.func6, Tryd.ntmps6
    go_wp2
    go_ret
    exact ⟨rf_, bel_⟩
  · rw [if_neg c2] at H
    have c2b0 : decide (1048576 < (a0.size : Int)) = false := decide_eq_false c2
    have c2b1 : decide (1048576 < a0.size) = false := decide_eq_false (by omega)
    clear c2
    replace H := Option.bind_eq_some_iff.mp H
    obtain ⟨⟨t150, t151⟩, A30, H⟩ := H
    replace H : ((impl_Number.f a0).bind fun bt152 => (if bt152.1 = t150 then (if (bt152.2 != t151) = true then (some false) else (some true)) else (some false))) = some r := H
    have A3 := Aside0.mk A30
    clear A30
    replace H := Option.bind_eq_some_iff.mp H
    obtain ⟨⟨t152, t153⟩, A40, H⟩ := H
    replace H : (if t152 = t150 then (if (t153 != t151) = true then (some false) else (some true)) else (some false)) = some r := H
    have A4 := Aside0.mk A40
    clear A40
    by_cases c5 : t152 = t150
    · rw [if_pos c5] at H
      have c5b0 : (t152 == t150) = true := beq_iff_eq.mpr c5
      have c5b1 : (t152 != t150) = false := bne_eq_false_iff_eq.mpr c5
      clear c5
      by_cases c6 : (t153 != t151) = true
      · rw [if_pos c6] at H
        have c6b0 : (t153 != t151) = true := c6
        (try (have c6b1 : decide (t153 = t151) = false := by simpa using c6))
        (try (have c6b2 : (t153 == t151) = false := by simpa using c6))
        (try (have c6b3 : ¬ (t153 = t151) := by simpa using c6))
        clear c6
        exact absurd ((Option.some.inj H).trans hrt.out) (by decide)
      · rw [if_neg c6] at H
        have c6b0 : (t153 != t151) = false := by simpa using c6
        (try (have c6b1 : decide (t153 = t151) = true := by simpa using c6))
        (try (have c6b2 : (t153 == t151) = true := by simpa using c6))
        clear c6
        obtain rfl := Option.some.inj H
        go_enter Tryd.func6, Tryd.ntmps6
        go_wp2_with (first | ((with_reducible refine gate_callee (f := 21) rfl ?_); refine goesL_ (some 12) rfl rfl Tryd.func21 (by kernel_rfl) rfl #[.string a0] rfl mp_ ?_; (with_reducible refine (spec_Number.calls k a0 t150 t151 _ A3.out).mono ?_); rintro e w7 ⟨rfl, hb⟩; refine ⟨_, rfl, ?_⟩; have n0_ := Aside0.mk (below_step bel_ hb); clear HB; have HB := n0_; clear n0_; (try clear hb); (try clear hb2); (try clear hk); (try clear hi)) | ((with_reducible refine gate_callee (f := 22) rfl ?_); refine goesL_ (some 17) rfl rfl Tryd.func22 (by kernel_rfl) rfl #[.string a0] rfl mp_ ?_; (with_reducible refine (impl_Number.calls a0 t152 t153 _ A4.out (laid_ hl)).mono ?_); rintro e w8 ⟨rfl, hb⟩; refine ⟨_, rfl, ?_⟩; have n0_ := Aside0.mk (below_step bel_ hb); clear HB; have HB := n0_; clear n0_; (try clear hb); (try clear hb2); (try clear hk); (try clear hi)))
        go_ret
        exact ⟨rf_, bel_⟩
    · rw [if_neg c5] at H
      have c5b0 : (t152 == t150) = false := beq_eq_false_iff_ne.mpr c5
      have c5b1 : (t152 != t150) = true := bne_iff_ne.mpr c5
      exact absurd ((Option.some.inj H).trans hrt.out) (by decide)

/-- THE ONE PURE STATEMENT of laws_FnExactNumber: yours. -/
def laws_FnExactNumber.Pure : Prop := ∀ (a0 : ByteArray), a0.size ≤ 140737488351232 → ∃ k, laws_FnExactNumber.f k a0 = some true
theorem laws_FnExactNumber.walk (P : laws_FnExactNumber.Pure) (a0 : ByteArray) (w : World) (w0 : a0.size ≤ 140737488351232) (hl : Laid w) :
    Calls Tryd.prog 6 #[.string a0] w fun e w' => e = .returned (.bool true) ∧ Below w.heap.size w w' := by
  obtain ⟨k, h⟩ := P a0 w0
  refine (laws_FnExactNumber.calls k a0 true w h ⟨rfl⟩ hl).mono ?_
  rintro e w' ⟨rfl, hd⟩
  exact ⟨rfl, hd⟩

end Go.Proofs.YtpcglglfegkdaaaDoor.PFnExactNumber
