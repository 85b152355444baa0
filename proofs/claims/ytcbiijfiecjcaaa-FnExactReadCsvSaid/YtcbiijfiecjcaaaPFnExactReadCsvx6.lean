/- Contracts of Go functions, each with the Lean function that says what it computes: begun by the print, turned by this session. No condition beyond what each theorem states. -/
import Derived.Test.YtcbiijfiecjcaaaPFnExactReadCsvx0
import Derived.Test.YtcbiijfiecjcaaaPFnExactReadCsvx4
namespace Go.Proofs.Ytcbiijfiecjcaaa.PFnExactReadCsv
open Go.RowKit Go.Proofs.YtcbiijfiecjcaaaW.PrintWords Go.Proofs.YtcbiijfiecjcaaaW.PrintLast Go.Proofs.YtcbiijfiecjcaaaW.PrintMore
attribute [local go_sem] max2_int min2_int max_two min_two max_three min_three max_four min_four   -- for this text's walks alone
set_option linter.unusedVariables false
set_option linter.unusedSimpArgs false

/-! ### stringslite_HasPrefix: function 52 -/
def stringslite_HasPrefix.f (a0 : ByteArray) (a1 : ByteArray) : Option (Bool) := if (a0.size : Int) ≥ (a1.size : Int) then (if 0 ≤ (a1.size : Int) then (if (a1.size : Int) ≤ (a0.size : Int) then (some ((a0.extract 0 ((a1.size : Int) : Int).toNat).toList == a1.toList)) else (none)) else (none)) else (some false)
set_option maxHeartbeats 8000000 in
set_option maxRecDepth 100000 in
theorem stringslite_HasPrefix.calls (a0 : ByteArray) (a1 : ByteArray) (r : Bool) (w : World) (h : stringslite_HasPrefix.f a0 a1 = some r) :
    Calls Try.prog 52 #[.string a0, .string a1] w fun e w' => e = .returned (.bool r) ∧ Drawn0 w w' := by
  have H : (if (a0.size : Int) ≥ (a1.size : Int) then (if 0 ≤ (a1.size : Int) then (if (a1.size : Int) ≤ (a0.size : Int) then (some ((a0.extract 0 ((a1.size : Int) : Int).toNat).toList == a1.toList)) else (none)) else (none)) else (some false)) = some r := h
  clear h
  by_cases c3 : (a0.size : Int) ≥ (a1.size : Int)
  · rw [if_pos c3] at H
    have c3b0 : decide ((a1.size : Int) ≤ (a0.size : Int)) = true := decide_eq_true c3
    have c3b1 : decide (a1.size ≤ a0.size) = true := decide_eq_true (Int.ofNat_le.mp c3)
    clear c3
    by_cases c4 : 0 ≤ (a1.size : Int)
    · rw [if_pos c4] at H
      have c4b0 := eq_true c4
      have c4b1 : decide (0 ≤ (a1.size : Int)) = true := decide_eq_true c4
      clear c4
      by_cases c5 : (a1.size : Int) ≤ (a0.size : Int)
      · rw [if_pos c5] at H
        have c5b0 := eq_true c5
        have c5b1 : decide ((a1.size : Int) ≤ (a0.size : Int)) = true := decide_eq_true c5
        clear c5
        obtain rfl := Option.some.inj H
        go_enter Try.func52, Try.ntmps52
        go_wp2
        go_ret
        exact ⟨by first | rfl | (simp; done) | (simp [*]; done), by repeat (first | exact Drawn0.refl _ | apply Drawn0.step)⟩
      · rw [if_neg c5] at H
        exact absurd H (by simp)
    · rw [if_neg c4] at H
      exact absurd H (by simp)
  · rw [if_neg c3] at H
    have c3b0 : decide ((a1.size : Int) ≤ (a0.size : Int)) = false := decide_eq_false c3
    have c3b1 : decide (a1.size ≤ a0.size) = false := decide_eq_false (fun h => c3 (Int.ofNat_le.mpr h))
    clear c3
    obtain rfl := Option.some.inj H
    go_enter Try.func52, Try.ntmps52
    go_wp2
    go_ret
    exact ⟨by first | rfl | (simp; done) | (simp [*]; done), by repeat (first | exact Drawn0.refl _ | apply Drawn0.step)⟩

/-! ### strings_HasPrefix: function 46 -/
def strings_HasPrefix.f (a0 : ByteArray) (a1 : ByteArray) : Option (Bool) := (stringslite_HasPrefix.f a0 a1).bind fun t157 => (some t157)
set_option maxHeartbeats 8000000 in
set_option maxRecDepth 100000 in
theorem strings_HasPrefix.calls (a0 : ByteArray) (a1 : ByteArray) (r : Bool) (w : World) (h : strings_HasPrefix.f a0 a1 = some r) :
    Calls Try.prog 46 #[.string a0, .string a1] w fun e w' => e = .returned (.bool r) ∧ Drawn0 w w' := by
  have H : ((stringslite_HasPrefix.f a0 a1).bind fun t157 => (some t157)) = some r := h
  clear h
  replace H := Option.bind_eq_some_iff.mp H
  obtain ⟨t157, A30, H⟩ := H
  replace H : (some t157) = some r := H
  have A3 := Aside0.mk A30
  clear A30
  obtain rfl := Option.some.inj H
  go_enter Try.func46, Try.ntmps46
  go_wp2_with (first | ((with_reducible refine gate_callee (f := 52) rfl ?_); refine goesL_ (some 7) rfl rfl Try.func52 (by kernel_rfl) rfl #[.string a0, .string a1] rfl mp_ ?_; (with_reducible refine (stringslite_HasPrefix.calls a0 a1 t157 _ A3.out).mono ?_); rintro e w' ⟨rfl, ⟨nd, rfl⟩⟩; refine ⟨_, rfl, ?_⟩))
  go_ret
  exact ⟨by first | rfl | (simp; done) | (simp [*]; done), by repeat (first | exact Drawn0.refl _ | apply Drawn0.step)⟩

/-! ### impl_csvReader_after: function 41 -/
def impl_csvReader_after.f (s0_0 : ByteArray) (s0_1 : Int) : Option (Int × ByteArray × Int) := if 0 ≤ s0_1 then (if s0_1 ≤ (s0_0.size : Int) then (if (s0_0.extract (s0_1 : Int).toNat s0_0.size).toList = ([] : List UInt8) then (some (2, s0_0, s0_1)) else (if 0 < ((s0_0.extract (s0_1 : Int).toNat s0_0.size).size : Int) then (if (bt (s0_0.extract (s0_1 : Int).toNat s0_0.size) 0) = 44 then (some (1, s0_0, wrap64 (s0_1 + 1))) else (if (bt (s0_0.extract (s0_1 : Int).toNat s0_0.size) 0) = 10 then (some (2, s0_0, wrap64 (s0_1 + 1))) else ((strings_HasPrefix.f (s0_0.extract (s0_1 : Int).toNat s0_0.size) (⟨#[13, 10]⟩ : ByteArray)).bind fun t158 => (if t158 = true then (some (2, s0_0, wrap64 (s0_1 + 2))) else (some (3, s0_0, s0_1)))))) else (none))) else (none)) else (none)
set_option maxHeartbeats 8000000 in
set_option maxRecDepth 100000 in
theorem impl_csvReader_after.calls (g : Nat) (s0_0 : ByteArray) (s0_1 : Int) (r1 : Int) (r2 : ByteArray) (r3 : Int) (w0 w : World) (hI : IsS58 w0 w g s0_0 s0_1) (hB : Below w0.heap.size w0 w) (h : impl_csvReader_after.f s0_0 s0_1 = some (r1, r2, r3)) :
    Calls Try.prog 41 #[.pointer (some ⟨g, 0, none⟩)] w fun e w' => e = .returned (.int .i64 r1) ∧ IsS58 w0 w' g r2 r3 ∧ Below w0.heap.size w0 w' ∧ KeepBut w w' g none := by
  have HI0 := Aside0.mk hI
  have HK := Aside0.mk (KeepBut.refl w g none)
  have HL := Aside0.mk hB.size
  clear hI
  have HW0 := Aside0.mk hB.size
  have HB := Aside0.mk hB
  clear hB
  have H : (if 0 ≤ s0_1 then (if s0_1 ≤ (s0_0.size : Int) then (if (s0_0.extract (s0_1 : Int).toNat s0_0.size).toList = ([] : List UInt8) then (some (2, s0_0, s0_1)) else (if 0 < ((s0_0.extract (s0_1 : Int).toNat s0_0.size).size : Int) then (if (bt (s0_0.extract (s0_1 : Int).toNat s0_0.size) 0) = 44 then (some (1, s0_0, wrap64 (s0_1 + 1))) else (if (bt (s0_0.extract (s0_1 : Int).toNat s0_0.size) 0) = 10 then (some (2, s0_0, wrap64 (s0_1 + 1))) else ((strings_HasPrefix.f (s0_0.extract (s0_1 : Int).toNat s0_0.size) (⟨#[13, 10]⟩ : ByteArray)).bind fun t158 => (if t158 = true then (some (2, s0_0, wrap64 (s0_1 + 2))) else (some (3, s0_0, s0_1)))))) else (none))) else (none)) else (none)) = some (r1, r2, r3) := h
  clear h
  by_cases c2 : 0 ≤ s0_1
  · rw [if_pos c2] at H
    have c2b0 := eq_true c2
    have c2b1 : decide (0 ≤ s0_1) = true := decide_eq_true c2
    clear c2
    by_cases c3 : s0_1 ≤ (s0_0.size : Int)
    · rw [if_pos c3] at H
      have c3b0 := eq_true c3
      have c3b1 : decide (s0_1 ≤ (s0_0.size : Int)) = true := decide_eq_true c3
      clear c3
      by_cases c4 : (s0_0.extract (s0_1 : Int).toNat s0_0.size).toList = ([] : List UInt8)
      · rw [if_pos c4] at H
        have c4b0 : ((s0_0.extract (s0_1 : Int).toNat s0_0.size).toList == ([] : List UInt8)) = true := beq_iff_eq.mpr c4
        have c4b1 : ((s0_0.extract (s0_1 : Int).toNat s0_0.size).toList != ([] : List UInt8)) = false := bne_eq_false_iff_eq.mpr c4
        clear c4
        simp only [Option.some.injEq, Prod.mk.injEq] at H
        obtain ⟨rfl, rfl, rfl⟩ := H
        obtain ⟨HGz5, hgz5⟩ := HI0.out
        have hcz5_0 := cellS58_0 HGz5
        have hcz5_1 := cellS58_1 HGz5
        have hfz5_0 := blk_frozen HGz5 0
        have hfz5_1 := blk_frozen HGz5 1
        clear HGz5 hgz5
        go_enter Try.func41, Try.ntmps41
        go_wp2
        repeat (go_quiet (fail); try go_wp2)
        go_ret
        exact ⟨rf_, by repeat (first | (with_reducible first | exact HI0.out | apply IsS58.alloc | apply IsS58.drewN | apply IsS58.drew | apply IsS58.set_0 | apply IsS58.set_1) | exact HI0.out), by repeat (first | (with_reducible first | exact HB.out | apply below_alloc | apply pw_below_drewN | apply below_drew1 | refine below_set ?_ (IsS58.ge HI0.out)) | exact HB.out), by repeat (first | (with_reducible first | exact HK.out | apply KeepBut.set_ | apply keep_drewN | apply keep_drew | apply keep_alloc) | exact HK.out)⟩
      · rw [if_neg c4] at H
        have c4b0 : ((s0_0.extract (s0_1 : Int).toNat s0_0.size).toList == ([] : List UInt8)) = false := beq_eq_false_iff_ne.mpr c4
        have c4b1 : ((s0_0.extract (s0_1 : Int).toNat s0_0.size).toList != ([] : List UInt8)) = true := bne_iff_ne.mpr c4
        by_cases c6 : 0 < ((s0_0.extract (s0_1 : Int).toNat s0_0.size).size : Int)
        · rw [if_pos c6] at H
          have c6b0 : decide (0 < ((s0_0.extract (s0_1 : Int).toNat s0_0.size).size : Int)) = true := decide_eq_true c6
          have cz_ : (0 < s0_0.size - s0_1.toNat) = True := eq_true (by have h_ := c6; simp only [ByteArray.size_extract] at h_; omega)
          have c6b1 : decide (0 < (s0_0.extract (s0_1 : Int).toNat s0_0.size).size) = true := decide_eq_true (by omega)
          clear c6
          by_cases c8 : (bt (s0_0.extract (s0_1 : Int).toNat s0_0.size) 0) = 44
          · rw [if_pos c8] at H
            have c8b0 : ((bt (s0_0.extract (s0_1 : Int).toNat s0_0.size) 0) == 44) = true := beq_iff_eq.mpr c8
            have c8b1 : ((bt (s0_0.extract (s0_1 : Int).toNat s0_0.size) 0) != 44) = false := bne_eq_false_iff_eq.mpr c8
            clear c8
            simp only [Option.some.injEq, Prod.mk.injEq] at H
            obtain ⟨rfl, rfl, rfl⟩ := H
            obtain ⟨HGz9, hgz9⟩ := HI0.out
            have hcz9_0 := cellS58_0 HGz9
            have hcz9_1 := cellS58_1 HGz9
            have hfz9_0 := blk_frozen HGz9 0
            have hfz9_1 := blk_frozen HGz9 1
            clear HGz9 hgz9
            have p7 : 0 ≤ (0 : Int) := (by omega)
            have q7 : 0 < (s0_0.extract (s0_1 : Int).toNat s0_0.size).size := (by have : (0 : Int) < ((s0_0.extract (s0_1 : Int).toNat s0_0.size).size : Int) := of_decide_eq_true (by first | (with_reducible assumption) | assumption); omega)
            have hx7 : ∀ h : 0 < (s0_0.extract (s0_1 : Int).toNat s0_0.size).size, (((s0_0.extract (s0_1 : Int).toNat s0_0.size)[0]'h).toNat : Int) = bt (s0_0.extract (s0_1 : Int).toNat s0_0.size) 0 := bt_at (s0_0.extract (s0_1 : Int).toNat s0_0.size) 0
            clear p7
            have qi7 : (0 < ((s0_0.extract (s0_1 : Int).toNat s0_0.size).size : Int)) = True := eq_true (of_decide_eq_true (by first | (with_reducible assumption) | assumption))
            replace q7 := eq_true q7
            go_enter Try.func41, Try.ntmps41
            go_wp2
            repeat (go_quiet (fail); try go_wp2)
            go_ret
            exact ⟨rf_, by repeat (first | (with_reducible first | exact HI0.out | apply IsS58.alloc | apply IsS58.drewN | apply IsS58.drew | apply IsS58.set_0 | apply IsS58.set_1) | exact HI0.out), by repeat (first | (with_reducible first | exact HB.out | apply below_alloc | apply pw_below_drewN | apply below_drew1 | refine below_set ?_ (IsS58.ge HI0.out)) | exact HB.out), by repeat (first | (with_reducible first | exact HK.out | apply KeepBut.set_ | apply keep_drewN | apply keep_drew | apply keep_alloc) | exact HK.out)⟩
          · rw [if_neg c8] at H
            have c8b0 : ((bt (s0_0.extract (s0_1 : Int).toNat s0_0.size) 0) == 44) = false := beq_eq_false_iff_ne.mpr c8
            have c8b1 : ((bt (s0_0.extract (s0_1 : Int).toNat s0_0.size) 0) != 44) = true := bne_iff_ne.mpr c8
            by_cases c11 : (bt (s0_0.extract (s0_1 : Int).toNat s0_0.size) 0) = 10
            · rw [if_pos c11] at H
              have c11b0 : ((bt (s0_0.extract (s0_1 : Int).toNat s0_0.size) 0) == 10) = true := beq_iff_eq.mpr c11
              have c11b1 : ((bt (s0_0.extract (s0_1 : Int).toNat s0_0.size) 0) != 10) = false := bne_eq_false_iff_eq.mpr c11
              clear c11
              simp only [Option.some.injEq, Prod.mk.injEq] at H
              obtain ⟨rfl, rfl, rfl⟩ := H
              obtain ⟨HGz12, hgz12⟩ := HI0.out
              have hcz12_0 := cellS58_0 HGz12
              have hcz12_1 := cellS58_1 HGz12
              have hfz12_0 := blk_frozen HGz12 0
              have hfz12_1 := blk_frozen HGz12 1
              clear HGz12 hgz12
              have p7 : 0 ≤ (0 : Int) := (by omega)
              have q7 : 0 < (s0_0.extract (s0_1 : Int).toNat s0_0.size).size := (by have : (0 : Int) < ((s0_0.extract (s0_1 : Int).toNat s0_0.size).size : Int) := of_decide_eq_true (by first | (with_reducible assumption) | assumption); omega)
              have hx7 : ∀ h : 0 < (s0_0.extract (s0_1 : Int).toNat s0_0.size).size, (((s0_0.extract (s0_1 : Int).toNat s0_0.size)[0]'h).toNat : Int) = bt (s0_0.extract (s0_1 : Int).toNat s0_0.size) 0 := bt_at (s0_0.extract (s0_1 : Int).toNat s0_0.size) 0
              clear p7
              have qi7 : (0 < ((s0_0.extract (s0_1 : Int).toNat s0_0.size).size : Int)) = True := eq_true (of_decide_eq_true (by first | (with_reducible assumption) | assumption))
              replace q7 := eq_true q7
              have p10 : 0 ≤ (0 : Int) := (by omega)
              have q10 : 0 < (s0_0.extract (s0_1 : Int).toNat s0_0.size).size := (by have : (0 : Int) < ((s0_0.extract (s0_1 : Int).toNat s0_0.size).size : Int) := of_decide_eq_true (by first | (with_reducible assumption) | assumption); omega)
              have hx10 : ∀ h : 0 < (s0_0.extract (s0_1 : Int).toNat s0_0.size).size, (((s0_0.extract (s0_1 : Int).toNat s0_0.size)[0]'h).toNat : Int) = bt (s0_0.extract (s0_1 : Int).toNat s0_0.size) 0 := bt_at (s0_0.extract (s0_1 : Int).toNat s0_0.size) 0
              clear p10
              have qi10 : (0 < ((s0_0.extract (s0_1 : Int).toNat s0_0.size).size : Int)) = True := eq_true (of_decide_eq_true (by first | (with_reducible assumption) | assumption))
              replace q10 := eq_true q10
              go_enter Try.func41, Try.ntmps41
              go_wp2
              repeat (go_quiet (fail); try go_wp2)
              go_ret
              exact ⟨rf_, by repeat (first | (with_reducible first | exact HI0.out | apply IsS58.alloc | apply IsS58.drewN | apply IsS58.drew | apply IsS58.set_0 | apply IsS58.set_1) | exact HI0.out), by repeat (first | (with_reducible first | exact HB.out | apply below_alloc | apply pw_below_drewN | apply below_drew1 | refine below_set ?_ (IsS58.ge HI0.out)) | exact HB.out), by repeat (first | (with_reducible first | exact HK.out | apply KeepBut.set_ | apply keep_drewN | apply keep_drew | apply keep_alloc) | exact HK.out)⟩
            · rw [if_neg c11] at H
              have c11b0 : ((bt (s0_0.extract (s0_1 : Int).toNat s0_0.size) 0) == 10) = false := beq_eq_false_iff_ne.mpr c11
              have c11b1 : ((bt (s0_0.extract (s0_1 : Int).toNat s0_0.size) 0) != 10) = true := bne_iff_ne.mpr c11
              replace H := Option.bind_eq_some_iff.mp H
              obtain ⟨t158, A130, H⟩ := H
              replace H : (if t158 = true then (some (2, s0_0, wrap64 (s0_1 + 2))) else (some (3, s0_0, s0_1))) = some (r1, r2, r3) := H
              have A13 := Aside0.mk A130
              clear A130
              by_cases c14 : t158 = true
              · subst c14
                have H1 : (some (2, s0_0, wrap64 (s0_1 + 2))) = some (r1, r2, r3) := by rw [if_pos rfl] at H; exact H
                clear H
                have H := H1
                clear H1
                simp only [Option.some.injEq, Prod.mk.injEq] at H
                obtain ⟨rfl, rfl, rfl⟩ := H
                obtain ⟨HGz15, hgz15⟩ := HI0.out
                have hcz15_0 := cellS58_0 HGz15
                have hcz15_1 := cellS58_1 HGz15
                have hfz15_0 := blk_frozen HGz15 0
                have hfz15_1 := blk_frozen HGz15 1
                clear HGz15 hgz15
                have p7 : 0 ≤ (0 : Int) := (by omega)
                have q7 : 0 < (s0_0.extract (s0_1 : Int).toNat s0_0.size).size := (by have : (0 : Int) < ((s0_0.extract (s0_1 : Int).toNat s0_0.size).size : Int) := of_decide_eq_true (by first | (with_reducible assumption) | assumption); omega)
                have hx7 : ∀ h : 0 < (s0_0.extract (s0_1 : Int).toNat s0_0.size).size, (((s0_0.extract (s0_1 : Int).toNat s0_0.size)[0]'h).toNat : Int) = bt (s0_0.extract (s0_1 : Int).toNat s0_0.size) 0 := bt_at (s0_0.extract (s0_1 : Int).toNat s0_0.size) 0
                clear p7
                have qi7 : (0 < ((s0_0.extract (s0_1 : Int).toNat s0_0.size).size : Int)) = True := eq_true (of_decide_eq_true (by first | (with_reducible assumption) | assumption))
                replace q7 := eq_true q7
                have p10 : 0 ≤ (0 : Int) := (by omega)
                have q10 : 0 < (s0_0.extract (s0_1 : Int).toNat s0_0.size).size := (by have : (0 : Int) < ((s0_0.extract (s0_1 : Int).toNat s0_0.size).size : Int) := of_decide_eq_true (by first | (with_reducible assumption) | assumption); omega)
                have hx10 : ∀ h : 0 < (s0_0.extract (s0_1 : Int).toNat s0_0.size).size, (((s0_0.extract (s0_1 : Int).toNat s0_0.size)[0]'h).toNat : Int) = bt (s0_0.extract (s0_1 : Int).toNat s0_0.size) 0 := bt_at (s0_0.extract (s0_1 : Int).toNat s0_0.size) 0
                clear p10
                have qi10 : (0 < ((s0_0.extract (s0_1 : Int).toNat s0_0.size).size : Int)) = True := eq_true (of_decide_eq_true (by first | (with_reducible assumption) | assumption))
                replace q10 := eq_true q10
                go_enter Try.func41, Try.ntmps41
                go_wp2_with (first | (go_at_call 46; (with_reducible refine (strings_HasPrefix.calls (s0_0.extract (s0_1 : Int).toNat s0_0.size) (⟨#[13, 10]⟩ : ByteArray) true _ A13.out).mono ?_); rintro e w' ⟨rfl, ⟨nd, rfl⟩⟩; (try first | exact ⟨rfl, _, World.drewN_drewN _ _ _⟩ | exact ⟨rfl, _, Eq.trans (World.drewN_drewN _ _ _) (congrArg (World.drewN _) (Nat.add_assoc _ _ _))⟩)))
                repeat (go_quiet (first | (go_at_call 46; (with_reducible refine (strings_HasPrefix.calls (s0_0.extract (s0_1 : Int).toNat s0_0.size) (⟨#[13, 10]⟩ : ByteArray) true _ A13.out).mono ?_); rintro e w' ⟨rfl, ⟨nd, rfl⟩⟩; (try first | exact ⟨rfl, _, World.drewN_drewN _ _ _⟩ | exact ⟨rfl, _, Eq.trans (World.drewN_drewN _ _ _) (congrArg (World.drewN _) (Nat.add_assoc _ _ _))⟩))); try go_wp2_with (first | (go_at_call 46; (with_reducible refine (strings_HasPrefix.calls (s0_0.extract (s0_1 : Int).toNat s0_0.size) (⟨#[13, 10]⟩ : ByteArray) true _ A13.out).mono ?_); rintro e w' ⟨rfl, ⟨nd, rfl⟩⟩; (try first | exact ⟨rfl, _, World.drewN_drewN _ _ _⟩ | exact ⟨rfl, _, Eq.trans (World.drewN_drewN _ _ _) (congrArg (World.drewN _) (Nat.add_assoc _ _ _))⟩))))
                go_ret
                exact ⟨rf_, by repeat (first | (with_reducible first | exact HI0.out | apply IsS58.alloc | apply IsS58.drewN | apply IsS58.drew | apply IsS58.set_0 | apply IsS58.set_1) | exact HI0.out), by repeat (first | (with_reducible first | exact HB.out | apply below_alloc | apply pw_below_drewN | apply below_drew1 | refine below_set ?_ (IsS58.ge HI0.out)) | exact HB.out), by repeat (first | (with_reducible first | exact HK.out | apply KeepBut.set_ | apply keep_drewN | apply keep_drew | apply keep_alloc) | exact HK.out)⟩
              · replace c14 := Bool.eq_false_iff.mpr c14
                subst c14
                have H1 : (some (3, s0_0, s0_1)) = some (r1, r2, r3) := by rw [if_neg (show ¬ (false = true) by decide)] at H; exact H
                clear H
                have H := H1
                clear H1
                simp only [Option.some.injEq, Prod.mk.injEq] at H
                obtain ⟨rfl, rfl, rfl⟩ := H
                obtain ⟨HGz16, hgz16⟩ := HI0.out
                have hcz16_0 := cellS58_0 HGz16
                have hcz16_1 := cellS58_1 HGz16
                have hfz16_0 := blk_frozen HGz16 0
                have hfz16_1 := blk_frozen HGz16 1
                clear HGz16 hgz16
                have p7 : 0 ≤ (0 : Int) := (by omega)
                have q7 : 0 < (s0_0.extract (s0_1 : Int).toNat s0_0.size).size := (by have : (0 : Int) < ((s0_0.extract (s0_1 : Int).toNat s0_0.size).size : Int) := of_decide_eq_true (by first | (with_reducible assumption) | assumption); omega)
                have hx7 : ∀ h : 0 < (s0_0.extract (s0_1 : Int).toNat s0_0.size).size, (((s0_0.extract (s0_1 : Int).toNat s0_0.size)[0]'h).toNat : Int) = bt (s0_0.extract (s0_1 : Int).toNat s0_0.size) 0 := bt_at (s0_0.extract (s0_1 : Int).toNat s0_0.size) 0
                clear p7
                have qi7 : (0 < ((s0_0.extract (s0_1 : Int).toNat s0_0.size).size : Int)) = True := eq_true (of_decide_eq_true (by first | (with_reducible assumption) | assumption))
                replace q7 := eq_true q7
                have p10 : 0 ≤ (0 : Int) := (by omega)
                have q10 : 0 < (s0_0.extract (s0_1 : Int).toNat s0_0.size).size := (by have : (0 : Int) < ((s0_0.extract (s0_1 : Int).toNat s0_0.size).size : Int) := of_decide_eq_true (by first | (with_reducible assumption) | assumption); omega)
                have hx10 : ∀ h : 0 < (s0_0.extract (s0_1 : Int).toNat s0_0.size).size, (((s0_0.extract (s0_1 : Int).toNat s0_0.size)[0]'h).toNat : Int) = bt (s0_0.extract (s0_1 : Int).toNat s0_0.size) 0 := bt_at (s0_0.extract (s0_1 : Int).toNat s0_0.size) 0
                clear p10
                have qi10 : (0 < ((s0_0.extract (s0_1 : Int).toNat s0_0.size).size : Int)) = True := eq_true (of_decide_eq_true (by first | (with_reducible assumption) | assumption))
                replace q10 := eq_true q10
                go_enter Try.func41, Try.ntmps41
                go_wp2_with (first | (go_at_call 46; (with_reducible refine (strings_HasPrefix.calls (s0_0.extract (s0_1 : Int).toNat s0_0.size) (⟨#[13, 10]⟩ : ByteArray) false _ A13.out).mono ?_); rintro e w' ⟨rfl, ⟨nd, rfl⟩⟩; (try first | exact ⟨rfl, _, World.drewN_drewN _ _ _⟩ | exact ⟨rfl, _, Eq.trans (World.drewN_drewN _ _ _) (congrArg (World.drewN _) (Nat.add_assoc _ _ _))⟩)))
                repeat (go_quiet (first | (go_at_call 46; (with_reducible refine (strings_HasPrefix.calls (s0_0.extract (s0_1 : Int).toNat s0_0.size) (⟨#[13, 10]⟩ : ByteArray) false _ A13.out).mono ?_); rintro e w' ⟨rfl, ⟨nd, rfl⟩⟩; (try first | exact ⟨rfl, _, World.drewN_drewN _ _ _⟩ | exact ⟨rfl, _, Eq.trans (World.drewN_drewN _ _ _) (congrArg (World.drewN _) (Nat.add_assoc _ _ _))⟩))); try go_wp2_with (first | (go_at_call 46; (with_reducible refine (strings_HasPrefix.calls (s0_0.extract (s0_1 : Int).toNat s0_0.size) (⟨#[13, 10]⟩ : ByteArray) false _ A13.out).mono ?_); rintro e w' ⟨rfl, ⟨nd, rfl⟩⟩; (try first | exact ⟨rfl, _, World.drewN_drewN _ _ _⟩ | exact ⟨rfl, _, Eq.trans (World.drewN_drewN _ _ _) (congrArg (World.drewN _) (Nat.add_assoc _ _ _))⟩))))
                go_ret
                exact ⟨rf_, by repeat (first | (with_reducible first | exact HI0.out | apply IsS58.alloc | apply IsS58.drewN | apply IsS58.drew | apply IsS58.set_0 | apply IsS58.set_1) | exact HI0.out), by repeat (first | (with_reducible first | exact HB.out | apply below_alloc | apply pw_below_drewN | apply below_drew1 | refine below_set ?_ (IsS58.ge HI0.out)) | exact HB.out), by repeat (first | (with_reducible first | exact HK.out | apply KeepBut.set_ | apply keep_drewN | apply keep_drew | apply keep_alloc) | exact HK.out)⟩
        · rw [if_neg c6] at H
          exact absurd H (by simp)
    · rw [if_neg c3] at H
      exact absurd H (by simp)
  · rw [if_neg c2] at H
    exact absurd H (by simp)

end Go.Proofs.Ytcbiijfiecjcaaa.PFnExactReadCsv
