/- Contracts of Go functions, each with the Lean function that says what it computes: begun by the print, turned by this session. No condition beyond what each theorem states. -/
import Derived.Test.YtcbiijfiecjcaaaDoorPFnCsvReadx0
import Derived.Test.YtcbiijfiecjcaaaDoorPFnCsvReadx4
import Derived.Test.YtcbiijfiecjcaaaDoorPFnCsvReadx5
namespace Go.Proofs.YtcbiijfiecjcaaaDoor.PFnCsvRead
open Go.RowKit Go.Proofs.YtcbiijfiecjcaaaDoorVFnCsvRead.PrintWords Go.Proofs.YtcbiijfiecjcaaaDoorVFnCsvRead.PrintLast Go.Proofs.YtcbiijfiecjcaaaDoorVFnCsvRead.PrintMore
attribute [local go_sem] max2_int min2_int max_two min_two max_three min_three max_four min_four   -- for this text's walks alone
set_option linter.unusedVariables false
set_option linter.unusedSimpArgs false

/-! ### impl_csvReader_after: function 47 -/
def impl_csvReader_after.f (s0_0 : ByteArray) (s0_1 : Int) : Option (Int × ByteArray × Int) := if 0 ≤ s0_1 then (if s0_1 ≤ (s0_0.size : Int) then (if (s0_0.extract (s0_1 : Int).toNat s0_0.size).toList = ([] : List UInt8) then (some (2, s0_0, s0_1)) else (if 0 < ((s0_0.extract (s0_1 : Int).toNat s0_0.size).size : Int) then (if (bt (s0_0.extract (s0_1 : Int).toNat s0_0.size) 0) = 44 then (some (1, s0_0, wrap64 (s0_1 + 1))) else (if (bt (s0_0.extract (s0_1 : Int).toNat s0_0.size) 0) = 10 then (some (2, s0_0, wrap64 (s0_1 + 1))) else ((strings_HasPrefix.f (s0_0.extract (s0_1 : Int).toNat s0_0.size) (⟨#[13, 10]⟩ : ByteArray)).bind fun t135 => (if t135 = true then (some (2, s0_0, wrap64 (s0_1 + 2))) else (some (3, s0_0, s0_1)))))) else (none))) else (none)) else (none)
set_option maxHeartbeats 8000000 in
set_option maxRecDepth 100000 in
theorem impl_csvReader_after.calls (g : Nat) (s0_0 : ByteArray) (s0_1 : Int) (r1 : Int) (r2 : ByteArray) (r3 : Int) (w0 w : World) (hI : IsS67 w0 w g s0_0 s0_1) (hB : Below w0.heap.size w0 w) (h : impl_csvReader_after.f s0_0 s0_1 = some (r1, r2, r3)) :
    Calls Tryd.prog 47 #[.pointer (some ⟨g, 0, none⟩)] w fun e w' => e = .returned (.int .i64 r1) ∧ IsS67 w0 w' g r2 r3 ∧ Below w0.heap.size w0 w' ∧ KeepBut w w' g none := by
  have HI0 := Aside0.mk hI
  have HK := Aside0.mk (KeepBut.refl w g none)
  have HL := Aside0.mk hB.size
  clear hI
  have HW0 := Aside0.mk hB.size
  have HB := Aside0.mk hB
  clear hB
  have H : (if 0 ≤ s0_1 then (if s0_1 ≤ (s0_0.size : Int) then (if (s0_0.extract (s0_1 : Int).toNat s0_0.size).toList = ([] : List UInt8) then (some (2, s0_0, s0_1)) else (if 0 < ((s0_0.extract (s0_1 : Int).toNat s0_0.size).size : Int) then (if (bt (s0_0.extract (s0_1 : Int).toNat s0_0.size) 0) = 44 then (some (1, s0_0, wrap64 (s0_1 + 1))) else (if (bt (s0_0.extract (s0_1 : Int).toNat s0_0.size) 0) = 10 then (some (2, s0_0, wrap64 (s0_1 + 1))) else ((strings_HasPrefix.f (s0_0.extract (s0_1 : Int).toNat s0_0.size) (⟨#[13, 10]⟩ : ByteArray)).bind fun t135 => (if t135 = true then (some (2, s0_0, wrap64 (s0_1 + 2))) else (some (3, s0_0, s0_1)))))) else (none))) else (none)) else (none)) = some (r1, r2, r3) := h
  clear h
  by_cases c2 : 0 ≤ s0_1
  · rw [if_pos c2] at H
    have c2b0 := eq_true c2
    have c2b1 : decide (0 ≤ s0_1) = true := decide_eq_true c2
    clear c2
    by_cases c3 : s0_1 ≤ (s0_0.size : Int)
    · rw [if_pos c3] at H
      have c3b0 := eq_true c3
      have c3b1 : decide (s0_1 ≤ (s0_0.size : Int)) = true := decide_eq_true c3
      clear c3
      by_cases c4 : (s0_0.extract (s0_1 : Int).toNat s0_0.size).toList = ([] : List UInt8)
      · rw [if_pos c4] at H
        have c4b0 : ((s0_0.extract (s0_1 : Int).toNat s0_0.size).toList == ([] : List UInt8)) = true := beq_iff_eq.mpr c4
        have c4b1 : ((s0_0.extract (s0_1 : Int).toNat s0_0.size).toList != ([] : List UInt8)) = false := bne_eq_false_iff_eq.mpr c4
        clear c4
        simp only [Option.some.injEq, Prod.mk.injEq] at H
        obtain ⟨rfl, rfl, rfl⟩ := H
        obtain ⟨HGz5, hgz5⟩ := HI0.out
        have hcz5_0 := cellS67_0 HGz5
        have hcz5_1 := cellS67_1 HGz5
        have hfz5_0 := blk_frozen HGz5 0
        have hfz5_1 := blk_frozen HGz5 1
        clear HGz5 hgz5
        go_enter Tryd.func47, Tryd.ntmps47
        go_wp2
        repeat (go_quiet (fail); try go_wp2)
        go_ret
        exact ⟨rf_, by repeat (first | (with_reducible first | exact HI0.out | apply IsS67.alloc | apply IsS67.drewN | apply IsS67.drew | apply IsS67.set_0 | apply IsS67.set_1) | exact HI0.out), by repeat (first | (with_reducible first | exact HB.out | apply below_alloc | apply pw_below_drewN | apply below_drew1 | refine below_set ?_ (IsS67.ge HI0.out)) | exact HB.out), by repeat (first | (with_reducible first | exact HK.out | apply KeepBut.set_ | apply keep_drewN | apply keep_drew | apply keep_alloc) | exact HK.out)⟩
      · rw [if_neg c4] at H
        have c4b0 : ((s0_0.extract (s0_1 : Int).toNat s0_0.size).toList == ([] : List UInt8)) = false := beq_eq_false_iff_ne.mpr c4
        have c4b1 : ((s0_0.extract (s0_1 : Int).toNat s0_0.size).toList != ([] : List UInt8)) = true := bne_iff_ne.mpr c4
        by_cases c6 : 0 < ((s0_0.extract (s0_1 : Int).toNat s0_0.size).size : Int)
        · rw [if_pos c6] at H
          have c6b0 : decide (0 < ((s0_0.extract (s0_1 : Int).toNat s0_0.size).size : Int)) = true := decide_eq_true c6
          have cz_ : (0 < s0_0.size - s0_1.toNat) = True := eq_true (by have h_ := c6; simp only [ByteArray.size_extract] at h_; omega)
          have c6b1 : decide (0 < (s0_0.extract (s0_1 : Int).toNat s0_0.size).size) = true := decide_eq_true (by omega)
          clear c6
          by_cases c8 : (bt (s0_0.extract (s0_1 : Int).toNat s0_0.size) 0) = 44
          · rw [if_pos c8] at H
            have c8b0 : ((bt (s0_0.extract (s0_1 : Int).toNat s0_0.size) 0) == 44) = true := beq_iff_eq.mpr c8
            have c8b1 : ((bt (s0_0.extract (s0_1 : Int).toNat s0_0.size) 0) != 44) = false := bne_eq_false_iff_eq.mpr c8
            clear c8
            simp only [Option.some.injEq, Prod.mk.injEq] at H
            obtain ⟨rfl, rfl, rfl⟩ := H
            obtain ⟨HGz9, hgz9⟩ := HI0.out
            have hcz9_0 := cellS67_0 HGz9
            have hcz9_1 := cellS67_1 HGz9
            have hfz9_0 := blk_frozen HGz9 0
            have hfz9_1 := blk_frozen HGz9 1
            clear HGz9 hgz9
            have p7 : 0 ≤ (0 : Int) := (by omega)
            have q7 : 0 < (s0_0.extract (s0_1 : Int).toNat s0_0.size).size := (by have : (0 : Int) < ((s0_0.extract (s0_1 : Int).toNat s0_0.size).size : Int) := of_decide_eq_true (by first | (with_reducible assumption) | assumption); omega)
            have hx7 : ∀ h : 0 < (s0_0.extract (s0_1 : Int).toNat s0_0.size).size, (((s0_0.extract (s0_1 : Int).toNat s0_0.size)[0]'h).toNat : Int) = bt (s0_0.extract (s0_1 : Int).toNat s0_0.size) 0 := bt_at (s0_0.extract (s0_1 : Int).toNat s0_0.size) 0
            clear p7
            have qi7 : (0 < ((s0_0.extract (s0_1 : Int).toNat s0_0.size).size : Int)) = True := eq_true (of_decide_eq_true (by first | (with_reducible assumption) | assumption))
            replace q7 := eq_true q7
            go_enter Tryd.func47, Tryd.ntmps47
            go_wp2
            repeat (go_quiet (fail); try go_wp2)
            go_ret
            exact ⟨rf_, by repeat (first | (with_reducible first | exact HI0.out | apply IsS67.alloc | apply IsS67.drewN | apply IsS67.drew | apply IsS67.set_0 | apply IsS67.set_1) | exact HI0.out), by repeat (first | (with_reducible first | exact HB.out | apply below_alloc | apply pw_below_drewN | apply below_drew1 | refine below_set ?_ (IsS67.ge HI0.out)) | exact HB.out), by repeat (first | (with_reducible first | exact HK.out | apply KeepBut.set_ | apply keep_drewN | apply keep_drew | apply keep_alloc) | exact HK.out)⟩
          · rw [if_neg c8] at H
            have c8b0 : ((bt (s0_0.extract (s0_1 : Int).toNat s0_0.size) 0) == 44) = false := beq_eq_false_iff_ne.mpr c8
            have c8b1 : ((bt (s0_0.extract (s0_1 : Int).toNat s0_0.size) 0) != 44) = true := bne_iff_ne.mpr c8
            by_cases c11 : (bt (s0_0.extract (s0_1 : Int).toNat s0_0.size) 0) = 10
            · rw [if_pos c11] at H
              have c11b0 : ((bt (s0_0.extract (s0_1 : Int).toNat s0_0.size) 0) == 10) = true := beq_iff_eq.mpr c11
              have c11b1 : ((bt (s0_0.extract (s0_1 : Int).toNat s0_0.size) 0) != 10) = false := bne_eq_false_iff_eq.mpr c11
              clear c11
              simp only [Option.some.injEq, Prod.mk.injEq] at H
              obtain ⟨rfl, rfl, rfl⟩ := H
              obtain ⟨HGz12, hgz12⟩ := HI0.out
              have hcz12_0 := cellS67_0 HGz12
              have hcz12_1 := cellS67_1 HGz12
              have hfz12_0 := blk_frozen HGz12 0
              have hfz12_1 := blk_frozen HGz12 1
              clear HGz12 hgz12
              have p7 : 0 ≤ (0 : Int) := (by omega)
              have q7 : 0 < (s0_0.extract (s0_1 : Int).toNat s0_0.size).size := (by have : (0 : Int) < ((s0_0.extract (s0_1 : Int).toNat s0_0.size).size : Int) := of_decide_eq_true (by first | (with_reducible assumption) | assumption); omega)
              have hx7 : ∀ h : 0 < (s0_0.extract (s0_1 : Int).toNat s0_0.size).size, (((s0_0.extract (s0_1 : Int).toNat s0_0.size)[0]'h).toNat : Int) = bt (s0_0.extract (s0_1 : Int).toNat s0_0.size) 0 := bt_at (s0_0.extract (s0_1 : Int).toNat s0_0.size) 0
              clear p7
              have qi7 : (0 < ((s0_0.extract (s0_1 : Int).toNat s0_0.size).size : Int)) = True := eq_true (of_decide_eq_true (by first | (with_reducible assumption) | assumption))
              replace q7 := eq_true q7
              have p10 : 0 ≤ (0 : Int) := (by omega)
              have q10 : 0 < (s0_0.extract (s0_1 : Int).toNat s0_0.size).size := (by have : (0 : Int) < ((s0_0.extract (s0_1 : Int).toNat s0_0.size).size : Int) := of_decide_eq_true (by first | (with_reducible assumption) | assumption); omega)
              have hx10 : ∀ h : 0 < (s0_0.extract (s0_1 : Int).toNat s0_0.size).size, (((s0_0.extract (s0_1 : Int).toNat s0_0.size)[0]'h).toNat : Int) = bt (s0_0.extract (s0_1 : Int).toNat s0_0.size) 0 := bt_at (s0_0.extract (s0_1 : Int).toNat s0_0.size) 0
              clear p10
              have qi10 : (0 < ((s0_0.extract (s0_1 : Int).toNat s0_0.size).size : Int)) = True := eq_true (of_decide_eq_true (by first | (with_reducible assumption) | assumption))
              replace q10 := eq_true q10
              go_enter Tryd.func47, Tryd.ntmps47
              go_wp2
              repeat (go_quiet (fail); try go_wp2)
              go_ret
              exact ⟨rf_, by repeat (first | (with_reducible first | exact HI0.out | apply IsS67.alloc | apply IsS67.drewN | apply IsS67.drew | apply IsS67.set_0 | apply IsS67.set_1) | exact HI0.out), by repeat (first | (with_reducible first | exact HB.out | apply below_alloc | apply pw_below_drewN | apply below_drew1 | refine below_set ?_ (IsS67.ge HI0.out)) | exact HB.out), by repeat (first | (with_reducible first | exact HK.out | apply KeepBut.set_ | apply keep_drewN | apply keep_drew | apply keep_alloc) | exact HK.out)⟩
            · rw [if_neg c11] at H
              have c11b0 : ((bt (s0_0.extract (s0_1 : Int).toNat s0_0.size) 0) == 10) = false := beq_eq_false_iff_ne.mpr c11
              have c11b1 : ((bt (s0_0.extract (s0_1 : Int).toNat s0_0.size) 0) != 10) = true := bne_iff_ne.mpr c11
              replace H := Option.bind_eq_some_iff.mp H
              obtain ⟨t135, A130, H⟩ := H
              replace H : (if t135 = true then (some (2, s0_0, wrap64 (s0_1 + 2))) else (some (3, s0_0, s0_1))) = some (r1, r2, r3) := H
              have A13 := Aside0.mk A130
              clear A130
              by_cases c14 : t135 = true
              · subst c14
                have H1 : (some (2, s0_0, wrap64 (s0_1 + 2))) = some (r1, r2, r3) := by rw [if_pos rfl] at H; exact H
                clear H
                have H := H1
                clear H1
                simp only [Option.some.injEq, Prod.mk.injEq] at H
                obtain ⟨rfl, rfl, rfl⟩ := H
                obtain ⟨HGz15, hgz15⟩ := HI0.out
                have hcz15_0 := cellS67_0 HGz15
                have hcz15_1 := cellS67_1 HGz15
                have hfz15_0 := blk_frozen HGz15 0
                have hfz15_1 := blk_frozen HGz15 1
                clear HGz15 hgz15
                have p7 : 0 ≤ (0 : Int) := (by omega)
                have q7 : 0 < (s0_0.extract (s0_1 : Int).toNat s0_0.size).size := (by have : (0 : Int) < ((s0_0.extract (s0_1 : Int).toNat s0_0.size).size : Int) := of_decide_eq_true (by first | (with_reducible assumption) | assumption); omega)
                have hx7 : ∀ h : 0 < (s0_0.extract (s0_1 : Int).toNat s0_0.size).size, (((s0_0.extract (s0_1 : Int).toNat s0_0.size)[0]'h).toNat : Int) = bt (s0_0.extract (s0_1 : Int).toNat s0_0.size) 0 := bt_at (s0_0.extract (s0_1 : Int).toNat s0_0.size) 0
                clear p7
                have qi7 : (0 < ((s0_0.extract (s0_1 : Int).toNat s0_0.size).size : Int)) = True := eq_true (of_decide_eq_true (by first | (with_reducible assumption) | assumption))
                replace q7 := eq_true q7
                have p10 : 0 ≤ (0 : Int) := (by omega)
                have q10 : 0 < (s0_0.extract (s0_1 : Int).toNat s0_0.size).size := (by have : (0 : Int) < ((s0_0.extract (s0_1 : Int).toNat s0_0.size).size : Int) := of_decide_eq_true (by first | (with_reducible assumption) | assumption); omega)
                have hx10 : ∀ h : 0 < (s0_0.extract (s0_1 : Int).toNat s0_0.size).size, (((s0_0.extract (s0_1 : Int).toNat s0_0.size)[0]'h).toNat : Int) = bt (s0_0.extract (s0_1 : Int).toNat s0_0.size) 0 := bt_at (s0_0.extract (s0_1 : Int).toNat s0_0.size) 0
                clear p10
                have qi10 : (0 < ((s0_0.extract (s0_1 : Int).toNat s0_0.size).size : Int)) = True := eq_true (of_decide_eq_true (by first | (with_reducible assumption) | assumption))
                replace q10 := eq_true q10
                go_enter Tryd.func47, Tryd.ntmps47
                go_wp2_with (first | (go_at_call 67; (with_reducible refine (strings_HasPrefix.calls (s0_0.extract (s0_1 : Int).toNat s0_0.size) (⟨#[13, 10]⟩ : ByteArray) true _ A13.out).mono ?_); rintro e w' ⟨rfl, ⟨nd, rfl⟩⟩; (try first | exact ⟨rfl, _, World.drewN_drewN _ _ _⟩ | exact ⟨rfl, _, Eq.trans (World.drewN_drewN _ _ _) (congrArg (World.drewN _) (Nat.add_assoc _ _ _))⟩)))
                repeat (go_quiet (first | (go_at_call 67; (with_reducible refine (strings_HasPrefix.calls (s0_0.extract (s0_1 : Int).toNat s0_0.size) (⟨#[13, 10]⟩ : ByteArray) true _ A13.out).mono ?_); rintro e w' ⟨rfl, ⟨nd, rfl⟩⟩; (try first | exact ⟨rfl, _, World.drewN_drewN _ _ _⟩ | exact ⟨rfl, _, Eq.trans (World.drewN_drewN _ _ _) (congrArg (World.drewN _) (Nat.add_assoc _ _ _))⟩))); try go_wp2_with (first | (go_at_call 67; (with_reducible refine (strings_HasPrefix.calls (s0_0.extract (s0_1 : Int).toNat s0_0.size) (⟨#[13, 10]⟩ : ByteArray) true _ A13.out).mono ?_); rintro e w' ⟨rfl, ⟨nd, rfl⟩⟩; (try first | exact ⟨rfl, _, World.drewN_drewN _ _ _⟩ | exact ⟨rfl, _, Eq.trans (World.drewN_drewN _ _ _) (congrArg (World.drewN _) (Nat.add_assoc _ _ _))⟩))))
                go_ret
                exact ⟨rf_, by repeat (first | (with_reducible first | exact HI0.out | apply IsS67.alloc | apply IsS67.drewN | apply IsS67.drew | apply IsS67.set_0 | apply IsS67.set_1) | exact HI0.out), by repeat (first | (with_reducible first | exact HB.out | apply below_alloc | apply pw_below_drewN | apply below_drew1 | refine below_set ?_ (IsS67.ge HI0.out)) | exact HB.out), by repeat (first | (with_reducible first | exact HK.out | apply KeepBut.set_ | apply keep_drewN | apply keep_drew | apply keep_alloc) | exact HK.out)⟩
              · replace c14 := Bool.eq_false_iff.mpr c14
                subst c14
                have H1 : (some (3, s0_0, s0_1)) = some (r1, r2, r3) := by rw [if_neg (show ¬ (false = true) by decide)] at H; exact H
                clear H
                have H := H1
                clear H1
                simp only [Option.some.injEq, Prod.mk.injEq] at H
                obtain ⟨rfl, rfl, rfl⟩ := H
                obtain ⟨HGz16, hgz16⟩ := HI0.out
                have hcz16_0 := cellS67_0 HGz16
                have hcz16_1 := cellS67_1 HGz16
                have hfz16_0 := blk_frozen HGz16 0
                have hfz16_1 := blk_frozen HGz16 1
                clear HGz16 hgz16
                have p7 : 0 ≤ (0 : Int) := (by omega)
                have q7 : 0 < (s0_0.extract (s0_1 : Int).toNat s0_0.size).size := (by have : (0 : Int) < ((s0_0.extract (s0_1 : Int).toNat s0_0.size).size : Int) := of_decide_eq_true (by first | (with_reducible assumption) | assumption); omega)
                have hx7 : ∀ h : 0 < (s0_0.extract (s0_1 : Int).toNat s0_0.size).size, (((s0_0.extract (s0_1 : Int).toNat s0_0.size)[0]'h).toNat : Int) = bt (s0_0.extract (s0_1 : Int).toNat s0_0.size) 0 := bt_at (s0_0.extract (s0_1 : Int).toNat s0_0.size) 0
                clear p7
                have qi7 : (0 < ((s0_0.extract (s0_1 : Int).toNat s0_0.size).size : Int)) = True := eq_true (of_decide_eq_true (by first | (with_reducible assumption) | assumption))
                replace q7 := eq_true q7
                have p10 : 0 ≤ (0 : Int) := (by omega)
                have q10 : 0 < (s0_0.extract (s0_1 : Int).toNat s0_0.size).size := (by have : (0 : Int) < ((s0_0.extract (s0_1 : Int).toNat s0_0.size).size : Int) := of_decide_eq_true (by first | (with_reducible assumption) | assumption); omega)
                have hx10 : ∀ h : 0 < (s0_0.extract (s0_1 : Int).toNat s0_0.size).size, (((s0_0.extract (s0_1 : Int).toNat s0_0.size)[0]'h).toNat : Int) = bt (s0_0.extract (s0_1 : Int).toNat s0_0.size) 0 := bt_at (s0_0.extract (s0_1 : Int).toNat s0_0.size) 0
                clear p10
                have qi10 : (0 < ((s0_0.extract (s0_1 : Int).toNat s0_0.size).size : Int)) = True := eq_true (of_decide_eq_true (by first | (with_reducible assumption) | assumption))
                replace q10 := eq_true q10
                go_enter Tryd.func47, Tryd.ntmps47
                go_wp2_with (first | (go_at_call 67; (with_reducible refine (strings_HasPrefix.calls (s0_0.extract (s0_1 : Int).toNat s0_0.size) (⟨#[13, 10]⟩ : ByteArray) false _ A13.out).mono ?_); rintro e w' ⟨rfl, ⟨nd, rfl⟩⟩; (try first | exact ⟨rfl, _, World.drewN_drewN _ _ _⟩ | exact ⟨rfl, _, Eq.trans (World.drewN_drewN _ _ _) (congrArg (World.drewN _) (Nat.add_assoc _ _ _))⟩)))
                repeat (go_quiet (first | (go_at_call 67; (with_reducible refine (strings_HasPrefix.calls (s0_0.extract (s0_1 : Int).toNat s0_0.size) (⟨#[13, 10]⟩ : ByteArray) false _ A13.out).mono ?_); rintro e w' ⟨rfl, ⟨nd, rfl⟩⟩; (try first | exact ⟨rfl, _, World.drewN_drewN _ _ _⟩ | exact ⟨rfl, _, Eq.trans (World.drewN_drewN _ _ _) (congrArg (World.drewN _) (Nat.add_assoc _ _ _))⟩))); try go_wp2_with (first | (go_at_call 67; (with_reducible refine (strings_HasPrefix.calls (s0_0.extract (s0_1 : Int).toNat s0_0.size) (⟨#[13, 10]⟩ : ByteArray) false _ A13.out).mono ?_); rintro e w' ⟨rfl, ⟨nd, rfl⟩⟩; (try first | exact ⟨rfl, _, World.drewN_drewN _ _ _⟩ | exact ⟨rfl, _, Eq.trans (World.drewN_drewN _ _ _) (congrArg (World.drewN _) (Nat.add_assoc _ _ _))⟩))))
                go_ret
                exact ⟨rf_, by repeat (first | (with_reducible first | exact HI0.out | apply IsS67.alloc | apply IsS67.drewN | apply IsS67.drew | apply IsS67.set_0 | apply IsS67.set_1) | exact HI0.out), by repeat (first | (with_reducible first | exact HB.out | apply below_alloc | apply pw_below_drewN | apply below_drew1 | refine below_set ?_ (IsS67.ge HI0.out)) | exact HB.out), by repeat (first | (with_reducible first | exact HK.out | apply KeepBut.set_ | apply keep_drewN | apply keep_drew | apply keep_alloc) | exact HK.out)⟩
        · rw [if_neg c6] at H
          exact absurd H (by simp)
    · rw [if_neg c3] at H
      exact absurd H (by simp)
  · rw [if_neg c2] at H
    exact absurd H (by simp)

/-! ### impl_ReadCsv: function 22 -/
mutual
def impl_ReadCsv.l0 : Nat → ByteArray → List (List ByteArray) → List ByteArray → ByteArray → Int → Option ((List (List ByteArray)) × Int × Int × Int)
  | 0, _, _, _, _, _ => none
  | k + 1, x0, x5, x6, x138000, x138001 => if x138001 < (x0.size : Int) then (impl_ReadCsv.j1 k x0 x5 x6 true x138000 x138001) else (impl_ReadCsv.j1 k x0 x5 x6 (decide ((x6.length : Int) > 0)) x138000 x138001)
def impl_ReadCsv.j1 : Nat → ByteArray → List (List ByteArray) → List ByteArray → Bool → ByteArray → Int → Option ((List (List ByteArray)) × Int × Int × Int)
  | 0, _, _, _, _, _, _ => none
  | k + 1, x0, x5, x6, x30, x138000, x138001 => if x30 = true then (if x138001 < (x0.size : Int) then (if 0 ≤ x138001 then (impl_ReadCsv.j2 k x0 x5 x6 true ((bt x0 x138001) == 34) x138000 x138001) else (none)) else (impl_ReadCsv.j2 k x0 x5 x6 true false x138000 x138001)) else (some (x5, 0, 0, 0))
def impl_ReadCsv.j2 : Nat → ByteArray → List (List ByteArray) → List ByteArray → Bool → Bool → ByteArray → Int → Option ((List (List ByteArray)) × Int × Int × Int)
  | 0, _, _, _, _, _, _, _ => none
  | k + 1, x0, x5, x6, x8, x46, x138000, x138001 => if x46 = true then ((impl_csvReader_quoted.f k x138000 x138001).bind fun bt144 => (impl_ReadCsv.j3 k x0 x5 x6 bt144.1 bt144.2.1 bt144.2.2.1 bt144.2.2.2)) else ((impl_csvReader_plain.f x138000 x138001).bind fun bt148 => (impl_ReadCsv.j3 k x0 x5 x6 bt148.1 x8 bt148.2.1 bt148.2.2))
def impl_ReadCsv.j3 : Nat → ByteArray → List (List ByteArray) → List ByteArray → ByteArray → Bool → ByteArray → Int → Option ((List (List ByteArray)) × Int × Int × Int)
  | 0, _, _, _, _, _, _, _ => none
  | k + 1, x0, x5, x6, x7, x8, x138000, x138001 => if x8 = true then (if x6.length < 8796093022208 then ((some (x6 ++ [x7] : List ByteArray)).bind fun y152 => ((impl_csvReader_after.f x138000 x138001).bind fun bt155 => (if bt155.1 = 3 then (some (([] : List (List ByteArray)), 2, (x5.length : Int), (x6.length : Int))) else (if bt155.1 = 2 then (if x5.length < 5864062014805 then (impl_ReadCsv.l0 k x0 (x5 ++ [y152]) ([] : List ByteArray) bt155.2.1 bt155.2.2) else (none)) else (impl_ReadCsv.l0 k x0 x5 y152 bt155.2.1 bt155.2.2))))) else (none)) else (some (([] : List (List ByteArray)), 2, (x5.length : Int), (x6.length : Int)))
end
def impl_ReadCsv.f (k : Nat) (a0 : ByteArray) : Option ((List (List ByteArray)) × Int × Int × Int) := if (a0.size : Int) > 4000 then (some (([] : List (List ByteArray)), 1, 0, 0)) else (impl_ReadCsv.l0 k a0 (([] : List (List ByteArray))) (([] : List ByteArray)) a0 0)
theorem impl_ReadCsv.mono_l : ∀ k, (∀ y0 y1 y2 y3 y4, LeO (impl_ReadCsv.l0 k y0 y1 y2 y3 y4) (impl_ReadCsv.l0 (k + 1) y0 y1 y2 y3 y4)) ∧ (∀ y0 y1 y2 y3 y4 y5, LeO (impl_ReadCsv.j1 k y0 y1 y2 y3 y4 y5) (impl_ReadCsv.j1 (k + 1) y0 y1 y2 y3 y4 y5)) ∧ (∀ y0 y1 y2 y3 y4 y5 y6, LeO (impl_ReadCsv.j2 k y0 y1 y2 y3 y4 y5 y6) (impl_ReadCsv.j2 (k + 1) y0 y1 y2 y3 y4 y5 y6)) ∧ (∀ y0 y1 y2 y3 y4 y5 y6, LeO (impl_ReadCsv.j3 k y0 y1 y2 y3 y4 y5 y6) (impl_ReadCsv.j3 (k + 1) y0 y1 y2 y3 y4 y5 y6))
  | 0 => ⟨fun _ _ _ _ _ r h => by simp [impl_ReadCsv.l0] at h, fun _ _ _ _ _ _ r h => by simp [impl_ReadCsv.j1] at h, fun _ _ _ _ _ _ _ r h => by simp [impl_ReadCsv.j2] at h, fun _ _ _ _ _ _ _ r h => by simp [impl_ReadCsv.j3] at h⟩
  | k + 1 => by
    obtain ⟨ih0, ih1, ih2, ih3⟩ := impl_ReadCsv.mono_l k
    refine ⟨?_, ?_, ?_, ?_⟩
    · intro y0 y1 y2 y3 y4
      unfold impl_ReadCsv.l0
      repeat' first
      | (with_reducible exact ih0 _ _ _ _ _)
      | (with_reducible exact ih1 _ _ _ _ _ _)
      | (with_reducible exact ih2 _ _ _ _ _ _ _)
      | (with_reducible exact ih3 _ _ _ _ _ _ _)
      | (with_reducible exact impl_csvReader_quoted.mono _ _ _)
      | (with_reducible exact LeO.refl _)
      | (with_reducible exact LeO.none _)
      | (with_reducible refine LeO.ite ?_ ?_)
      | (with_reducible refine LeO.bind ?_ (fun _ => ?_))
      | exact ih0 _ _ _ _ _
      | exact ih1 _ _ _ _ _ _
      | exact ih2 _ _ _ _ _ _ _
      | exact ih3 _ _ _ _ _ _ _
      | exact impl_csvReader_quoted.mono _ _ _
      | exact LeO.none _
      | refine LeO.ite ?_ ?_
      | refine LeO.bind ?_ (fun _ => ?_)
    · intro y0 y1 y2 y3 y4 y5
      unfold impl_ReadCsv.j1
      repeat' first
      | (with_reducible exact ih0 _ _ _ _ _)
      | (with_reducible exact ih1 _ _ _ _ _ _)
      | (with_reducible exact ih2 _ _ _ _ _ _ _)
      | (with_reducible exact ih3 _ _ _ _ _ _ _)
      | (with_reducible exact impl_csvReader_quoted.mono _ _ _)
      | (with_reducible exact LeO.refl _)
      | (with_reducible exact LeO.none _)
      | (with_reducible refine LeO.ite ?_ ?_)
      | (with_reducible refine LeO.bind ?_ (fun _ => ?_))
      | exact ih0 _ _ _ _ _
      | exact ih1 _ _ _ _ _ _
      | exact ih2 _ _ _ _ _ _ _
      | exact ih3 _ _ _ _ _ _ _
      | exact impl_csvReader_quoted.mono _ _ _
      | exact LeO.none _
      | refine LeO.ite ?_ ?_
      | refine LeO.bind ?_ (fun _ => ?_)
    · intro y0 y1 y2 y3 y4 y5 y6
      unfold impl_ReadCsv.j2
      repeat' first
      | (with_reducible exact ih0 _ _ _ _ _)
      | (with_reducible exact ih1 _ _ _ _ _ _)
      | (with_reducible exact ih2 _ _ _ _ _ _ _)
      | (with_reducible exact ih3 _ _ _ _ _ _ _)
      | (with_reducible exact impl_csvReader_quoted.mono _ _ _)
      | (with_reducible exact LeO.refl _)
      | (with_reducible exact LeO.none _)
      | (with_reducible refine LeO.ite ?_ ?_)
      | (with_reducible refine LeO.bind ?_ (fun _ => ?_))
      | exact ih0 _ _ _ _ _
      | exact ih1 _ _ _ _ _ _
      | exact ih2 _ _ _ _ _ _ _
      | exact ih3 _ _ _ _ _ _ _
      | exact impl_csvReader_quoted.mono _ _ _
      | exact LeO.none _
      | refine LeO.ite ?_ ?_
      | refine LeO.bind ?_ (fun _ => ?_)
    · intro y0 y1 y2 y3 y4 y5 y6
      unfold impl_ReadCsv.j3
      repeat' first
      | (with_reducible exact ih0 _ _ _ _ _)
      | (with_reducible exact ih1 _ _ _ _ _ _)
      | (with_reducible exact ih2 _ _ _ _ _ _ _)
      | (with_reducible exact ih3 _ _ _ _ _ _ _)
      | (with_reducible exact impl_csvReader_quoted.mono _ _ _)
      | (with_reducible exact LeO.refl _)
      | (with_reducible exact LeO.none _)
      | (with_reducible refine LeO.ite ?_ ?_)
      | (with_reducible refine LeO.bind ?_ (fun _ => ?_))
      | exact ih0 _ _ _ _ _
      | exact ih1 _ _ _ _ _ _
      | exact ih2 _ _ _ _ _ _ _
      | exact ih3 _ _ _ _ _ _ _
      | exact impl_csvReader_quoted.mono _ _ _
      | exact LeO.none _
      | refine LeO.ite ?_ ?_
      | refine LeO.bind ?_ (fun _ => ?_)
theorem impl_ReadCsv.mono : ∀ a0 k, LeO (impl_ReadCsv.f k a0) (impl_ReadCsv.f (k + 1) a0) := by
  intro a0 k
  obtain ⟨ih0, ih1, ih2, ih3⟩ := impl_ReadCsv.mono_l k
  unfold impl_ReadCsv.f
  repeat' first
      | (with_reducible exact ih0 _ _ _ _ _)
      | (with_reducible exact ih1 _ _ _ _ _ _)
      | (with_reducible exact ih2 _ _ _ _ _ _ _)
      | (with_reducible exact ih3 _ _ _ _ _ _ _)
      | (with_reducible exact impl_csvReader_quoted.mono _ _ _)
      | (with_reducible exact LeO.refl _)
      | (with_reducible exact LeO.none _)
      | (with_reducible refine LeO.ite ?_ ?_)
      | (with_reducible refine LeO.bind ?_ (fun _ => ?_))
      | exact ih0 _ _ _ _ _
      | exact ih1 _ _ _ _ _ _
      | exact ih2 _ _ _ _ _ _ _
      | exact ih3 _ _ _ _ _ _ _
      | exact impl_csvReader_quoted.mono _ _ _
      | exact LeO.none _
      | refine LeO.ite ?_ ?_
      | refine LeO.bind ?_ (fun _ => ?_)
set_option maxHeartbeats 8000000 in
set_option maxRecDepth 100000 in
theorem impl_ReadCsv.calls (k : Nat) (a0 : ByteArray) (r1 : List (List ByteArray)) (r2 : Int) (r3 : Int) (r4 : Int) (w : World) (h : impl_ReadCsv.f k a0 = some (r1, r2, r3, r4)) :
    Calls Tryd.prog 22 #[.string a0] w fun e w' => ∃ v0_ : Value, e = .returned (.tuple #[v0_, .agg #[.int .i64 r2, .int .i64 r3, .int .i64 r4]]) ∧ Kd.S (Kd.slice 9 Kd.string) 52 w' w.heap.size (fun _ => True) v0_ r1 ∧ Below w.heap.size w w' := by
  have hu43 := Tryd.underlying43
  have hu67 := Tryd.underlying67
  have HB := Aside0.mk (Below.refl w.heap.size w)
  have H : (if (a0.size : Int) > 4000 then (some (([] : List (List ByteArray)), 1, 0, 0)) else (impl_ReadCsv.l0 k a0 (([] : List (List ByteArray))) (([] : List ByteArray)) a0 0)) = some (r1, r2, r3, r4) := h
  clear h
  by_cases c2 : (a0.size : Int) > 4000
  · rw [if_pos c2] at H
    have c2b0 : decide (4000 < (a0.size : Int)) = true := decide_eq_true c2
    have c2b1 : decide (4000 < a0.size) = true := decide_eq_true (by omega)
    clear c2
    simp only [Option.some.injEq, Prod.mk.injEq] at H
    obtain ⟨rfl, rfl, rfl, rfl⟩ := H
    go_enter Tryd.func22, Tryd.ntmps22
    go_wp2_with (first | ((with_reducible refine gate_dst (N := 3) rfl ?_); (try (refine gate_guard (by rfl) ?_; dsimp only)); refine box_event ?hg (N := 3) ?hd (cs := #[.int .i64 0, .int .i64 0, .int .i64 0]) (t := 43) ?hr ?_; (case hd => rfl); (case hg => rfl); (case hr => first | (go_simp; done) | (go_simp; rfl)); intro gb136 hg w3 hbox hb; have n0_ := Aside0.mk (below_step bel_ hb); have n1_ := Aside0.mk (hbox); have n2_ := bs_ (w := w) hg; have n3_ := bs_ (w := w) hg; clear HB; have HB := n0_; have BK136 := n1_; have GW136 := n2_; have GE136 := n3_; clear n0_ n1_ n2_ n3_; clear hb hbox hg; obtain ⟨hcz4_0, hcz4_1, hcz4_2, hfz4_0, hfz4_1, hfz4_2⟩ := cf3_ (w := w3) BK136.out))
    refine bodyPost_ret (results_tc rfl _ _ gb136 43 #[.int .i64 1, .int .i64 0, .int .i64 0] (0, 0) _ rfl (pu_ #[.int .i64 1, .int .i64 0, .int .i64 0] 2 (h := (pu_ #[.int .i64 1, .int .i64 0, .int .i64 0] 1 (h := (pu_ #[.int .i64 0, .int .i64 0, .int .i64 0] 0 (h := bk_)))))) Tryd.underlying43 rfl (by kernel_rfl)) rfl ?_
    exact ⟨_, by first | rfl | (simp [errW_none, errW_some] <;> rfl) | (simp [*, errW_none, errW_some] <;> rfl), by first | exact Kd.S_nil _ _ _ _ _ | exact Kd.N_nil _ _ _ _ _ | exact Kd.V_nil _ _ _ _ _ | exact Kd.Q_nil _ _ _ _ _ | exact Kd.R_nil _ _ _ _ _, bel_⟩
  · rw [if_neg c2] at H
    have c2b0 : decide (4000 < (a0.size : Int)) = false := decide_eq_false c2
    have c2b1 : decide (4000 < a0.size) = false := decide_eq_false (by omega)
    clear c2
    obtain ⟨y138, hy138⟩ : ∃ y_ : List (List ByteArray), y_ = (([] : List (List ByteArray))) := ⟨_, rfl⟩
    replace H : (impl_ReadCsv.l0 k a0 y138 (([] : List ByteArray)) a0 0) = some (r1, r2, r3, r4) := by first | (rw [hy138]; with_reducible exact H) | (have H2_ := (Option.bind_some _ _).symm.trans H; rw [hy138]; with_reducible exact H2_) | (have H2_ := (Option.bind_some _ _).symm.trans H; with_reducible exact H2_) | with_reducible exact H | (rw [hy138]; exact H) | exact H
    have Ny138 := Aside0.mk hy138
    clear hy138
    obtain ⟨y141, hy141⟩ : ∃ y_ : List ByteArray, y_ = (([] : List ByteArray)) := ⟨_, rfl⟩
    replace H : (impl_ReadCsv.l0 k a0 y138 y141 a0 0) = some (r1, r2, r3, r4) := by first | (rw [hy141]; with_reducible exact H) | (have H2_ := (Option.bind_some _ _).symm.trans H; rw [hy141]; with_reducible exact H2_) | (have H2_ := (Option.bind_some _ _).symm.trans H; with_reducible exact H2_) | with_reducible exact H | (rw [hy141]; exact H) | exact H
    have Ny141 := Aside0.mk hy141
    clear hy141
    have H' := Aside0.mk H
    clear H
    go_enter Tryd.func22, Tryd.ntmps22
    go_wp2_with (first | ((with_reducible refine gate_dst (N := 3) rfl ?_); (try (refine gate_guard (by rfl) ?_; dsimp only)); refine box_event ?hg (N := 3) ?hd (cs := #[.int .i64 0, .int .i64 0, .int .i64 0]) (t := 43) ?hr ?_; (case hd => rfl); (case hg => rfl); (case hr => first | (go_simp; done) | (go_simp; rfl)); intro gb136 hg w5 hbox hb; have n0_ := Aside0.mk (below_step bel_ hb); have n1_ := Aside0.mk (hbox); have n2_ := bs_ (w := w) hg; have n3_ := bs_ (w := w) hg; clear HB; have HB := n0_; have BK136 := n1_; have GW136 := n2_; have GE136 := n3_; clear n0_ n1_ n2_ n3_; clear hb hbox hg) | ((with_reducible refine gate_dst (N := 16) rfl ?_); (try (refine gate_guard (by rfl) ?_; dsimp only)); refine box_event ?hg (N := 16) ?hd (cs := #[.string a0, .int .i64 0]) (t := 67) ?hr ?_; (case hd => rfl); (case hg => rfl); (case hr => first | (go_simp; done) | (go_simp; rfl)); intro gb137 hg w6 hbox hb; have n0_ := bb_ (g := gb136) hb; have n1_ := Aside0.mk (below_step bel_ hb); have n2_ := Aside0.mk ((show IsS67 w w6 gb137 a0 0 from ⟨hbox, (by rw [hg]; exact (below_size bel_) : w.heap.size ≤ gb137)⟩)); have n3_ := bs_ (w := w) hg; have n4_ := bs_ (w := w) hg; have n5_ := nlt_ (g := gb136) hg; have n6_ := ngt_ (g := gb136) hg; clear BK136; clear HB; have BK136 := n0_; have HB := n1_; have HI137 := n2_; have GW137 := n3_; have GE137 := n4_; have NB136_137 := n5_; have NB137_136 := n6_; clear n0_ n1_ n2_ n3_ n4_ n5_ n6_; clear hb hbox hg) | ((with_reducible refine gate_dst (N := 17) rfl ?_); (try (refine gate_guard (by rfl) ?_; dsimp only)); refine Kd.S_lit (Kd.slice 9 Kd.string) _ 52 ?hg (N := 17) ?hd (xs := ([] : List (List ByteArray))) (inner := []) (ok := fun _ => True) (okp := fun _ => True) ?hr ?hp (fun _ hk => hk) trivial (Below.refl _ _) (Nat.le_refl _) (by simp) ?_; (case hd => rfl); (case hg => rfl); (case hr => first | (go_simp; done) | (go_simp; rfl)); (case hp => exact (Reps.none _ _)); intro v139 w7 ho8 hb hg_ hnew_; clear hg_ hnew_; (first | rw [← Ny138.out] at ho8 | (simp only [Int.reduceToNat] at ho8; rw [← Ny138.out] at ho8)); have n0_ := Aside0.mk (Kd.S_lower ho8 (below_size (by repeat (first | (with_reducible first | exact HB.out | apply below_alloc | apply pw_below_drewN | apply below_drew1 | refine below_set ?_ (IsS67.ge HI137.out) | refine below_set ?_ GE136.out) | exact HB.out)))); have n1_ := bb_ (g := gb136) hb; have n2_ := Aside0.mk (IsS67.below (by repeat (first | (with_reducible first | exact HI137.out | apply IsS67.alloc | apply IsS67.drewN | apply IsS67.drew | apply IsS67.set_0 | apply IsS67.set_1 | refine IsS67.far ?_ NB137_136.out _) | exact HI137.out)) hb); have n3_ := Aside0.mk (below_step (by repeat (first | (with_reducible first | exact HB.out | apply below_alloc | apply pw_below_drewN | apply below_drew1 | refine below_set ?_ (IsS67.ge HI137.out) | refine below_set ?_ GE136.out) | exact HB.out)) hb); clear BK136; clear HI137; clear HB; have HO140 := n0_; have BK136 := n1_; have HI137 := n2_; have HB := n3_; clear n0_ n1_ n2_ n3_; clear hb ho8) | ((with_reducible refine gate_dst (N := 18) rfl ?_); (try (refine gate_guard (by rfl) ?_; dsimp only)); refine Kd.R_lit Kd.string _ 9 ?hg (N := 18) ?hd (xs := ([] : List ByteArray)) (inner := []) (ok := fun _ => True) (okp := fun _ => True) ?hr ?hp (fun _ hk => hk) trivial (Below.refl _ _) (Nat.le_refl _) (by simp) ?_; (case hd => rfl); (case hg => rfl); (case hr => first | (go_simp; done) | (go_simp; rfl)); (case hp => exact (Reps.none _ _)); intro v142 w9 ho10 hb hg_ hnew_; clear hg_ hnew_; (first | rw [← Ny141.out] at ho10 | (simp only [Int.reduceToNat] at ho10; rw [← Ny141.out] at ho10)); have n0_ := Aside0.mk (Kd.S_elder' (by (with_reducible repeat (first | apply Kd.S_alloc | apply Kd.S_drewN | apply Kd.S_drew)); exact HO140.out) (Kd.R_base ho10) hb); have n1_ := Aside0.mk (Kd.R_lower ho10 (below_size (by repeat (first | (with_reducible first | exact HB.out | apply below_alloc | apply pw_below_drewN | apply below_drew1 | refine below_set ?_ (IsS67.ge HI137.out) | refine below_set ?_ GE136.out) | exact HB.out)))); have n2_ := bb_ (g := gb136) hb; have n3_ := Aside0.mk (IsS67.below (by repeat (first | (with_reducible first | exact HI137.out | apply IsS67.alloc | apply IsS67.drewN | apply IsS67.drew | apply IsS67.set_0 | apply IsS67.set_1 | refine IsS67.far ?_ NB137_136.out _) | exact HI137.out)) hb); have n4_ := Aside0.mk (below_step (by repeat (first | (with_reducible first | exact HB.out | apply below_alloc | apply pw_below_drewN | apply below_drew1 | refine below_set ?_ (IsS67.ge HI137.out) | refine below_set ?_ GE136.out) | exact HB.out)) hb); clear HO140; clear BK136; clear HI137; clear HB; have HO140 := n0_; have HO143 := n1_; have BK136 := n2_; have HI137 := n3_; have HB := n4_; clear n0_ n1_ n2_ n3_ n4_; clear hb ho10))
    go_loopg [5, 6] k (fun kq v5 v6 w' => ∃ (x5_1 : List (List ByteArray)) (x6_1 : List ByteArray) (x137000_1 : Int) (x137001_1 : Int) (x137002_1 : Int) (x138000_1 : ByteArray) (x138001_1 : Int), Aside0 (impl_ReadCsv.l0 kq a0 x5_1 x6_1 x138000_1 x138001_1 = some (r1, r2, r3, r4)) ∧ Aside0 (kq ≤ k) ∧ Aside0 (Kd.S (Kd.slice 9 Kd.string) 52 w' w.heap.size (fun k_ => some k_ ≠ (v6 : Value).ownBlock) v5 x5_1) ∧ Aside0 (Kd.R Kd.string 9 w' w.heap.size (fun _ => True) v6 x6_1) ∧ Aside0 (w'.heap[gb136]? = some (.cells #[.int .i64 x137000_1, .int .i64 x137001_1, .int .i64 x137002_1] 43 (0, 0))) ∧ Aside0 (IsS67 w w' gb137 x138000_1 x138001_1) ∧ Aside0 (Below w.heap.size w w'))
    case atStart => exact ⟨(y138), (y141), (0), (0), (0), (a0), (0), H', ⟨Nat.le_refl _⟩, ⟨by (with_reducible repeat (first | apply Kd.S_alloc | apply Kd.S_drewN | apply Kd.S_drew)); exact Kd.S_mono HO140.out (fun _ hk => hk.2)⟩, ⟨by (with_reducible repeat (first | apply Kd.R_alloc | apply Kd.R_drewN | apply Kd.R_drew)); exact HO143.out⟩, ⟨by (with_reducible repeat (first | refine bN_ _ ?_ | refine bd_ ?_ | refine ba_ _ ?_)); exact BK136.out⟩, ⟨by repeat (first | (with_reducible first | exact HI137.out | apply IsS67.alloc | apply IsS67.drewN | apply IsS67.drew | apply IsS67.set_0 | apply IsS67.set_1 | refine IsS67.far ?_ NB137_136.out _) | exact HI137.out)⟩, ⟨by repeat (first | (with_reducible first | exact HB.out | apply below_alloc | apply pw_below_drewN | apply below_drew1 | refine below_set ?_ (IsS67.ge HI137.out) | refine below_set ?_ GE136.out) | exact HB.out)⟩⟩
    case round =>
      clear H'
      try clear c2
      try clear c2b0
      try clear c2b1
      try clear p2
      try clear hcz4_0
      try clear hcz4_1
      try clear hcz4_2
      try clear hfz4_0
      try clear hfz4_1
      try clear hfz4_2
      try clear BK136
      obtain ⟨x5_1, x6_1, x137000_1, x137001_1, x137002_1, x138000_1, x138001_1, HA, HK1, HO_5, HO_6, BK136, HI137, HB⟩ := hrel
      cases gk with
      | zero => exact absurd HA.out (by simp [impl_ReadCsv.l0])
      | succ k1 =>
        have H := HA.out
        clear HA
        simp only [impl_ReadCsv.l0] at H
        have HC11 := Aside0.mk H
        clear H
        go_upto_region 4 with (fail)
        go_cut [30] (fun v30 wc => ∃ (kq : Nat) (x30_10 : Bool), v30 = .bool x30_10 ∧ Aside0 (impl_ReadCsv.j1 kq a0 x5_1 x6_1 x30_10 x138000_1 x138001_1 = some (r1, r2, r3, r4)) ∧ Aside0 (kq ≤ k1) ∧ Aside0 (Kd.S (Kd.slice 9 Kd.string) 52 wc w.heap.size (fun k_ => some k_ ≠ (u6 : Value).ownBlock) u5 x5_1) ∧ Aside0 (Kd.R Kd.string 9 wc w.heap.size (fun _ => True) u6 x6_1) ∧ Aside0 (wc.heap[gb136]? = some (.cells #[.int .i64 x137000_1, .int .i64 x137001_1, .int .i64 x137002_1] 43 (0, 0))) ∧ Aside0 (IsS67 w wc gb137 x138000_1 x138001_1) ∧ Aside0 (Below w.heap.size w wc))
        case first =>
          have H := HC11.out
          clear HC11
          by_cases c12 : x138001_1 < (a0.size : Int)
          · rw [if_pos c12] at H
            have c12b0 : decide (x138001_1 < (a0.size : Int)) = true := decide_eq_true c12
            clear c12
            (first | rw [c12b0] | (simp only [i64_w, i32_w]; rw [c12b0]) | skip)
            have H' := Aside0.mk H
            clear H
            obtain ⟨HGz13, hgz13⟩ := HI137.out
            have hcz13_0 := cellS67_0 HGz13
            have hcz13_1 := cellS67_1 HGz13
            have hfz13_0 := blk_frozen HGz13 0
            have hfz13_1 := blk_frozen HGz13 1
            clear HGz13 hgz13
            go_wp2
            go_meet
            case rel => exact ⟨_, (true), (by first | rfl | (simp; done) | (simp [*]; done)), H', ⟨by have := HK1.out; first | omega | exact Nat.le_refl _⟩, ⟨by (with_reducible repeat (first | apply Kd.S_alloc | apply Kd.S_drewN | apply Kd.S_drew)); exact HO_5.out⟩, ⟨by (with_reducible repeat (first | apply Kd.R_alloc | apply Kd.R_drewN | apply Kd.R_drew)); exact HO_6.out⟩, ⟨by (with_reducible repeat (first | refine bN_ _ ?_ | refine bd_ ?_ | refine ba_ _ ?_)); exact BK136.out⟩, ⟨by repeat (first | (with_reducible first | exact HI137.out | apply IsS67.alloc | apply IsS67.drewN | apply IsS67.drew | apply IsS67.set_0 | apply IsS67.set_1 | refine IsS67.far ?_ NB137_136.out _) | exact HI137.out)⟩, ⟨by repeat (first | (with_reducible first | exact HB.out | apply below_alloc | apply pw_below_drewN | apply below_drew1 | refine below_set ?_ (IsS67.ge HI137.out) | refine below_set ?_ GE136.out) | exact HB.out)⟩⟩
          · rw [if_neg c12] at H
            have c12b0 : decide (x138001_1 < (a0.size : Int)) = false := decide_eq_false c12
            clear c12
            (first | rw [c12b0] | (simp only [i64_w, i32_w]; rw [c12b0]) | skip)
            have H' := Aside0.mk H
            clear H
            obtain ⟨HGz14, hgz14⟩ := HI137.out
            have hcz14_0 := cellS67_0 HGz14
            have hcz14_1 := cellS67_1 HGz14
            have hfz14_0 := blk_frozen HGz14 0
            have hfz14_1 := blk_frozen HGz14 1
            clear HGz14 hgz14
            obtain ⟨Ao15, co15, eo15⟩ := Kd.R_slice HO_6.out
            subst eo15
            go_wp2
            go_meet
            case rel => exact ⟨_, (decide ((x6_1.length : Int) > 0)), (by first | rfl | (simp; done) | (simp [*]; done)), H', ⟨by have := HK1.out; first | omega | exact Nat.le_refl _⟩, ⟨by (with_reducible repeat (first | apply Kd.S_alloc | apply Kd.S_drewN | apply Kd.S_drew)); exact HO_5.out⟩, ⟨by (with_reducible repeat (first | apply Kd.R_alloc | apply Kd.R_drewN | apply Kd.R_drew)); exact HO_6.out⟩, ⟨by (with_reducible repeat (first | refine bN_ _ ?_ | refine bd_ ?_ | refine ba_ _ ?_)); exact BK136.out⟩, ⟨by repeat (first | (with_reducible first | exact HI137.out | apply IsS67.alloc | apply IsS67.drewN | apply IsS67.drew | apply IsS67.set_0 | apply IsS67.set_1 | refine IsS67.far ?_ NB137_136.out _) | exact HI137.out)⟩, ⟨by repeat (first | (with_reducible first | exact HB.out | apply below_alloc | apply pw_below_drewN | apply below_drew1 | refine below_set ?_ (IsS67.ge HI137.out) | refine below_set ?_ GE136.out) | exact HB.out)⟩⟩
        case rest =>
          clear HC11
          try clear c1
          try clear c2
          try clear c2b0
          try clear c2b1
          try clear p2
          try clear c12
          try clear c12b0
          try clear hcz13_0
          try clear hcz13_1
          try clear hcz14_0
          try clear hcz14_1
          try clear hcz4_0
          try clear hcz4_1
          try clear hcz4_2
          try clear hfz13_0
          try clear hfz13_1
          try clear hfz14_0
          try clear hfz14_1
          try clear hfz4_0
          try clear hfz4_1
          try clear hfz4_2
          try clear p2
          obtain ⟨kq, x30_10, rfl, HA, HJ10, HO_5, HO_6, BK136, HI137, HB⟩ := hcut
          cases kq with
          | zero => exact absurd HA.out (by simp [impl_ReadCsv.j1])
          | succ kj10 =>
            have H := HA.out
            clear HA
            simp only [impl_ReadCsv.j1] at H
            by_cases c16 : x30_10 = true
            · subst c16
              have H1 : (if x138001_1 < (a0.size : Int) then (if 0 ≤ x138001_1 then (impl_ReadCsv.j2 kj10 a0 x5_1 x6_1 true ((bt a0 x138001_1) == 34) x138000_1 x138001_1) else (none)) else (impl_ReadCsv.j2 kj10 a0 x5_1 x6_1 true false x138000_1 x138001_1)) = some (r1, r2, r3, r4) := by rw [if_pos rfl] at H; exact H
              clear H
              have H := H1
              clear H1
              have HC17 := Aside0.mk H
              clear H
              go_upto_region 6 with (fail)
              go_cut [46] (fun v46 wc => ∃ (kq : Nat) (x46_16 : Bool), v46 = .bool x46_16 ∧ Aside0 (impl_ReadCsv.j2 kq a0 x5_1 x6_1 true x46_16 x138000_1 x138001_1 = some (r1, r2, r3, r4)) ∧ Aside0 (kq ≤ kj10) ∧ Aside0 (Kd.S (Kd.slice 9 Kd.string) 52 wc w.heap.size (fun k_ => some k_ ≠ (u6 : Value).ownBlock) u5 x5_1) ∧ Aside0 (Kd.R Kd.string 9 wc w.heap.size (fun _ => True) u6 x6_1) ∧ Aside0 (wc.heap[gb136]? = some (.cells #[.int .i64 x137000_1, .int .i64 x137001_1, .int .i64 x137002_1] 43 (0, 0))) ∧ Aside0 (IsS67 w wc gb137 x138000_1 x138001_1) ∧ Aside0 (Below w.heap.size w wc))
              case first =>
                have H := HC17.out
                clear HC17
                by_cases c18 : x138001_1 < (a0.size : Int)
                · rw [if_pos c18] at H
                  have c18b0 : decide (x138001_1 < (a0.size : Int)) = true := decide_eq_true c18
                  clear c18
                  (first | rw [c18b0] | (simp only [i64_w, i32_w]; rw [c18b0]) | skip)
                  by_cases c19 : 0 ≤ x138001_1
                  · rw [if_pos c19] at H
                    have c19b0 : decide (0 ≤ x138001_1) = true := decide_eq_true c19
                    clear c19
                    have H' := Aside0.mk H
                    clear H
                    obtain ⟨HGz21, hgz21⟩ := HI137.out
                    have hcz21_0 := cellS67_0 HGz21
                    have hcz21_1 := cellS67_1 HGz21
                    have hfz21_0 := blk_frozen HGz21 0
                    have hfz21_1 := blk_frozen HGz21 1
                    clear HGz21 hgz21
                    have p20 : 0 ≤ (x138001_1 : Int) := of_decide_eq_true (by first | (with_reducible assumption) | assumption)
                    have q20 : x138001_1 < (a0.size : Int) := of_decide_eq_true (by first | (with_reducible assumption) | assumption)
                    have hx20 := bt_at a0 x138001_1
                    replace p20 := eq_true p20
                    replace q20 := eq_true q20
                    go_wp2
                    go_meet
                    case rel => exact ⟨_, (((bt a0 x138001_1) == 34)), (by first | rfl | (simp; done) | (simp [*]; done)), H', ⟨by have := HK1.out; have := HJ10.out; first | omega | exact Nat.le_refl _⟩, ⟨by (with_reducible repeat (first | apply Kd.S_alloc | apply Kd.S_drewN | apply Kd.S_drew)); exact HO_5.out⟩, ⟨by (with_reducible repeat (first | apply Kd.R_alloc | apply Kd.R_drewN | apply Kd.R_drew)); exact HO_6.out⟩, ⟨by (with_reducible repeat (first | refine bN_ _ ?_ | refine bd_ ?_ | refine ba_ _ ?_)); exact BK136.out⟩, ⟨by repeat (first | (with_reducible first | exact HI137.out | apply IsS67.alloc | apply IsS67.drewN | apply IsS67.drew | apply IsS67.set_0 | apply IsS67.set_1 | refine IsS67.far ?_ NB137_136.out _) | exact HI137.out)⟩, ⟨by repeat (first | (with_reducible first | exact HB.out | apply below_alloc | apply pw_below_drewN | apply below_drew1 | refine below_set ?_ (IsS67.ge HI137.out) | refine below_set ?_ GE136.out) | exact HB.out)⟩⟩
                  · rw [if_neg c19] at H
                    exact absurd H (by simp)
                · rw [if_neg c18] at H
                  have c18b0 : decide (x138001_1 < (a0.size : Int)) = false := decide_eq_false c18
                  clear c18
                  (first | rw [c18b0] | (simp only [i64_w, i32_w]; rw [c18b0]) | skip)
                  have H' := Aside0.mk H
                  clear H
                  obtain ⟨HGz22, hgz22⟩ := HI137.out
                  have hcz22_0 := cellS67_0 HGz22
                  have hcz22_1 := cellS67_1 HGz22
                  have hfz22_0 := blk_frozen HGz22 0
                  have hfz22_1 := blk_frozen HGz22 1
                  clear HGz22 hgz22
                  go_wp2
                  go_meet
                  case rel => exact ⟨_, (false), (by first | rfl | (simp; done) | (simp [*]; done)), H', ⟨by have := HK1.out; have := HJ10.out; first | omega | exact Nat.le_refl _⟩, ⟨by (with_reducible repeat (first | apply Kd.S_alloc | apply Kd.S_drewN | apply Kd.S_drew)); exact HO_5.out⟩, ⟨by (with_reducible repeat (first | apply Kd.R_alloc | apply Kd.R_drewN | apply Kd.R_drew)); exact HO_6.out⟩, ⟨by (with_reducible repeat (first | refine bN_ _ ?_ | refine bd_ ?_ | refine ba_ _ ?_)); exact BK136.out⟩, ⟨by repeat (first | (with_reducible first | exact HI137.out | apply IsS67.alloc | apply IsS67.drewN | apply IsS67.drew | apply IsS67.set_0 | apply IsS67.set_1 | refine IsS67.far ?_ NB137_136.out _) | exact HI137.out)⟩, ⟨by repeat (first | (with_reducible first | exact HB.out | apply below_alloc | apply pw_below_drewN | apply below_drew1 | refine below_set ?_ (IsS67.ge HI137.out) | refine below_set ?_ GE136.out) | exact HB.out)⟩⟩
              case rest =>
                clear HC17
                try clear c1
                try clear c2
                try clear c2b0
                try clear c2b1
                try clear p2
                try clear q2
                try clear hx2
                try clear c12
                try clear c12b0
                try clear c16
                try clear c18
                try clear c18b0
                try clear c19
                try clear c19b0
                try clear p20
                try clear q20
                try clear hx20
                try clear c22
                try clear hcz13_0
                try clear hcz13_1
                try clear hcz14_0
                try clear hcz14_1
                try clear hcz21_0
                try clear hcz21_1
                try clear hcz22_0
                try clear hcz22_1
                try clear hcz4_0
                try clear hcz4_1
                try clear hcz4_2
                try clear hfz13_0
                try clear hfz13_1
                try clear hfz14_0
                try clear hfz14_1
                try clear hfz21_0
                try clear hfz21_1
                try clear hfz22_0
                try clear hfz22_1
                try clear hfz4_0
                try clear hfz4_1
                try clear hfz4_2
                try clear p2
                try clear p20
                try clear q20
                obtain ⟨kq, x46_16, rfl, HA, HJ16, HO_5, HO_6, BK136, HI137, HB⟩ := hcut
                cases kq with
                | zero => exact absurd HA.out (by simp [impl_ReadCsv.j2])
                | succ kj16 =>
                  have H := HA.out
                  clear HA
                  simp only [impl_ReadCsv.j2] at H
                  have HC23 := Aside0.mk H
                  clear H
                  go_upto_if 46 with (fail)
                  go_cut [7, 8] (fun v7 v8 wc => ∃ (kq : Nat) (x7_22 : ByteArray) (x8_22 : Bool) (x138000_22 : ByteArray) (x138001_22 : Int), v7 = .string x7_22 ∧ v8 = .bool x8_22 ∧ Aside0 (impl_ReadCsv.j3 kq a0 x5_1 x6_1 x7_22 x8_22 x138000_22 x138001_22 = some (r1, r2, r3, r4)) ∧ Aside0 (kq ≤ kj16) ∧ Aside0 (Kd.S (Kd.slice 9 Kd.string) 52 wc w.heap.size (fun k_ => some k_ ≠ (u6 : Value).ownBlock) u5 x5_1) ∧ Aside0 (Kd.R Kd.string 9 wc w.heap.size (fun _ => True) u6 x6_1) ∧ Aside0 (wc.heap[gb136]? = some (.cells #[.int .i64 x137000_1, .int .i64 x137001_1, .int .i64 x137002_1] 43 (0, 0))) ∧ Aside0 (IsS67 w wc gb137 x138000_22 x138001_22) ∧ Aside0 (Below w.heap.size w wc))
                  case first =>
                    have H := HC23.out
                    clear HC23
                    by_cases c24 : x46_16 = true
                    · subst c24
                      have H1 : ((impl_csvReader_quoted.f kj16 x138000_1 x138001_1).bind fun bt144 => (impl_ReadCsv.j3 kj16 a0 x5_1 x6_1 bt144.1 bt144.2.1 bt144.2.2.1 bt144.2.2.2)) = some (r1, r2, r3, r4) := by rw [if_pos rfl] at H; exact H
                      clear H
                      have H := H1
                      clear H1
                      replace H := Option.bind_eq_some_iff.mp H
                      obtain ⟨⟨t144, t145, t146, t147⟩, A250, H⟩ := H
                      replace H : (impl_ReadCsv.j3 kj16 a0 x5_1 x6_1 t144 t145 t146 t147) = some (r1, r2, r3, r4) := H
                      have A25 := Aside0.mk A250
                      clear A250
                      have H' := Aside0.mk H
                      clear H
                      go_wp2_with (first | ((with_reducible refine gate_callee (f := 45) rfl ?_); refine goesL_ (some 49) rfl rfl Tryd.func45 (by kernel_rfl) rfl #[.pointer (some ⟨gb137, 0, none⟩)] rfl mp_ ?_; (with_reducible refine (impl_csvReader_quoted.calls kj16 gb137 x138000_1 x138001_1 t144 t145 t146 t147 w _ ?side1 ?side2 A25.out).mono ?_); (case side1 => repeat (first | (with_reducible first | exact HI137.out | apply IsS67.alloc | apply IsS67.drewN | apply IsS67.drew | apply IsS67.set_0 | apply IsS67.set_1 | refine IsS67.far ?_ NB137_136.out _) | exact HI137.out)); (case side2 => repeat (first | (with_reducible first | exact HB.out | apply below_alloc | apply pw_below_drewN | apply below_drew1 | refine below_set ?_ (IsS67.ge HI137.out) | refine below_set ?_ GE136.out) | exact HB.out)); rintro e w26 ⟨rfl, hi, hb, hk⟩; refine ⟨_, rfl, ?_⟩; have n0_ := Aside0.mk (Kd.S_mono (Kd.S_keep (IsS67.apartS (show IsS67 w _ gb137 x138000_1 x138001_1 from by repeat (first | (with_reducible first | exact HI137.out | apply IsS67.alloc | apply IsS67.drewN | apply IsS67.drew | apply IsS67.set_0 | apply IsS67.set_1 | refine IsS67.far ?_ NB137_136.out _) | exact HI137.out)) (by (with_reducible repeat (first | apply Kd.S_alloc | apply Kd.S_drewN | apply Kd.S_drew)); exact HO_5.out) (by decide)) hk (fun _ h => h.2)) (fun _ h => h.1)); have n1_ := Aside0.mk (Kd.R_mono (Kd.R_keep (IsS67.apart (show IsS67 w _ gb137 x138000_1 x138001_1 from by repeat (first | (with_reducible first | exact HI137.out | apply IsS67.alloc | apply IsS67.drewN | apply IsS67.drew | apply IsS67.set_0 | apply IsS67.set_1 | refine IsS67.far ?_ NB137_136.out _) | exact HI137.out)) (by (with_reducible repeat (first | apply Kd.R_alloc | apply Kd.R_drewN | apply Kd.R_drew)); exact HO_6.out) (by decide)) hk (fun _ h => h.2)) (fun _ h => h.1)); have n2_ := Aside0.mk (KeepBut.blk hk (g' := gb136) (o := .cells #[.int .i64 x137000_1, .int .i64 x137001_1, .int .i64 x137002_1] 43 (0, 0)) bk_ NB136_137.out (by simp)); have n3_ := Aside0.mk (hb); have n4_ := Aside0.mk (hi); clear HO_5; clear HO_6; clear BK136; clear HB; clear HI137; have HO_5 := n0_; have HO_6 := n1_; have BK136 := n2_; have HB := n3_; have HI137 := n4_; clear n0_ n1_ n2_ n3_ n4_; (try clear hb); (try clear hb2); (try clear hk); (try clear hi)))
                      go_meet
                      case rel => exact ⟨_, (t144), (t145), (t146), (t147), (by first | rfl | (simp; done) | (simp [*]; done)), (by first | rfl | (simp; done) | (simp [*]; done)), H', ⟨by have := HK1.out; have := HJ10.out; have := HJ16.out; first | omega | exact Nat.le_refl _⟩, ⟨by (with_reducible repeat (first | apply Kd.S_alloc | apply Kd.S_drewN | apply Kd.S_drew)); exact HO_5.out⟩, ⟨by (with_reducible repeat (first | apply Kd.R_alloc | apply Kd.R_drewN | apply Kd.R_drew)); exact HO_6.out⟩, ⟨by (with_reducible repeat (first | refine bN_ _ ?_ | refine bd_ ?_ | refine ba_ _ ?_)); exact BK136.out⟩, ⟨by repeat (first | (with_reducible first | exact HI137.out | apply IsS67.alloc | apply IsS67.drewN | apply IsS67.drew | apply IsS67.set_0 | apply IsS67.set_1 | refine IsS67.far ?_ NB137_136.out _) | exact HI137.out)⟩, ⟨by repeat (first | (with_reducible first | exact HB.out | apply below_alloc | apply pw_below_drewN | apply below_drew1 | refine below_set ?_ (IsS67.ge HI137.out) | refine below_set ?_ GE136.out) | exact HB.out)⟩⟩
                    · replace c24 := Bool.eq_false_iff.mpr c24
                      subst c24
                      have H1 : ((impl_csvReader_plain.f x138000_1 x138001_1).bind fun bt148 => (impl_ReadCsv.j3 kj16 a0 x5_1 x6_1 bt148.1 true bt148.2.1 bt148.2.2)) = some (r1, r2, r3, r4) := by rw [if_neg (show ¬ (false = true) by decide)] at H; exact H
                      clear H
                      have H := H1
                      clear H1
                      replace H := Option.bind_eq_some_iff.mp H
                      obtain ⟨⟨t148, t149, t150⟩, A270, H⟩ := H
                      replace H : (impl_ReadCsv.j3 kj16 a0 x5_1 x6_1 t148 true t149 t150) = some (r1, r2, r3, r4) := H
                      have A27 := Aside0.mk A270
                      clear A270
                      have H' := Aside0.mk H
                      clear H
                      go_wp2_with (first | ((with_reducible refine gate_callee (f := 46) rfl ?_); refine goesL_ (some 53) rfl rfl Tryd.func46 (by kernel_rfl) rfl #[.pointer (some ⟨gb137, 0, none⟩)] rfl mp_ ?_; (with_reducible refine (impl_csvReader_plain.calls gb137 x138000_1 x138001_1 t148 t149 t150 w _ ?side1 ?side2 A27.out).mono ?_); (case side1 => repeat (first | (with_reducible first | exact HI137.out | apply IsS67.alloc | apply IsS67.drewN | apply IsS67.drew | apply IsS67.set_0 | apply IsS67.set_1 | refine IsS67.far ?_ NB137_136.out _) | exact HI137.out)); (case side2 => repeat (first | (with_reducible first | exact HB.out | apply below_alloc | apply pw_below_drewN | apply below_drew1 | refine below_set ?_ (IsS67.ge HI137.out) | refine below_set ?_ GE136.out) | exact HB.out)); rintro e w28 ⟨rfl, hi, hb, hk⟩; refine ⟨_, rfl, ?_⟩; have n0_ := Aside0.mk (Kd.S_mono (Kd.S_keep (IsS67.apartS (show IsS67 w _ gb137 x138000_1 x138001_1 from by repeat (first | (with_reducible first | exact HI137.out | apply IsS67.alloc | apply IsS67.drewN | apply IsS67.drew | apply IsS67.set_0 | apply IsS67.set_1 | refine IsS67.far ?_ NB137_136.out _) | exact HI137.out)) (by (with_reducible repeat (first | apply Kd.S_alloc | apply Kd.S_drewN | apply Kd.S_drew)); exact HO_5.out) (by decide)) hk (fun _ h => h.2)) (fun _ h => h.1)); have n1_ := Aside0.mk (Kd.R_mono (Kd.R_keep (IsS67.apart (show IsS67 w _ gb137 x138000_1 x138001_1 from by repeat (first | (with_reducible first | exact HI137.out | apply IsS67.alloc | apply IsS67.drewN | apply IsS67.drew | apply IsS67.set_0 | apply IsS67.set_1 | refine IsS67.far ?_ NB137_136.out _) | exact HI137.out)) (by (with_reducible repeat (first | apply Kd.R_alloc | apply Kd.R_drewN | apply Kd.R_drew)); exact HO_6.out) (by decide)) hk (fun _ h => h.2)) (fun _ h => h.1)); have n2_ := Aside0.mk (KeepBut.blk hk (g' := gb136) (o := .cells #[.int .i64 x137000_1, .int .i64 x137001_1, .int .i64 x137002_1] 43 (0, 0)) bk_ NB136_137.out (by simp)); have n3_ := Aside0.mk (hb); have n4_ := Aside0.mk (hi); clear HO_5; clear HO_6; clear BK136; clear HB; clear HI137; have HO_5 := n0_; have HO_6 := n1_; have BK136 := n2_; have HB := n3_; have HI137 := n4_; clear n0_ n1_ n2_ n3_ n4_; (try clear hb); (try clear hb2); (try clear hk); (try clear hi)))
                      go_meet
                      case rel => exact ⟨_, (t148), (true), (t149), (t150), (by first | rfl | (simp; done) | (simp [*]; done)), (by first | rfl | (simp; done) | (simp [*]; done)), H', ⟨by have := HK1.out; have := HJ10.out; have := HJ16.out; first | omega | exact Nat.le_refl _⟩, ⟨by (with_reducible repeat (first | apply Kd.S_alloc | apply Kd.S_drewN | apply Kd.S_drew)); exact HO_5.out⟩, ⟨by (with_reducible repeat (first | apply Kd.R_alloc | apply Kd.R_drewN | apply Kd.R_drew)); exact HO_6.out⟩, ⟨by (with_reducible repeat (first | refine bN_ _ ?_ | refine bd_ ?_ | refine ba_ _ ?_)); exact BK136.out⟩, ⟨by repeat (first | (with_reducible first | exact HI137.out | apply IsS67.alloc | apply IsS67.drewN | apply IsS67.drew | apply IsS67.set_0 | apply IsS67.set_1 | refine IsS67.far ?_ NB137_136.out _) | exact HI137.out)⟩, ⟨by repeat (first | (with_reducible first | exact HB.out | apply below_alloc | apply pw_below_drewN | apply below_drew1 | refine below_set ?_ (IsS67.ge HI137.out) | refine below_set ?_ GE136.out) | exact HB.out)⟩⟩
                  case rest =>
                    clear HC23
                    try clear c1
                    try clear c2
                    try clear c2b0
                    try clear c2b1
                    try clear p2
                    try clear q2
                    try clear hx2
                    try clear c4
                    try clear c12
                    try clear c12b0
                    try clear c16
                    try clear c18
                    try clear c18b0
                    try clear c19
                    try clear c19b0
                    try clear p20
                    try clear q20
                    try clear hx20
                    try clear c22
                    try clear c24
                    try clear hcz13_0
                    try clear hcz13_1
                    try clear hcz14_0
                    try clear hcz14_1
                    try clear hcz21_0
                    try clear hcz21_1
                    try clear hcz22_0
                    try clear hcz22_1
                    try clear hcz4_0
                    try clear hcz4_1
                    try clear hcz4_2
                    try clear hfz13_0
                    try clear hfz13_1
                    try clear hfz14_0
                    try clear hfz14_1
                    try clear hfz21_0
                    try clear hfz21_1
                    try clear hfz22_0
                    try clear hfz22_1
                    try clear hfz4_0
                    try clear hfz4_1
                    try clear hfz4_2
                    try clear p2
                    try clear p20
                    try clear q2
                    try clear q20
                    obtain ⟨kq, x7_22, x8_22, x138000_22, x138001_22, rfl, rfl, HA, HJ22, HO_5, HO_6, BK136, HI137, HB⟩ := hcut
                    cases kq with
                    | zero => exact absurd HA.out (by simp [impl_ReadCsv.j3])
                    | succ kj22 =>
                      have H := HA.out
                      clear HA
                      simp only [impl_ReadCsv.j3] at H
                      by_cases c29 : x8_22 = true
                      · subst c29
                        have H1 : (if x6_1.length < 8796093022208 then ((some (x6_1 ++ [x7_22] : List ByteArray)).bind fun y152 => ((impl_csvReader_after.f x138000_22 x138001_22).bind fun bt155 => (if bt155.1 = 3 then (some (([] : List (List ByteArray)), 2, (x5_1.length : Int), (x6_1.length : Int))) else (if bt155.1 = 2 then (if x5_1.length < 5864062014805 then (impl_ReadCsv.l0 kj22 a0 (x5_1 ++ [y152]) ([] : List ByteArray) bt155.2.1 bt155.2.2) else (none)) else (impl_ReadCsv.l0 kj22 a0 x5_1 y152 bt155.2.1 bt155.2.2))))) else (none)) = some (r1, r2, r3, r4) := by rw [if_pos rfl] at H; exact H
                        clear H
                        have H := H1
                        clear H1
                        by_cases c30 : x6_1.length < 8796093022208
                        · rw [if_pos c30] at H
                          have LMc30 := Aside0.mk c30
                          clear c30
                          obtain ⟨y152, hy152⟩ : ∃ y_ : List ByteArray, y_ = (x6_1 ++ [x7_22]) := ⟨_, rfl⟩
                          replace H : ((impl_csvReader_after.f x138000_22 x138001_22).bind fun bt155 => (if bt155.1 = 3 then (some (([] : List (List ByteArray)), 2, (x5_1.length : Int), (x6_1.length : Int))) else (if bt155.1 = 2 then (if x5_1.length < 5864062014805 then (impl_ReadCsv.l0 kj22 a0 (x5_1 ++ [y152]) ([] : List ByteArray) bt155.2.1 bt155.2.2) else (none)) else (impl_ReadCsv.l0 kj22 a0 x5_1 y152 bt155.2.1 bt155.2.2)))) = some (r1, r2, r3, r4) := by first | (rw [hy152]; with_reducible exact H) | (have H2_ := (Option.bind_some _ _).symm.trans H; rw [hy152]; with_reducible exact H2_) | (have H2_ := (Option.bind_some _ _).symm.trans H; with_reducible exact H2_) | with_reducible exact H | (rw [hy152]; exact H) | exact H
                          have Ny152 := Aside0.mk hy152
                          clear hy152
                          replace H := Option.bind_eq_some_iff.mp H
                          obtain ⟨⟨t155, t156, t157⟩, A310, H⟩ := H
                          replace H : (if t155 = 3 then (some (([] : List (List ByteArray)), 2, (x5_1.length : Int), (x6_1.length : Int))) else (if t155 = 2 then (if x5_1.length < 5864062014805 then (impl_ReadCsv.l0 kj22 a0 (x5_1 ++ [y152]) ([] : List ByteArray) t156 t157) else (none)) else (impl_ReadCsv.l0 kj22 a0 x5_1 y152 t156 t157))) = some (r1, r2, r3, r4) := H
                          have A31 := Aside0.mk A310
                          clear A310
                          by_cases c32 : t155 = 3
                          · rw [if_pos c32] at H
                            have c32b0 : (t155 == 3) = true := beq_iff_eq.mpr c32
                            have c32b1 : (t155 != 3) = false := bne_eq_false_iff_eq.mpr c32
                            clear c32
                            simp only [Option.some.injEq, Prod.mk.injEq] at H
                            obtain ⟨rfl, rfl, rfl, rfl⟩ := H
                            obtain ⟨Ao33, co33, eo33⟩ := Kd.S_slice HO_5.out
                            subst eo33
                            obtain ⟨Ao34, co34, eo34⟩ := Kd.R_slice HO_6.out
                            subst eo34
                            try go_wp2_with (first | ((with_reducible refine gate_dst (N := 9) rfl ?_); (try (refine gate_guard (by rfl) ?_; dsimp only)); refine box_event ?hg (N := 9) ?hd (cs := #[.int .i64 0, .int .i64 0, .int .i64 0]) (t := 43) ?hr ?_; (case hd => rfl); (case hg => rfl); (case hr => first | (go_simp; done) | (go_simp; rfl)); intro gb151 hg w35 hbox hb; have n0_ := Aside0.mk (Kd.S_below (by (with_reducible repeat (first | apply Kd.S_alloc | apply Kd.S_drewN | apply Kd.S_drew)); exact HO_5.out) hb); have n1_ := Aside0.mk (Kd.R_below (by (with_reducible repeat (first | apply Kd.R_alloc | apply Kd.R_drewN | apply Kd.R_drew)); exact HO_6.out) hb); have n2_ := bb_ (g := gb136) hb; have n3_ := Aside0.mk (IsS67.below (by repeat (first | (with_reducible first | exact HI137.out | apply IsS67.alloc | apply IsS67.drewN | apply IsS67.drew | apply IsS67.set_0 | apply IsS67.set_1 | refine IsS67.far ?_ NB137_136.out _) | exact HI137.out)) hb); have n4_ := Aside0.mk (below_step (by repeat (first | (with_reducible first | exact HB.out | apply below_alloc | apply pw_below_drewN | apply below_drew1 | refine below_set ?_ (IsS67.ge HI137.out) | refine below_set ?_ GE136.out) | exact HB.out)) hb); have n5_ := Aside0.mk (hbox); have n6_ := Aside0.mk ((by rw [hg]; exact (below_size (by repeat (first | (with_reducible first | exact HB.out | apply below_alloc | apply pw_below_drewN | apply below_drew1 | refine below_set ?_ (IsS67.ge HI137.out) | refine below_set ?_ GE136.out) | exact HB.out))) : w.heap.size ≤ gb151)); have n7_ := Aside0.mk ((by rw [hg]; exact (below_size (by repeat (first | (with_reducible first | exact HB.out | apply below_alloc | apply pw_below_drewN | apply below_drew1 | refine below_set ?_ (IsS67.ge HI137.out) | refine below_set ?_ GE136.out) | exact HB.out))) : w.heap.size ≤ gb151)); have n8_ := nlt_ (g := gb136) hg; have n9_ := ngt_ (g := gb136) hg; have n10_ := Aside0.mk ((by rw [hg]; exact Nat.ne_of_lt (IsS67.lt (show IsS67 w _ gb137 x138000_22 x138001_22 from by repeat (first | (with_reducible first | exact HI137.out | apply IsS67.alloc | apply IsS67.drewN | apply IsS67.drew | apply IsS67.set_0 | apply IsS67.set_1 | refine IsS67.far ?_ NB137_136.out _) | exact HI137.out))) : gb137 ≠ gb151)); have n11_ := Aside0.mk ((by rw [hg]; exact Nat.ne_of_gt (IsS67.lt (show IsS67 w _ gb137 x138000_22 x138001_22 from by repeat (first | (with_reducible first | exact HI137.out | apply IsS67.alloc | apply IsS67.drewN | apply IsS67.drew | apply IsS67.set_0 | apply IsS67.set_1 | refine IsS67.far ?_ NB137_136.out _) | exact HI137.out))) : gb151 ≠ gb137)); clear HO_5; clear HO_6; clear BK136; clear HI137; clear HB; have HO_5 := n0_; have HO_6 := n1_; have BK136 := n2_; have HI137 := n3_; have HB := n4_; have BK151 := n5_; have GW151 := n6_; have GE151 := n7_; have NB136_151 := n8_; have NB151_136 := n9_; have NB137_151 := n10_; have NB151_137 := n11_; clear n0_ n1_ n2_ n3_ n4_ n5_ n6_ n7_ n8_ n9_ n10_ n11_; clear hb hbox hg; have hnb36 := NB151_136.out; have hnc36 := NB136_151.out; have hnb37 := NB151_137.out; have hnc37 := NB137_151.out; obtain ⟨hcz38_0, hcz38_1, hcz38_2, hfz38_0, hfz38_1, hfz38_2⟩ := cf3_ (w := w35) BK151.out) | ((with_reducible refine gate_builtin (b := .append) (xs := #[.tmp 62, .tmp 64]) rfl ?_); (try (refine gate_guard (by rfl) ?_; dsimp only)); at_builtin; refine Kd.R_append Kd.string (w0 := w) w.heap.size rfl (.tmp 62) (.tmp 64) 52 9 (.string ⟨#[]⟩) 16 rfl Tryd.underlying52 info9 rfl (by decide) (by omega) (.slice Ao34 x6_1.length co34) x6_1 x7_22 [.string x7_22] (fun _ => True) (fun _ => False) rfl (by first | (go_simp; done) | (go_simp; rfl)) ?aP (fun _ hk => hk.elim) ?aF ?aO ?aB ?aS ?aL ?_; (case aP => exact rfl); (case aB => exact (by repeat (first | (with_reducible first | exact HB.out | apply below_alloc | apply pw_below_drewN | apply below_drew1 | refine below_set ?_ (IsS67.ge HI137.out) | refine below_set ?_ GE136.out | refine below_set ?_ GE151.out) | exact HB.out))); (case aF => exact (fun _ _ => trivial)); (case aO => exact (by (with_reducible repeat (first | apply Kd.R_alloc | apply Kd.R_drewN | apply Kd.R_drew)); exact Kd.R_mono (Kd.R_far (p := ⟨gb151, 2, none⟩) (Kd.R_far (p := ⟨gb151, 1, none⟩) (Kd.R_far (p := ⟨gb151, 0, none⟩) (Kd.R_types HO_6.out BK151.out (by decide)) (fun _ hk => hk.2) (.int .i64 2)) (fun _ hk => hk.2) (.int .i64 (x5_1.length : Int))) (fun _ hk => hk.2) (.int .i64 (x6_1.length : Int))) (fun _ hk => trivial))); (case aS => exact (below_size (by repeat (first | (with_reducible first | exact HB.out | apply below_alloc | apply pw_below_drewN | apply below_drew1 | refine below_set ?_ (IsS67.ge HI137.out) | refine below_set ?_ GE136.out | refine below_set ?_ GE151.out) | exact HB.out)))); (case aL => have := LMc30.out; omega); intro v153 w39 ho hb hg hat; rw [← Ny152.out] at ho; have n0_ := Aside0.mk (Kd.S_after (ok := (fun _ => True)) (by (with_reducible repeat (first | apply Kd.S_alloc | apply Kd.S_drewN | apply Kd.S_drew)); exact Kd.S_mono (Kd.S_far (p := ⟨gb151, 2, none⟩) (Kd.S_far (p := ⟨gb151, 1, none⟩) (Kd.S_far (p := ⟨gb151, 0, none⟩) (Kd.S_types HO_5.out BK151.out (by decide)) (fun _ hk => hk.2) (.int .i64 2)) (fun _ hk => hk.2) (.int .i64 (x5_1.length : Int))) (fun _ hk => hk.2) (.int .i64 (x6_1.length : Int))) (fun _ hk => ⟨trivial, hk.1⟩)) hg hat); have n1_ := Aside0.mk (blk_grown (g := gb136) (o := .cells #[.int .i64 x137000_1, .int .i64 x137001_1, .int .i64 x137002_1] 43 (0, 0)) bk_ hg (Kd.R_ne HO_6.out BK136.out (by decide))); have n2_ := Aside0.mk (IsS67.grown (IsS67.like HI137.out (by repeat (first | (with_reducible first | exact HI137.out | apply IsS67.alloc | apply IsS67.drewN | apply IsS67.drew | apply IsS67.set_0 | apply IsS67.set_1 | refine IsS67.far ?_ NB137_136.out _ | refine IsS67.far ?_ NB137_151.out _) | exact HI137.out))) hg (IsS67.own_ne HI137.out HO_6.out (by decide))); have n3_ := Aside0.mk (blk_grown (g := gb151) (o := .cells #[.int .i64 2, .int .i64 (x5_1.length : Int), .int .i64 (x6_1.length : Int)] 43 (0, 0)) (pu_ #[.int .i64 2, .int .i64 (x5_1.length : Int), .int .i64 0] 2 (h := (pu_ #[.int .i64 2, .int .i64 0, .int .i64 0] 1 (h := (pu_ #[.int .i64 0, .int .i64 0, .int .i64 0] 0 (h := bk_)))))) hg (Kd.R_ne HO_6.out BK151.out (by decide))); have n4_ := Aside0.mk (hb); have n5_ := Aside0.mk (ho); clear HO_5; clear BK136; clear HI137; clear BK151; clear HB; clear HO_6; have HO_5 := n0_; have BK136 := n1_; have HI137 := n2_; have BK151 := n3_; have HB := n4_; have HO154 := n5_; clear n0_ n1_ n2_ n3_ n4_ n5_; clear ho hb hg hat) | ((with_reducible refine gate_callee (f := 47) rfl ?_); refine goesL_ (some 67) rfl rfl Tryd.func47 (by kernel_rfl) rfl #[.pointer (some ⟨gb137, 0, none⟩)] rfl mp_ ?_; (with_reducible refine (impl_csvReader_after.calls gb137 x138000_22 x138001_22 t155 t156 t157 w _ ?side1 ?side2 A31.out).mono ?_); (case side1 => repeat (first | (with_reducible first | exact HI137.out | apply IsS67.alloc | apply IsS67.drewN | apply IsS67.drew | apply IsS67.set_0 | apply IsS67.set_1 | refine IsS67.far ?_ NB137_136.out _ | refine IsS67.far ?_ NB137_151.out _) | exact HI137.out)); (case side2 => repeat (first | (with_reducible first | exact HB.out | apply below_alloc | apply pw_below_drewN | apply below_drew1 | refine below_set ?_ (IsS67.ge HI137.out) | refine below_set ?_ GE136.out | refine below_set ?_ GE151.out) | exact HB.out)); rintro e w40 ⟨rfl, hi, hb, hk⟩; refine ⟨_, rfl, ?_⟩; have n0_ := Aside0.mk (Kd.S_mono (Kd.S_keep (IsS67.apartS (show IsS67 w _ gb137 x138000_22 x138001_22 from by repeat (first | (with_reducible first | exact HI137.out | apply IsS67.alloc | apply IsS67.drewN | apply IsS67.drew | apply IsS67.set_0 | apply IsS67.set_1 | refine IsS67.far ?_ NB137_136.out _ | refine IsS67.far ?_ NB137_151.out _) | exact HI137.out)) (by (with_reducible repeat (first | apply Kd.S_alloc | apply Kd.S_drewN | apply Kd.S_drew)); exact HO_5.out) (by decide)) hk (fun _ h => h.2)) (fun _ h => h.1)); have n1_ := Aside0.mk (KeepBut.blk hk (g' := gb136) (o := .cells #[.int .i64 x137000_1, .int .i64 x137001_1, .int .i64 x137002_1] 43 (0, 0)) bk_ NB136_137.out (by simp)); have n2_ := Aside0.mk (KeepBut.blk hk (g' := gb151) (o := .cells #[.int .i64 2, .int .i64 (x5_1.length : Int), .int .i64 (x6_1.length : Int)] 43 (0, 0)) bk_ NB151_137.out (by simp)); have n3_ := Aside0.mk (Kd.R_mono (Kd.R_keep (IsS67.apart (show IsS67 w _ gb137 x138000_22 x138001_22 from by repeat (first | (with_reducible first | exact HI137.out | apply IsS67.alloc | apply IsS67.drewN | apply IsS67.drew | apply IsS67.set_0 | apply IsS67.set_1 | refine IsS67.far ?_ NB137_136.out _ | refine IsS67.far ?_ NB137_151.out _) | exact HI137.out)) (by (with_reducible repeat (first | apply Kd.R_alloc | apply Kd.R_drewN | apply Kd.R_drew)); exact HO154.out) (by decide)) hk (fun _ h => h.2)) (fun _ h => h.1)); have n4_ := Aside0.mk (hb); have n5_ := Aside0.mk (hi); clear HO_5; clear BK136; clear BK151; clear HO154; clear HB; clear HI137; have HO_5 := n0_; have BK136 := n1_; have BK151 := n2_; have HO154 := n3_; have HB := n4_; have HI137 := n5_; clear n0_ n1_ n2_ n3_ n4_ n5_; (try clear hb); (try clear hb2); (try clear hk); (try clear hi)))
                            have n0_ := Aside0.mk (Kd.S_drew HO_5.out)
                            have n1_ := Aside0.mk (Kd.R_drew HO154.out)
                            have n2_ := Aside0.mk (blk_drew BK136.out)
                            have n3_ := Aside0.mk (blk_drew BK151.out)
                            have n4_ := Aside0.mk (IsS67.drew HI137.out)
                            have n5_ := Aside0.mk (below_drew1 HB.out)
                            clear HO_5
                            clear HO154
                            clear BK136
                            clear BK151
                            clear HI137
                            clear HB
                            have HO_5 := n0_
                            have HO154 := n1_
                            have BK136 := n2_
                            have BK151 := n3_
                            have HI137 := n4_
                            have HB := n5_
                            clear n0_ n1_ n2_ n3_ n4_ n5_
                            refine start_ (n := 3) (S := fun w' => w'.cell? ⟨gb151, 0, none⟩ = some (.int .i64 2) ∧ w'.cell? ⟨gb151, 1, none⟩ = some (.int .i64 (x5_1.length : Int)) ∧ w'.cell? ⟨gb151, 2, none⟩ = some (.int .i64 (x6_1.length : Int))) (ds := []) #[false, false, false] (by kernel_rfl) rfl rfl ⟨bc_, bc_, bc_⟩ (fun hHeld => ?_)
                            generalize w40.drew = w41 at HO_5 HO154 BK136 BK151 HI137 HB hHeld ⊢
                            refine pure_ (i := 1) (N := some 2) (v := ?_) (a' := ?_) #[false, true, false] rfl rfl (by kernel_rfl) (fun _ _ _ h => h) (Or.inl ⟨by rfl, ?_⟩) ?_ ?_
                            rotate_left
                            · intro w'
                              go_simp
                              with_reducible rfl
                            rotate_left
                            · simp only [Act.put, la_, lb_, lc_, i64_w, i32_w]
                              rfl
                            refine take_ (i := 0) (N := some 70) (v := ?_) (a' := ?_) #[true, true, false] rfl rfl (by kernel_rfl) (fun _ _ _ h => h) (Or.inl ⟨by rfl, ?_⟩) hHeld ?_ ?_
                            rotate_left
                            · rintro w' ⟨s0, s1, s2⟩
                              go_simp
                              with_reducible rfl
                            rotate_left
                            · simp only [Act.put, la_, lb_, lc_, i64_w, i32_w]
                              rfl
                            refine one_ (i := 2) (N := none) #[true, true, true] rfl rfl (by kernel_rfl) (by decide) (fun K hK => ?_)
                            have hs42 : w41.cell? ⟨gb136, 0, none⟩ = some (.int .i64 x137000_1) := (blk_cell BK136.out 0).trans rfl
                            have hfs42 := blk_frozen BK136.out 0
                            have hns42_1 := NB151_136.out
                            have hms42_1 := NB136_151.out
                            have hs43 : w41.cell? ⟨gb136, 1, none⟩ = some (.int .i64 x137001_1) := (blk_cell BK136.out 1).trans rfl
                            have hfs43 := blk_frozen BK136.out 1
                            have hns43_1 := NB151_136.out
                            have hms43_1 := NB136_151.out
                            have hs44 : w41.cell? ⟨gb136, 2, none⟩ = some (.int .i64 x137002_1) := (blk_cell BK136.out 2).trans rfl
                            have hfs44 := blk_frozen BK136.out 2
                            have hns44_1 := NB151_136.out
                            have hms44_1 := NB136_151.out
                            refine skip_ (w1 := ?_) ?_ ?_ ?_ ?_
                            rotate_left
                            · rfl
                            · rfl
                            · go_simp
                              rfl
                            refine hK.out _ _ ⟨(cfar_ hHeld.1), (cfar_ hHeld.2.1), (cfar_ hHeld.2.2)⟩ (fun hHeld => ?_)
                            clear hK K
                            refine done_ (by kernel_rfl) ?_
                            try go_wp2
                            refine bodyPost_ret (results_tc rfl _ _ gb136 43 #[.int .i64 2, .int .i64 (x5_1.length : Int), .int .i64 (x6_1.length : Int)] (0, 0) _ rfl (pu_ #[.int .i64 2, .int .i64 (x5_1.length : Int), .int .i64 x137002_1] 2 (h := (pu_ #[.int .i64 2, .int .i64 x137001_1, .int .i64 x137002_1] 1 (h := (pu_ #[.int .i64 x137000_1, .int .i64 x137001_1, .int .i64 x137002_1] 0 (h := bk_)))))) Tryd.underlying43 rfl (by kernel_rfl)) rfl ?_
                            exact ⟨_, by first | rfl | (simp [errW_none, errW_some] <;> rfl) | (simp [*, errW_none, errW_some] <;> rfl), by first | exact Kd.S_nil _ _ _ _ _ | exact Kd.N_nil _ _ _ _ _ | exact Kd.V_nil _ _ _ _ _ | exact Kd.Q_nil _ _ _ _ _ | exact Kd.R_nil _ _ _ _ _, by repeat (first | (with_reducible first | exact HB.out | apply below_alloc | apply pw_below_drewN | apply below_drew1 | refine below_set ?_ (IsS67.ge HI137.out) | refine below_set ?_ GE136.out | refine below_set ?_ GE151.out) | exact HB.out)⟩
                          · rw [if_neg c32] at H
                            have c32b0 : (t155 == 3) = false := beq_eq_false_iff_ne.mpr c32
                            have c32b1 : (t155 != 3) = true := bne_iff_ne.mpr c32
                            by_cases c45 : t155 = 2
                            · rw [if_pos c45] at H
                              have c45b0 : (t155 == 2) = true := beq_iff_eq.mpr c45
                              have c45b1 : (t155 != 2) = false := bne_eq_false_iff_eq.mpr c45
                              clear c45
                              by_cases c46 : x5_1.length < 5864062014805
                              · rw [if_pos c46] at H
                                have LMc46 := Aside0.mk c46
                                clear c46
                                obtain ⟨y158, hy158⟩ : ∃ y_ : List (List ByteArray), y_ = (x5_1 ++ [y152]) := ⟨_, rfl⟩
                                replace H : (impl_ReadCsv.l0 kj22 a0 y158 ([] : List ByteArray) t156 t157) = some (r1, r2, r3, r4) := by first | (rw [hy158]; with_reducible exact H) | (have H2_ := (Option.bind_some _ _).symm.trans H; rw [hy158]; with_reducible exact H2_) | (have H2_ := (Option.bind_some _ _).symm.trans H; with_reducible exact H2_) | with_reducible exact H | (rw [hy158]; exact H) | exact H
                                have Ny158 := Aside0.mk hy158
                                clear hy158
                                have H' := Aside0.mk H
                                clear H
                                obtain ⟨Ao47, co47, eo47⟩ := Kd.S_slice HO_5.out
                                subst eo47
                                obtain ⟨Ao48, co48, eo48⟩ := Kd.R_slice HO_6.out
                                subst eo48
                                go_wp2_with (first | ((with_reducible refine gate_dst (N := 9) rfl ?_); (try (refine gate_guard (by rfl) ?_; dsimp only)); refine box_event ?hg (N := 9) ?hd (cs := #[.int .i64 0, .int .i64 0, .int .i64 0]) (t := 43) ?hr ?_; (case hd => rfl); (case hg => rfl); (case hr => first | (go_simp; done) | (go_simp; rfl)); intro gb151 hg w49 hbox hb; have n0_ := Aside0.mk (Kd.S_below (by (with_reducible repeat (first | apply Kd.S_alloc | apply Kd.S_drewN | apply Kd.S_drew)); exact HO_5.out) hb); have n1_ := Aside0.mk (Kd.R_below (by (with_reducible repeat (first | apply Kd.R_alloc | apply Kd.R_drewN | apply Kd.R_drew)); exact HO_6.out) hb); have n2_ := bb_ (g := gb136) hb; have n3_ := Aside0.mk (IsS67.below (by repeat (first | (with_reducible first | exact HI137.out | apply IsS67.alloc | apply IsS67.drewN | apply IsS67.drew | apply IsS67.set_0 | apply IsS67.set_1 | refine IsS67.far ?_ NB137_136.out _) | exact HI137.out)) hb); have n4_ := Aside0.mk (below_step (by repeat (first | (with_reducible first | exact HB.out | apply below_alloc | apply pw_below_drewN | apply below_drew1 | refine below_set ?_ (IsS67.ge HI137.out) | refine below_set ?_ GE136.out) | exact HB.out)) hb); have n5_ := Aside0.mk (hbox); have n6_ := Aside0.mk ((by rw [hg]; exact (below_size (by repeat (first | (with_reducible first | exact HB.out | apply below_alloc | apply pw_below_drewN | apply below_drew1 | refine below_set ?_ (IsS67.ge HI137.out) | refine below_set ?_ GE136.out) | exact HB.out))) : w.heap.size ≤ gb151)); have n7_ := Aside0.mk ((by rw [hg]; exact (below_size (by repeat (first | (with_reducible first | exact HB.out | apply below_alloc | apply pw_below_drewN | apply below_drew1 | refine below_set ?_ (IsS67.ge HI137.out) | refine below_set ?_ GE136.out) | exact HB.out))) : w.heap.size ≤ gb151)); have n8_ := nlt_ (g := gb136) hg; have n9_ := ngt_ (g := gb136) hg; have n10_ := Aside0.mk ((by rw [hg]; exact Nat.ne_of_lt (IsS67.lt (show IsS67 w _ gb137 x138000_22 x138001_22 from by repeat (first | (with_reducible first | exact HI137.out | apply IsS67.alloc | apply IsS67.drewN | apply IsS67.drew | apply IsS67.set_0 | apply IsS67.set_1 | refine IsS67.far ?_ NB137_136.out _) | exact HI137.out))) : gb137 ≠ gb151)); have n11_ := Aside0.mk ((by rw [hg]; exact Nat.ne_of_gt (IsS67.lt (show IsS67 w _ gb137 x138000_22 x138001_22 from by repeat (first | (with_reducible first | exact HI137.out | apply IsS67.alloc | apply IsS67.drewN | apply IsS67.drew | apply IsS67.set_0 | apply IsS67.set_1 | refine IsS67.far ?_ NB137_136.out _) | exact HI137.out))) : gb151 ≠ gb137)); clear HO_5; clear HO_6; clear BK136; clear HI137; clear HB; have HO_5 := n0_; have HO_6 := n1_; have BK136 := n2_; have HI137 := n3_; have HB := n4_; have BK151 := n5_; have GW151 := n6_; have GE151 := n7_; have NB136_151 := n8_; have NB151_136 := n9_; have NB137_151 := n10_; have NB151_137 := n11_; clear n0_ n1_ n2_ n3_ n4_ n5_ n6_ n7_ n8_ n9_ n10_ n11_; clear hb hbox hg; have hnb50 := NB151_136.out; have hnc50 := NB136_151.out; have hnb51 := NB151_137.out; have hnc51 := NB137_151.out; obtain ⟨hcz52_0, hcz52_1, hcz52_2, hfz52_0, hfz52_1, hfz52_2⟩ := cf3_ (w := w49) BK151.out) | ((with_reducible refine gate_builtin (b := .append) (xs := #[.tmp 62, .tmp 64]) rfl ?_); (try (refine gate_guard (by rfl) ?_; dsimp only)); at_builtin; refine Kd.R_append Kd.string (w0 := w) w.heap.size rfl (.tmp 62) (.tmp 64) 52 9 (.string ⟨#[]⟩) 16 rfl Tryd.underlying52 info9 rfl (by decide) (by omega) (.slice Ao48 x6_1.length co48) x6_1 x7_22 [.string x7_22] (fun _ => True) (fun _ => False) rfl (by first | (go_simp; done) | (go_simp; rfl)) ?aP (fun _ hk => hk.elim) ?aF ?aO ?aB ?aS ?aL ?_; (case aP => exact rfl); (case aB => exact (by repeat (first | (with_reducible first | exact HB.out | apply below_alloc | apply pw_below_drewN | apply below_drew1 | refine below_set ?_ (IsS67.ge HI137.out) | refine below_set ?_ GE136.out | refine below_set ?_ GE151.out) | exact HB.out))); (case aF => exact (fun _ _ => trivial)); (case aO => exact (by (with_reducible repeat (first | apply Kd.R_alloc | apply Kd.R_drewN | apply Kd.R_drew)); exact Kd.R_mono (Kd.R_far (p := ⟨gb151, 2, none⟩) (Kd.R_far (p := ⟨gb151, 1, none⟩) (Kd.R_far (p := ⟨gb151, 0, none⟩) (Kd.R_types HO_6.out BK151.out (by decide)) (fun _ hk => hk.2) (.int .i64 2)) (fun _ hk => hk.2) (.int .i64 (x5_1.length : Int))) (fun _ hk => hk.2) (.int .i64 (x6_1.length : Int))) (fun _ hk => trivial))); (case aS => exact (below_size (by repeat (first | (with_reducible first | exact HB.out | apply below_alloc | apply pw_below_drewN | apply below_drew1 | refine below_set ?_ (IsS67.ge HI137.out) | refine below_set ?_ GE136.out | refine below_set ?_ GE151.out) | exact HB.out)))); (case aL => have := LMc30.out; omega); intro v153 w53 ho hb hg hat; rw [← Ny152.out] at ho; have n0_ := Aside0.mk (Kd.S_after (ok := (fun _ => True)) (by (with_reducible repeat (first | apply Kd.S_alloc | apply Kd.S_drewN | apply Kd.S_drew)); exact Kd.S_mono (Kd.S_far (p := ⟨gb151, 2, none⟩) (Kd.S_far (p := ⟨gb151, 1, none⟩) (Kd.S_far (p := ⟨gb151, 0, none⟩) (Kd.S_types HO_5.out BK151.out (by decide)) (fun _ hk => hk.2) (.int .i64 2)) (fun _ hk => hk.2) (.int .i64 (x5_1.length : Int))) (fun _ hk => hk.2) (.int .i64 (x6_1.length : Int))) (fun _ hk => ⟨trivial, hk.1⟩)) hg hat); have n1_ := Aside0.mk (blk_grown (g := gb136) (o := .cells #[.int .i64 x137000_1, .int .i64 x137001_1, .int .i64 x137002_1] 43 (0, 0)) bk_ hg (Kd.R_ne HO_6.out BK136.out (by decide))); have n2_ := Aside0.mk (IsS67.grown (IsS67.like HI137.out (by repeat (first | (with_reducible first | exact HI137.out | apply IsS67.alloc | apply IsS67.drewN | apply IsS67.drew | apply IsS67.set_0 | apply IsS67.set_1 | refine IsS67.far ?_ NB137_136.out _ | refine IsS67.far ?_ NB137_151.out _) | exact HI137.out))) hg (IsS67.own_ne HI137.out HO_6.out (by decide))); have n3_ := Aside0.mk (blk_grown (g := gb151) (o := .cells #[.int .i64 2, .int .i64 (x5_1.length : Int), .int .i64 (x6_1.length : Int)] 43 (0, 0)) (pu_ #[.int .i64 2, .int .i64 (x5_1.length : Int), .int .i64 0] 2 (h := (pu_ #[.int .i64 2, .int .i64 0, .int .i64 0] 1 (h := (pu_ #[.int .i64 0, .int .i64 0, .int .i64 0] 0 (h := bk_)))))) hg (Kd.R_ne HO_6.out BK151.out (by decide))); have n4_ := Aside0.mk (hb); have n5_ := Aside0.mk (ho); clear HO_5; clear BK136; clear HI137; clear BK151; clear HB; clear HO_6; have HO_5 := n0_; have BK136 := n1_; have HI137 := n2_; have BK151 := n3_; have HB := n4_; have HO154 := n5_; clear n0_ n1_ n2_ n3_ n4_ n5_; clear ho hb hg hat) | ((with_reducible refine gate_callee (f := 47) rfl ?_); refine goesL_ (some 67) rfl rfl Tryd.func47 (by kernel_rfl) rfl #[.pointer (some ⟨gb137, 0, none⟩)] rfl mp_ ?_; (with_reducible refine (impl_csvReader_after.calls gb137 x138000_22 x138001_22 t155 t156 t157 w _ ?side1 ?side2 A31.out).mono ?_); (case side1 => repeat (first | (with_reducible first | exact HI137.out | apply IsS67.alloc | apply IsS67.drewN | apply IsS67.drew | apply IsS67.set_0 | apply IsS67.set_1 | refine IsS67.far ?_ NB137_136.out _ | refine IsS67.far ?_ NB137_151.out _) | exact HI137.out)); (case side2 => repeat (first | (with_reducible first | exact HB.out | apply below_alloc | apply pw_below_drewN | apply below_drew1 | refine below_set ?_ (IsS67.ge HI137.out) | refine below_set ?_ GE136.out | refine below_set ?_ GE151.out) | exact HB.out)); rintro e w54 ⟨rfl, hi, hb, hk⟩; refine ⟨_, rfl, ?_⟩; have n0_ := Aside0.mk (Kd.S_mono (Kd.S_keep (IsS67.apartS (show IsS67 w _ gb137 x138000_22 x138001_22 from by repeat (first | (with_reducible first | exact HI137.out | apply IsS67.alloc | apply IsS67.drewN | apply IsS67.drew | apply IsS67.set_0 | apply IsS67.set_1 | refine IsS67.far ?_ NB137_136.out _ | refine IsS67.far ?_ NB137_151.out _) | exact HI137.out)) (by (with_reducible repeat (first | apply Kd.S_alloc | apply Kd.S_drewN | apply Kd.S_drew)); exact HO_5.out) (by decide)) hk (fun _ h => h.2)) (fun _ h => h.1)); have n1_ := Aside0.mk (KeepBut.blk hk (g' := gb136) (o := .cells #[.int .i64 x137000_1, .int .i64 x137001_1, .int .i64 x137002_1] 43 (0, 0)) bk_ NB136_137.out (by simp)); have n2_ := Aside0.mk (KeepBut.blk hk (g' := gb151) (o := .cells #[.int .i64 2, .int .i64 (x5_1.length : Int), .int .i64 (x6_1.length : Int)] 43 (0, 0)) bk_ NB151_137.out (by simp)); have n3_ := Aside0.mk (Kd.R_mono (Kd.R_keep (IsS67.apart (show IsS67 w _ gb137 x138000_22 x138001_22 from by repeat (first | (with_reducible first | exact HI137.out | apply IsS67.alloc | apply IsS67.drewN | apply IsS67.drew | apply IsS67.set_0 | apply IsS67.set_1 | refine IsS67.far ?_ NB137_136.out _ | refine IsS67.far ?_ NB137_151.out _) | exact HI137.out)) (by (with_reducible repeat (first | apply Kd.R_alloc | apply Kd.R_drewN | apply Kd.R_drew)); exact HO154.out) (by decide)) hk (fun _ h => h.2)) (fun _ h => h.1)); have n4_ := Aside0.mk (hb); have n5_ := Aside0.mk (hi); clear HO_5; clear BK136; clear BK151; clear HO154; clear HB; clear HI137; have HO_5 := n0_; have BK136 := n1_; have BK151 := n2_; have HO154 := n3_; have HB := n4_; have HI137 := n5_; clear n0_ n1_ n2_ n3_ n4_ n5_; (try clear hb); (try clear hb2); (try clear hk); (try clear hi); obtain ⟨Ao56, co56, eo56⟩ := Kd.R_slice HO154.out; subst eo56) | ((with_reducible refine gate_builtin (b := .append) (xs := #[.tmp 73, .tmp 75]) rfl ?_); (try (refine gate_guard (by rfl) ?_; dsimp only)); at_builtin; refine Kd.S_append (Kd.slice 9 Kd.string) (w0 := w) w.heap.size rfl (.tmp 73) (.tmp 75) 33 52 (.slice none 0 0) 24 rfl Tryd.underlying33 info52 rfl (by decide) (by omega) (.slice Ao47 x5_1.length co47) x5_1 y152 [.slice Ao56 y152.length co56] (fun _ => True) (fun k_ => some k_ = (.slice Ao56 y152.length co56 : Value).ownBlock) rfl rfl ?aP (fun k_ hk_ => ((Kd.R_mono (ok' := fun k_ => ((fun _ => True)) k_ ∧ some k_ ≠ (.slice Ao47 x5_1.length co47 : Value).ownBlock) (Kd.R_apart' (HO154.out) (Kd.S_typed HO_5.out) (by decide)) (fun k_ hk => ⟨trivial, hk.2⟩))).1 k_ hk_.symm) ?aF ?aO ?aB ?aS ?aL ?_; (case aP => exact Kd.M_row (Kd.R_mono (Kd.R_tight rfl (Kd.R_mono (ok' := fun k_ => ((fun _ => True)) k_ ∧ some k_ ≠ (.slice Ao47 x5_1.length co47 : Value).ownBlock) (Kd.R_apart' (HO154.out) (Kd.S_typed HO_5.out) (by decide)) (fun k_ hk => ⟨trivial, hk.2⟩))) (fun _ h_ => h_))); (case aB => exact (by repeat (first | (with_reducible first | exact HB.out | apply below_alloc | apply pw_below_drewN | apply below_drew1 | refine below_set ?_ (IsS67.ge HI137.out) | refine below_set ?_ GE136.out | refine below_set ?_ GE151.out) | exact HB.out))); (case aF => exact (fun _ _ => trivial)); (case aO => exact (by (with_reducible repeat (first | apply Kd.S_alloc | apply Kd.S_drewN | apply Kd.S_drew)); exact Kd.S_mono HO_5.out (fun k_ hk => ⟨trivial, fun e_ => hk.2 e_⟩))); (case aS => exact (below_size (by repeat (first | (with_reducible first | exact HB.out | apply below_alloc | apply pw_below_drewN | apply below_drew1 | refine below_set ?_ (IsS67.ge HI137.out) | refine below_set ?_ GE136.out | refine below_set ?_ GE151.out) | exact HB.out)))); (case aL => have := LMc46.out; omega); intro v159 w55 ho hb hg hat; rw [← Ny158.out] at ho; have n0_ := Aside0.mk (blk_grown (g := gb136) (o := .cells #[.int .i64 x137000_1, .int .i64 x137001_1, .int .i64 x137002_1] 43 (0, 0)) bk_ hg (Kd.S_ne HO_5.out BK136.out (by decide))); have n1_ := Aside0.mk (IsS67.grown (IsS67.like HI137.out (by repeat (first | (with_reducible first | exact HI137.out | apply IsS67.alloc | apply IsS67.drewN | apply IsS67.drew | apply IsS67.set_0 | apply IsS67.set_1 | refine IsS67.far ?_ NB137_136.out _ | refine IsS67.far ?_ NB137_151.out _) | exact HI137.out))) hg (IsS67.own_neS HI137.out HO_5.out (by decide))); have n2_ := Aside0.mk (blk_grown (g := gb151) (o := .cells #[.int .i64 2, .int .i64 (x5_1.length : Int), .int .i64 (x6_1.length : Int)] 43 (0, 0)) bk_ hg (Kd.S_ne HO_5.out BK151.out (by decide))); have n3_ := Aside0.mk (hb); have n4_ := Aside0.mk (ho); clear BK136; clear HI137; clear BK151; clear HB; clear HO_5; clear HO154; have BK136 := n0_; have HI137 := n1_; have BK151 := n2_; have HB := n3_; have HO160 := n4_; clear n0_ n1_ n2_ n3_ n4_; clear ho hb hg hat))
                                go_roundg kj22
                                case measure => have := HK1.out; have := HJ10.out; have := HJ16.out; have := HJ22.out; omega
                                case rel => exact ⟨(y158), (([] : List ByteArray)), (x137000_1), (x137001_1), (x137002_1), (t156), (t157), H', ⟨by have := HK1.out; have := HJ10.out; have := HJ16.out; have := HJ22.out; omega⟩, ⟨by (with_reducible repeat (first | apply Kd.S_alloc | apply Kd.S_drewN | apply Kd.S_drew)); exact Kd.S_mono HO160.out (fun _ hk => (by simp [Value.ownBlock]))⟩, ⟨by first | exact Kd.R_nil _ _ _ _ _ | exact Kd.N_nil _ _ _ _ _ | exact Kd.V_nil _ _ _ _ _ | exact Kd.Q_nil _ _ _ _ _ | exact Kd.S_nil _ _ _ _ _⟩, ⟨by (with_reducible repeat (first | refine bN_ _ ?_ | refine bd_ ?_ | refine ba_ _ ?_)); exact BK136.out⟩, ⟨by repeat (first | (with_reducible first | exact HI137.out | apply IsS67.alloc | apply IsS67.drewN | apply IsS67.drew | apply IsS67.set_0 | apply IsS67.set_1 | refine IsS67.far ?_ NB137_136.out _ | refine IsS67.far ?_ NB137_151.out _) | exact HI137.out)⟩, ⟨by repeat (first | (with_reducible first | exact HB.out | apply below_alloc | apply pw_below_drewN | apply below_drew1 | refine below_set ?_ (IsS67.ge HI137.out) | refine below_set ?_ GE136.out | refine below_set ?_ GE151.out) | exact HB.out)⟩⟩
                              · rw [if_neg c46] at H
                                exact absurd H (by simp)
                            · rw [if_neg c45] at H
                              have c45b0 : (t155 == 2) = false := beq_eq_false_iff_ne.mpr c45
                              have c45b1 : (t155 != 2) = true := bne_iff_ne.mpr c45
                              have H' := Aside0.mk H
                              clear H
                              obtain ⟨Ao57, co57, eo57⟩ := Kd.S_slice HO_5.out
                              subst eo57
                              obtain ⟨Ao58, co58, eo58⟩ := Kd.R_slice HO_6.out
                              subst eo58
                              go_wp2_with (first | ((with_reducible refine gate_dst (N := 9) rfl ?_); (try (refine gate_guard (by rfl) ?_; dsimp only)); refine box_event ?hg (N := 9) ?hd (cs := #[.int .i64 0, .int .i64 0, .int .i64 0]) (t := 43) ?hr ?_; (case hd => rfl); (case hg => rfl); (case hr => first | (go_simp; done) | (go_simp; rfl)); intro gb151 hg w59 hbox hb; have n0_ := Aside0.mk (Kd.S_below (by (with_reducible repeat (first | apply Kd.S_alloc | apply Kd.S_drewN | apply Kd.S_drew)); exact HO_5.out) hb); have n1_ := Aside0.mk (Kd.R_below (by (with_reducible repeat (first | apply Kd.R_alloc | apply Kd.R_drewN | apply Kd.R_drew)); exact HO_6.out) hb); have n2_ := bb_ (g := gb136) hb; have n3_ := Aside0.mk (IsS67.below (by repeat (first | (with_reducible first | exact HI137.out | apply IsS67.alloc | apply IsS67.drewN | apply IsS67.drew | apply IsS67.set_0 | apply IsS67.set_1 | refine IsS67.far ?_ NB137_136.out _) | exact HI137.out)) hb); have n4_ := Aside0.mk (below_step (by repeat (first | (with_reducible first | exact HB.out | apply below_alloc | apply pw_below_drewN | apply below_drew1 | refine below_set ?_ (IsS67.ge HI137.out) | refine below_set ?_ GE136.out) | exact HB.out)) hb); have n5_ := Aside0.mk (hbox); have n6_ := Aside0.mk ((by rw [hg]; exact (below_size (by repeat (first | (with_reducible first | exact HB.out | apply below_alloc | apply pw_below_drewN | apply below_drew1 | refine below_set ?_ (IsS67.ge HI137.out) | refine below_set ?_ GE136.out) | exact HB.out))) : w.heap.size ≤ gb151)); have n7_ := Aside0.mk ((by rw [hg]; exact (below_size (by repeat (first | (with_reducible first | exact HB.out | apply below_alloc | apply pw_below_drewN | apply below_drew1 | refine below_set ?_ (IsS67.ge HI137.out) | refine below_set ?_ GE136.out) | exact HB.out))) : w.heap.size ≤ gb151)); have n8_ := nlt_ (g := gb136) hg; have n9_ := ngt_ (g := gb136) hg; have n10_ := Aside0.mk ((by rw [hg]; exact Nat.ne_of_lt (IsS67.lt (show IsS67 w _ gb137 x138000_22 x138001_22 from by repeat (first | (with_reducible first | exact HI137.out | apply IsS67.alloc | apply IsS67.drewN | apply IsS67.drew | apply IsS67.set_0 | apply IsS67.set_1 | refine IsS67.far ?_ NB137_136.out _) | exact HI137.out))) : gb137 ≠ gb151)); have n11_ := Aside0.mk ((by rw [hg]; exact Nat.ne_of_gt (IsS67.lt (show IsS67 w _ gb137 x138000_22 x138001_22 from by repeat (first | (with_reducible first | exact HI137.out | apply IsS67.alloc | apply IsS67.drewN | apply IsS67.drew | apply IsS67.set_0 | apply IsS67.set_1 | refine IsS67.far ?_ NB137_136.out _) | exact HI137.out))) : gb151 ≠ gb137)); clear HO_5; clear HO_6; clear BK136; clear HI137; clear HB; have HO_5 := n0_; have HO_6 := n1_; have BK136 := n2_; have HI137 := n3_; have HB := n4_; have BK151 := n5_; have GW151 := n6_; have GE151 := n7_; have NB136_151 := n8_; have NB151_136 := n9_; have NB137_151 := n10_; have NB151_137 := n11_; clear n0_ n1_ n2_ n3_ n4_ n5_ n6_ n7_ n8_ n9_ n10_ n11_; clear hb hbox hg; have hnb60 := NB151_136.out; have hnc60 := NB136_151.out; have hnb61 := NB151_137.out; have hnc61 := NB137_151.out; obtain ⟨hcz62_0, hcz62_1, hcz62_2, hfz62_0, hfz62_1, hfz62_2⟩ := cf3_ (w := w59) BK151.out) | ((with_reducible refine gate_builtin (b := .append) (xs := #[.tmp 62, .tmp 64]) rfl ?_); (try (refine gate_guard (by rfl) ?_; dsimp only)); at_builtin; refine Kd.R_append Kd.string (w0 := w) w.heap.size rfl (.tmp 62) (.tmp 64) 52 9 (.string ⟨#[]⟩) 16 rfl Tryd.underlying52 info9 rfl (by decide) (by omega) (.slice Ao58 x6_1.length co58) x6_1 x7_22 [.string x7_22] (fun _ => True) (fun _ => False) rfl (by first | (go_simp; done) | (go_simp; rfl)) ?aP (fun _ hk => hk.elim) ?aF ?aO ?aB ?aS ?aL ?_; (case aP => exact rfl); (case aB => exact (by repeat (first | (with_reducible first | exact HB.out | apply below_alloc | apply pw_below_drewN | apply below_drew1 | refine below_set ?_ (IsS67.ge HI137.out) | refine below_set ?_ GE136.out | refine below_set ?_ GE151.out) | exact HB.out))); (case aF => exact (fun _ _ => trivial)); (case aO => exact (by (with_reducible repeat (first | apply Kd.R_alloc | apply Kd.R_drewN | apply Kd.R_drew)); exact Kd.R_mono (Kd.R_far (p := ⟨gb151, 2, none⟩) (Kd.R_far (p := ⟨gb151, 1, none⟩) (Kd.R_far (p := ⟨gb151, 0, none⟩) (Kd.R_types HO_6.out BK151.out (by decide)) (fun _ hk => hk.2) (.int .i64 2)) (fun _ hk => hk.2) (.int .i64 (x5_1.length : Int))) (fun _ hk => hk.2) (.int .i64 (x6_1.length : Int))) (fun _ hk => trivial))); (case aS => exact (below_size (by repeat (first | (with_reducible first | exact HB.out | apply below_alloc | apply pw_below_drewN | apply below_drew1 | refine below_set ?_ (IsS67.ge HI137.out) | refine below_set ?_ GE136.out | refine below_set ?_ GE151.out) | exact HB.out)))); (case aL => have := LMc30.out; omega); intro v153 w63 ho hb hg hat; rw [← Ny152.out] at ho; have n0_ := Aside0.mk (Kd.S_after (ok := (fun _ => True)) (by (with_reducible repeat (first | apply Kd.S_alloc | apply Kd.S_drewN | apply Kd.S_drew)); exact Kd.S_mono (Kd.S_far (p := ⟨gb151, 2, none⟩) (Kd.S_far (p := ⟨gb151, 1, none⟩) (Kd.S_far (p := ⟨gb151, 0, none⟩) (Kd.S_types HO_5.out BK151.out (by decide)) (fun _ hk => hk.2) (.int .i64 2)) (fun _ hk => hk.2) (.int .i64 (x5_1.length : Int))) (fun _ hk => hk.2) (.int .i64 (x6_1.length : Int))) (fun _ hk => ⟨trivial, hk.1⟩)) hg hat); have n1_ := Aside0.mk (blk_grown (g := gb136) (o := .cells #[.int .i64 x137000_1, .int .i64 x137001_1, .int .i64 x137002_1] 43 (0, 0)) bk_ hg (Kd.R_ne HO_6.out BK136.out (by decide))); have n2_ := Aside0.mk (IsS67.grown (IsS67.like HI137.out (by repeat (first | (with_reducible first | exact HI137.out | apply IsS67.alloc | apply IsS67.drewN | apply IsS67.drew | apply IsS67.set_0 | apply IsS67.set_1 | refine IsS67.far ?_ NB137_136.out _ | refine IsS67.far ?_ NB137_151.out _) | exact HI137.out))) hg (IsS67.own_ne HI137.out HO_6.out (by decide))); have n3_ := Aside0.mk (blk_grown (g := gb151) (o := .cells #[.int .i64 2, .int .i64 (x5_1.length : Int), .int .i64 (x6_1.length : Int)] 43 (0, 0)) (pu_ #[.int .i64 2, .int .i64 (x5_1.length : Int), .int .i64 0] 2 (h := (pu_ #[.int .i64 2, .int .i64 0, .int .i64 0] 1 (h := (pu_ #[.int .i64 0, .int .i64 0, .int .i64 0] 0 (h := bk_)))))) hg (Kd.R_ne HO_6.out BK151.out (by decide))); have n4_ := Aside0.mk (hb); have n5_ := Aside0.mk (ho); clear HO_5; clear BK136; clear HI137; clear BK151; clear HB; clear HO_6; have HO_5 := n0_; have BK136 := n1_; have HI137 := n2_; have BK151 := n3_; have HB := n4_; have HO154 := n5_; clear n0_ n1_ n2_ n3_ n4_ n5_; clear ho hb hg hat) | ((with_reducible refine gate_callee (f := 47) rfl ?_); refine goesL_ (some 67) rfl rfl Tryd.func47 (by kernel_rfl) rfl #[.pointer (some ⟨gb137, 0, none⟩)] rfl mp_ ?_; (with_reducible refine (impl_csvReader_after.calls gb137 x138000_22 x138001_22 t155 t156 t157 w _ ?side1 ?side2 A31.out).mono ?_); (case side1 => repeat (first | (with_reducible first | exact HI137.out | apply IsS67.alloc | apply IsS67.drewN | apply IsS67.drew | apply IsS67.set_0 | apply IsS67.set_1 | refine IsS67.far ?_ NB137_136.out _ | refine IsS67.far ?_ NB137_151.out _) | exact HI137.out)); (case side2 => repeat (first | (with_reducible first | exact HB.out | apply below_alloc | apply pw_below_drewN | apply below_drew1 | refine below_set ?_ (IsS67.ge HI137.out) | refine below_set ?_ GE136.out | refine below_set ?_ GE151.out) | exact HB.out)); rintro e w64 ⟨rfl, hi, hb, hk⟩; refine ⟨_, rfl, ?_⟩; have n0_ := Aside0.mk (Kd.S_mono (Kd.S_keep (IsS67.apartS (show IsS67 w _ gb137 x138000_22 x138001_22 from by repeat (first | (with_reducible first | exact HI137.out | apply IsS67.alloc | apply IsS67.drewN | apply IsS67.drew | apply IsS67.set_0 | apply IsS67.set_1 | refine IsS67.far ?_ NB137_136.out _ | refine IsS67.far ?_ NB137_151.out _) | exact HI137.out)) (by (with_reducible repeat (first | apply Kd.S_alloc | apply Kd.S_drewN | apply Kd.S_drew)); exact HO_5.out) (by decide)) hk (fun _ h => h.2)) (fun _ h => h.1)); have n1_ := Aside0.mk (KeepBut.blk hk (g' := gb136) (o := .cells #[.int .i64 x137000_1, .int .i64 x137001_1, .int .i64 x137002_1] 43 (0, 0)) bk_ NB136_137.out (by simp)); have n2_ := Aside0.mk (KeepBut.blk hk (g' := gb151) (o := .cells #[.int .i64 2, .int .i64 (x5_1.length : Int), .int .i64 (x6_1.length : Int)] 43 (0, 0)) bk_ NB151_137.out (by simp)); have n3_ := Aside0.mk (Kd.R_mono (Kd.R_keep (IsS67.apart (show IsS67 w _ gb137 x138000_22 x138001_22 from by repeat (first | (with_reducible first | exact HI137.out | apply IsS67.alloc | apply IsS67.drewN | apply IsS67.drew | apply IsS67.set_0 | apply IsS67.set_1 | refine IsS67.far ?_ NB137_136.out _ | refine IsS67.far ?_ NB137_151.out _) | exact HI137.out)) (by (with_reducible repeat (first | apply Kd.R_alloc | apply Kd.R_drewN | apply Kd.R_drew)); exact HO154.out) (by decide)) hk (fun _ h => h.2)) (fun _ h => h.1)); have n4_ := Aside0.mk (hb); have n5_ := Aside0.mk (hi); clear HO_5; clear BK136; clear BK151; clear HO154; clear HB; clear HI137; have HO_5 := n0_; have BK136 := n1_; have BK151 := n2_; have HO154 := n3_; have HB := n4_; have HI137 := n5_; clear n0_ n1_ n2_ n3_ n4_ n5_; (try clear hb); (try clear hb2); (try clear hk); (try clear hi)))
                              go_roundg kj22
                              case measure => have := HK1.out; have := HJ10.out; have := HJ16.out; have := HJ22.out; omega
                              case rel => exact ⟨(x5_1), (y152), (x137000_1), (x137001_1), (x137002_1), (t156), (t157), H', ⟨by have := HK1.out; have := HJ10.out; have := HJ16.out; have := HJ22.out; omega⟩, ⟨by (with_reducible repeat (first | apply Kd.S_alloc | apply Kd.S_drewN | apply Kd.S_drew)); exact Kd.S_mono HO_5.out (fun _ hk => hk.2)⟩, ⟨by (with_reducible repeat (first | apply Kd.R_alloc | apply Kd.R_drewN | apply Kd.R_drew)); exact HO154.out⟩, ⟨by (with_reducible repeat (first | refine bN_ _ ?_ | refine bd_ ?_ | refine ba_ _ ?_)); exact BK136.out⟩, ⟨by repeat (first | (with_reducible first | exact HI137.out | apply IsS67.alloc | apply IsS67.drewN | apply IsS67.drew | apply IsS67.set_0 | apply IsS67.set_1 | refine IsS67.far ?_ NB137_136.out _ | refine IsS67.far ?_ NB137_151.out _) | exact HI137.out)⟩, ⟨by repeat (first | (with_reducible first | exact HB.out | apply below_alloc | apply pw_below_drewN | apply below_drew1 | refine below_set ?_ (IsS67.ge HI137.out) | refine below_set ?_ GE136.out | refine below_set ?_ GE151.out) | exact HB.out)⟩⟩
                        · rw [if_neg c30] at H
                          exact absurd H (by simp)
                      · replace c29 := Bool.eq_false_iff.mpr c29
                        subst c29
                        have H1 : (some (([] : List (List ByteArray)), 2, (x5_1.length : Int), (x6_1.length : Int))) = some (r1, r2, r3, r4) := by rw [if_neg (show ¬ (false = true) by decide)] at H; exact H
                        clear H
                        have H := H1
                        clear H1
                        simp only [Option.some.injEq, Prod.mk.injEq] at H
                        obtain ⟨rfl, rfl, rfl, rfl⟩ := H
                        obtain ⟨Ao65, co65, eo65⟩ := Kd.S_slice HO_5.out
                        subst eo65
                        obtain ⟨Ao66, co66, eo66⟩ := Kd.R_slice HO_6.out
                        subst eo66
                        try go_wp2_with (first | ((with_reducible refine gate_dst (N := 9) rfl ?_); (try (refine gate_guard (by rfl) ?_; dsimp only)); refine box_event ?hg (N := 9) ?hd (cs := #[.int .i64 0, .int .i64 0, .int .i64 0]) (t := 43) ?hr ?_; (case hd => rfl); (case hg => rfl); (case hr => first | (go_simp; done) | (go_simp; rfl)); intro gb151 hg w67 hbox hb; have n0_ := Aside0.mk (Kd.S_below (by (with_reducible repeat (first | apply Kd.S_alloc | apply Kd.S_drewN | apply Kd.S_drew)); exact HO_5.out) hb); have n1_ := Aside0.mk (Kd.R_below (by (with_reducible repeat (first | apply Kd.R_alloc | apply Kd.R_drewN | apply Kd.R_drew)); exact HO_6.out) hb); have n2_ := bb_ (g := gb136) hb; have n3_ := Aside0.mk (IsS67.below (by repeat (first | (with_reducible first | exact HI137.out | apply IsS67.alloc | apply IsS67.drewN | apply IsS67.drew | apply IsS67.set_0 | apply IsS67.set_1 | refine IsS67.far ?_ NB137_136.out _) | exact HI137.out)) hb); have n4_ := Aside0.mk (below_step (by repeat (first | (with_reducible first | exact HB.out | apply below_alloc | apply pw_below_drewN | apply below_drew1 | refine below_set ?_ (IsS67.ge HI137.out) | refine below_set ?_ GE136.out) | exact HB.out)) hb); have n5_ := Aside0.mk (hbox); have n6_ := Aside0.mk ((by rw [hg]; exact (below_size (by repeat (first | (with_reducible first | exact HB.out | apply below_alloc | apply pw_below_drewN | apply below_drew1 | refine below_set ?_ (IsS67.ge HI137.out) | refine below_set ?_ GE136.out) | exact HB.out))) : w.heap.size ≤ gb151)); have n7_ := Aside0.mk ((by rw [hg]; exact (below_size (by repeat (first | (with_reducible first | exact HB.out | apply below_alloc | apply pw_below_drewN | apply below_drew1 | refine below_set ?_ (IsS67.ge HI137.out) | refine below_set ?_ GE136.out) | exact HB.out))) : w.heap.size ≤ gb151)); have n8_ := nlt_ (g := gb136) hg; have n9_ := ngt_ (g := gb136) hg; have n10_ := Aside0.mk ((by rw [hg]; exact Nat.ne_of_lt (IsS67.lt (show IsS67 w _ gb137 x138000_22 x138001_22 from by repeat (first | (with_reducible first | exact HI137.out | apply IsS67.alloc | apply IsS67.drewN | apply IsS67.drew | apply IsS67.set_0 | apply IsS67.set_1 | refine IsS67.far ?_ NB137_136.out _) | exact HI137.out))) : gb137 ≠ gb151)); have n11_ := Aside0.mk ((by rw [hg]; exact Nat.ne_of_gt (IsS67.lt (show IsS67 w _ gb137 x138000_22 x138001_22 from by repeat (first | (with_reducible first | exact HI137.out | apply IsS67.alloc | apply IsS67.drewN | apply IsS67.drew | apply IsS67.set_0 | apply IsS67.set_1 | refine IsS67.far ?_ NB137_136.out _) | exact HI137.out))) : gb151 ≠ gb137)); clear HO_5; clear HO_6; clear BK136; clear HI137; clear HB; have HO_5 := n0_; have HO_6 := n1_; have BK136 := n2_; have HI137 := n3_; have HB := n4_; have BK151 := n5_; have GW151 := n6_; have GE151 := n7_; have NB136_151 := n8_; have NB151_136 := n9_; have NB137_151 := n10_; have NB151_137 := n11_; clear n0_ n1_ n2_ n3_ n4_ n5_ n6_ n7_ n8_ n9_ n10_ n11_; clear hb hbox hg; have hnb68 := NB151_136.out; have hnc68 := NB136_151.out; have hnb69 := NB151_137.out; have hnc69 := NB137_151.out; obtain ⟨hcz70_0, hcz70_1, hcz70_2, hfz70_0, hfz70_1, hfz70_2⟩ := cf3_ (w := w67) BK151.out))
                        have n0_ : Aside0 (Kd.S (Kd.slice 9 Kd.string) 52 (((w67.setCell ⟨gb151, 0, none⟩ (.int .i64 2)).setCell ⟨gb151, 1, none⟩ (.int .i64 (x5_1.length : Int))).setCell ⟨gb151, 2, none⟩ (.int .i64 (x6_1.length : Int))) w.heap.size (fun k_ => some k_ ≠ (.slice Ao66 x6_1.length co66 : Value).ownBlock) (.slice Ao65 x5_1.length co65) x5_1) := ⟨by (with_reducible repeat (first | apply Kd.S_alloc | apply Kd.S_drewN | apply Kd.S_drew)); exact Kd.S_mono (Kd.S_far (p := ⟨gb151, 2, none⟩) (Kd.S_far (p := ⟨gb151, 1, none⟩) (Kd.S_far (p := ⟨gb151, 0, none⟩) (Kd.S_types HO_5.out BK151.out (by decide)) (fun _ hk => hk.2) (.int .i64 2)) (fun _ hk => hk.2) (.int .i64 (x5_1.length : Int))) (fun _ hk => hk.2) (.int .i64 (x6_1.length : Int))) (fun _ hk => hk.1)⟩
                        have n1_ : Aside0 (Kd.R Kd.string 9 (((w67.setCell ⟨gb151, 0, none⟩ (.int .i64 2)).setCell ⟨gb151, 1, none⟩ (.int .i64 (x5_1.length : Int))).setCell ⟨gb151, 2, none⟩ (.int .i64 (x6_1.length : Int))) w.heap.size (fun _ => True) (.slice Ao66 x6_1.length co66) x6_1) := ⟨by (with_reducible repeat (first | apply Kd.R_alloc | apply Kd.R_drewN | apply Kd.R_drew)); exact Kd.R_mono (Kd.R_far (p := ⟨gb151, 2, none⟩) (Kd.R_far (p := ⟨gb151, 1, none⟩) (Kd.R_far (p := ⟨gb151, 0, none⟩) (Kd.R_types HO_6.out BK151.out (by decide)) (fun _ hk => hk.2) (.int .i64 2)) (fun _ hk => hk.2) (.int .i64 (x5_1.length : Int))) (fun _ hk => hk.2) (.int .i64 (x6_1.length : Int))) (fun _ hk => trivial)⟩
                        have n2_ : Aside0 ((((w67.setCell ⟨gb151, 0, none⟩ (.int .i64 2)).setCell ⟨gb151, 1, none⟩ (.int .i64 (x5_1.length : Int))).setCell ⟨gb151, 2, none⟩ (.int .i64 (x6_1.length : Int))).heap[gb136]? = some (.cells #[.int .i64 x137000_1, .int .i64 x137001_1, .int .i64 x137002_1] 43 (0, 0))) := ⟨by (with_reducible repeat (first | refine bN_ _ ?_ | refine bd_ ?_ | refine ba_ _ ?_)); refine blk_far ?_ NB136_151.out _; (with_reducible repeat (first | refine bN_ _ ?_ | refine bd_ ?_ | refine ba_ _ ?_)); refine blk_far ?_ NB136_151.out _; (with_reducible repeat (first | refine bN_ _ ?_ | refine bd_ ?_ | refine ba_ _ ?_)); refine blk_far ?_ NB136_151.out _; (with_reducible repeat (first | refine bN_ _ ?_ | refine bd_ ?_ | refine ba_ _ ?_)); exact BK136.out⟩
                        have n3_ : Aside0 ((((w67.setCell ⟨gb151, 0, none⟩ (.int .i64 2)).setCell ⟨gb151, 1, none⟩ (.int .i64 (x5_1.length : Int))).setCell ⟨gb151, 2, none⟩ (.int .i64 (x6_1.length : Int))).heap[gb151]? = some (.cells #[.int .i64 2, .int .i64 (x5_1.length : Int), .int .i64 (x6_1.length : Int)] 43 (0, 0))) := ⟨by (with_reducible repeat (first | refine bN_ _ ?_ | refine bd_ ?_ | refine ba_ _ ?_)); refine blk_put (cs := #[.int .i64 2, .int .i64 (x5_1.length : Int), .int .i64 0]) ?_ 2 _ rfl; (with_reducible repeat (first | refine bN_ _ ?_ | refine bd_ ?_ | refine ba_ _ ?_)); refine blk_put (cs := #[.int .i64 2, .int .i64 0, .int .i64 0]) ?_ 1 _ rfl; (with_reducible repeat (first | refine bN_ _ ?_ | refine bd_ ?_ | refine ba_ _ ?_)); refine blk_put (cs := #[.int .i64 0, .int .i64 0, .int .i64 0]) ?_ 0 _ rfl; (with_reducible repeat (first | refine bN_ _ ?_ | refine bd_ ?_ | refine ba_ _ ?_)); exact BK151.out⟩
                        have n4_ : Aside0 (IsS67 w (((w67.setCell ⟨gb151, 0, none⟩ (.int .i64 2)).setCell ⟨gb151, 1, none⟩ (.int .i64 (x5_1.length : Int))).setCell ⟨gb151, 2, none⟩ (.int .i64 (x6_1.length : Int))) gb137 x138000_22 x138001_22) := ⟨by repeat (first | (with_reducible first | exact HI137.out | apply IsS67.alloc | apply IsS67.drewN | apply IsS67.drew | apply IsS67.set_0 | apply IsS67.set_1 | refine IsS67.far ?_ NB137_136.out _ | refine IsS67.far ?_ NB137_151.out _) | exact HI137.out)⟩
                        have n5_ : Aside0 (Below w.heap.size w (((w67.setCell ⟨gb151, 0, none⟩ (.int .i64 2)).setCell ⟨gb151, 1, none⟩ (.int .i64 (x5_1.length : Int))).setCell ⟨gb151, 2, none⟩ (.int .i64 (x6_1.length : Int)))) := ⟨by repeat (first | (with_reducible first | exact HB.out | apply below_alloc | apply pw_below_drewN | apply below_drew1 | refine below_set ?_ (IsS67.ge HI137.out) | refine below_set ?_ GE136.out | refine below_set ?_ GE151.out) | exact HB.out)⟩
                        (try clear HO_5)
                        (try clear HO_6)
                        (try clear BK136)
                        (try clear BK151)
                        (try clear HI137)
                        (try clear HB)
                        generalize (((w67.setCell ⟨gb151, 0, none⟩ (.int .i64 2)).setCell ⟨gb151, 1, none⟩ (.int .i64 (x5_1.length : Int))).setCell ⟨gb151, 2, none⟩ (.int .i64 (x6_1.length : Int))) = w71 at n0_ n1_ n2_ n3_ n4_ n5_ ⊢
                        have HO_5 := n0_
                        have HO_6 := n1_
                        have BK136 := n2_
                        have BK151 := n3_
                        have HI137 := n4_
                        have HB := n5_
                        clear n0_ n1_ n2_ n3_ n4_ n5_
                        have n0_ := Aside0.mk (Kd.S_drew HO_5.out)
                        have n1_ := Aside0.mk (Kd.R_drew HO_6.out)
                        have n2_ := Aside0.mk (blk_drew BK136.out)
                        have n3_ := Aside0.mk (blk_drew BK151.out)
                        have n4_ := Aside0.mk (IsS67.drew HI137.out)
                        have n5_ := Aside0.mk (below_drew1 HB.out)
                        clear HO_5
                        clear HO_6
                        clear BK136
                        clear BK151
                        clear HI137
                        clear HB
                        have HO_5 := n0_
                        have HO_6 := n1_
                        have BK136 := n2_
                        have BK151 := n3_
                        have HI137 := n4_
                        have HB := n5_
                        clear n0_ n1_ n2_ n3_ n4_ n5_
                        refine start_ (n := 3) (S := fun w' => w'.cell? ⟨gb151, 0, none⟩ = some (.int .i64 2) ∧ w'.cell? ⟨gb151, 1, none⟩ = some (.int .i64 (x5_1.length : Int)) ∧ w'.cell? ⟨gb151, 2, none⟩ = some (.int .i64 (x6_1.length : Int))) (ds := []) #[false, false, false] (by kernel_rfl) rfl rfl ⟨bc_, bc_, bc_⟩ (fun hHeld => ?_)
                        generalize w71.drew = w72 at HO_5 HO_6 BK136 BK151 HI137 HB hHeld ⊢
                        refine pure_ (i := 1) (N := some 2) (v := ?_) (a' := ?_) #[false, true, false] rfl rfl (by kernel_rfl) (fun _ _ _ h => h) (Or.inl ⟨by rfl, ?_⟩) ?_ ?_
                        rotate_left
                        · intro w'
                          go_simp
                          with_reducible rfl
                        rotate_left
                        · simp only [Act.put, la_, lb_, lc_, i64_w, i32_w]
                          rfl
                        refine take_ (i := 0) (N := some 61) (v := ?_) (a' := ?_) #[true, true, false] rfl rfl (by kernel_rfl) (fun _ _ _ h => h) (Or.inl ⟨by rfl, ?_⟩) hHeld ?_ ?_
                        rotate_left
                        · rintro w' ⟨s0, s1, s2⟩
                          go_simp
                          with_reducible rfl
                        rotate_left
                        · simp only [Act.put, la_, lb_, lc_, i64_w, i32_w]
                          rfl
                        refine one_ (i := 2) (N := none) #[true, true, true] rfl rfl (by kernel_rfl) (by decide) (fun K hK => ?_)
                        have hs73 : w72.cell? ⟨gb136, 0, none⟩ = some (.int .i64 x137000_1) := (blk_cell BK136.out 0).trans rfl
                        have hfs73 := blk_frozen BK136.out 0
                        have hns73_1 := NB151_136.out
                        have hms73_1 := NB136_151.out
                        have hs74 : w72.cell? ⟨gb136, 1, none⟩ = some (.int .i64 x137001_1) := (blk_cell BK136.out 1).trans rfl
                        have hfs74 := blk_frozen BK136.out 1
                        have hns74_1 := NB151_136.out
                        have hms74_1 := NB136_151.out
                        have hs75 : w72.cell? ⟨gb136, 2, none⟩ = some (.int .i64 x137002_1) := (blk_cell BK136.out 2).trans rfl
                        have hfs75 := blk_frozen BK136.out 2
                        have hns75_1 := NB151_136.out
                        have hms75_1 := NB136_151.out
                        refine skip_ (w1 := ?_) ?_ ?_ ?_ ?_
                        rotate_left
                        · rfl
                        · rfl
                        · go_simp
                          rfl
                        refine hK.out _ _ ⟨(cfar_ hHeld.1), (cfar_ hHeld.2.1), (cfar_ hHeld.2.2)⟩ (fun hHeld => ?_)
                        clear hK K
                        refine done_ (by kernel_rfl) ?_
                        try go_wp2
                        refine bodyPost_ret (results_tc rfl _ _ gb136 43 #[.int .i64 2, .int .i64 (x5_1.length : Int), .int .i64 (x6_1.length : Int)] (0, 0) _ rfl (pu_ #[.int .i64 2, .int .i64 (x5_1.length : Int), .int .i64 x137002_1] 2 (h := (pu_ #[.int .i64 2, .int .i64 x137001_1, .int .i64 x137002_1] 1 (h := (pu_ #[.int .i64 x137000_1, .int .i64 x137001_1, .int .i64 x137002_1] 0 (h := bk_)))))) Tryd.underlying43 rfl (by kernel_rfl)) rfl ?_
                        exact ⟨_, by first | rfl | (simp [errW_none, errW_some] <;> rfl) | (simp [*, errW_none, errW_some] <;> rfl), by first | exact Kd.S_nil _ _ _ _ _ | exact Kd.N_nil _ _ _ _ _ | exact Kd.V_nil _ _ _ _ _ | exact Kd.Q_nil _ _ _ _ _ | exact Kd.R_nil _ _ _ _ _, by repeat (first | (with_reducible first | exact HB.out | apply below_alloc | apply pw_below_drewN | apply below_drew1 | refine below_set ?_ (IsS67.ge HI137.out) | refine below_set ?_ GE136.out | refine below_set ?_ GE151.out) | exact HB.out)⟩
            · replace c16 := Bool.eq_false_iff.mpr c16
              subst c16
              have H1 : (some (x5_1, 0, 0, 0)) = some (r1, r2, r3, r4) := by rw [if_neg (show ¬ (false = true) by decide)] at H; exact H
              clear H
              have H := H1
              clear H1
              simp only [Option.some.injEq, Prod.mk.injEq] at H
              obtain ⟨rfl, rfl, rfl, rfl⟩ := H
              have hnb76 := NB136_137.out
              have hnc76 := NB137_136.out
              obtain ⟨hcz77_0, hcz77_1, hcz77_2, hfz77_0, hfz77_1, hfz77_2⟩ := cf3_ (w := wc) BK136.out
              go_wp2
              refine bodyPost_ret (results_tc rfl _ _ gb136 43 #[.int .i64 0, .int .i64 0, .int .i64 0] (0, 0) _ rfl (pu_ #[.int .i64 0, .int .i64 0, .int .i64 x137002_1] 2 (h := (pu_ #[.int .i64 0, .int .i64 x137001_1, .int .i64 x137002_1] 1 (h := (pu_ #[.int .i64 x137000_1, .int .i64 x137001_1, .int .i64 x137002_1] 0 (h := bk_)))))) Tryd.underlying43 rfl (by kernel_rfl)) rfl ?_
              exact ⟨_, by first | rfl | (simp [errW_none, errW_some] <;> rfl) | (simp [*, errW_none, errW_some] <;> rfl), by (with_reducible repeat (first | apply Kd.S_alloc | apply Kd.S_drewN | apply Kd.S_drew)); exact Kd.S_mono (Kd.S_far (p := ⟨gb136, 2, none⟩) (Kd.S_far (p := ⟨gb136, 1, none⟩) (Kd.S_far (p := ⟨gb136, 0, none⟩) (Kd.S_types HO_5.out BK136.out (by decide)) (fun _ hk => hk.2) (.int .i64 0)) (fun _ hk => hk.2) (.int .i64 0)) (fun _ hk => hk.2) (.int .i64 0)) (fun _ hk => trivial), by repeat (first | (with_reducible first | exact HB.out | apply below_alloc | apply pw_below_drewN | apply below_drew1 | refine below_set ?_ (IsS67.ge HI137.out) | refine below_set ?_ GE136.out) | exact HB.out)⟩

end Go.Proofs.YtcbiijfiecjcaaaDoor.PFnCsvRead
