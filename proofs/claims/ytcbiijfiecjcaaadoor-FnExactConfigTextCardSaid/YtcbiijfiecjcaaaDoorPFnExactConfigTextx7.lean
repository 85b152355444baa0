/- Contracts of Go functions, each with the Lean function that says what it computes: begun by the print, turned by this session. No condition beyond what each theorem states. -/
import Derived.Test.YtcbiijfiecjcaaaDoorPFnExactConfigTextx0
import Derived.Test.YtcbiijfiecjcaaaDoorPFnExactConfigTextx1
import Derived.Test.YtcbiijfiecjcaaaDoorPFnExactConfigTextx4
import Derived.Test.YtcbiijfiecjcaaaDoorPFnExactConfigTextx5
import Derived.Test.YtcbiijfiecjcaaaDoorPFnExactConfigTextx6
namespace Go.Proofs.YtcbiijfiecjcaaaDoor.PFnExactConfigText
open Go.RowKit Go.Proofs.YtcbiijfiecjcaaaDoorW.PrintWords Go.Proofs.YtcbiijfiecjcaaaDoorW.PrintLast Go.Proofs.YtcbiijfiecjcaaaDoorW.PrintMore
attribute [local go_sem] max2_int min2_int max_two min_two max_three min_three max_four min_four   -- for this text's walks alone
set_option linter.unusedVariables false
set_option linter.unusedSimpArgs false

/-! ### laws_eqIntS: function 39 -/
def laws_eqIntS.l0 : Nat → List Int → List Int → Int → Option (Bool)
  | 0, _, _, _ => none
  | k + 1, x0, x1, x5 => if x5 < (x0.length : Int) then (if 0 ≤ x5 then (if x5 < (x1.length : Int) then (if (rd x0 x5) = (rd x1 x5) then (laws_eqIntS.l0 k x0 x1 (wrap64 (x5 + 1))) else (some false)) else (none)) else (none)) else (some true)
def laws_eqIntS.f (k : Nat) (l0 : List Int) (l1 : List Int) : Option (Bool) := if (l0.length : Int) = (l1.length : Int) then (laws_eqIntS.l0 k l0 l1 0) else (some false)
theorem laws_eqIntS.mono_l : ∀ k, (∀ y0 y1 y2, LeO (laws_eqIntS.l0 k y0 y1 y2) (laws_eqIntS.l0 (k + 1) y0 y1 y2))
  | 0 => fun _ _ _ r h => by simp [laws_eqIntS.l0] at h
  | k + 1 => by
    have ih0 := laws_eqIntS.mono_l k
    · intro y0 y1 y2
      unfold laws_eqIntS.l0
      repeat' first
      | (with_reducible exact ih0 _ _ _)
      | (with_reducible exact LeO.refl _)
      | (with_reducible exact LeO.none _)
      | (with_reducible refine LeO.ite ?_ ?_)
      | (with_reducible refine LeO.bind ?_ (fun _ => ?_))
      | exact ih0 _ _ _
      | exact LeO.none _
      | refine LeO.ite ?_ ?_
      | refine LeO.bind ?_ (fun _ => ?_)
theorem laws_eqIntS.mono : ∀ a0 a1 k, LeO (laws_eqIntS.f k a0 a1) (laws_eqIntS.f (k + 1) a0 a1) := by
  intro a0 a1 k
  have ih0 := laws_eqIntS.mono_l k
  unfold laws_eqIntS.f
  repeat' first
      | (with_reducible exact ih0 _ _ _)
      | (with_reducible exact LeO.refl _)
      | (with_reducible exact LeO.none _)
      | (with_reducible refine LeO.ite ?_ ?_)
      | (with_reducible refine LeO.bind ?_ (fun _ => ?_))
      | exact ih0 _ _ _
      | exact LeO.none _
      | refine LeO.ite ?_ ?_
      | refine LeO.bind ?_ (fun _ => ?_)
set_option maxHeartbeats 8000000 in
set_option maxRecDepth 100000 in
theorem laws_eqIntS.calls (k : Nat) (A0 : Option Addr) (c0 : Nat) (l0 : List Int) (A1 : Option Addr) (c1 : Nat) (l1 : List Int) (r : Bool) (w : World) (hr0 : Kd.C (Kd.int .i64) w A0 l0.length l0) (hc0 : l0.length ≤ c0) (hr1 : Kd.C (Kd.int .i64) w A1 l1.length l1) (hc1 : l1.length ≤ c1) (h : laws_eqIntS.f k l0 l1 = some r) :
    Calls Tryd.prog 39 #[.slice A0 l0.length c0, .slice A1 l1.length c1] w fun e w' => e = .returned (.bool r) ∧ Drawn0 w w' := by
  have HR0 := Aside0.mk hr0
  have HC0 := Aside0.mk hc0
  clear hr0 hc0
  have HR1 := Aside0.mk hr1
  have HC1 := Aside0.mk hc1
  clear hr1 hc1
  have H : (if (l0.length : Int) = (l1.length : Int) then (laws_eqIntS.l0 k l0 l1 0) else (some false)) = some r := h
  clear h
  by_cases c3 : (l0.length : Int) = (l1.length : Int)
  · rw [if_pos c3] at H
    have c3b0 : ((l0.length : Int) == (l1.length : Int)) = true := beq_iff_eq.mpr c3
    have c3b1 : ((l0.length : Int) != (l1.length : Int)) = false := bne_eq_false_iff_eq.mpr c3
    have c3b2 : (l0.length == l1.length) = true := by first | simpa using c3 | (simp at c3 ⊢; omega)
    clear c3
    have H' := Aside0.mk H
    clear H
    go_enter Tryd.func39, Tryd.ntmps39
    go_wp2
    repeat (go_quiet (fail); try go_wp2)
    go_loopg [5] k (fun kq v5 w' => ∃ (x5_1 : Int), v5 = .int .i64 x5_1 ∧ Aside0 (laws_eqIntS.l0 kq l0 l1 x5_1 = some r) ∧ Aside0 (kq ≤ k) ∧ Drawn0 w w')
    case atStart => exact ⟨(0), (by first | rfl | (simp; done) | (simp [*]; done)), H', ⟨Nat.le_refl _⟩, by repeat (first | exact Drawn0.refl _ | apply Drawn0.step)⟩
    case round =>
      clear H'
      try clear c1
      try clear p2
      try clear c3
      try clear c3b0
      try clear c3b1
      try clear c3b2
      obtain ⟨x5_1, rfl, HA, HK1, ⟨m1, rfl⟩⟩ := hrel
      cases gk with
      | zero => exact absurd HA.out (by simp [laws_eqIntS.l0])
      | succ k1 =>
        have H := HA.out
        clear HA
        simp only [laws_eqIntS.l0] at H
        by_cases c4 : x5_1 < (l0.length : Int)
        · rw [if_pos c4] at H
          have c4b0 : decide (x5_1 < (l0.length : Int)) = true := decide_eq_true c4
          clear c4
          by_cases c5 : 0 ≤ x5_1
          · rw [if_pos c5] at H
            have c5b0 : decide (0 ≤ x5_1) = true := decide_eq_true c5
            clear c5
            by_cases c6 : x5_1 < (l1.length : Int)
            · rw [if_pos c6] at H
              have c6b0 : decide (x5_1 < (l1.length : Int)) = true := decide_eq_true c6
              clear c6
              by_cases c7 : (rd l0 x5_1) = (rd l1 x5_1)
              · rw [if_pos c7] at H
                have c7b0 : ((rd l0 x5_1) == (rd l1 x5_1)) = true := beq_iff_eq.mpr c7
                have c7b1 : ((rd l0 x5_1) != (rd l1 x5_1)) = false := bne_eq_false_iff_eq.mpr c7
                clear c7
                have H' := Aside0.mk H
                clear H
                have p230 : 0 ≤ (x5_1 : Int) := of_decide_eq_true (by first | (with_reducible assumption) | assumption)
                have q230 : x5_1 < (l0.length : Int) := of_decide_eq_true (by first | (with_reducible assumption) | assumption)
                obtain ⟨ad230, e230, hx230_0⟩ := Kd.at_int HR0.out x5_1 p230 q230
                cases e230
                replace p230 := eq_true p230
                replace q230 := eq_true q230
                have p231 : 0 ≤ (x5_1 : Int) := of_decide_eq_true (by first | (with_reducible assumption) | assumption)
                have q231 : x5_1 < (l1.length : Int) := of_decide_eq_true (by first | (with_reducible assumption) | assumption)
                obtain ⟨ad231, e231, hx231_0⟩ := Kd.at_int HR1.out x5_1 p231 q231
                cases e231
                replace p231 := eq_true p231
                replace q231 := eq_true q231
                go_wp2
                repeat (go_quiet (fail); try go_wp2)
                go_roundg k1
                case measure => have := HK1.out; omega
                case rel => exact ⟨(wrap64 (x5_1 + 1)), (by first | rfl | (simp; done) | (simp [*]; done)), H', ⟨by have := HK1.out; omega⟩, by repeat (first | exact Drawn0.refl _ | apply Drawn0.step)⟩
              · rw [if_neg c7] at H
                have c7b0 : ((rd l0 x5_1) == (rd l1 x5_1)) = false := beq_eq_false_iff_ne.mpr c7
                have c7b1 : ((rd l0 x5_1) != (rd l1 x5_1)) = true := bne_iff_ne.mpr c7
                obtain rfl := Option.some.inj H
                have p230 : 0 ≤ (x5_1 : Int) := of_decide_eq_true (by first | (with_reducible assumption) | assumption)
                have q230 : x5_1 < (l0.length : Int) := of_decide_eq_true (by first | (with_reducible assumption) | assumption)
                obtain ⟨ad230, e230, hx230_0⟩ := Kd.at_int HR0.out x5_1 p230 q230
                cases e230
                replace p230 := eq_true p230
                replace q230 := eq_true q230
                have p231 : 0 ≤ (x5_1 : Int) := of_decide_eq_true (by first | (with_reducible assumption) | assumption)
                have q231 : x5_1 < (l1.length : Int) := of_decide_eq_true (by first | (with_reducible assumption) | assumption)
                obtain ⟨ad231, e231, hx231_0⟩ := Kd.at_int HR1.out x5_1 p231 q231
                cases e231
                replace p231 := eq_true p231
                replace q231 := eq_true q231
                go_wp2
                repeat (go_quiet (fail); try go_wp2)
                go_ret
                exact ⟨by first | rfl | (simp; done) | (simp [*]; done), by repeat (first | exact Drawn0.refl _ | apply Drawn0.step)⟩
            · rw [if_neg c6] at H
              exact absurd H (by simp)
          · rw [if_neg c5] at H
            exact absurd H (by simp)
        · rw [if_neg c4] at H
          have c4b0 : decide (x5_1 < (l0.length : Int)) = false := decide_eq_false c4
          clear c4
          obtain rfl := Option.some.inj H
          go_wp2
          repeat (go_quiet (fail); try go_wp2)
          go_ret
          exact ⟨by first | rfl | (simp; done) | (simp [*]; done), by repeat (first | exact Drawn0.refl _ | apply Drawn0.step)⟩
  · rw [if_neg c3] at H
    have c3b0 : ((l0.length : Int) == (l1.length : Int)) = false := beq_eq_false_iff_ne.mpr c3
    have c3b1 : ((l0.length : Int) != (l1.length : Int)) = true := bne_iff_ne.mpr c3
    have c3b2 : (l0.length == l1.length) = false := by first | simpa using c3 | (simp at c3 ⊢; omega)
    obtain rfl := Option.some.inj H
    go_enter Tryd.func39, Tryd.ntmps39
    go_wp2
    repeat (go_quiet (fail); try go_wp2)
    go_ret
    exact ⟨by first | rfl | (simp; done) | (simp [*]; done), by repeat (first | exact Drawn0.refl _ | apply Drawn0.step)⟩

/-! ### laws_eqConfig: function 14 -/
def laws_eqConfig.f (k : Nat) (a0_0 : Int) (a0_1 : Int) (a0_2 : Int) (a0_3 : Int) (a0_4 : Int) (a0_5 : Int) (a0_6 : Int) (l0_7 : List Int) (a1_0 : Int) (a1_1 : Int) (a1_2 : Int) (a1_3 : Int) (a1_4 : Int) (a1_5 : Int) (a1_6 : Int) (l1_7 : List Int) : Option (Bool) := if a0_0 = a1_0 then (if a0_1 = a1_1 then (if a0_2 = a1_2 then (if a0_3 = a1_3 then (if a0_4 = a1_4 then (if a0_5 = a1_5 then (if a0_6 = a1_6 then ((laws_eqIntS.f k l0_7 l1_7).bind fun t234 => (if t234 = true then (some true) else (some false))) else (some false)) else (some false)) else (some false)) else (some false)) else (some false)) else (some false)) else (some false)
theorem laws_eqConfig.mono : ∀ a0 a1 a2 a3 a4 a5 a6 a7 a8 a9 a10 a11 a12 a13 a14 a15 k, LeO (laws_eqConfig.f k a0 a1 a2 a3 a4 a5 a6 a7 a8 a9 a10 a11 a12 a13 a14 a15) (laws_eqConfig.f (k + 1) a0 a1 a2 a3 a4 a5 a6 a7 a8 a9 a10 a11 a12 a13 a14 a15) := by
  intro a0 a1 a2 a3 a4 a5 a6 a7 a8 a9 a10 a11 a12 a13 a14 a15 k
  unfold laws_eqConfig.f
  repeat' first
      | (with_reducible exact laws_eqIntS.mono _ _ _)
      | (with_reducible exact LeO.refl _)
      | (with_reducible exact LeO.none _)
      | (with_reducible refine LeO.ite ?_ ?_)
      | (with_reducible refine LeO.bind ?_ (fun _ => ?_))
      | exact laws_eqIntS.mono _ _ _
      | exact LeO.none _
      | refine LeO.ite ?_ ?_
      | refine LeO.bind ?_ (fun _ => ?_)
set_option maxHeartbeats 8000000 in
set_option maxRecDepth 100000 in
theorem laws_eqConfig.calls (k : Nat) (a0_0 : Int) (a0_1 : Int) (a0_2 : Int) (a0_3 : Int) (a0_4 : Int) (a0_5 : Int) (a0_6 : Int) (A0_7 : Option Addr) (c0_7 : Nat) (l0_7 : List Int) (a1_0 : Int) (a1_1 : Int) (a1_2 : Int) (a1_3 : Int) (a1_4 : Int) (a1_5 : Int) (a1_6 : Int) (A1_7 : Option Addr) (c1_7 : Nat) (l1_7 : List Int) (r : Bool) (w : World) (hr0_7 : Kd.C (Kd.int .i64) w A0_7 l0_7.length l0_7) (hc0_7 : l0_7.length ≤ c0_7) (hr1_7 : Kd.C (Kd.int .i64) w A1_7 l1_7.length l1_7) (hc1_7 : l1_7.length ≤ c1_7) (h : laws_eqConfig.f k a0_0 a0_1 a0_2 a0_3 a0_4 a0_5 a0_6 l0_7 a1_0 a1_1 a1_2 a1_3 a1_4 a1_5 a1_6 l1_7 = some r) :
    Calls Tryd.prog 14 #[.agg #[.int .i64 a0_0, .int .i64 a0_1, .int .i64 a0_2, .int .i64 a0_3, .int .i64 a0_4, .int .i64 a0_5, .int .i64 a0_6, .slice A0_7 l0_7.length c0_7], .agg #[.int .i64 a1_0, .int .i64 a1_1, .int .i64 a1_2, .int .i64 a1_3, .int .i64 a1_4, .int .i64 a1_5, .int .i64 a1_6, .slice A1_7 l1_7.length c1_7]] w fun e w' => e = .returned (.bool r) ∧ Below w.heap.size w w' := by
  have hu29 := Tryd.underlying29
  have HR0_7 := Aside0.mk hr0_7
  have HC0_7 := Aside0.mk hc0_7
  clear hr0_7 hc0_7
  have HR1_7 := Aside0.mk hr1_7
  have HC1_7 := Aside0.mk hc1_7
  clear hr1_7 hc1_7
  have HB := Aside0.mk (Below.refl w.heap.size w)
  have H : (if a0_0 = a1_0 then (if a0_1 = a1_1 then (if a0_2 = a1_2 then (if a0_3 = a1_3 then (if a0_4 = a1_4 then (if a0_5 = a1_5 then (if a0_6 = a1_6 then ((laws_eqIntS.f k l0_7 l1_7).bind fun t234 => (if t234 = true then (some true) else (some false))) else (some false)) else (some false)) else (some false)) else (some false)) else (some false)) else (some false)) else (some false)) = some r := h
  clear h
  by_cases c3 : a0_0 = a1_0
  · rw [if_pos c3] at H
    have c3b0 : (a0_0 == a1_0) = true := beq_iff_eq.mpr c3
    have c3b1 : (a0_0 != a1_0) = false := bne_eq_false_iff_eq.mpr c3
    clear c3
    by_cases c4 : a0_1 = a1_1
    · rw [if_pos c4] at H
      have c4b0 : (a0_1 == a1_1) = true := beq_iff_eq.mpr c4
      have c4b1 : (a0_1 != a1_1) = false := bne_eq_false_iff_eq.mpr c4
      clear c4
      by_cases c5 : a0_2 = a1_2
      · rw [if_pos c5] at H
        have c5b0 : (a0_2 == a1_2) = true := beq_iff_eq.mpr c5
        have c5b1 : (a0_2 != a1_2) = false := bne_eq_false_iff_eq.mpr c5
        clear c5
        by_cases c6 : a0_3 = a1_3
        · rw [if_pos c6] at H
          have c6b0 : (a0_3 == a1_3) = true := beq_iff_eq.mpr c6
          have c6b1 : (a0_3 != a1_3) = false := bne_eq_false_iff_eq.mpr c6
          clear c6
          by_cases c7 : a0_4 = a1_4
          · rw [if_pos c7] at H
            have c7b0 : (a0_4 == a1_4) = true := beq_iff_eq.mpr c7
            have c7b1 : (a0_4 != a1_4) = false := bne_eq_false_iff_eq.mpr c7
            clear c7
            by_cases c8 : a0_5 = a1_5
            · rw [if_pos c8] at H
              have c8b0 : (a0_5 == a1_5) = true := beq_iff_eq.mpr c8
              have c8b1 : (a0_5 != a1_5) = false := bne_eq_false_iff_eq.mpr c8
              clear c8
              by_cases c9 : a0_6 = a1_6
              · rw [if_pos c9] at H
                have c9b0 : (a0_6 == a1_6) = true := beq_iff_eq.mpr c9
                have c9b1 : (a0_6 != a1_6) = false := bne_eq_false_iff_eq.mpr c9
                clear c9
                replace H := Option.bind_eq_some_iff.mp H
                obtain ⟨t234, A100, H⟩ := H
                replace H : (if t234 = true then (some true) else (some false)) = some r := H
                have A10 := Aside0.mk A100
                clear A100
                by_cases c11 : t234 = true
                · subst c11
                  have H1 : (some true) = some r := by rw [if_pos rfl] at H; exact H
                  clear H
                  have H := H1
                  clear H1
                  obtain rfl := Option.some.inj H
                  go_enter Tryd.func14, Tryd.ntmps14
                  go_wp2_with (first | ((with_reducible refine gate_dst (N := 2) rfl ?_); refine box_event ?hg (N := 2) ?hd (cs := #[.int .i64 a0_0, .int .i64 a0_1, .int .i64 a0_2, .int .i64 a0_3, .int .i64 a0_4, .int .i64 a0_5, .int .i64 a0_6, .slice A0_7 l0_7.length c0_7]) (t := 29) ?hr ?_; (case hd => rfl); (case hg => rfl); (case hr => first | (go_simp; done) | (go_simp; rfl)); intro gb232 hg w12 hbox hb; have n0_ := Aside0.mk (below_step bel_ hb); have n1_ := Aside0.mk (hbox); have n2_ := bs_ (w := w) hg; have n3_ := bs_ (w := w) hg; clear HB; have HB := n0_; have BK232 := n1_; have GW232 := n2_; have GE232 := n3_; clear n0_ n1_ n2_ n3_; clear hb hbox hg) | ((with_reducible refine gate_dst (N := 3) rfl ?_); refine box_event ?hg (N := 3) ?hd (cs := #[.int .i64 a1_0, .int .i64 a1_1, .int .i64 a1_2, .int .i64 a1_3, .int .i64 a1_4, .int .i64 a1_5, .int .i64 a1_6, .slice A1_7 l1_7.length c1_7]) (t := 29) ?hr ?_; (case hd => rfl); (case hg => rfl); (case hr => first | (go_simp; done) | (go_simp; rfl)); intro gb233 hg w13 hbox hb; have n0_ := bb_ (g := gb232) hb; have n1_ := Aside0.mk (below_step bel_ hb); have n2_ := Aside0.mk (hbox); have n3_ := bs_ (w := w) hg; have n4_ := bs_ (w := w) hg; have n5_ := nlt_ (g := gb232) hg; have n6_ := ngt_ (g := gb232) hg; clear BK232; clear HB; have BK232 := n0_; have HB := n1_; have BK233 := n2_; have GW233 := n3_; have GE233 := n4_; have NB232_233 := n5_; have NB233_232 := n6_; clear n0_ n1_ n2_ n3_ n4_ n5_ n6_; clear hb hbox hg; have hnb14 := NB232_233.out; have hnc14 := NB233_232.out; have hcz15_0 : w13.cell? ⟨gb232, 0, none⟩ = some (.int .i64 a0_0) := bc_; have hcz15_1 : w13.cell? ⟨gb232, 1, none⟩ = some (.int .i64 a0_1) := bc_; have hcz15_2 : w13.cell? ⟨gb232, 2, none⟩ = some (.int .i64 a0_2) := bc_; have hcz15_3 : w13.cell? ⟨gb232, 3, none⟩ = some (.int .i64 a0_3) := bc_; have hcz15_4 : w13.cell? ⟨gb232, 4, none⟩ = some (.int .i64 a0_4) := bc_; have hcz15_5 : w13.cell? ⟨gb232, 5, none⟩ = some (.int .i64 a0_5) := bc_; have hcz15_6 : w13.cell? ⟨gb232, 6, none⟩ = some (.int .i64 a0_6) := bc_; have hcz15_7 : w13.cell? ⟨gb232, 7, none⟩ = some (.slice A0_7 l0_7.length c0_7) := bc_; have hfz15_0 := blk_frozen BK232.out 0; have hfz15_1 := blk_frozen BK232.out 1; have hfz15_2 := blk_frozen BK232.out 2; have hfz15_3 := blk_frozen BK232.out 3; have hfz15_4 := blk_frozen BK232.out 4; have hfz15_5 := blk_frozen BK232.out 5; have hfz15_6 := blk_frozen BK232.out 6; have hfz15_7 := blk_frozen BK232.out 7; have hcz16_0 : w13.cell? ⟨gb233, 0, none⟩ = some (.int .i64 a1_0) := bc_; have hcz16_1 : w13.cell? ⟨gb233, 1, none⟩ = some (.int .i64 a1_1) := bc_; have hcz16_2 : w13.cell? ⟨gb233, 2, none⟩ = some (.int .i64 a1_2) := bc_; have hcz16_3 : w13.cell? ⟨gb233, 3, none⟩ = some (.int .i64 a1_3) := bc_; have hcz16_4 : w13.cell? ⟨gb233, 4, none⟩ = some (.int .i64 a1_4) := bc_; have hcz16_5 : w13.cell? ⟨gb233, 5, none⟩ = some (.int .i64 a1_5) := bc_; have hcz16_6 : w13.cell? ⟨gb233, 6, none⟩ = some (.int .i64 a1_6) := bc_; have hcz16_7 : w13.cell? ⟨gb233, 7, none⟩ = some (.slice A1_7 l1_7.length c1_7) := bc_; have hfz16_0 := blk_frozen BK233.out 0; have hfz16_1 := blk_frozen BK233.out 1; have hfz16_2 := blk_frozen BK233.out 2; have hfz16_3 := blk_frozen BK233.out 3; have hfz16_4 := blk_frozen BK233.out 4; have hfz16_5 := blk_frozen BK233.out 5; have hfz16_6 := blk_frozen BK233.out 6; have hfz16_7 := blk_frozen BK233.out 7) | ((with_reducible refine gate_callee (f := 39) rfl ?_); refine goesL_ (some 44) rfl rfl Tryd.func39 (by kernel_rfl) rfl #[.slice A0_7 l0_7.length c0_7, .slice A1_7 l1_7.length c1_7] rfl mp_ ?_; (with_reducible refine (laws_eqIntS.calls k _ _ l0_7 _ _ l1_7 true _ ?side1 ?side2 ?side3 ?side4 A10.out).mono ?_); (case side1 => repeat (first | exact (Kd.C_below HR0_7.out HB.out) | (with_reducible refine Kd.C_alloc ?_ _) | (with_reducible refine Kd.C_drewN ?_ _) | (with_reducible refine Kd.C_drew ?_))); (case side2 => exact HC0_7.out); (case side3 => repeat (first | exact (Kd.C_below HR1_7.out HB.out) | (with_reducible refine Kd.C_alloc ?_ _) | (with_reducible refine Kd.C_drewN ?_ _) | (with_reducible refine Kd.C_drew ?_))); (case side4 => exact HC1_7.out); rintro e w' ⟨rfl, ⟨nd, rfl⟩⟩; refine ⟨_, rfl, ?_⟩))
                  go_ret
                  exact ⟨rf_, bel_⟩
                · replace c11 := Bool.eq_false_iff.mpr c11
                  subst c11
                  have H1 : (some false) = some r := by rw [if_neg (show ¬ (false = true) by decide)] at H; exact H
                  clear H
                  have H := H1
                  clear H1
                  obtain rfl := Option.some.inj H
                  go_enter Tryd.func14, Tryd.ntmps14
                  go_wp2_with (first | ((with_reducible refine gate_dst (N := 2) rfl ?_); refine box_event ?hg (N := 2) ?hd (cs := #[.int .i64 a0_0, .int .i64 a0_1, .int .i64 a0_2, .int .i64 a0_3, .int .i64 a0_4, .int .i64 a0_5, .int .i64 a0_6, .slice A0_7 l0_7.length c0_7]) (t := 29) ?hr ?_; (case hd => rfl); (case hg => rfl); (case hr => first | (go_simp; done) | (go_simp; rfl)); intro gb232 hg w17 hbox hb; have n0_ := Aside0.mk (below_step bel_ hb); have n1_ := Aside0.mk (hbox); have n2_ := bs_ (w := w) hg; have n3_ := bs_ (w := w) hg; clear HB; have HB := n0_; have BK232 := n1_; have GW232 := n2_; have GE232 := n3_; clear n0_ n1_ n2_ n3_; clear hb hbox hg) | ((with_reducible refine gate_dst (N := 3) rfl ?_); refine box_event ?hg (N := 3) ?hd (cs := #[.int .i64 a1_0, .int .i64 a1_1, .int .i64 a1_2, .int .i64 a1_3, .int .i64 a1_4, .int .i64 a1_5, .int .i64 a1_6, .slice A1_7 l1_7.length c1_7]) (t := 29) ?hr ?_; (case hd => rfl); (case hg => rfl); (case hr => first | (go_simp; done) | (go_simp; rfl)); intro gb233 hg w18 hbox hb; have n0_ := bb_ (g := gb232) hb; have n1_ := Aside0.mk (below_step bel_ hb); have n2_ := Aside0.mk (hbox); have n3_ := bs_ (w := w) hg; have n4_ := bs_ (w := w) hg; have n5_ := nlt_ (g := gb232) hg; have n6_ := ngt_ (g := gb232) hg; clear BK232; clear HB; have BK232 := n0_; have HB := n1_; have BK233 := n2_; have GW233 := n3_; have GE233 := n4_; have NB232_233 := n5_; have NB233_232 := n6_; clear n0_ n1_ n2_ n3_ n4_ n5_ n6_; clear hb hbox hg; have hnb19 := NB232_233.out; have hnc19 := NB233_232.out; have hcz20_0 : w18.cell? ⟨gb232, 0, none⟩ = some (.int .i64 a0_0) := bc_; have hcz20_1 : w18.cell? ⟨gb232, 1, none⟩ = some (.int .i64 a0_1) := bc_; have hcz20_2 : w18.cell? ⟨gb232, 2, none⟩ = some (.int .i64 a0_2) := bc_; have hcz20_3 : w18.cell? ⟨gb232, 3, none⟩ = some (.int .i64 a0_3) := bc_; have hcz20_4 : w18.cell? ⟨gb232, 4, none⟩ = some (.int .i64 a0_4) := bc_; have hcz20_5 : w18.cell? ⟨gb232, 5, none⟩ = some (.int .i64 a0_5) := bc_; have hcz20_6 : w18.cell? ⟨gb232, 6, none⟩ = some (.int .i64 a0_6) := bc_; have hcz20_7 : w18.cell? ⟨gb232, 7, none⟩ = some (.slice A0_7 l0_7.length c0_7) := bc_; have hfz20_0 := blk_frozen BK232.out 0; have hfz20_1 := blk_frozen BK232.out 1; have hfz20_2 := blk_frozen BK232.out 2; have hfz20_3 := blk_frozen BK232.out 3; have hfz20_4 := blk_frozen BK232.out 4; have hfz20_5 := blk_frozen BK232.out 5; have hfz20_6 := blk_frozen BK232.out 6; have hfz20_7 := blk_frozen BK232.out 7; have hcz21_0 : w18.cell? ⟨gb233, 0, none⟩ = some (.int .i64 a1_0) := bc_; have hcz21_1 : w18.cell? ⟨gb233, 1, none⟩ = some (.int .i64 a1_1) := bc_; have hcz21_2 : w18.cell? ⟨gb233, 2, none⟩ = some (.int .i64 a1_2) := bc_; have hcz21_3 : w18.cell? ⟨gb233, 3, none⟩ = some (.int .i64 a1_3) := bc_; have hcz21_4 : w18.cell? ⟨gb233, 4, none⟩ = some (.int .i64 a1_4) := bc_; have hcz21_5 : w18.cell? ⟨gb233, 5, none⟩ = some (.int .i64 a1_5) := bc_; have hcz21_6 : w18.cell? ⟨gb233, 6, none⟩ = some (.int .i64 a1_6) := bc_; have hcz21_7 : w18.cell? ⟨gb233, 7, none⟩ = some (.slice A1_7 l1_7.length c1_7) := bc_; have hfz21_0 := blk_frozen BK233.out 0; have hfz21_1 := blk_frozen BK233.out 1; have hfz21_2 := blk_frozen BK233.out 2; have hfz21_3 := blk_frozen BK233.out 3; have hfz21_4 := blk_frozen BK233.out 4; have hfz21_5 := blk_frozen BK233.out 5; have hfz21_6 := blk_frozen BK233.out 6; have hfz21_7 := blk_frozen BK233.out 7) | ((with_reducible refine gate_callee (f := 39) rfl ?_); refine goesL_ (some 44) rfl rfl Tryd.func39 (by kernel_rfl) rfl #[.slice A0_7 l0_7.length c0_7, .slice A1_7 l1_7.length c1_7] rfl mp_ ?_; (with_reducible refine (laws_eqIntS.calls k _ _ l0_7 _ _ l1_7 false _ ?side1 ?side2 ?side3 ?side4 A10.out).mono ?_); (case side1 => repeat (first | exact (Kd.C_below HR0_7.out HB.out) | (with_reducible refine Kd.C_alloc ?_ _) | (with_reducible refine Kd.C_drewN ?_ _) | (with_reducible refine Kd.C_drew ?_))); (case side2 => exact HC0_7.out); (case side3 => repeat (first | exact (Kd.C_below HR1_7.out HB.out) | (with_reducible refine Kd.C_alloc ?_ _) | (with_reducible refine Kd.C_drewN ?_ _) | (with_reducible refine Kd.C_drew ?_))); (case side4 => exact HC1_7.out); rintro e w' ⟨rfl, ⟨nd, rfl⟩⟩; refine ⟨_, rfl, ?_⟩))
                  go_ret
                  exact ⟨rf_, bel_⟩
              · rw [if_neg c9] at H
                have c9b0 : (a0_6 == a1_6) = false := beq_eq_false_iff_ne.mpr c9
                have c9b1 : (a0_6 != a1_6) = true := bne_iff_ne.mpr c9
                obtain rfl := Option.some.inj H
                go_enter Tryd.func14, Tryd.ntmps14
                go_wp2_with (first | ((with_reducible refine gate_dst (N := 2) rfl ?_); refine box_event ?hg (N := 2) ?hd (cs := #[.int .i64 a0_0, .int .i64 a0_1, .int .i64 a0_2, .int .i64 a0_3, .int .i64 a0_4, .int .i64 a0_5, .int .i64 a0_6, .slice A0_7 l0_7.length c0_7]) (t := 29) ?hr ?_; (case hd => rfl); (case hg => rfl); (case hr => first | (go_simp; done) | (go_simp; rfl)); intro gb232 hg w22 hbox hb; have n0_ := Aside0.mk (below_step bel_ hb); have n1_ := Aside0.mk (hbox); have n2_ := bs_ (w := w) hg; have n3_ := bs_ (w := w) hg; clear HB; have HB := n0_; have BK232 := n1_; have GW232 := n2_; have GE232 := n3_; clear n0_ n1_ n2_ n3_; clear hb hbox hg) | ((with_reducible refine gate_dst (N := 3) rfl ?_); refine box_event ?hg (N := 3) ?hd (cs := #[.int .i64 a1_0, .int .i64 a1_1, .int .i64 a1_2, .int .i64 a1_3, .int .i64 a1_4, .int .i64 a1_5, .int .i64 a1_6, .slice A1_7 l1_7.length c1_7]) (t := 29) ?hr ?_; (case hd => rfl); (case hg => rfl); (case hr => first | (go_simp; done) | (go_simp; rfl)); intro gb233 hg w23 hbox hb; have n0_ := bb_ (g := gb232) hb; have n1_ := Aside0.mk (below_step bel_ hb); have n2_ := Aside0.mk (hbox); have n3_ := bs_ (w := w) hg; have n4_ := bs_ (w := w) hg; have n5_ := nlt_ (g := gb232) hg; have n6_ := ngt_ (g := gb232) hg; clear BK232; clear HB; have BK232 := n0_; have HB := n1_; have BK233 := n2_; have GW233 := n3_; have GE233 := n4_; have NB232_233 := n5_; have NB233_232 := n6_; clear n0_ n1_ n2_ n3_ n4_ n5_ n6_; clear hb hbox hg; have hnb24 := NB232_233.out; have hnc24 := NB233_232.out; have hcz25_0 : w23.cell? ⟨gb232, 0, none⟩ = some (.int .i64 a0_0) := bc_; have hcz25_1 : w23.cell? ⟨gb232, 1, none⟩ = some (.int .i64 a0_1) := bc_; have hcz25_2 : w23.cell? ⟨gb232, 2, none⟩ = some (.int .i64 a0_2) := bc_; have hcz25_3 : w23.cell? ⟨gb232, 3, none⟩ = some (.int .i64 a0_3) := bc_; have hcz25_4 : w23.cell? ⟨gb232, 4, none⟩ = some (.int .i64 a0_4) := bc_; have hcz25_5 : w23.cell? ⟨gb232, 5, none⟩ = some (.int .i64 a0_5) := bc_; have hcz25_6 : w23.cell? ⟨gb232, 6, none⟩ = some (.int .i64 a0_6) := bc_; have hcz25_7 : w23.cell? ⟨gb232, 7, none⟩ = some (.slice A0_7 l0_7.length c0_7) := bc_; have hfz25_0 := blk_frozen BK232.out 0; have hfz25_1 := blk_frozen BK232.out 1; have hfz25_2 := blk_frozen BK232.out 2; have hfz25_3 := blk_frozen BK232.out 3; have hfz25_4 := blk_frozen BK232.out 4; have hfz25_5 := blk_frozen BK232.out 5; have hfz25_6 := blk_frozen BK232.out 6; have hfz25_7 := blk_frozen BK232.out 7; have hcz26_0 : w23.cell? ⟨gb233, 0, none⟩ = some (.int .i64 a1_0) := bc_; have hcz26_1 : w23.cell? ⟨gb233, 1, none⟩ = some (.int .i64 a1_1) := bc_; have hcz26_2 : w23.cell? ⟨gb233, 2, none⟩ = some (.int .i64 a1_2) := bc_; have hcz26_3 : w23.cell? ⟨gb233, 3, none⟩ = some (.int .i64 a1_3) := bc_; have hcz26_4 : w23.cell? ⟨gb233, 4, none⟩ = some (.int .i64 a1_4) := bc_; have hcz26_5 : w23.cell? ⟨gb233, 5, none⟩ = some (.int .i64 a1_5) := bc_; have hcz26_6 : w23.cell? ⟨gb233, 6, none⟩ = some (.int .i64 a1_6) := bc_; have hcz26_7 : w23.cell? ⟨gb233, 7, none⟩ = some (.slice A1_7 l1_7.length c1_7) := bc_; have hfz26_0 := blk_frozen BK233.out 0; have hfz26_1 := blk_frozen BK233.out 1; have hfz26_2 := blk_frozen BK233.out 2; have hfz26_3 := blk_frozen BK233.out 3; have hfz26_4 := blk_frozen BK233.out 4; have hfz26_5 := blk_frozen BK233.out 5; have hfz26_6 := blk_frozen BK233.out 6; have hfz26_7 := blk_frozen BK233.out 7))
                go_ret
                exact ⟨rf_, bel_⟩
            · rw [if_neg c8] at H
              have c8b0 : (a0_5 == a1_5) = false := beq_eq_false_iff_ne.mpr c8
              have c8b1 : (a0_5 != a1_5) = true := bne_iff_ne.mpr c8
              obtain rfl := Option.some.inj H
              go_enter Tryd.func14, Tryd.ntmps14
              go_wp2_with (first | ((with_reducible refine gate_dst (N := 2) rfl ?_); refine box_event ?hg (N := 2) ?hd (cs := #[.int .i64 a0_0, .int .i64 a0_1, .int .i64 a0_2, .int .i64 a0_3, .int .i64 a0_4, .int .i64 a0_5, .int .i64 a0_6, .slice A0_7 l0_7.length c0_7]) (t := 29) ?hr ?_; (case hd => rfl); (case hg => rfl); (case hr => first | (go_simp; done) | (go_simp; rfl)); intro gb232 hg w27 hbox hb; have n0_ := Aside0.mk (below_step bel_ hb); have n1_ := Aside0.mk (hbox); have n2_ := bs_ (w := w) hg; have n3_ := bs_ (w := w) hg; clear HB; have HB := n0_; have BK232 := n1_; have GW232 := n2_; have GE232 := n3_; clear n0_ n1_ n2_ n3_; clear hb hbox hg) | ((with_reducible refine gate_dst (N := 3) rfl ?_); refine box_event ?hg (N := 3) ?hd (cs := #[.int .i64 a1_0, .int .i64 a1_1, .int .i64 a1_2, .int .i64 a1_3, .int .i64 a1_4, .int .i64 a1_5, .int .i64 a1_6, .slice A1_7 l1_7.length c1_7]) (t := 29) ?hr ?_; (case hd => rfl); (case hg => rfl); (case hr => first | (go_simp; done) | (go_simp; rfl)); intro gb233 hg w28 hbox hb; have n0_ := bb_ (g := gb232) hb; have n1_ := Aside0.mk (below_step bel_ hb); have n2_ := Aside0.mk (hbox); have n3_ := bs_ (w := w) hg; have n4_ := bs_ (w := w) hg; have n5_ := nlt_ (g := gb232) hg; have n6_ := ngt_ (g := gb232) hg; clear BK232; clear HB; have BK232 := n0_; have HB := n1_; have BK233 := n2_; have GW233 := n3_; have GE233 := n4_; have NB232_233 := n5_; have NB233_232 := n6_; clear n0_ n1_ n2_ n3_ n4_ n5_ n6_; clear hb hbox hg; have hnb29 := NB232_233.out; have hnc29 := NB233_232.out; have hcz30_0 : w28.cell? ⟨gb232, 0, none⟩ = some (.int .i64 a0_0) := bc_; have hcz30_1 : w28.cell? ⟨gb232, 1, none⟩ = some (.int .i64 a0_1) := bc_; have hcz30_2 : w28.cell? ⟨gb232, 2, none⟩ = some (.int .i64 a0_2) := bc_; have hcz30_3 : w28.cell? ⟨gb232, 3, none⟩ = some (.int .i64 a0_3) := bc_; have hcz30_4 : w28.cell? ⟨gb232, 4, none⟩ = some (.int .i64 a0_4) := bc_; have hcz30_5 : w28.cell? ⟨gb232, 5, none⟩ = some (.int .i64 a0_5) := bc_; have hcz30_6 : w28.cell? ⟨gb232, 6, none⟩ = some (.int .i64 a0_6) := bc_; have hcz30_7 : w28.cell? ⟨gb232, 7, none⟩ = some (.slice A0_7 l0_7.length c0_7) := bc_; have hfz30_0 := blk_frozen BK232.out 0; have hfz30_1 := blk_frozen BK232.out 1; have hfz30_2 := blk_frozen BK232.out 2; have hfz30_3 := blk_frozen BK232.out 3; have hfz30_4 := blk_frozen BK232.out 4; have hfz30_5 := blk_frozen BK232.out 5; have hfz30_6 := blk_frozen BK232.out 6; have hfz30_7 := blk_frozen BK232.out 7; have hcz31_0 : w28.cell? ⟨gb233, 0, none⟩ = some (.int .i64 a1_0) := bc_; have hcz31_1 : w28.cell? ⟨gb233, 1, none⟩ = some (.int .i64 a1_1) := bc_; have hcz31_2 : w28.cell? ⟨gb233, 2, none⟩ = some (.int .i64 a1_2) := bc_; have hcz31_3 : w28.cell? ⟨gb233, 3, none⟩ = some (.int .i64 a1_3) := bc_; have hcz31_4 : w28.cell? ⟨gb233, 4, none⟩ = some (.int .i64 a1_4) := bc_; have hcz31_5 : w28.cell? ⟨gb233, 5, none⟩ = some (.int .i64 a1_5) := bc_; have hcz31_6 : w28.cell? ⟨gb233, 6, none⟩ = some (.int .i64 a1_6) := bc_; have hcz31_7 : w28.cell? ⟨gb233, 7, none⟩ = some (.slice A1_7 l1_7.length c1_7) := bc_; have hfz31_0 := blk_frozen BK233.out 0; have hfz31_1 := blk_frozen BK233.out 1; have hfz31_2 := blk_frozen BK233.out 2; have hfz31_3 := blk_frozen BK233.out 3; have hfz31_4 := blk_frozen BK233.out 4; have hfz31_5 := blk_frozen BK233.out 5; have hfz31_6 := blk_frozen BK233.out 6; have hfz31_7 := blk_frozen BK233.out 7))
              go_ret
              exact ⟨rf_, bel_⟩
          · rw [if_neg c7] at H
            have c7b0 : (a0_4 == a1_4) = false := beq_eq_false_iff_ne.mpr c7
            have c7b1 : (a0_4 != a1_4) = true := bne_iff_ne.mpr c7
            obtain rfl := Option.some.inj H
            go_enter Tryd.func14, Tryd.ntmps14
            go_wp2_with (first | ((with_reducible refine gate_dst (N := 2) rfl ?_); refine box_event ?hg (N := 2) ?hd (cs := #[.int .i64 a0_0, .int .i64 a0_1, .int .i64 a0_2, .int .i64 a0_3, .int .i64 a0_4, .int .i64 a0_5, .int .i64 a0_6, .slice A0_7 l0_7.length c0_7]) (t := 29) ?hr ?_; (case hd => rfl); (case hg => rfl); (case hr => first | (go_simp; done) | (go_simp; rfl)); intro gb232 hg w32 hbox hb; have n0_ := Aside0.mk (below_step bel_ hb); have n1_ := Aside0.mk (hbox); have n2_ := bs_ (w := w) hg; have n3_ := bs_ (w := w) hg; clear HB; have HB := n0_; have BK232 := n1_; have GW232 := n2_; have GE232 := n3_; clear n0_ n1_ n2_ n3_; clear hb hbox hg) | ((with_reducible refine gate_dst (N := 3) rfl ?_); refine box_event ?hg (N := 3) ?hd (cs := #[.int .i64 a1_0, .int .i64 a1_1, .int .i64 a1_2, .int .i64 a1_3, .int .i64 a1_4, .int .i64 a1_5, .int .i64 a1_6, .slice A1_7 l1_7.length c1_7]) (t := 29) ?hr ?_; (case hd => rfl); (case hg => rfl); (case hr => first | (go_simp; done) | (go_simp; rfl)); intro gb233 hg w33 hbox hb; have n0_ := bb_ (g := gb232) hb; have n1_ := Aside0.mk (below_step bel_ hb); have n2_ := Aside0.mk (hbox); have n3_ := bs_ (w := w) hg; have n4_ := bs_ (w := w) hg; have n5_ := nlt_ (g := gb232) hg; have n6_ := ngt_ (g := gb232) hg; clear BK232; clear HB; have BK232 := n0_; have HB := n1_; have BK233 := n2_; have GW233 := n3_; have GE233 := n4_; have NB232_233 := n5_; have NB233_232 := n6_; clear n0_ n1_ n2_ n3_ n4_ n5_ n6_; clear hb hbox hg; have hnb34 := NB232_233.out; have hnc34 := NB233_232.out; have hcz35_0 : w33.cell? ⟨gb232, 0, none⟩ = some (.int .i64 a0_0) := bc_; have hcz35_1 : w33.cell? ⟨gb232, 1, none⟩ = some (.int .i64 a0_1) := bc_; have hcz35_2 : w33.cell? ⟨gb232, 2, none⟩ = some (.int .i64 a0_2) := bc_; have hcz35_3 : w33.cell? ⟨gb232, 3, none⟩ = some (.int .i64 a0_3) := bc_; have hcz35_4 : w33.cell? ⟨gb232, 4, none⟩ = some (.int .i64 a0_4) := bc_; have hcz35_5 : w33.cell? ⟨gb232, 5, none⟩ = some (.int .i64 a0_5) := bc_; have hcz35_6 : w33.cell? ⟨gb232, 6, none⟩ = some (.int .i64 a0_6) := bc_; have hcz35_7 : w33.cell? ⟨gb232, 7, none⟩ = some (.slice A0_7 l0_7.length c0_7) := bc_; have hfz35_0 := blk_frozen BK232.out 0; have hfz35_1 := blk_frozen BK232.out 1; have hfz35_2 := blk_frozen BK232.out 2; have hfz35_3 := blk_frozen BK232.out 3; have hfz35_4 := blk_frozen BK232.out 4; have hfz35_5 := blk_frozen BK232.out 5; have hfz35_6 := blk_frozen BK232.out 6; have hfz35_7 := blk_frozen BK232.out 7; have hcz36_0 : w33.cell? ⟨gb233, 0, none⟩ = some (.int .i64 a1_0) := bc_; have hcz36_1 : w33.cell? ⟨gb233, 1, none⟩ = some (.int .i64 a1_1) := bc_; have hcz36_2 : w33.cell? ⟨gb233, 2, none⟩ = some (.int .i64 a1_2) := bc_; have hcz36_3 : w33.cell? ⟨gb233, 3, none⟩ = some (.int .i64 a1_3) := bc_; have hcz36_4 : w33.cell? ⟨gb233, 4, none⟩ = some (.int .i64 a1_4) := bc_; have hcz36_5 : w33.cell? ⟨gb233, 5, none⟩ = some (.int .i64 a1_5) := bc_; have hcz36_6 : w33.cell? ⟨gb233, 6, none⟩ = some (.int .i64 a1_6) := bc_; have hcz36_7 : w33.cell? ⟨gb233, 7, none⟩ = some (.slice A1_7 l1_7.length c1_7) := bc_; have hfz36_0 := blk_frozen BK233.out 0; have hfz36_1 := blk_frozen BK233.out 1; have hfz36_2 := blk_frozen BK233.out 2; have hfz36_3 := blk_frozen BK233.out 3; have hfz36_4 := blk_frozen BK233.out 4; have hfz36_5 := blk_frozen BK233.out 5; have hfz36_6 := blk_frozen BK233.out 6; have hfz36_7 := blk_frozen BK233.out 7))
            go_ret
            exact ⟨rf_, bel_⟩
        · rw [if_neg c6] at H
          have c6b0 : (a0_3 == a1_3) = false := beq_eq_false_iff_ne.mpr c6
          have c6b1 : (a0_3 != a1_3) = true := bne_iff_ne.mpr c6
          obtain rfl := Option.some.inj H
          go_enter Tryd.func14, Tryd.ntmps14
          go_wp2_with (first | ((with_reducible refine gate_dst (N := 2) rfl ?_); refine box_event ?hg (N := 2) ?hd (cs := #[.int .i64 a0_0, .int .i64 a0_1, .int .i64 a0_2, .int .i64 a0_3, .int .i64 a0_4, .int .i64 a0_5, .int .i64 a0_6, .slice A0_7 l0_7.length c0_7]) (t := 29) ?hr ?_; (case hd => rfl); (case hg => rfl); (case hr => first | (go_simp; done) | (go_simp; rfl)); intro gb232 hg w37 hbox hb; have n0_ := Aside0.mk (below_step bel_ hb); have n1_ := Aside0.mk (hbox); have n2_ := bs_ (w := w) hg; have n3_ := bs_ (w := w) hg; clear HB; have HB := n0_; have BK232 := n1_; have GW232 := n2_; have GE232 := n3_; clear n0_ n1_ n2_ n3_; clear hb hbox hg) | ((with_reducible refine gate_dst (N := 3) rfl ?_); refine box_event ?hg (N := 3) ?hd (cs := #[.int .i64 a1_0, .int .i64 a1_1, .int .i64 a1_2, .int .i64 a1_3, .int .i64 a1_4, .int .i64 a1_5, .int .i64 a1_6, .slice A1_7 l1_7.length c1_7]) (t := 29) ?hr ?_; (case hd => rfl); (case hg => rfl); (case hr => first | (go_simp; done) | (go_simp; rfl)); intro gb233 hg w38 hbox hb; have n0_ := bb_ (g := gb232) hb; have n1_ := Aside0.mk (below_step bel_ hb); have n2_ := Aside0.mk (hbox); have n3_ := bs_ (w := w) hg; have n4_ := bs_ (w := w) hg; have n5_ := nlt_ (g := gb232) hg; have n6_ := ngt_ (g := gb232) hg; clear BK232; clear HB; have BK232 := n0_; have HB := n1_; have BK233 := n2_; have GW233 := n3_; have GE233 := n4_; have NB232_233 := n5_; have NB233_232 := n6_; clear n0_ n1_ n2_ n3_ n4_ n5_ n6_; clear hb hbox hg; have hnb39 := NB232_233.out; have hnc39 := NB233_232.out; have hcz40_0 : w38.cell? ⟨gb232, 0, none⟩ = some (.int .i64 a0_0) := bc_; have hcz40_1 : w38.cell? ⟨gb232, 1, none⟩ = some (.int .i64 a0_1) := bc_; have hcz40_2 : w38.cell? ⟨gb232, 2, none⟩ = some (.int .i64 a0_2) := bc_; have hcz40_3 : w38.cell? ⟨gb232, 3, none⟩ = some (.int .i64 a0_3) := bc_; have hcz40_4 : w38.cell? ⟨gb232, 4, none⟩ = some (.int .i64 a0_4) := bc_; have hcz40_5 : w38.cell? ⟨gb232, 5, none⟩ = some (.int .i64 a0_5) := bc_; have hcz40_6 : w38.cell? ⟨gb232, 6, none⟩ = some (.int .i64 a0_6) := bc_; have hcz40_7 : w38.cell? ⟨gb232, 7, none⟩ = some (.slice A0_7 l0_7.length c0_7) := bc_; have hfz40_0 := blk_frozen BK232.out 0; have hfz40_1 := blk_frozen BK232.out 1; have hfz40_2 := blk_frozen BK232.out 2; have hfz40_3 := blk_frozen BK232.out 3; have hfz40_4 := blk_frozen BK232.out 4; have hfz40_5 := blk_frozen BK232.out 5; have hfz40_6 := blk_frozen BK232.out 6; have hfz40_7 := blk_frozen BK232.out 7; have hcz41_0 : w38.cell? ⟨gb233, 0, none⟩ = some (.int .i64 a1_0) := bc_; have hcz41_1 : w38.cell? ⟨gb233, 1, none⟩ = some (.int .i64 a1_1) := bc_; have hcz41_2 : w38.cell? ⟨gb233, 2, none⟩ = some (.int .i64 a1_2) := bc_; have hcz41_3 : w38.cell? ⟨gb233, 3, none⟩ = some (.int .i64 a1_3) := bc_; have hcz41_4 : w38.cell? ⟨gb233, 4, none⟩ = some (.int .i64 a1_4) := bc_; have hcz41_5 : w38.cell? ⟨gb233, 5, none⟩ = some (.int .i64 a1_5) := bc_; have hcz41_6 : w38.cell? ⟨gb233, 6, none⟩ = some (.int .i64 a1_6) := bc_; have hcz41_7 : w38.cell? ⟨gb233, 7, none⟩ = some (.slice A1_7 l1_7.length c1_7) := bc_; have hfz41_0 := blk_frozen BK233.out 0; have hfz41_1 := blk_frozen BK233.out 1; have hfz41_2 := blk_frozen BK233.out 2; have hfz41_3 := blk_frozen BK233.out 3; have hfz41_4 := blk_frozen BK233.out 4; have hfz41_5 := blk_frozen BK233.out 5; have hfz41_6 := blk_frozen BK233.out 6; have hfz41_7 := blk_frozen BK233.out 7))
          go_ret
          exact ⟨rf_, bel_⟩
      · rw [if_neg c5] at H
        have c5b0 : (a0_2 == a1_2) = false := beq_eq_false_iff_ne.mpr c5
        have c5b1 : (a0_2 != a1_2) = true := bne_iff_ne.mpr c5
        obtain rfl := Option.some.inj H
        go_enter Tryd.func14, Tryd.ntmps14
        go_wp2_with (first | ((with_reducible refine gate_dst (N := 2) rfl ?_); refine box_event ?hg (N := 2) ?hd (cs := #[.int .i64 a0_0, .int .i64 a0_1, .int .i64 a0_2, .int .i64 a0_3, .int .i64 a0_4, .int .i64 a0_5, .int .i64 a0_6, .slice A0_7 l0_7.length c0_7]) (t := 29) ?hr ?_; (case hd => rfl); (case hg => rfl); (case hr => first | (go_simp; done) | (go_simp; rfl)); intro gb232 hg w42 hbox hb; have n0_ := Aside0.mk (below_step bel_ hb); have n1_ := Aside0.mk (hbox); have n2_ := bs_ (w := w) hg; have n3_ := bs_ (w := w) hg; clear HB; have HB := n0_; have BK232 := n1_; have GW232 := n2_; have GE232 := n3_; clear n0_ n1_ n2_ n3_; clear hb hbox hg) | ((with_reducible refine gate_dst (N := 3) rfl ?_); refine box_event ?hg (N := 3) ?hd (cs := #[.int .i64 a1_0, .int .i64 a1_1, .int .i64 a1_2, .int .i64 a1_3, .int .i64 a1_4, .int .i64 a1_5, .int .i64 a1_6, .slice A1_7 l1_7.length c1_7]) (t := 29) ?hr ?_; (case hd => rfl); (case hg => rfl); (case hr => first | (go_simp; done) | (go_simp; rfl)); intro gb233 hg w43 hbox hb; have n0_ := bb_ (g := gb232) hb; have n1_ := Aside0.mk (below_step bel_ hb); have n2_ := Aside0.mk (hbox); have n3_ := bs_ (w := w) hg; have n4_ := bs_ (w := w) hg; have n5_ := nlt_ (g := gb232) hg; have n6_ := ngt_ (g := gb232) hg; clear BK232; clear HB; have BK232 := n0_; have HB := n1_; have BK233 := n2_; have GW233 := n3_; have GE233 := n4_; have NB232_233 := n5_; have NB233_232 := n6_; clear n0_ n1_ n2_ n3_ n4_ n5_ n6_; clear hb hbox hg; have hnb44 := NB232_233.out; have hnc44 := NB233_232.out; have hcz45_0 : w43.cell? ⟨gb232, 0, none⟩ = some (.int .i64 a0_0) := bc_; have hcz45_1 : w43.cell? ⟨gb232, 1, none⟩ = some (.int .i64 a0_1) := bc_; have hcz45_2 : w43.cell? ⟨gb232, 2, none⟩ = some (.int .i64 a0_2) := bc_; have hcz45_3 : w43.cell? ⟨gb232, 3, none⟩ = some (.int .i64 a0_3) := bc_; have hcz45_4 : w43.cell? ⟨gb232, 4, none⟩ = some (.int .i64 a0_4) := bc_; have hcz45_5 : w43.cell? ⟨gb232, 5, none⟩ = some (.int .i64 a0_5) := bc_; have hcz45_6 : w43.cell? ⟨gb232, 6, none⟩ = some (.int .i64 a0_6) := bc_; have hcz45_7 : w43.cell? ⟨gb232, 7, none⟩ = some (.slice A0_7 l0_7.length c0_7) := bc_; have hfz45_0 := blk_frozen BK232.out 0; have hfz45_1 := blk_frozen BK232.out 1; have hfz45_2 := blk_frozen BK232.out 2; have hfz45_3 := blk_frozen BK232.out 3; have hfz45_4 := blk_frozen BK232.out 4; have hfz45_5 := blk_frozen BK232.out 5; have hfz45_6 := blk_frozen BK232.out 6; have hfz45_7 := blk_frozen BK232.out 7; have hcz46_0 : w43.cell? ⟨gb233, 0, none⟩ = some (.int .i64 a1_0) := bc_; have hcz46_1 : w43.cell? ⟨gb233, 1, none⟩ = some (.int .i64 a1_1) := bc_; have hcz46_2 : w43.cell? ⟨gb233, 2, none⟩ = some (.int .i64 a1_2) := bc_; have hcz46_3 : w43.cell? ⟨gb233, 3, none⟩ = some (.int .i64 a1_3) := bc_; have hcz46_4 : w43.cell? ⟨gb233, 4, none⟩ = some (.int .i64 a1_4) := bc_; have hcz46_5 : w43.cell? ⟨gb233, 5, none⟩ = some (.int .i64 a1_5) := bc_; have hcz46_6 : w43.cell? ⟨gb233, 6, none⟩ = some (.int .i64 a1_6) := bc_; have hcz46_7 : w43.cell? ⟨gb233, 7, none⟩ = some (.slice A1_7 l1_7.length c1_7) := bc_; have hfz46_0 := blk_frozen BK233.out 0; have hfz46_1 := blk_frozen BK233.out 1; have hfz46_2 := blk_frozen BK233.out 2; have hfz46_3 := blk_frozen BK233.out 3; have hfz46_4 := blk_frozen BK233.out 4; have hfz46_5 := blk_frozen BK233.out 5; have hfz46_6 := blk_frozen BK233.out 6; have hfz46_7 := blk_frozen BK233.out 7))
        go_ret
        exact ⟨rf_, bel_⟩
    · rw [if_neg c4] at H
      have c4b0 : (a0_1 == a1_1) = false := beq_eq_false_iff_ne.mpr c4
      have c4b1 : (a0_1 != a1_1) = true := bne_iff_ne.mpr c4
      obtain rfl := Option.some.inj H
      go_enter Tryd.func14, Tryd.ntmps14
      go_wp2_with (first | ((with_reducible refine gate_dst (N := 2) rfl ?_); refine box_event ?hg (N := 2) ?hd (cs := #[.int .i64 a0_0, .int .i64 a0_1, .int .i64 a0_2, .int .i64 a0_3, .int .i64 a0_4, .int .i64 a0_5, .int .i64 a0_6, .slice A0_7 l0_7.length c0_7]) (t := 29) ?hr ?_; (case hd => rfl); (case hg => rfl); (case hr => first | (go_simp; done) | (go_simp; rfl)); intro gb232 hg w47 hbox hb; have n0_ := Aside0.mk (below_step bel_ hb); have n1_ := Aside0.mk (hbox); have n2_ := bs_ (w := w) hg; have n3_ := bs_ (w := w) hg; clear HB; have HB := n0_; have BK232 := n1_; have GW232 := n2_; have GE232 := n3_; clear n0_ n1_ n2_ n3_; clear hb hbox hg) | ((with_reducible refine gate_dst (N := 3) rfl ?_); refine box_event ?hg (N := 3) ?hd (cs := #[.int .i64 a1_0, .int .i64 a1_1, .int .i64 a1_2, .int .i64 a1_3, .int .i64 a1_4, .int .i64 a1_5, .int .i64 a1_6, .slice A1_7 l1_7.length c1_7]) (t := 29) ?hr ?_; (case hd => rfl); (case hg => rfl); (case hr => first | (go_simp; done) | (go_simp; rfl)); intro gb233 hg w48 hbox hb; have n0_ := bb_ (g := gb232) hb; have n1_ := Aside0.mk (below_step bel_ hb); have n2_ := Aside0.mk (hbox); have n3_ := bs_ (w := w) hg; have n4_ := bs_ (w := w) hg; have n5_ := nlt_ (g := gb232) hg; have n6_ := ngt_ (g := gb232) hg; clear BK232; clear HB; have BK232 := n0_; have HB := n1_; have BK233 := n2_; have GW233 := n3_; have GE233 := n4_; have NB232_233 := n5_; have NB233_232 := n6_; clear n0_ n1_ n2_ n3_ n4_ n5_ n6_; clear hb hbox hg; have hnb49 := NB232_233.out; have hnc49 := NB233_232.out; have hcz50_0 : w48.cell? ⟨gb232, 0, none⟩ = some (.int .i64 a0_0) := bc_; have hcz50_1 : w48.cell? ⟨gb232, 1, none⟩ = some (.int .i64 a0_1) := bc_; have hcz50_2 : w48.cell? ⟨gb232, 2, none⟩ = some (.int .i64 a0_2) := bc_; have hcz50_3 : w48.cell? ⟨gb232, 3, none⟩ = some (.int .i64 a0_3) := bc_; have hcz50_4 : w48.cell? ⟨gb232, 4, none⟩ = some (.int .i64 a0_4) := bc_; have hcz50_5 : w48.cell? ⟨gb232, 5, none⟩ = some (.int .i64 a0_5) := bc_; have hcz50_6 : w48.cell? ⟨gb232, 6, none⟩ = some (.int .i64 a0_6) := bc_; have hcz50_7 : w48.cell? ⟨gb232, 7, none⟩ = some (.slice A0_7 l0_7.length c0_7) := bc_; have hfz50_0 := blk_frozen BK232.out 0; have hfz50_1 := blk_frozen BK232.out 1; have hfz50_2 := blk_frozen BK232.out 2; have hfz50_3 := blk_frozen BK232.out 3; have hfz50_4 := blk_frozen BK232.out 4; have hfz50_5 := blk_frozen BK232.out 5; have hfz50_6 := blk_frozen BK232.out 6; have hfz50_7 := blk_frozen BK232.out 7; have hcz51_0 : w48.cell? ⟨gb233, 0, none⟩ = some (.int .i64 a1_0) := bc_; have hcz51_1 : w48.cell? ⟨gb233, 1, none⟩ = some (.int .i64 a1_1) := bc_; have hcz51_2 : w48.cell? ⟨gb233, 2, none⟩ = some (.int .i64 a1_2) := bc_; have hcz51_3 : w48.cell? ⟨gb233, 3, none⟩ = some (.int .i64 a1_3) := bc_; have hcz51_4 : w48.cell? ⟨gb233, 4, none⟩ = some (.int .i64 a1_4) := bc_; have hcz51_5 : w48.cell? ⟨gb233, 5, none⟩ = some (.int .i64 a1_5) := bc_; have hcz51_6 : w48.cell? ⟨gb233, 6, none⟩ = some (.int .i64 a1_6) := bc_; have hcz51_7 : w48.cell? ⟨gb233, 7, none⟩ = some (.slice A1_7 l1_7.length c1_7) := bc_; have hfz51_0 := blk_frozen BK233.out 0; have hfz51_1 := blk_frozen BK233.out 1; have hfz51_2 := blk_frozen BK233.out 2; have hfz51_3 := blk_frozen BK233.out 3; have hfz51_4 := blk_frozen BK233.out 4; have hfz51_5 := blk_frozen BK233.out 5; have hfz51_6 := blk_frozen BK233.out 6; have hfz51_7 := blk_frozen BK233.out 7))
      go_ret
      exact ⟨rf_, bel_⟩
  · rw [if_neg c3] at H
    have c3b0 : (a0_0 == a1_0) = false := beq_eq_false_iff_ne.mpr c3
    have c3b1 : (a0_0 != a1_0) = true := bne_iff_ne.mpr c3
    obtain rfl := Option.some.inj H
    go_enter Tryd.func14, Tryd.ntmps14
    go_wp2_with (first | ((with_reducible refine gate_dst (N := 2) rfl ?_); refine box_event ?hg (N := 2) ?hd (cs := #[.int .i64 a0_0, .int .i64 a0_1, .int .i64 a0_2, .int .i64 a0_3, .int .i64 a0_4, .int .i64 a0_5, .int .i64 a0_6, .slice A0_7 l0_7.length c0_7]) (t := 29) ?hr ?_; (case hd => rfl); (case hg => rfl); (case hr => first | (go_simp; done) | (go_simp; rfl)); intro gb232 hg w52 hbox hb; have n0_ := Aside0.mk (below_step bel_ hb); have n1_ := Aside0.mk (hbox); have n2_ := bs_ (w := w) hg; have n3_ := bs_ (w := w) hg; clear HB; have HB := n0_; have BK232 := n1_; have GW232 := n2_; have GE232 := n3_; clear n0_ n1_ n2_ n3_; clear hb hbox hg) | ((with_reducible refine gate_dst (N := 3) rfl ?_); refine box_event ?hg (N := 3) ?hd (cs := #[.int .i64 a1_0, .int .i64 a1_1, .int .i64 a1_2, .int .i64 a1_3, .int .i64 a1_4, .int .i64 a1_5, .int .i64 a1_6, .slice A1_7 l1_7.length c1_7]) (t := 29) ?hr ?_; (case hd => rfl); (case hg => rfl); (case hr => first | (go_simp; done) | (go_simp; rfl)); intro gb233 hg w53 hbox hb; have n0_ := bb_ (g := gb232) hb; have n1_ := Aside0.mk (below_step bel_ hb); have n2_ := Aside0.mk (hbox); have n3_ := bs_ (w := w) hg; have n4_ := bs_ (w := w) hg; have n5_ := nlt_ (g := gb232) hg; have n6_ := ngt_ (g := gb232) hg; clear BK232; clear HB; have BK232 := n0_; have HB := n1_; have BK233 := n2_; have GW233 := n3_; have GE233 := n4_; have NB232_233 := n5_; have NB233_232 := n6_; clear n0_ n1_ n2_ n3_ n4_ n5_ n6_; clear hb hbox hg; have hnb54 := NB232_233.out; have hnc54 := NB233_232.out; have hcz55_0 : w53.cell? ⟨gb232, 0, none⟩ = some (.int .i64 a0_0) := bc_; have hcz55_1 : w53.cell? ⟨gb232, 1, none⟩ = some (.int .i64 a0_1) := bc_; have hcz55_2 : w53.cell? ⟨gb232, 2, none⟩ = some (.int .i64 a0_2) := bc_; have hcz55_3 : w53.cell? ⟨gb232, 3, none⟩ = some (.int .i64 a0_3) := bc_; have hcz55_4 : w53.cell? ⟨gb232, 4, none⟩ = some (.int .i64 a0_4) := bc_; have hcz55_5 : w53.cell? ⟨gb232, 5, none⟩ = some (.int .i64 a0_5) := bc_; have hcz55_6 : w53.cell? ⟨gb232, 6, none⟩ = some (.int .i64 a0_6) := bc_; have hcz55_7 : w53.cell? ⟨gb232, 7, none⟩ = some (.slice A0_7 l0_7.length c0_7) := bc_; have hfz55_0 := blk_frozen BK232.out 0; have hfz55_1 := blk_frozen BK232.out 1; have hfz55_2 := blk_frozen BK232.out 2; have hfz55_3 := blk_frozen BK232.out 3; have hfz55_4 := blk_frozen BK232.out 4; have hfz55_5 := blk_frozen BK232.out 5; have hfz55_6 := blk_frozen BK232.out 6; have hfz55_7 := blk_frozen BK232.out 7; have hcz56_0 : w53.cell? ⟨gb233, 0, none⟩ = some (.int .i64 a1_0) := bc_; have hcz56_1 : w53.cell? ⟨gb233, 1, none⟩ = some (.int .i64 a1_1) := bc_; have hcz56_2 : w53.cell? ⟨gb233, 2, none⟩ = some (.int .i64 a1_2) := bc_; have hcz56_3 : w53.cell? ⟨gb233, 3, none⟩ = some (.int .i64 a1_3) := bc_; have hcz56_4 : w53.cell? ⟨gb233, 4, none⟩ = some (.int .i64 a1_4) := bc_; have hcz56_5 : w53.cell? ⟨gb233, 5, none⟩ = some (.int .i64 a1_5) := bc_; have hcz56_6 : w53.cell? ⟨gb233, 6, none⟩ = some (.int .i64 a1_6) := bc_; have hcz56_7 : w53.cell? ⟨gb233, 7, none⟩ = some (.slice A1_7 l1_7.length c1_7) := bc_; have hfz56_0 := blk_frozen BK233.out 0; have hfz56_1 := blk_frozen BK233.out 1; have hfz56_2 := blk_frozen BK233.out 2; have hfz56_3 := blk_frozen BK233.out 3; have hfz56_4 := blk_frozen BK233.out 4; have hfz56_5 := blk_frozen BK233.out 5; have hfz56_6 := blk_frozen BK233.out 6; have hfz56_7 := blk_frozen BK233.out 7))
    go_ret
    exact ⟨rf_, bel_⟩

/-! ### laws_FnExactConfigText: function 4 -/
def laws_FnExactConfigText.f (k : Nat) (a0_0 : Int) (a0_1 : Int) (a0_2 : Int) (a0_3 : Int) (a0_4 : Int) (a0_5 : Int) (a0_6 : Int) (l0_7 : List Int) : Option (Bool) := (laws_szConfig.f a0_0 a0_1 a0_2 a0_3 a0_4 a0_5 a0_6 l0_7 1048576).bind fun t236 => (if t236 < 0 then (some true) else ((laws_toConfig.f k a0_0 a0_1 a0_2 a0_3 a0_4 a0_5 a0_6 l0_7).bind fun bt237 => ((spec_ConfigText.f k bt237.1 bt237.2.1 bt237.2.2.1 bt237.2.2.2.1 bt237.2.2.2.2.1 bt237.2.2.2.2.2.1 bt237.2.2.2.2.2.2.1 bt237.2.2.2.2.2.2.2).bind fun t247 => ((laws_toConfig.f k a0_0 a0_1 a0_2 a0_3 a0_4 a0_5 a0_6 l0_7).bind fun bt248 => ((impl_ConfigText.f k bt248.1 bt248.2.1 bt248.2.2.1 bt248.2.2.2.1 bt248.2.2.2.2.1 bt248.2.2.2.2.2.1 bt248.2.2.2.2.2.2.1 bt248.2.2.2.2.2.2.2).bind fun t259 => (if t259.toList = t247.toList then ((laws_toConfig.f k a0_0 a0_1 a0_2 a0_3 a0_4 a0_5 a0_6 l0_7).bind fun bt260 => ((laws_eqConfig.f k bt248.1 bt248.2.1 bt248.2.2.1 bt248.2.2.2.1 bt248.2.2.2.2.1 bt248.2.2.2.2.2.1 bt248.2.2.2.2.2.2.1 bt248.2.2.2.2.2.2.2 bt260.1 bt260.2.1 bt260.2.2.1 bt260.2.2.2.1 bt260.2.2.2.2.1 bt260.2.2.2.2.2.1 bt260.2.2.2.2.2.2.1 bt260.2.2.2.2.2.2.2).bind fun t270 => (if t270 = true then (some true) else (some false)))) else (some false)))))))
theorem laws_FnExactConfigText.mono : ∀ a0 a1 a2 a3 a4 a5 a6 a7 k, LeO (laws_FnExactConfigText.f k a0 a1 a2 a3 a4 a5 a6 a7) (laws_FnExactConfigText.f (k + 1) a0 a1 a2 a3 a4 a5 a6 a7) := by
  intro a0 a1 a2 a3 a4 a5 a6 a7 k
  unfold laws_FnExactConfigText.f
  repeat' first
      | (with_reducible exact impl_ConfigText.mono _ _ _ _ _ _ _ _ _)
      | (with_reducible exact laws_eqConfig.mono _ _ _ _ _ _ _ _ _ _ _ _ _ _ _ _ _)
      | (with_reducible exact laws_toConfig.mono _ _ _ _ _ _ _ _ _)
      | (with_reducible exact spec_ConfigText.mono _ _ _ _ _ _ _ _ _)
      | (with_reducible exact LeO.refl _)
      | (with_reducible exact LeO.none _)
      | (with_reducible refine LeO.ite ?_ ?_)
      | (with_reducible refine LeO.bind ?_ (fun _ => ?_))
      | exact impl_ConfigText.mono _ _ _ _ _ _ _ _ _
      | exact laws_eqConfig.mono _ _ _ _ _ _ _ _ _ _ _ _ _ _ _ _ _
      | exact laws_toConfig.mono _ _ _ _ _ _ _ _ _
      | exact spec_ConfigText.mono _ _ _ _ _ _ _ _ _
      | exact LeO.none _
      | refine LeO.ite ?_ ?_
      | refine LeO.bind ?_ (fun _ => ?_)
set_option maxHeartbeats 8000000 in
set_option maxRecDepth 100000 in
theorem laws_FnExactConfigText.calls (k : Nat) (a0_0 : Int) (a0_1 : Int) (a0_2 : Int) (a0_3 : Int) (a0_4 : Int) (a0_5 : Int) (a0_6 : Int) (A0_7 : Option Addr) (c0_7 : Nat) (l0_7 : List Int) (r : Bool) (w : World) (hr0_7 : Kd.C (Kd.int .i64) w A0_7 l0_7.length l0_7) (hc0_7 : l0_7.length ≤ c0_7) (h : laws_FnExactConfigText.f k a0_0 a0_1 a0_2 a0_3 a0_4 a0_5 a0_6 l0_7 = some r) (hrt : Aside0 (r = true)) (hl : Laid w) :
    Calls Tryd.prog 4 #[.agg #[.int .i64 a0_0, .int .i64 a0_1, .int .i64 a0_2, .int .i64 a0_3, .int .i64 a0_4, .int .i64 a0_5, .int .i64 a0_6, .slice A0_7 l0_7.length c0_7]] w fun e w' => e = .returned (.bool r) ∧ Below w.heap.size w w' := by
  have hu26 := Tryd.underlying26
  have hu29 := Tryd.underlying29
  have HR0_7 := Aside0.mk hr0_7
  have HC0_7 := Aside0.mk hc0_7
  clear hr0_7 hc0_7
  have HB := Aside0.mk (Below.refl w.heap.size w)
  have H : ((laws_szConfig.f a0_0 a0_1 a0_2 a0_3 a0_4 a0_5 a0_6 l0_7 1048576).bind fun t236 => (if t236 < 0 then (some true) else ((laws_toConfig.f k a0_0 a0_1 a0_2 a0_3 a0_4 a0_5 a0_6 l0_7).bind fun bt237 => ((spec_ConfigText.f k bt237.1 bt237.2.1 bt237.2.2.1 bt237.2.2.2.1 bt237.2.2.2.2.1 bt237.2.2.2.2.2.1 bt237.2.2.2.2.2.2.1 bt237.2.2.2.2.2.2.2).bind fun t247 => ((laws_toConfig.f k a0_0 a0_1 a0_2 a0_3 a0_4 a0_5 a0_6 l0_7).bind fun bt248 => ((impl_ConfigText.f k bt248.1 bt248.2.1 bt248.2.2.1 bt248.2.2.2.1 bt248.2.2.2.2.1 bt248.2.2.2.2.2.1 bt248.2.2.2.2.2.2.1 bt248.2.2.2.2.2.2.2).bind fun t259 => (if t259.toList = t247.toList then ((laws_toConfig.f k a0_0 a0_1 a0_2 a0_3 a0_4 a0_5 a0_6 l0_7).bind fun bt260 => ((laws_eqConfig.f k bt248.1 bt248.2.1 bt248.2.2.1 bt248.2.2.2.1 bt248.2.2.2.2.1 bt248.2.2.2.2.2.1 bt248.2.2.2.2.2.2.1 bt248.2.2.2.2.2.2.2 bt260.1 bt260.2.1 bt260.2.2.1 bt260.2.2.2.1 bt260.2.2.2.2.1 bt260.2.2.2.2.2.1 bt260.2.2.2.2.2.2.1 bt260.2.2.2.2.2.2.2).bind fun t270 => (if t270 = true then (some true) else (some false)))) else (some false)))))))) = some r := h
  clear h
  replace H := Option.bind_eq_some_iff.mp H
  obtain ⟨t236, A20, H⟩ := H
  replace H : (if t236 < 0 then (some true) else ((laws_toConfig.f k a0_0 a0_1 a0_2 a0_3 a0_4 a0_5 a0_6 l0_7).bind fun bt237 => ((spec_ConfigText.f k bt237.1 bt237.2.1 bt237.2.2.1 bt237.2.2.2.1 bt237.2.2.2.2.1 bt237.2.2.2.2.2.1 bt237.2.2.2.2.2.2.1 bt237.2.2.2.2.2.2.2).bind fun t247 => ((laws_toConfig.f k a0_0 a0_1 a0_2 a0_3 a0_4 a0_5 a0_6 l0_7).bind fun bt248 => ((impl_ConfigText.f k bt248.1 bt248.2.1 bt248.2.2.1 bt248.2.2.2.1 bt248.2.2.2.2.1 bt248.2.2.2.2.2.1 bt248.2.2.2.2.2.2.1 bt248.2.2.2.2.2.2.2).bind fun t259 => (if t259.toList = t247.toList then ((laws_toConfig.f k a0_0 a0_1 a0_2 a0_3 a0_4 a0_5 a0_6 l0_7).bind fun bt260 => ((laws_eqConfig.f k bt248.1 bt248.2.1 bt248.2.2.1 bt248.2.2.2.1 bt248.2.2.2.2.1 bt248.2.2.2.2.2.1 bt248.2.2.2.2.2.2.1 bt248.2.2.2.2.2.2.2 bt260.1 bt260.2.1 bt260.2.2.1 bt260.2.2.2.1 bt260.2.2.2.2.1 bt260.2.2.2.2.2.1 bt260.2.2.2.2.2.2.1 bt260.2.2.2.2.2.2.2).bind fun t270 => (if t270 = true then (some true) else (some false)))) else (some false))))))) = some r := H
  have A2 := Aside0.mk A20
  clear A20
  by_cases c3 : t236 < 0
  · rw [if_pos c3] at H
    have c3b0 : decide (t236 < 0) = true := decide_eq_true c3
    clear c3
    obtain rfl := Option.some.inj H
    go_enter Tryd.func4, Tryd.ntmps4
    go_wp2_with (first | ((with_reducible refine gate_dst (N := 1) rfl ?_); refine box_event ?hg (N := 1) ?hd (cs := #[.int .i64 a0_0, .int .i64 a0_1, .int .i64 a0_2, .int .i64 a0_3, .int .i64 a0_4, .int .i64 a0_5, .int .i64 a0_6, .slice A0_7 l0_7.length c0_7]) (t := 26) ?hr ?_; (case hd => rfl); (case hg => rfl); (case hr => first | (go_simp; done) | (go_simp; rfl)); intro gb235 hg w4 hbox hb; have n0_ := Aside0.mk (below_step bel_ hb); have n1_ := Aside0.mk (hbox); have n2_ := bs_ (w := w) hg; have n3_ := bs_ (w := w) hg; clear HB; have HB := n0_; have BK235 := n1_; have GW235 := n2_; have GE235 := n3_; clear n0_ n1_ n2_ n3_; clear hb hbox hg; have hcz5_0 : w4.cell? ⟨gb235, 0, none⟩ = some (.int .i64 a0_0) := bc_; have hcz5_1 : w4.cell? ⟨gb235, 1, none⟩ = some (.int .i64 a0_1) := bc_; have hcz5_2 : w4.cell? ⟨gb235, 2, none⟩ = some (.int .i64 a0_2) := bc_; have hcz5_3 : w4.cell? ⟨gb235, 3, none⟩ = some (.int .i64 a0_3) := bc_; have hcz5_4 : w4.cell? ⟨gb235, 4, none⟩ = some (.int .i64 a0_4) := bc_; have hcz5_5 : w4.cell? ⟨gb235, 5, none⟩ = some (.int .i64 a0_5) := bc_; have hcz5_6 : w4.cell? ⟨gb235, 6, none⟩ = some (.int .i64 a0_6) := bc_; have hcz5_7 : w4.cell? ⟨gb235, 7, none⟩ = some (.slice A0_7 l0_7.length c0_7) := bc_; have hfz5_0 := blk_frozen BK235.out 0; have hfz5_1 := blk_frozen BK235.out 1; have hfz5_2 := blk_frozen BK235.out 2; have hfz5_3 := blk_frozen BK235.out 3; have hfz5_4 := blk_frozen BK235.out 4; have hfz5_5 := blk_frozen BK235.out 5; have hfz5_6 := blk_frozen BK235.out 6; have hfz5_7 := blk_frozen BK235.out 7) | ((with_reducible refine gate_callee (f := 10) rfl ?_); refine goesL_ (some 9) rfl rfl Tryd.func10 (by kernel_rfl) rfl #[.agg #[.int .i64 a0_0, .int .i64 a0_1, .int .i64 a0_2, .int .i64 a0_3, .int .i64 a0_4, .int .i64 a0_5, .int .i64 a0_6, .slice A0_7 l0_7.length c0_7], .int .i64 1048576] rfl mp_ ?_; (with_reducible refine (laws_szConfig.calls a0_0 a0_1 a0_2 a0_3 a0_4 a0_5 a0_6 _ _ l0_7 1048576 t236 _ ?side1 ?side2 A2.out).mono ?_); (case side1 => repeat (first | exact (Kd.C_below HR0_7.out HB.out) | (with_reducible refine Kd.C_alloc ?_ _) | (with_reducible refine Kd.C_drewN ?_ _) | (with_reducible refine Kd.C_drew ?_))); (case side2 => exact HC0_7.out); rintro e w6 ⟨rfl, hb⟩; refine ⟨_, rfl, ?_⟩; have n0_ := bb_ (g := gb235) hb; have n1_ := Aside0.mk (below_step bel_ hb); clear BK235; clear HB; have BK235 := n0_; have HB := n1_; clear n0_ n1_; (try clear hb); (try clear hb2); (try clear hk); (try clear hi)))
    all_goals go_ret
    all_goals exact ⟨rf_, bel_⟩
  · rw [if_neg c3] at H
    have c3b0 : decide (t236 < 0) = false := decide_eq_false c3
    clear c3
    replace H := Option.bind_eq_some_iff.mp H
    obtain ⟨⟨t237, t238, t239, t240, t241, t242, t243, t244⟩, A70, H⟩ := H
    replace H : ((spec_ConfigText.f k t237 t238 t239 t240 t241 t242 t243 t244).bind fun t247 => ((laws_toConfig.f k a0_0 a0_1 a0_2 a0_3 a0_4 a0_5 a0_6 l0_7).bind fun bt248 => ((impl_ConfigText.f k bt248.1 bt248.2.1 bt248.2.2.1 bt248.2.2.2.1 bt248.2.2.2.2.1 bt248.2.2.2.2.2.1 bt248.2.2.2.2.2.2.1 bt248.2.2.2.2.2.2.2).bind fun t259 => (if t259.toList = t247.toList then ((laws_toConfig.f k a0_0 a0_1 a0_2 a0_3 a0_4 a0_5 a0_6 l0_7).bind fun bt260 => ((laws_eqConfig.f k bt248.1 bt248.2.1 bt248.2.2.1 bt248.2.2.2.1 bt248.2.2.2.2.1 bt248.2.2.2.2.2.1 bt248.2.2.2.2.2.2.1 bt248.2.2.2.2.2.2.2 bt260.1 bt260.2.1 bt260.2.2.1 bt260.2.2.2.1 bt260.2.2.2.2.1 bt260.2.2.2.2.2.1 bt260.2.2.2.2.2.2.1 bt260.2.2.2.2.2.2.2).bind fun t270 => (if t270 = true then (some true) else (some false)))) else (some false))))) = some r := H
    have A7 := Aside0.mk A70
    clear A70
    replace H := Option.bind_eq_some_iff.mp H
    obtain ⟨t247, A80, H⟩ := H
    replace H : ((laws_toConfig.f k a0_0 a0_1 a0_2 a0_3 a0_4 a0_5 a0_6 l0_7).bind fun bt248 => ((impl_ConfigText.f k bt248.1 bt248.2.1 bt248.2.2.1 bt248.2.2.2.1 bt248.2.2.2.2.1 bt248.2.2.2.2.2.1 bt248.2.2.2.2.2.2.1 bt248.2.2.2.2.2.2.2).bind fun t259 => (if t259.toList = t247.toList then ((laws_toConfig.f k a0_0 a0_1 a0_2 a0_3 a0_4 a0_5 a0_6 l0_7).bind fun bt260 => ((laws_eqConfig.f k bt248.1 bt248.2.1 bt248.2.2.1 bt248.2.2.2.1 bt248.2.2.2.2.1 bt248.2.2.2.2.2.1 bt248.2.2.2.2.2.2.1 bt248.2.2.2.2.2.2.2 bt260.1 bt260.2.1 bt260.2.2.1 bt260.2.2.2.1 bt260.2.2.2.2.1 bt260.2.2.2.2.2.1 bt260.2.2.2.2.2.2.1 bt260.2.2.2.2.2.2.2).bind fun t270 => (if t270 = true then (some true) else (some false)))) else (some false)))) = some r := H
    have A8 := Aside0.mk A80
    clear A80
    replace H := Option.bind_eq_some_iff.mp H
    obtain ⟨⟨t248, t249, t250, t251, t252, t253, t254, t255⟩, A90, H⟩ := H
    replace H : ((impl_ConfigText.f k t248 t249 t250 t251 t252 t253 t254 t255).bind fun t259 => (if t259.toList = t247.toList then ((laws_toConfig.f k a0_0 a0_1 a0_2 a0_3 a0_4 a0_5 a0_6 l0_7).bind fun bt260 => ((laws_eqConfig.f k t248 t249 t250 t251 t252 t253 t254 t255 bt260.1 bt260.2.1 bt260.2.2.1 bt260.2.2.2.1 bt260.2.2.2.2.1 bt260.2.2.2.2.2.1 bt260.2.2.2.2.2.2.1 bt260.2.2.2.2.2.2.2).bind fun t270 => (if t270 = true then (some true) else (some false)))) else (some false))) = some r := H
    have A9 := Aside0.mk A90
    clear A90
    replace H := Option.bind_eq_some_iff.mp H
    obtain ⟨t259, A100, H⟩ := H
    replace H : (if t259.toList = t247.toList then ((laws_toConfig.f k a0_0 a0_1 a0_2 a0_3 a0_4 a0_5 a0_6 l0_7).bind fun bt260 => ((laws_eqConfig.f k t248 t249 t250 t251 t252 t253 t254 t255 bt260.1 bt260.2.1 bt260.2.2.1 bt260.2.2.2.1 bt260.2.2.2.2.1 bt260.2.2.2.2.2.1 bt260.2.2.2.2.2.2.1 bt260.2.2.2.2.2.2.2).bind fun t270 => (if t270 = true then (some true) else (some false)))) else (some false)) = some r := H
    have A10 := Aside0.mk A100
    clear A100
    by_cases c11 : t259.toList = t247.toList
    · rw [if_pos c11] at H
      have c11b0 : (t259.toList == t247.toList) = true := beq_iff_eq.mpr c11
      have c11b1 : (t259.toList != t247.toList) = false := bne_eq_false_iff_eq.mpr c11
      clear c11
      replace H := Option.bind_eq_some_iff.mp H
      obtain ⟨⟨t260, t261, t262, t263, t264, t265, t266, t267⟩, A120, H⟩ := H
      replace H : ((laws_eqConfig.f k t248 t249 t250 t251 t252 t253 t254 t255 t260 t261 t262 t263 t264 t265 t266 t267).bind fun t270 => (if t270 = true then (some true) else (some false))) = some r := H
      have A12 := Aside0.mk A120
      clear A120
      replace H := Option.bind_eq_some_iff.mp H
      obtain ⟨t270, A130, H⟩ := H
      replace H : (if t270 = true then (some true) else (some false)) = some r := H
      have A13 := Aside0.mk A130
      clear A130
      by_cases c14 : t270 = true
      · subst c14
        have H1 : (some true) = some r := by rw [if_pos rfl] at H; exact H
        clear H
        have H := H1
        clear H1
        obtain rfl := Option.some.inj H
        go_enter Tryd.func4, Tryd.ntmps4
        try go_wp2_with (first | ((with_reducible refine gate_dst (N := 1) rfl ?_); refine box_event ?hg (N := 1) ?hd (cs := #[.int .i64 a0_0, .int .i64 a0_1, .int .i64 a0_2, .int .i64 a0_3, .int .i64 a0_4, .int .i64 a0_5, .int .i64 a0_6, .slice A0_7 l0_7.length c0_7]) (t := 26) ?hr ?_; (case hd => rfl); (case hg => rfl); (case hr => first | (go_simp; done) | (go_simp; rfl)); intro gb235 hg w15 hbox hb; have n0_ := Aside0.mk (below_step bel_ hb); have n1_ := Aside0.mk (hbox); have n2_ := bs_ (w := w) hg; have n3_ := bs_ (w := w) hg; clear HB; have HB := n0_; have BK235 := n1_; have GW235 := n2_; have GE235 := n3_; clear n0_ n1_ n2_ n3_; clear hb hbox hg; have hcz16_0 : w15.cell? ⟨gb235, 0, none⟩ = some (.int .i64 a0_0) := bc_; have hcz16_1 : w15.cell? ⟨gb235, 1, none⟩ = some (.int .i64 a0_1) := bc_; have hcz16_2 : w15.cell? ⟨gb235, 2, none⟩ = some (.int .i64 a0_2) := bc_; have hcz16_3 : w15.cell? ⟨gb235, 3, none⟩ = some (.int .i64 a0_3) := bc_; have hcz16_4 : w15.cell? ⟨gb235, 4, none⟩ = some (.int .i64 a0_4) := bc_; have hcz16_5 : w15.cell? ⟨gb235, 5, none⟩ = some (.int .i64 a0_5) := bc_; have hcz16_6 : w15.cell? ⟨gb235, 6, none⟩ = some (.int .i64 a0_6) := bc_; have hcz16_7 : w15.cell? ⟨gb235, 7, none⟩ = some (.slice A0_7 l0_7.length c0_7) := bc_; have hfz16_0 := blk_frozen BK235.out 0; have hfz16_1 := blk_frozen BK235.out 1; have hfz16_2 := blk_frozen BK235.out 2; have hfz16_3 := blk_frozen BK235.out 3; have hfz16_4 := blk_frozen BK235.out 4; have hfz16_5 := blk_frozen BK235.out 5; have hfz16_6 := blk_frozen BK235.out 6; have hfz16_7 := blk_frozen BK235.out 7) | ((with_reducible refine gate_callee (f := 10) rfl ?_); refine goesL_ (some 9) rfl rfl Tryd.func10 (by kernel_rfl) rfl #[.agg #[.int .i64 a0_0, .int .i64 a0_1, .int .i64 a0_2, .int .i64 a0_3, .int .i64 a0_4, .int .i64 a0_5, .int .i64 a0_6, .slice A0_7 l0_7.length c0_7], .int .i64 1048576] rfl mp_ ?_; (with_reducible refine (laws_szConfig.calls a0_0 a0_1 a0_2 a0_3 a0_4 a0_5 a0_6 _ _ l0_7 1048576 t236 _ ?side1 ?side2 A2.out).mono ?_); (case side1 => repeat (first | exact (Kd.C_below HR0_7.out HB.out) | (with_reducible refine Kd.C_alloc ?_ _) | (with_reducible refine Kd.C_drewN ?_ _) | (with_reducible refine Kd.C_drew ?_))); (case side2 => exact HC0_7.out); rintro e w17 ⟨rfl, hb⟩; refine ⟨_, rfl, ?_⟩; have n0_ := bb_ (g := gb235) hb; have n1_ := Aside0.mk (below_step bel_ hb); clear BK235; clear HB; have BK235 := n0_; have HB := n1_; clear n0_ n1_; (try clear hb); (try clear hb2); (try clear hk); (try clear hi); have hcz18_0 : w17.cell? ⟨gb235, 0, none⟩ = some (.int .i64 a0_0) := bc_; have hcz18_1 : w17.cell? ⟨gb235, 1, none⟩ = some (.int .i64 a0_1) := bc_; have hcz18_2 : w17.cell? ⟨gb235, 2, none⟩ = some (.int .i64 a0_2) := bc_; have hcz18_3 : w17.cell? ⟨gb235, 3, none⟩ = some (.int .i64 a0_3) := bc_; have hcz18_4 : w17.cell? ⟨gb235, 4, none⟩ = some (.int .i64 a0_4) := bc_; have hcz18_5 : w17.cell? ⟨gb235, 5, none⟩ = some (.int .i64 a0_5) := bc_; have hcz18_6 : w17.cell? ⟨gb235, 6, none⟩ = some (.int .i64 a0_6) := bc_; have hcz18_7 : w17.cell? ⟨gb235, 7, none⟩ = some (.slice A0_7 l0_7.length c0_7) := bc_; have hfz18_0 := blk_frozen BK235.out 0; have hfz18_1 := blk_frozen BK235.out 1; have hfz18_2 := blk_frozen BK235.out 2; have hfz18_3 := blk_frozen BK235.out 3; have hfz18_4 := blk_frozen BK235.out 4; have hfz18_5 := blk_frozen BK235.out 5; have hfz18_6 := blk_frozen BK235.out 6; have hfz18_7 := blk_frozen BK235.out 7) | ((with_reducible refine gate_callee (f := 12) rfl ?_); refine goesL_ (some 13) rfl rfl Tryd.func12 (by kernel_rfl) rfl #[.agg #[.int .i64 a0_0, .int .i64 a0_1, .int .i64 a0_2, .int .i64 a0_3, .int .i64 a0_4, .int .i64 a0_5, .int .i64 a0_6, .slice A0_7 l0_7.length c0_7]] rfl mp_ ?_; (with_reducible refine (laws_toConfig.calls k a0_0 a0_1 a0_2 a0_3 a0_4 a0_5 a0_6 _ _ l0_7 t237 t238 t239 t240 t241 t242 t243 t244 _ ?side1 ?side2 A7.out).mono ?_); (case side1 => repeat (first | exact (Kd.C_below HR0_7.out HB.out) | (with_reducible refine Kd.C_alloc ?_ _) | (with_reducible refine Kd.C_drewN ?_ _) | (with_reducible refine Kd.C_drew ?_))); (case side2 => exact HC0_7.out); rintro e w19 ⟨v245, rfl, ho0, hb⟩; refine ⟨_, rfl, ?_⟩; have n0_ := Aside0.mk (Kd.R_lower ho0 (below_size bel_)); have n1_ := bb_ (g := gb235) hb; have n2_ := Aside0.mk (below_step bel_ hb); clear BK235; clear HB; have HO246 := n0_; have BK235 := n1_; have HB := n2_; clear n0_ n1_ n2_; (try clear hb); (try clear hb2); (try clear hk); (try clear hi); (try clear ho0); obtain ⟨Ao20, co20, eo20⟩ := Kd.R_slice HO246.out; subst eo20) | ((with_reducible refine gate_callee (f := 11) rfl ?_); refine goesL_ (some 14) rfl rfl Tryd.func11 (by kernel_rfl) rfl #[.agg #[.int .i64 t237, .int .i64 t238, .int .i64 t239, .int .i64 t240, .int .i64 t241, .int .i64 t242, .int .i64 t243, .slice Ao20 t244.length co20]] rfl mp_ ?_; (with_reducible refine (spec_ConfigText.calls k t237 t238 t239 t240 t241 t242 t243 _ _ t244 t247 _ ?side1 ?side2 A8.out).mono ?_); (case side1 => repeat (first | exact (Kd.R_reads' HO246.out).2.2 | (with_reducible refine Kd.C_alloc ?_ _) | (with_reducible refine Kd.C_drewN ?_ _) | (with_reducible refine Kd.C_drew ?_))); (case side2 => exact (Kd.R_reads' HO246.out).2.1); rintro e w21 ⟨rfl, hb⟩; refine ⟨_, rfl, ?_⟩; have n0_ := Aside0.mk (Kd.R_below (by (with_reducible repeat (first | apply Kd.R_alloc | apply Kd.R_drewN | apply Kd.R_drew)); exact HO246.out) hb); have n1_ := bb_ (g := gb235) hb; have n2_ := Aside0.mk (below_step bel_ hb); clear HO246; clear BK235; clear HB; have HO246 := n0_; have BK235 := n1_; have HB := n2_; clear n0_ n1_ n2_; (try clear hb); (try clear hb2); (try clear hk); (try clear hi); have hcz22_0 : w21.cell? ⟨gb235, 0, none⟩ = some (.int .i64 a0_0) := bc_; have hcz22_1 : w21.cell? ⟨gb235, 1, none⟩ = some (.int .i64 a0_1) := bc_; have hcz22_2 : w21.cell? ⟨gb235, 2, none⟩ = some (.int .i64 a0_2) := bc_; have hcz22_3 : w21.cell? ⟨gb235, 3, none⟩ = some (.int .i64 a0_3) := bc_; have hcz22_4 : w21.cell? ⟨gb235, 4, none⟩ = some (.int .i64 a0_4) := bc_; have hcz22_5 : w21.cell? ⟨gb235, 5, none⟩ = some (.int .i64 a0_5) := bc_; have hcz22_6 : w21.cell? ⟨gb235, 6, none⟩ = some (.int .i64 a0_6) := bc_; have hcz22_7 : w21.cell? ⟨gb235, 7, none⟩ = some (.slice A0_7 l0_7.length c0_7) := bc_; have hfz22_0 := blk_frozen BK235.out 0; have hfz22_1 := blk_frozen BK235.out 1; have hfz22_2 := blk_frozen BK235.out 2; have hfz22_3 := blk_frozen BK235.out 3; have hfz22_4 := blk_frozen BK235.out 4; have hfz22_5 := blk_frozen BK235.out 5; have hfz22_6 := blk_frozen BK235.out 6; have hfz22_7 := blk_frozen BK235.out 7) | ((with_reducible refine gate_callee (f := 12) rfl ?_); refine goesL_ (some 16) rfl rfl Tryd.func12 (by kernel_rfl) rfl #[.agg #[.int .i64 a0_0, .int .i64 a0_1, .int .i64 a0_2, .int .i64 a0_3, .int .i64 a0_4, .int .i64 a0_5, .int .i64 a0_6, .slice A0_7 l0_7.length c0_7]] rfl mp_ ?_; (with_reducible refine (laws_toConfig.calls k a0_0 a0_1 a0_2 a0_3 a0_4 a0_5 a0_6 _ _ l0_7 t248 t249 t250 t251 t252 t253 t254 t255 _ ?side1 ?side2 A9.out).mono ?_); (case side1 => repeat (first | exact (Kd.C_below HR0_7.out HB.out) | (with_reducible refine Kd.C_alloc ?_ _) | (with_reducible refine Kd.C_drewN ?_ _) | (with_reducible refine Kd.C_drew ?_))); (case side2 => exact HC0_7.out); rintro e w23 ⟨v256, rfl, ho0, hb⟩; refine ⟨_, rfl, ?_⟩; have n0_ := Aside0.mk (Kd.R_elder' (by (with_reducible repeat (first | apply Kd.R_alloc | apply Kd.R_drewN | apply Kd.R_drew)); exact HO246.out) (Kd.R_base ho0) hb); have n1_ := Aside0.mk (Kd.R_lower (Kd.R_new' ho0 (Kd.R_lt (by (with_reducible repeat (first | apply Kd.R_alloc | apply Kd.R_drewN | apply Kd.R_drew)); exact HO246.out))) (below_size bel_)); have n2_ := bb_ (g := gb235) hb; have n3_ := Aside0.mk (below_step bel_ hb); clear HO246; clear BK235; clear HB; have HO246 := n0_; have HO257 := n1_; have BK235 := n2_; have HB := n3_; clear n0_ n1_ n2_ n3_; (try clear hb); (try clear hb2); (try clear hk); (try clear hi); (try clear ho0)) | ((with_reducible refine gate_dst (N := 5) rfl ?_); refine box_event ?hg (N := 5) ?hd (cs := #[.int .i64 0, .int .i64 0, .int .i64 0, .int .i64 0, .int .i64 0, .int .i64 0, .int .i64 0, .slice none 0 0]) (t := 29) ?hr ?_; (case hd => rfl); (case hg => rfl); (case hr => first | (go_simp; done) | (go_simp; rfl)); intro gb258 hg w24 hbox hb; have n0_ := Aside0.mk (Kd.R_below (by (with_reducible repeat (first | apply Kd.R_alloc | apply Kd.R_drewN | apply Kd.R_drew)); exact HO246.out) hb); have n1_ := Aside0.mk (Kd.R_below (by (with_reducible repeat (first | apply Kd.R_alloc | apply Kd.R_drewN | apply Kd.R_drew)); exact HO257.out) hb); have n2_ := bb_ (g := gb235) hb; have n3_ := Aside0.mk (below_step bel_ hb); have n4_ := Aside0.mk (hbox); have n5_ := bs_ (w := w) hg; have n6_ := bs_ (w := w) hg; have n7_ := nlt_ (g := gb235) hg; have n8_ := ngt_ (g := gb235) hg; clear HO246; clear HO257; clear BK235; clear HB; have HO246 := n0_; have HO257 := n1_; have BK235 := n2_; have HB := n3_; have BK258 := n4_; have GW258 := n5_; have GE258 := n6_; have NB235_258 := n7_; have NB258_235 := n8_; clear n0_ n1_ n2_ n3_ n4_ n5_ n6_ n7_ n8_; clear hb hbox hg; have hnb25 := NB258_235.out; have hnc25 := NB235_258.out; have hcz26_0 : w24.cell? ⟨gb258, 0, none⟩ = some (.int .i64 0) := bc_; have hcz26_1 : w24.cell? ⟨gb258, 1, none⟩ = some (.int .i64 0) := bc_; have hcz26_2 : w24.cell? ⟨gb258, 2, none⟩ = some (.int .i64 0) := bc_; have hcz26_3 : w24.cell? ⟨gb258, 3, none⟩ = some (.int .i64 0) := bc_; have hcz26_4 : w24.cell? ⟨gb258, 4, none⟩ = some (.int .i64 0) := bc_; have hcz26_5 : w24.cell? ⟨gb258, 5, none⟩ = some (.int .i64 0) := bc_; have hcz26_6 : w24.cell? ⟨gb258, 6, none⟩ = some (.int .i64 0) := bc_; have hcz26_7 : w24.cell? ⟨gb258, 7, none⟩ = some (.slice none 0 0) := bc_; have hfz26_0 := blk_frozen BK258.out 0; have hfz26_1 := blk_frozen BK258.out 1; have hfz26_2 := blk_frozen BK258.out 2; have hfz26_3 := blk_frozen BK258.out 3; have hfz26_4 := blk_frozen BK258.out 4; have hfz26_5 := blk_frozen BK258.out 5; have hfz26_6 := blk_frozen BK258.out 6; have hfz26_7 := blk_frozen BK258.out 7; obtain ⟨Ao27, co27, eo27⟩ := Kd.R_slice HO257.out; subst eo27) | ((with_reducible refine gate_callee (f := 13) rfl ?_); refine goesL_ (some 18) rfl rfl Tryd.func13 (by kernel_rfl) rfl #[.agg #[.int .i64 t248, .int .i64 t249, .int .i64 t250, .int .i64 t251, .int .i64 t252, .int .i64 t253, .int .i64 t254, .slice Ao27 t255.length co27]] rfl mp_ ?_; (with_reducible refine (impl_ConfigText.calls k t248 t249 t250 t251 t252 t253 t254 _ _ t255 t259 _ ?side1 ?side2 A10.out (laid_ hl)).mono ?_); (case side1 => refine (Kd.R_reads' (e := 3) (base := w.heap.size) (ok := fun k_ => (True ∧ some k_ ≠ (.slice Ao20 t244.length co20 : Value).ownBlock)) (n := t255.length) (c := co27) ?_).2.2; exact (by (with_reducible repeat (first | apply Kd.R_alloc | apply Kd.R_drewN | apply Kd.R_drew)); exact (Kd.R_mono (Kd.R_far (p := ⟨gb258, 7, none⟩) (Kd.R_far (p := ⟨gb258, 6, none⟩) (Kd.R_far (p := ⟨gb258, 5, none⟩) (Kd.R_far (p := ⟨gb258, 4, none⟩) (Kd.R_far (p := ⟨gb258, 3, none⟩) (Kd.R_far (p := ⟨gb258, 2, none⟩) (Kd.R_far (p := ⟨gb258, 1, none⟩) (Kd.R_far (p := ⟨gb258, 0, none⟩) (Kd.R_types HO257.out BK258.out (by decide)) (fun _ hk => hk.2) (.int .i64 t248)) (fun _ hk => hk.2) (.int .i64 t249)) (fun _ hk => hk.2) (.int .i64 t250)) (fun _ hk => hk.2) (.int .i64 t251)) (fun _ hk => hk.2) (.int .i64 t252)) (fun _ hk => hk.2) (.int .i64 t253)) (fun _ hk => hk.2) (.int .i64 t254)) (fun _ hk => hk.2) (.slice Ao27 t255.length co27)) (fun _ h_ => h_.1)))); (case side2 => exact (Kd.R_reads' HO257.out).2.1); rintro e w28 ⟨rfl, hb⟩; refine ⟨_, rfl, ?_⟩; have n0_ := Aside0.mk (Kd.R_below (by (with_reducible repeat (first | apply Kd.R_alloc | apply Kd.R_drewN | apply Kd.R_drew)); exact (Kd.R_mono (Kd.R_far (p := ⟨gb258, 7, none⟩) (Kd.R_far (p := ⟨gb258, 6, none⟩) (Kd.R_far (p := ⟨gb258, 5, none⟩) (Kd.R_far (p := ⟨gb258, 4, none⟩) (Kd.R_far (p := ⟨gb258, 3, none⟩) (Kd.R_far (p := ⟨gb258, 2, none⟩) (Kd.R_far (p := ⟨gb258, 1, none⟩) (Kd.R_far (p := ⟨gb258, 0, none⟩) (Kd.R_types HO246.out BK258.out (by decide)) (fun _ hk => hk.2) (.int .i64 t248)) (fun _ hk => hk.2) (.int .i64 t249)) (fun _ hk => hk.2) (.int .i64 t250)) (fun _ hk => hk.2) (.int .i64 t251)) (fun _ hk => hk.2) (.int .i64 t252)) (fun _ hk => hk.2) (.int .i64 t253)) (fun _ hk => hk.2) (.int .i64 t254)) (fun _ hk => hk.2) (.slice Ao27 t255.length co27)) (fun _ h_ => h_.1))) hb); have n1_ := Aside0.mk (Kd.R_below (by (with_reducible repeat (first | apply Kd.R_alloc | apply Kd.R_drewN | apply Kd.R_drew)); exact (Kd.R_mono (Kd.R_far (p := ⟨gb258, 7, none⟩) (Kd.R_far (p := ⟨gb258, 6, none⟩) (Kd.R_far (p := ⟨gb258, 5, none⟩) (Kd.R_far (p := ⟨gb258, 4, none⟩) (Kd.R_far (p := ⟨gb258, 3, none⟩) (Kd.R_far (p := ⟨gb258, 2, none⟩) (Kd.R_far (p := ⟨gb258, 1, none⟩) (Kd.R_far (p := ⟨gb258, 0, none⟩) (Kd.R_types HO257.out BK258.out (by decide)) (fun _ hk => hk.2) (.int .i64 t248)) (fun _ hk => hk.2) (.int .i64 t249)) (fun _ hk => hk.2) (.int .i64 t250)) (fun _ hk => hk.2) (.int .i64 t251)) (fun _ hk => hk.2) (.int .i64 t252)) (fun _ hk => hk.2) (.int .i64 t253)) (fun _ hk => hk.2) (.int .i64 t254)) (fun _ hk => hk.2) (.slice Ao27 t255.length co27)) (fun _ h_ => h_.1))) hb); have n2_ := Aside0.mk (blk_below (g := gb235) (o := .cells #[.int .i64 a0_0, .int .i64 a0_1, .int .i64 a0_2, .int .i64 a0_3, .int .i64 a0_4, .int .i64 a0_5, .int .i64 a0_6, .slice A0_7 l0_7.length c0_7] 26 (0, 0)) bk_ hb); have n3_ := Aside0.mk (blk_below (g := gb258) (o := .cells #[.int .i64 t248, .int .i64 t249, .int .i64 t250, .int .i64 t251, .int .i64 t252, .int .i64 t253, .int .i64 t254, .slice Ao27 t255.length co27] 29 (0, 0)) (pu_ #[.int .i64 t248, .int .i64 t249, .int .i64 t250, .int .i64 t251, .int .i64 t252, .int .i64 t253, .int .i64 t254, .slice none 0 0] 7 (h := (pu_ #[.int .i64 t248, .int .i64 t249, .int .i64 t250, .int .i64 t251, .int .i64 t252, .int .i64 t253, .int .i64 0, .slice none 0 0] 6 (h := (pu_ #[.int .i64 t248, .int .i64 t249, .int .i64 t250, .int .i64 t251, .int .i64 t252, .int .i64 0, .int .i64 0, .slice none 0 0] 5 (h := (pu_ #[.int .i64 t248, .int .i64 t249, .int .i64 t250, .int .i64 t251, .int .i64 0, .int .i64 0, .int .i64 0, .slice none 0 0] 4 (h := (pu_ #[.int .i64 t248, .int .i64 t249, .int .i64 t250, .int .i64 0, .int .i64 0, .int .i64 0, .int .i64 0, .slice none 0 0] 3 (h := (pu_ #[.int .i64 t248, .int .i64 t249, .int .i64 0, .int .i64 0, .int .i64 0, .int .i64 0, .int .i64 0, .slice none 0 0] 2 (h := (pu_ #[.int .i64 t248, .int .i64 0, .int .i64 0, .int .i64 0, .int .i64 0, .int .i64 0, .int .i64 0, .slice none 0 0] 1 (h := (pu_ #[.int .i64 0, .int .i64 0, .int .i64 0, .int .i64 0, .int .i64 0, .int .i64 0, .int .i64 0, .slice none 0 0] 0 (h := bk_)))))))))))))))) hb); have n4_ := Aside0.mk (below_step bel_ hb); clear HO246; clear HO257; clear BK235; clear BK258; clear HB; have HO246 := n0_; have HO257 := n1_; have BK235 := n2_; have BK258 := n3_; have HB := n4_; clear n0_ n1_ n2_ n3_ n4_; (try clear hb); (try clear hb2); (try clear hk); (try clear hi)))
        have n0_ := Aside0.mk (Kd.R_drew HO246.out)
        have n1_ := Aside0.mk (Kd.R_drew HO257.out)
        have n2_ := Aside0.mk (blk_drew BK235.out)
        have n3_ := Aside0.mk (blk_drew BK258.out)
        have n4_ := Aside0.mk (below_drew1 HB.out)
        clear HO246
        clear HO257
        clear BK235
        clear BK258
        clear HB
        have HO246 := n0_
        have HO257 := n1_
        have BK235 := n2_
        have BK258 := n3_
        have HB := n4_
        clear n0_ n1_ n2_ n3_ n4_
        refine start_ (n := 5) (S := fun w' => w'.cell? ⟨gb258, 0, none⟩ = some (.int .i64 t248) ∧ w'.cell? ⟨gb258, 1, none⟩ = some (.int .i64 t249) ∧ w'.cell? ⟨gb258, 2, none⟩ = some (.int .i64 t250) ∧ w'.cell? ⟨gb258, 3, none⟩ = some (.int .i64 t251) ∧ w'.cell? ⟨gb258, 4, none⟩ = some (.int .i64 t252) ∧ w'.cell? ⟨gb258, 5, none⟩ = some (.int .i64 t253) ∧ w'.cell? ⟨gb258, 6, none⟩ = some (.int .i64 t254) ∧ w'.cell? ⟨gb258, 7, none⟩ = some (.slice Ao27 t255.length co27) ∧ w'.cell? ⟨gb235, 0, none⟩ = some (.int .i64 a0_0) ∧ w'.cell? ⟨gb235, 1, none⟩ = some (.int .i64 a0_1) ∧ w'.cell? ⟨gb235, 2, none⟩ = some (.int .i64 a0_2) ∧ w'.cell? ⟨gb235, 3, none⟩ = some (.int .i64 a0_3) ∧ w'.cell? ⟨gb235, 4, none⟩ = some (.int .i64 a0_4) ∧ w'.cell? ⟨gb235, 5, none⟩ = some (.int .i64 a0_5) ∧ w'.cell? ⟨gb235, 6, none⟩ = some (.int .i64 a0_6) ∧ w'.cell? ⟨gb235, 7, none⟩ = some (.slice A0_7 l0_7.length c0_7)) (ds := []) #[false, false, false, false, false] (by kernel_rfl) rfl rfl ⟨bc_, bc_, bc_, bc_, bc_, bc_, bc_, bc_, bc_, bc_, bc_, bc_, bc_, bc_, bc_, bc_⟩ (fun hHeld => ?_)
        generalize w28.drew = w29 at HO246 HO257 BK235 BK258 HB hHeld ⊢
        refine take_ (i := 0) (N := some 22) (v := ?_) (a' := ?_) #[true, false, false, false, false] rfl rfl (by kernel_rfl) (fun _ _ _ h => h) (Or.inl ⟨by rfl, ?_⟩) hHeld ?_ ?_
        rotate_left
        · rintro w' ⟨s0, s1, s2, s3, s4, s5, s6, s7, s8, s9, s10, s11, s12, s13, s14, s15⟩
          go_simp
          with_reducible rfl
        rotate_left
        · simp only [Act.put, la_, lb_, lc_, i64_w, i32_w]
          rfl
        refine take_ (i := 1) (N := some 23) (v := ?_) (a' := ?_) #[true, true, false, false, false] rfl rfl (by kernel_rfl) (fun _ _ _ h => h) (Or.inl ⟨by rfl, ?_⟩) hHeld ?_ ?_
        rotate_left
        · rintro w' ⟨s0, s1, s2, s3, s4, s5, s6, s7, s8, s9, s10, s11, s12, s13, s14, s15⟩
          go_simp
          with_reducible rfl
        rotate_left
        · simp only [Act.put, la_, lb_, lc_, i64_w, i32_w]
          rfl
        refine one_ (i := 2) (N := some 24) #[true, true, true, false, false] rfl rfl (by kernel_rfl) (by decide) (fun K hK => ?_)
        refine goes_ Tryd.func12 (by kernel_rfl) rfl #[.agg #[.int .i64 a0_0, .int .i64 a0_1, .int .i64 a0_2, .int .i64 a0_3, .int .i64 a0_4, .int .i64 a0_5, .int .i64 a0_6, .slice A0_7 l0_7.length c0_7]] (by rfl) rfl rfl mp_ ?_
        with_reducible refine (laws_toConfig.calls k a0_0 a0_1 a0_2 a0_3 a0_4 a0_5 a0_6 _ _ l0_7 t260 t261 t262 t263 t264 t265 t266 t267 _ ?side1 ?side2 A12.out).mono ?_
        (case side1 => repeat (first | exact (Kd.C_below HR0_7.out HB.out) | (with_reducible refine Kd.C_alloc ?_ _) | (with_reducible refine Kd.C_drewN ?_ _) | (with_reducible refine Kd.C_drew ?_)))
        (case side2 => exact HC0_7.out)
        rintro e w30 ⟨v268, rfl, ho0, hb⟩
        refine ⟨_, rfl, ?_⟩
        have n0_ := Aside0.mk (Kd.R_elder' (by (with_reducible repeat (first | apply Kd.R_alloc | apply Kd.R_drewN | apply Kd.R_drew)); exact HO246.out) (Kd.R_base ho0) hb)
        have n1_ := Aside0.mk (Kd.R_elder' (by (with_reducible repeat (first | apply Kd.R_alloc | apply Kd.R_drewN | apply Kd.R_drew)); exact HO257.out) (Kd.R_base ho0) hb)
        have n2_ := Aside0.mk (Kd.R_lower (Kd.R_new' (Kd.R_new' ho0 (Kd.R_lt (by (with_reducible repeat (first | apply Kd.R_alloc | apply Kd.R_drewN | apply Kd.R_drew)); exact HO246.out))) (Kd.R_lt (by (with_reducible repeat (first | apply Kd.R_alloc | apply Kd.R_drewN | apply Kd.R_drew)); exact HO257.out))) (below_size bel_))
        have n3_ := bb_ (g := gb235) hb
        have n4_ := bb_ (g := gb258) hb
        have n5_ := Aside0.mk (below_step bel_ hb)
        clear HO246
        clear HO257
        clear BK235
        clear BK258
        clear HB
        have HO246 := n0_
        have HO257 := n1_
        have HO269 := n2_
        have BK235 := n3_
        have BK258 := n4_
        have HB := n5_
        clear n0_ n1_ n2_ n3_ n4_ n5_
        (try clear hb)
        (try clear hb2)
        (try clear hk)
        (try clear hi)
        (try clear ho0)
        obtain ⟨Ao31, co31, eo31⟩ := Kd.R_slice HO269.out
        (first | subst eo31 | (injection eo31 with f1_ f2_ f3_; have f4_ := f1_.symm; have f5_ := f3_.symm; clear f1_ f2_ f3_; subst f4_; subst f5_))
        refine hK.out _ _ ⟨bc_, bc_, bc_, bc_, bc_, bc_, bc_, bc_, bc_, bc_, bc_, bc_, bc_, bc_, bc_, bc_⟩ (fun hHeld => ?_)
        clear hK K
        refine norm_ (a' := ?_) ?_ ?_
        rotate_left
        · show Act.put _ (some 24) _ = _
          simp only [Act.put, la_, lb_, lc_, i64_w, i32_w]
          rfl
        refine one_ (i := 3) (N := some 25) #[true, true, true, true, false] rfl rfl (by kernel_rfl) (by decide) (fun K hK => ?_)
        refine goes_ Tryd.func14 (by kernel_rfl) rfl #[.agg #[.int .i64 t248, .int .i64 t249, .int .i64 t250, .int .i64 t251, .int .i64 t252, .int .i64 t253, .int .i64 t254, .slice Ao27 t255.length co27], .agg #[.int .i64 t260, .int .i64 t261, .int .i64 t262, .int .i64 t263, .int .i64 t264, .int .i64 t265, .int .i64 t266, .slice Ao31 t267.length co31]] (by rfl) rfl rfl mp_ ?_
        with_reducible refine (laws_eqConfig.calls k t248 t249 t250 t251 t252 t253 t254 _ _ t255 t260 t261 t262 t263 t264 t265 t266 _ _ t267 true _ ?side1 ?side2 ?side3 ?side4 A13.out).mono ?_
        (case side1 => repeat (first | exact (Kd.R_reads' HO257.out).2.2 | (with_reducible refine Kd.C_alloc ?_ _) | (with_reducible refine Kd.C_drewN ?_ _) | (with_reducible refine Kd.C_drew ?_)))
        (case side2 => exact (Kd.R_reads' HO257.out).2.1)
        (case side3 => repeat (first | exact (Kd.R_reads' HO269.out).2.2 | (with_reducible refine Kd.C_alloc ?_ _) | (with_reducible refine Kd.C_drewN ?_ _) | (with_reducible refine Kd.C_drew ?_)))
        (case side4 => exact (Kd.R_reads' HO269.out).2.1)
        rintro e w32 ⟨rfl, hb⟩
        refine ⟨_, rfl, ?_⟩
        have n0_ := Aside0.mk (Kd.R_below (by (with_reducible repeat (first | apply Kd.R_alloc | apply Kd.R_drewN | apply Kd.R_drew)); exact HO246.out) hb)
        have n1_ := Aside0.mk (Kd.R_below (by (with_reducible repeat (first | apply Kd.R_alloc | apply Kd.R_drewN | apply Kd.R_drew)); exact HO257.out) hb)
        have n2_ := Aside0.mk (Kd.R_below (by (with_reducible repeat (first | apply Kd.R_alloc | apply Kd.R_drewN | apply Kd.R_drew)); exact HO269.out) hb)
        have n3_ := bb_ (g := gb235) hb
        have n4_ := bb_ (g := gb258) hb
        have n5_ := Aside0.mk (below_step bel_ hb)
        clear HO246
        clear HO257
        clear HO269
        clear BK235
        clear BK258
        clear HB
        have HO246 := n0_
        have HO257 := n1_
        have HO269 := n2_
        have BK235 := n3_
        have BK258 := n4_
        have HB := n5_
        clear n0_ n1_ n2_ n3_ n4_ n5_
        (try clear hb)
        (try clear hb2)
        (try clear hk)
        (try clear hi)
        refine hK.out _ _ ⟨bc_, bc_, bc_, bc_, bc_, bc_, bc_, bc_, bc_, bc_, bc_, bc_, bc_, bc_, bc_, bc_⟩ (fun hHeld => ?_)
        clear hK K
        refine norm_ (a' := ?_) ?_ ?_
        rotate_left
        · show Act.put _ (some 25) _ = _
          simp only [Act.put, la_, lb_, lc_, i64_w, i32_w]
          rfl
        refine pure_ (i := 4) (N := some 26) (v := ?_) (a' := ?_) #[true, true, true, true, true] rfl rfl (by kernel_rfl) (fun _ _ _ h => h) (Or.inl ⟨by rfl, ?_⟩) ?_ ?_
        rotate_left
        · intro w'
          go_simp
          with_reducible rfl
        rotate_left
        · simp only [Act.put, la_, lb_, lc_, i64_w, i32_w]
          rfl
        refine done_ (by kernel_rfl) ?_
        try go_wp2
        all_goals go_ret
        all_goals exact ⟨rf_, bel_⟩
      · replace c14 := Bool.eq_false_iff.mpr c14
        subst c14
        have H1 : (some false) = some r := by rw [if_neg (show ¬ (false = true) by decide)] at H; exact H
        clear H
        have H := H1
        clear H1
        exact absurd ((Option.some.inj H).trans hrt.out) (by decide)
    · rw [if_neg c11] at H
      have c11b0 : (t259.toList == t247.toList) = false := beq_eq_false_iff_ne.mpr c11
      have c11b1 : (t259.toList != t247.toList) = true := bne_iff_ne.mpr c11
      exact absurd ((Option.some.inj H).trans hrt.out) (by decide)

end Go.Proofs.YtcbiijfiecjcaaaDoor.PFnExactConfigText
