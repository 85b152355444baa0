/- Contracts of Go functions, each with the Lean function that says what it computes: begun by the print, turned by this session. No condition beyond what each theorem states. -/
import Derived.Test.YtkpgpifkbdpnkaaDoorPFnFixx0
import Derived.Test.YtkpgpifkbdpnkaaDoorPFnFixx4
import Derived.Test.YtkpgpifkbdpnkaaDoorPFnFixx5
namespace Go.Proofs.YtkpgpifkbdpnkaaDoor.PFnFix
open Go.RowKit Go.Proofs.YtkpgpifkbdpnkaaDoorW.PrintWords Go.Proofs.YtkpgpifkbdpnkaaDoorW.PrintLast Go.Proofs.YtkpgpifkbdpnkaaDoorW.PrintMore
attribute [local go_sem] max2_int min2_int max_two min_two max_three min_three max_four min_four   -- for this text's walks alone
set_option linter.unusedVariables false
set_option linter.unusedSimpArgs false

/-! ### spec_ReadFix: function 38 -/
mutual
def spec_ReadFix.j0 : Nat → ByteArray → Bool → Option (Int × Bool)
  | 0, _, _ => none
  | k + 1, x0, x4 => if x4 = true then (if 1 ≤ (x0.size : Int) then (spec_ReadFix.j1 k (x0.extract 1 x0.size) x4) else (none)) else (spec_ReadFix.j1 k x0 x4)
def spec_ReadFix.j1 : Nat → ByteArray → Bool → Option (Int × Bool)
  | 0, _, _ => none
  | k + 1, x0, x4 => (spec_Parts.f k x0 46).bind fun t271 => (if 0 < (t271.length : Int) then ((spec_Number.f k (rdOf ByteArray.empty t271 0)).bind fun bt275 => (if bt275.2 = true then (spec_ReadFix.j2 k x4 t271 bt275.1 (decide ((t271.length : Int) > 2))) else (spec_ReadFix.j2 k x4 t271 bt275.1 true))) else (none))
def spec_ReadFix.j2 : Nat → Bool → List ByteArray → Int → Bool → Option (Int × Bool)
  | 0, _, _, _, _ => none
  | k + 1, x4, x5, x6, x41 => if x41 = true then (some (0, false)) else (if (x5.length : Int) = 2 then (if 1 < (x5.length : Int) then ((spec_l1In.f ((rdOf ByteArray.empty x5 1).size : Int) 1 3).bind fun t278 => (if t278 = true then (spec_ReadFix.l0 k x4 x5 (wrap64 (1000 * x6)) 100 0) else (some (0, false)))) else (none)) else (spec_ReadFix.j4 k x4 (wrap64 (1000 * x6))))
def spec_ReadFix.j4 : Nat → Bool → Int → Option (Int × Bool)
  | 0, _, _ => none
  | k + 1, x4, x8 => if x4 = true then ((spec_l6Value.f (wrap64 (-x8))).bind fun t282 => (if t282 = true then (some (wrap64 (-x8), true)) else (some (0, false)))) else ((spec_l6Value.f x8).bind fun t283 => (if t283 = true then (some (x8, true)) else (some (0, false))))
def spec_ReadFix.l0 : Nat → Bool → List ByteArray → Int → Int → Int → Option (Int × Bool)
  | 0, _, _, _, _, _ => none
  | k + 1, x4, x5, x8, x9, x10 => if 1 < (x5.length : Int) then (if x10 < ((rdOf ByteArray.empty x5 1).size : Int) then (if 0 ≤ x10 then ((spec_l1In.f (wrap64 ((wrap64 (bt (rdOf ByteArray.empty x5 1) x10)) - 48)) 0 9).bind fun t281 => (if t281 = true then (spec_ReadFix.l0 k x4 x5 (wrap64 (x8 + (wrap64 (x9 * (wrap64 ((wrap64 (bt (rdOf ByteArray.empty x5 1) x10)) - 48)))))) (wrap64 (Int.tdiv x9 10)) (wrap64 (x10 + 1))) else (some (0, false)))) else (none)) else (spec_ReadFix.j4 k x4 x8)) else (none)
end
def spec_ReadFix.f (k : Nat) (a0 : ByteArray) : Option (Int × Bool) := if (a0.size : Int) > 20 then (some (0, false)) else (if (a0.size : Int) > 0 then (if 0 < (a0.size : Int) then (spec_ReadFix.j0 k a0 ((bt a0 0) == 45)) else (none)) else (spec_ReadFix.j0 k a0 false))
theorem spec_ReadFix.mono_l : ∀ k, (∀ y0 y1, LeO (spec_ReadFix.j0 k y0 y1) (spec_ReadFix.j0 (k + 1) y0 y1)) ∧ (∀ y0 y1, LeO (spec_ReadFix.j1 k y0 y1) (spec_ReadFix.j1 (k + 1) y0 y1)) ∧ (∀ y0 y1 y2 y3, LeO (spec_ReadFix.j2 k y0 y1 y2 y3) (spec_ReadFix.j2 (k + 1) y0 y1 y2 y3)) ∧ (∀ y0 y1, LeO (spec_ReadFix.j4 k y0 y1) (spec_ReadFix.j4 (k + 1) y0 y1)) ∧ (∀ y0 y1 y2 y3 y4, LeO (spec_ReadFix.l0 k y0 y1 y2 y3 y4) (spec_ReadFix.l0 (k + 1) y0 y1 y2 y3 y4))
  | 0 => ⟨fun _ _ r h => by simp [spec_ReadFix.j0] at h, fun _ _ r h => by simp [spec_ReadFix.j1] at h, fun _ _ _ _ r h => by simp [spec_ReadFix.j2] at h, fun _ _ r h => by simp [spec_ReadFix.j4] at h, fun _ _ _ _ _ r h => by simp [spec_ReadFix.l0] at h⟩
  | k + 1 => by
    obtain ⟨ih0, ih1, ih2, ih3, ih4⟩ := spec_ReadFix.mono_l k
    refine ⟨?_, ?_, ?_, ?_, ?_⟩
    · intro y0 y1
      unfold spec_ReadFix.j0
      repeat' first
      | (with_reducible exact ih0 _ _)
      | (with_reducible exact ih1 _ _)
      | (with_reducible exact ih2 _ _ _ _)
      | (with_reducible exact ih3 _ _)
      | (with_reducible exact ih4 _ _ _ _ _)
      | (with_reducible exact spec_Number.mono _ _)
      | (with_reducible exact spec_Parts.mono _ _ _)
      | (with_reducible exact LeO.refl _)
      | (with_reducible exact LeO.none _)
      | (with_reducible refine LeO.ite ?_ ?_)
      | (with_reducible refine LeO.bind ?_ (fun _ => ?_))
      | exact ih0 _ _
      | exact ih1 _ _
      | exact ih2 _ _ _ _
      | exact ih3 _ _
      | exact ih4 _ _ _ _ _
      | exact spec_Number.mono _ _
      | exact spec_Parts.mono _ _ _
      | exact LeO.none _
      | refine LeO.ite ?_ ?_
      | refine LeO.bind ?_ (fun _ => ?_)
    · intro y0 y1
      unfold spec_ReadFix.j1
      repeat' first
      | (with_reducible exact ih0 _ _)
      | (with_reducible exact ih1 _ _)
      | (with_reducible exact ih2 _ _ _ _)
      | (with_reducible exact ih3 _ _)
      | (with_reducible exact ih4 _ _ _ _ _)
      | (with_reducible exact spec_Number.mono _ _)
      | (with_reducible exact spec_Parts.mono _ _ _)
      | (with_reducible exact LeO.refl _)
      | (with_reducible exact LeO.none _)
      | (with_reducible refine LeO.ite ?_ ?_)
      | (with_reducible refine LeO.bind ?_ (fun _ => ?_))
      | exact ih0 _ _
      | exact ih1 _ _
      | exact ih2 _ _ _ _
      | exact ih3 _ _
      | exact ih4 _ _ _ _ _
      | exact spec_Number.mono _ _
      | exact spec_Parts.mono _ _ _
      | exact LeO.none _
      | refine LeO.ite ?_ ?_
      | refine LeO.bind ?_ (fun _ => ?_)
    · intro y0 y1 y2 y3
      unfold spec_ReadFix.j2
      repeat' first
      | (with_reducible exact ih0 _ _)
      | (with_reducible exact ih1 _ _)
      | (with_reducible exact ih2 _ _ _ _)
      | (with_reducible exact ih3 _ _)
      | (with_reducible exact ih4 _ _ _ _ _)
      | (with_reducible exact spec_Number.mono _ _)
      | (with_reducible exact spec_Parts.mono _ _ _)
      | (with_reducible exact LeO.refl _)
      | (with_reducible exact LeO.none _)
      | (with_reducible refine LeO.ite ?_ ?_)
      | (with_reducible refine LeO.bind ?_ (fun _ => ?_))
      | exact ih0 _ _
      | exact ih1 _ _
      | exact ih2 _ _ _ _
      | exact ih3 _ _
      | exact ih4 _ _ _ _ _
      | exact spec_Number.mono _ _
      | exact spec_Parts.mono _ _ _
      | exact LeO.none _
      | refine LeO.ite ?_ ?_
      | refine LeO.bind ?_ (fun _ => ?_)
    · intro y0 y1
      unfold spec_ReadFix.j4
      repeat' first
      | (with_reducible exact ih0 _ _)
      | (with_reducible exact ih1 _ _)
      | (with_reducible exact ih2 _ _ _ _)
      | (with_reducible exact ih3 _ _)
      | (with_reducible exact ih4 _ _ _ _ _)
      | (with_reducible exact spec_Number.mono _ _)
      | (with_reducible exact spec_Parts.mono _ _ _)
      | (with_reducible exact LeO.refl _)
      | (with_reducible exact LeO.none _)
      | (with_reducible refine LeO.ite ?_ ?_)
      | (with_reducible refine LeO.bind ?_ (fun _ => ?_))
      | exact ih0 _ _
      | exact ih1 _ _
      | exact ih2 _ _ _ _
      | exact ih3 _ _
      | exact ih4 _ _ _ _ _
      | exact spec_Number.mono _ _
      | exact spec_Parts.mono _ _ _
      | exact LeO.none _
      | refine LeO.ite ?_ ?_
      | refine LeO.bind ?_ (fun _ => ?_)
    · intro y0 y1 y2 y3 y4
      unfold spec_ReadFix.l0
      repeat' first
      | (with_reducible exact ih0 _ _)
      | (with_reducible exact ih1 _ _)
      | (with_reducible exact ih2 _ _ _ _)
      | (with_reducible exact ih3 _ _)
      | (with_reducible exact ih4 _ _ _ _ _)
      | (with_reducible exact spec_Number.mono _ _)
      | (with_reducible exact spec_Parts.mono _ _ _)
      | (with_reducible exact LeO.refl _)
      | (with_reducible exact LeO.none _)
      | (with_reducible refine LeO.ite ?_ ?_)
      | (with_reducible refine LeO.bind ?_ (fun _ => ?_))
      | exact ih0 _ _
      | exact ih1 _ _
      | exact ih2 _ _ _ _
      | exact ih3 _ _
      | exact ih4 _ _ _ _ _
      | exact spec_Number.mono _ _
      | exact spec_Parts.mono _ _ _
      | exact LeO.none _
      | refine LeO.ite ?_ ?_
      | refine LeO.bind ?_ (fun _ => ?_)
theorem spec_ReadFix.mono : ∀ a0 k, LeO (spec_ReadFix.f k a0) (spec_ReadFix.f (k + 1) a0) := by
  intro a0 k
  obtain ⟨ih0, ih1, ih2, ih3, ih4⟩ := spec_ReadFix.mono_l k
  unfold spec_ReadFix.f
  repeat' first
      | (with_reducible exact ih0 _ _)
      | (with_reducible exact ih1 _ _)
      | (with_reducible exact ih2 _ _ _ _)
      | (with_reducible exact ih3 _ _)
      | (with_reducible exact ih4 _ _ _ _ _)
      | (with_reducible exact spec_Number.mono _ _)
      | (with_reducible exact spec_Parts.mono _ _ _)
      | (with_reducible exact LeO.refl _)
      | (with_reducible exact LeO.none _)
      | (with_reducible refine LeO.ite ?_ ?_)
      | (with_reducible refine LeO.bind ?_ (fun _ => ?_))
      | exact ih0 _ _
      | exact ih1 _ _
      | exact ih2 _ _ _ _
      | exact ih3 _ _
      | exact ih4 _ _ _ _ _
      | exact spec_Number.mono _ _
      | exact spec_Parts.mono _ _ _
      | exact LeO.none _
      | refine LeO.ite ?_ ?_
      | refine LeO.bind ?_ (fun _ => ?_)
set_option maxHeartbeats 8000000 in
set_option maxRecDepth 100000 in
theorem spec_ReadFix.calls (k : Nat) (a0 : ByteArray) (r1 : Int) (r2 : Bool) (w : World) (h : spec_ReadFix.f k a0 = some (r1, r2)) :
    Calls Tryd.prog 38 #[.string a0] w fun e w' => e = .returned (.tuple #[.int .i64 r1, .bool r2]) ∧ Below w.heap.size w w' := by
  have HB := Aside0.mk (Below.refl w.heap.size w)
  have H : (if (a0.size : Int) > 20 then (some (0, false)) else (if (a0.size : Int) > 0 then (if 0 < (a0.size : Int) then (spec_ReadFix.j0 k a0 ((bt a0 0) == 45)) else (none)) else (spec_ReadFix.j0 k a0 false))) = some (r1, r2) := h
  clear h
  by_cases c2 : (a0.size : Int) > 20
  · rw [if_pos c2] at H
    have c2b0 : decide (20 < (a0.size : Int)) = true := decide_eq_true c2
    have c2b1 : decide (20 < a0.size) = true := decide_eq_true (by omega)
    clear c2
    simp only [Option.some.injEq, Prod.mk.injEq] at H
    obtain ⟨rfl, rfl⟩ := H
    go_enter Tryd.func38, Tryd.ntmps38
    go_wp2
    go_ret2
    exact ⟨rf_, bel_⟩
  · rw [if_neg c2] at H
    have c2b0 : decide (20 < (a0.size : Int)) = false := decide_eq_false c2
    have c2b1 : decide (20 < a0.size) = false := decide_eq_false (by omega)
    clear c2
    have HC3 := Aside0.mk H
    clear H
    go_enter Tryd.func38, Tryd.ntmps38
    go_upto_region 3 with (fail)
    go_cut [4] (fun v4 wc => ∃ (kq : Nat) (x4_2 : Bool), v4 = .bool x4_2 ∧ Aside0 (spec_ReadFix.j0 kq a0 x4_2 = some (r1, r2)) ∧ Aside0 (kq ≤ k) ∧ Aside0 (Below w.heap.size w wc))
    case first =>
      have H := HC3.out
      clear HC3
      by_cases c4 : (a0.size : Int) > 0
      · rw [if_pos c4] at H
        have c4b0 : decide (0 < (a0.size : Int)) = true := decide_eq_true c4
        have c4b1 : decide (0 < a0.size) = true := decide_eq_true (by omega)
        clear c4
        (first | rw [c4b0] | (simp only [i64_w, i32_w]; rw [c4b0]) | skip)
        by_cases c5 : 0 < (a0.size : Int)
        · rw [if_pos c5] at H
          have c5b0 : decide (0 < (a0.size : Int)) = true := decide_eq_true c5
          have c5b1 : decide (0 < a0.size) = true := decide_eq_true (by omega)
          clear c5
          have H' := Aside0.mk H
          clear H
          have p6 : 0 ≤ (0 : Int) := (by omega)
          have q6 : 0 < a0.size := (by have : (0 : Int) < (a0.size : Int) := of_decide_eq_true (by first | (with_reducible assumption) | assumption); omega)
          have hx6 : ∀ h : 0 < a0.size, ((a0[0]'h).toNat : Int) = bt a0 0 := bt_at a0 0
          clear p6
          have qi6 : (0 < (a0.size : Int)) = True := eq_true (of_decide_eq_true (by first | (with_reducible assumption) | assumption))
          replace q6 := eq_true q6
          go_wp2
          go_meet
          case rel => exact ⟨_, (((bt a0 0) == 45)), (by first | rfl | (simp; done) | (simp [*]; done)), H', ⟨by first | omega | exact Nat.le_refl _⟩, ⟨bel_⟩⟩
        · rw [if_neg c5] at H
          exact absurd H (by simp)
      · rw [if_neg c4] at H
        have c4b0 : decide (0 < (a0.size : Int)) = false := decide_eq_false c4
        have c4b1 : decide (0 < a0.size) = false := decide_eq_false (by omega)
        clear c4
        (first | rw [c4b0] | (simp only [i64_w, i32_w]; rw [c4b0]) | skip)
        have H' := Aside0.mk H
        clear H
        go_wp2
        go_meet
        case rel => exact ⟨_, (false), (by first | rfl | (simp; done) | (simp [*]; done)), H', ⟨by first | omega | exact Nat.le_refl _⟩, ⟨bel_⟩⟩
    case rest =>
      clear HC3
      try clear c2
      try clear c2b0
      try clear c2b1
      try clear p2
      try clear c3
      try clear c4
      try clear c4b0
      try clear c4b1
      try clear c5
      try clear c5b0
      try clear c5b1
      try clear p6
      try clear q6
      try clear hx6
      try clear qi6
      try clear p6
      try clear q6
      obtain ⟨kq, x4_2, rfl, HA, HJ2, HB⟩ := hcut
      cases kq with
      | zero => exact absurd HA.out (by simp [spec_ReadFix.j0])
      | succ kj2 =>
        have H := HA.out
        clear HA
        simp only [spec_ReadFix.j0] at H
        have HC7 := Aside0.mk H
        clear H
        go_upto_if 23 with (fail)
        go_cut [0] (fun v0 wc => ∃ (kq : Nat) (x0_6 : ByteArray), v0 = .string x0_6 ∧ Aside0 (spec_ReadFix.j1 kq x0_6 x4_2 = some (r1, r2)) ∧ Aside0 (kq ≤ kj2) ∧ Aside0 (Below w.heap.size w wc))
        case first =>
          have H := HC7.out
          clear HC7
          by_cases c8 : x4_2 = true
          · subst c8
            have H1 : (if 1 ≤ (a0.size : Int) then (spec_ReadFix.j1 kj2 (a0.extract 1 a0.size) true) else (none)) = some (r1, r2) := by rw [if_pos rfl] at H; exact H
            clear H
            have H := H1
            clear H1
            by_cases c9 : 1 ≤ (a0.size : Int)
            · rw [if_pos c9] at H
              have c9b0 := eq_true c9
              have c9b1 : decide (1 ≤ (a0.size : Int)) = true := decide_eq_true c9
              clear c9
              have H' := Aside0.mk H
              clear H
              go_wp2
              go_meet
              case rel => exact ⟨_, (a0.extract 1 a0.size), (by first | rfl | (simp; done) | (simp [*]; done)), H', ⟨by have := HJ2.out; first | omega | exact Nat.le_refl _⟩, ⟨bel_⟩⟩
            · rw [if_neg c9] at H
              exact absurd H (by simp)
          · replace c8 := Bool.eq_false_iff.mpr c8
            subst c8
            have H1 : (spec_ReadFix.j1 kj2 a0 false) = some (r1, r2) := by rw [if_neg (show ¬ (false = true) by decide)] at H; exact H
            clear H
            have H := H1
            clear H1
            have H' := Aside0.mk H
            clear H
            go_wp2
            go_meet
            case rel => exact ⟨_, (a0), (by first | rfl | (simp; done) | (simp [*]; done)), H', ⟨by have := HJ2.out; first | omega | exact Nat.le_refl _⟩, ⟨bel_⟩⟩
        case rest =>
          clear HC7
          try clear c2
          try clear c2b0
          try clear c2b1
          try clear p2
          try clear c3
          try clear c4
          try clear c4b0
          try clear c4b1
          try clear c5
          try clear c5b0
          try clear c5b1
          try clear p6
          try clear q6
          try clear hx6
          try clear qi6
          try clear c8
          try clear c9
          try clear c9b0
          try clear c9b1
          try clear p2
          try clear p6
          try clear q6
          obtain ⟨kq, x0_6, rfl, HA, HJ6, HB⟩ := hcut
          cases kq with
          | zero => exact absurd HA.out (by simp [spec_ReadFix.j1])
          | succ kj6 =>
            have H := HA.out
            clear HA
            simp only [spec_ReadFix.j1] at H
            replace H := Option.bind_eq_some_iff.mp H
            obtain ⟨t271, A100, H⟩ := H
            replace H : (if 0 < (t271.length : Int) then ((spec_Number.f kj6 (rdOf ByteArray.empty t271 0)).bind fun bt275 => (if bt275.2 = true then (spec_ReadFix.j2 kj6 x4_2 t271 bt275.1 (decide ((t271.length : Int) > 2))) else (spec_ReadFix.j2 kj6 x4_2 t271 bt275.1 true))) else (none)) = some (r1, r2) := H
            have A10 := Aside0.mk A100
            clear A100
            by_cases c11 : 0 < (t271.length : Int)
            · rw [if_pos c11] at H
              have c11b0 : decide (0 < (t271.length : Int)) = true := decide_eq_true c11
              have c11b1 : decide (0 < t271.length) = true := decide_eq_true (by omega)
              clear c11
              replace H := Option.bind_eq_some_iff.mp H
              obtain ⟨⟨t275, t276⟩, A120, H⟩ := H
              replace H : (if t276 = true then (spec_ReadFix.j2 kj6 x4_2 t271 t275 (decide ((t271.length : Int) > 2))) else (spec_ReadFix.j2 kj6 x4_2 t271 t275 true)) = some (r1, r2) := H
              have A12 := Aside0.mk A120
              clear A120
              have HC13 := Aside0.mk H
              clear H
              go_upto_region 8 with (first | ((with_reducible refine gate_callee (f := 41) rfl ?_); refine goesL_ (some 27) rfl rfl Tryd.func41 (by kernel_rfl) rfl #[.string x0_6, .int .u8 46] rfl mp_ ?_; (with_reducible refine (spec_Parts.calls kj6 x0_6 46 t271 _ A10.out).mono ?_); rintro e w14 ⟨v272, rfl, ho0, hb⟩; refine ⟨_, rfl, ?_⟩; have n0_ := Aside0.mk (Kd.R_lower ho0 (below_size bel_)); have n1_ := Aside0.mk (below_step bel_ hb); clear HB; have HO273 := n0_; have HB := n1_; clear n0_ n1_; (try clear hb); (try clear hb2); (try clear hk); (try clear hi); (try clear ho0); obtain ⟨Ao15, co15, eo15⟩ := Kd.R_slice HO273.out; subst eo15; have p274 : 0 ≤ (0 : Int) := (by omega); have q274 : 0 < (t271.length : Int) := of_decide_eq_true (by first | (with_reducible assumption) | assumption); obtain ⟨ad274, e274, hx274_0⟩ := Kd.at_string (Kd.R_reads' HO273.out).2.2 0 p274 q274; cases e274; have qi274 : (0 < t271.length) = True := eq_true (by omega); (try rw [show ((0 : Int)).toNat = 0 from rfl] at hx274_0); (try rw [Addr.add_zero'] at hx274_0); replace p274 := eq_true p274; replace q274 := eq_true q274) | ((with_reducible refine gate_callee (f := 82) rfl ?_); refine goesL_ (some 32) rfl rfl Tryd.func82 (by kernel_rfl) rfl #[.string (rdOf ByteArray.empty t271 0)] rfl mp_ ?_; (with_reducible refine (spec_Number.calls kj6 (rdOf ByteArray.empty t271 0) t275 t276 _ A12.out).mono ?_); rintro e w16 ⟨rfl, hb⟩; refine ⟨_, rfl, ?_⟩; have n0_ := Aside0.mk (Kd.R_below (by (with_reducible repeat (first | apply Kd.R_alloc | apply Kd.R_drewN | apply Kd.R_drew)); exact HO273.out) hb); have n1_ := Aside0.mk (below_step bel_ hb); clear HO273; clear HB; have HO273 := n0_; have HB := n1_; clear n0_ n1_; (try clear hb); (try clear hb2); (try clear hk); (try clear hi)))
              (try simp only [Act.put, la_, lb_, lc_])
              go_cut [41] (fun v41 wc => ∃ (kq : Nat) (x41_12 : Bool), v41 = .bool x41_12 ∧ Aside0 (spec_ReadFix.j2 kq x4_2 t271 t275 x41_12 = some (r1, r2)) ∧ Aside0 (kq ≤ kj6) ∧ Aside0 (Kd.R Kd.string 9 wc w.heap.size (fun _ => True) (.slice (some ad274) t271.length co15) t271) ∧ Aside0 (Below w.heap.size w wc))
              case first =>
                have H := HC13.out
                clear HC13
                by_cases c17 : t276 = true
                · subst c17
                  have H1 : (spec_ReadFix.j2 kj6 x4_2 t271 t275 (decide ((t271.length : Int) > 2))) = some (r1, r2) := by rw [if_pos rfl] at H; exact H
                  clear H
                  have H := H1
                  clear H1
                  have H' := Aside0.mk H
                  clear H
                  go_wp2
                  go_meet
                  case rel => exact ⟨_, (decide ((t271.length : Int) > 2)), (by first | rfl | (simp; done) | (simp [*]; done)), H', ⟨by have := HJ2.out; have := HJ6.out; first | omega | exact Nat.le_refl _⟩, ⟨by (with_reducible repeat (first | apply Kd.R_alloc | apply Kd.R_drewN | apply Kd.R_drew)); exact HO273.out⟩, ⟨bel_⟩⟩
                · replace c17 := Bool.eq_false_iff.mpr c17
                  subst c17
                  have H1 : (spec_ReadFix.j2 kj6 x4_2 t271 t275 true) = some (r1, r2) := by rw [if_neg (show ¬ (false = true) by decide)] at H; exact H
                  clear H
                  have H := H1
                  clear H1
                  have H' := Aside0.mk H
                  clear H
                  go_wp2
                  go_meet
                  case rel => exact ⟨_, (true), (by first | rfl | (simp; done) | (simp [*]; done)), H', ⟨by have := HJ2.out; have := HJ6.out; first | omega | exact Nat.le_refl _⟩, ⟨by (with_reducible repeat (first | apply Kd.R_alloc | apply Kd.R_drewN | apply Kd.R_drew)); exact HO273.out⟩, ⟨bel_⟩⟩
              case rest =>
                clear HC13
                try clear c1
                try clear c2
                try clear c2b0
                try clear c2b1
                try clear p2
                try clear q2
                try clear hx2
                try clear qi2
                try clear c3
                try clear c4
                try clear c4b0
                try clear c4b1
                try clear c5
                try clear c5b0
                try clear c5b1
                try clear p6
                try clear q6
                try clear hx6
                try clear qi6
                try clear c8
                try clear c9
                try clear c9b0
                try clear c9b1
                try clear c11
                try clear c11b0
                try clear c11b1
                try clear c17
                try clear hx274_0
                try clear p2
                try clear p274
                try clear p6
                try clear q274
                try clear q6
                obtain ⟨kq, x41_12, rfl, HA, HJ12, HO_5, HB⟩ := hcut
                cases kq with
                | zero => exact absurd HA.out (by simp [spec_ReadFix.j2])
                | succ kj12 =>
                  have H := HA.out
                  clear HA
                  simp only [spec_ReadFix.j2] at H
                  by_cases c18 : x41_12 = true
                  · subst c18
                    have H1 : (some (0, false)) = some (r1, r2) := by rw [if_pos rfl] at H; exact H
                    clear H
                    have H := H1
                    clear H1
                    simp only [Option.some.injEq, Prod.mk.injEq] at H
                    obtain ⟨rfl, rfl⟩ := H
                    go_wp2
                    go_ret2
                    exact ⟨rf_, bel_⟩
                  · replace c18 := Bool.eq_false_iff.mpr c18
                    subst c18
                    have H1 : (if (t271.length : Int) = 2 then (if 1 < (t271.length : Int) then ((spec_l1In.f ((rdOf ByteArray.empty t271 1).size : Int) 1 3).bind fun t278 => (if t278 = true then (spec_ReadFix.l0 kj12 x4_2 t271 (wrap64 (1000 * t275)) 100 0) else (some (0, false)))) else (none)) else (spec_ReadFix.j4 kj12 x4_2 (wrap64 (1000 * t275)))) = some (r1, r2) := by rw [if_neg (show ¬ (false = true) by decide)] at H; exact H
                    clear H
                    have H := H1
                    clear H1
                    have HC19 := Aside0.mk H
                    clear H
                    go_upto_if 46 with (fail)
                    go_cut [8] (fun v8 wc => ∃ (kq : Nat) (x8_18 : Int), v8 = .int .i64 x8_18 ∧ Aside0 (spec_ReadFix.j4 kq x4_2 x8_18 = some (r1, r2)) ∧ Aside0 (kq ≤ kj12) ∧ Aside0 (Below w.heap.size w wc))
                    case first =>
                      have H := HC19.out
                      clear HC19
                      by_cases c20 : (t271.length : Int) = 2
                      · rw [if_pos c20] at H
                        have c20b0 : ((t271.length : Int) == 2) = true := beq_iff_eq.mpr c20
                        have c20b1 : ((t271.length : Int) != 2) = false := bne_eq_false_iff_eq.mpr c20
                        clear c20
                        (first | rw [c20b0] | (simp only [i64_w, i32_w]; rw [c20b0]) | skip)
                        by_cases c21 : 1 < (t271.length : Int)
                        · rw [if_pos c21] at H
                          have c21b0 : decide (1 < (t271.length : Int)) = true := decide_eq_true c21
                          have c21b1 : decide (1 < t271.length) = true := decide_eq_true (by omega)
                          clear c21
                          replace H := Option.bind_eq_some_iff.mp H
                          obtain ⟨t278, A220, H⟩ := H
                          replace H : (if t278 = true then (spec_ReadFix.l0 kj12 x4_2 t271 (wrap64 (1000 * t275)) 100 0) else (some (0, false))) = some (r1, r2) := H
                          have A22 := Aside0.mk A220
                          clear A220
                          by_cases c23 : t278 = true
                          · subst c23
                            have H1 : (spec_ReadFix.l0 kj12 x4_2 t271 (wrap64 (1000 * t275)) 100 0) = some (r1, r2) := by rw [if_pos rfl] at H; exact H
                            clear H
                            have H := H1
                            clear H1
                            have H' := Aside0.mk H
                            clear H
                            have p277 : 0 ≤ (1 : Int) := (by omega)
                            have q277 : 1 < (t271.length : Int) := of_decide_eq_true (by first | (with_reducible assumption) | assumption)
                            obtain ⟨ad277, e277, hx277_0⟩ := Kd.at_string (Kd.R_reads' HO_5.out).2.2 1 p277 q277
                            obtain rfl : ad274 = ad277 := (by injection e277)
                            (try simp only [show (1 : Int).toNat = 1 from rfl, Nat.reduceMul, Nat.reduceEqDiff, Go.Addr.add, ↓reduceIte] at hx277_0)
                            have qi277 : (1 < t271.length) = True := eq_true (by omega)
                            (try rw [show ((1 : Int)).toNat = 1 from rfl] at hx277_0)
                            replace p277 := eq_true p277
                            replace q277 := eq_true q277
                            go_wp2_with (first | ((with_reducible refine gate_callee (f := 57) rfl ?_); refine goesL_ (some 51) rfl rfl Tryd.func57 (by kernel_rfl) rfl #[.int .i64 ((rdOf ByteArray.empty t271 1).size : Int), .int .i64 1, .int .i64 3] rfl mp_ ?_; (with_reducible refine (spec_l1In.calls ((rdOf ByteArray.empty t271 1).size : Int) 1 3 true _ A22.out).mono ?_); rintro e w' ⟨rfl, ⟨nd, rfl⟩⟩; refine ⟨_, rfl, ?_⟩))
                            go_loopg [8, 9, 10] kj12 (fun kq v8 v9 v10 w' => ∃ (x8_4 : Int) (x9_4 : Int) (x10_4 : Int), v8 = .int .i64 x8_4 ∧ v9 = .int .i64 x9_4 ∧ v10 = .int .i64 x10_4 ∧ Aside0 (spec_ReadFix.l0 kq x4_2 t271 x8_4 x9_4 x10_4 = some (r1, r2)) ∧ Aside0 (kq ≤ kj12) ∧ Aside0 (Kd.R Kd.string 9 w' w.heap.size (fun _ => True) (.slice (some ad274) t271.length co15) t271) ∧ Aside0 (Below w.heap.size w w'))
                            case atStart => exact ⟨(wrap64 (1000 * t275)), (100), (0), (by first | rfl | (simp; done) | (simp [*]; done)), (by first | rfl | (simp; done) | (simp [*]; done)), (by first | rfl | (simp; done) | (simp [*]; done)), H', ⟨Nat.le_refl _⟩, ⟨by (with_reducible repeat (first | apply Kd.R_alloc | apply Kd.R_drewN | apply Kd.R_drew)); exact HO_5.out⟩, ⟨bel_⟩⟩
                            case round =>
                              clear H'
                              try clear c1
                              try clear c2
                              try clear c2b0
                              try clear c2b1
                              try clear p2
                              try clear q2
                              try clear hx2
                              try clear qi2
                              try clear c3
                              try clear c4
                              try clear c4b0
                              try clear c4b1
                              try clear c5
                              try clear c5b0
                              try clear c5b1
                              try clear p6
                              try clear q6
                              try clear hx6
                              try clear qi6
                              try clear c8
                              try clear c9
                              try clear c9b0
                              try clear c9b1
                              try clear c11
                              try clear c11b0
                              try clear c11b1
                              try clear c17
                              try clear c18
                              try clear c20
                              try clear c20b0
                              try clear c20b1
                              try clear c21
                              try clear c21b0
                              try clear c21b1
                              try clear c23
                              try clear hx274_0
                              try clear hx277_0
                              try clear p2
                              try clear p274
                              try clear p277
                              try clear p6
                              try clear q2
                              try clear q274
                              try clear q277
                              try clear q6
                              obtain ⟨x8_4, x9_4, x10_4, rfl, rfl, rfl, HA, HK4, HO_5, HB⟩ := hrel
                              cases gk with
                              | zero => exact absurd HA.out (by simp [spec_ReadFix.l0])
                              | succ k4 =>
                                have H := HA.out
                                clear HA
                                simp only [spec_ReadFix.l0] at H
                                by_cases c24 : 1 < (t271.length : Int)
                                · rw [if_pos c24] at H
                                  have c24b0 : decide (1 < (t271.length : Int)) = true := decide_eq_true c24
                                  have c24b1 : decide (1 < t271.length) = true := decide_eq_true (by omega)
                                  clear c24
                                  by_cases c25 : x10_4 < ((rdOf ByteArray.empty t271 1).size : Int)
                                  · rw [if_pos c25] at H
                                    have c25b0 : decide (x10_4 < ((rdOf ByteArray.empty t271 1).size : Int)) = true := decide_eq_true c25
                                    clear c25
                                    by_cases c26 : 0 ≤ x10_4
                                    · rw [if_pos c26] at H
                                      have c26b0 : decide (0 ≤ x10_4) = true := decide_eq_true c26
                                      clear c26
                                      replace H := Option.bind_eq_some_iff.mp H
                                      obtain ⟨t281, A280, H⟩ := H
                                      replace H : (if t281 = true then (spec_ReadFix.l0 k4 x4_2 t271 (wrap64 (x8_4 + (wrap64 (x9_4 * (wrap64 ((wrap64 (bt (rdOf ByteArray.empty t271 1) x10_4)) - 48)))))) (wrap64 (Int.tdiv x9_4 10)) (wrap64 (x10_4 + 1))) else (some (0, false))) = some (r1, r2) := H
                                      have A28 := Aside0.mk A280
                                      clear A280
                                      by_cases c29 : t281 = true
                                      · subst c29
                                        have H1 : (spec_ReadFix.l0 k4 x4_2 t271 (wrap64 (x8_4 + (wrap64 (x9_4 * (wrap64 ((wrap64 (bt (rdOf ByteArray.empty t271 1) x10_4)) - 48)))))) (wrap64 (Int.tdiv x9_4 10)) (wrap64 (x10_4 + 1))) = some (r1, r2) := by rw [if_pos rfl] at H; exact H
                                        clear H
                                        have H := H1
                                        clear H1
                                        have H' := Aside0.mk H
                                        clear H
                                        have p279 : 0 ≤ (1 : Int) := (by omega)
                                        have q279 : 1 < (t271.length : Int) := of_decide_eq_true (by first | (with_reducible assumption) | assumption)
                                        obtain ⟨ad279, e279, hx279_0⟩ := Kd.at_string (Kd.R_reads' HO_5.out).2.2 1 p279 q279
                                        obtain rfl : ad274 = ad279 := (by injection e279)
                                        (try simp only [show (1 : Int).toNat = 1 from rfl, Nat.reduceMul, Nat.reduceEqDiff, Go.Addr.add, ↓reduceIte] at hx279_0)
                                        have qi279 : (1 < t271.length) = True := eq_true (by omega)
                                        (try rw [show ((1 : Int)).toNat = 1 from rfl] at hx279_0)
                                        replace p279 := eq_true p279
                                        replace q279 := eq_true q279
                                        have p280 : 0 ≤ (1 : Int) := (by omega)
                                        have q280 : 1 < (t271.length : Int) := of_decide_eq_true (by first | (with_reducible assumption) | assumption)
                                        obtain ⟨ad280, e280, hx280_0⟩ := Kd.at_string (Kd.R_reads' HO_5.out).2.2 1 p280 q280
                                        obtain rfl : ad274 = ad280 := (by injection e280)
                                        (try simp only [show (1 : Int).toNat = 1 from rfl, Nat.reduceMul, Nat.reduceEqDiff, Go.Addr.add, ↓reduceIte] at hx280_0)
                                        have qi280 : (1 < t271.length) = True := eq_true (by omega)
                                        (try rw [show ((1 : Int)).toNat = 1 from rfl] at hx280_0)
                                        replace p280 := eq_true p280
                                        replace q280 := eq_true q280
                                        have p27 : 0 ≤ (x10_4 : Int) := of_decide_eq_true (by first | (with_reducible assumption) | assumption)
                                        have q27 : x10_4 < ((rdOf ByteArray.empty t271 1).size : Int) := of_decide_eq_true (by first | (with_reducible assumption) | assumption)
                                        have hx27 := bt_at (rdOf ByteArray.empty t271 1) x10_4
                                        replace p27 := eq_true p27
                                        replace q27 := eq_true q27
                                        go_wp2_with (first | ((with_reducible refine gate_callee (f := 57) rfl ?_); refine goesL_ (some 69) rfl rfl Tryd.func57 (by kernel_rfl) rfl #[.int .i64 (wrap64 ((wrap64 (bt (rdOf ByteArray.empty t271 1) x10_4)) - 48)), .int .i64 0, .int .i64 9] rfl mp_ ?_; (with_reducible refine (spec_l1In.calls (wrap64 ((wrap64 (bt (rdOf ByteArray.empty t271 1) x10_4)) - 48)) 0 9 true _ A28.out).mono ?_); rintro e w' ⟨rfl, ⟨nd, rfl⟩⟩; refine ⟨_, rfl, ?_⟩))
                                        go_roundg k4
                                        case measure => have := HJ2.out; have := HJ6.out; have := HJ12.out; have := HK4.out; omega
                                        case rel => exact ⟨(wrap64 (x8_4 + (wrap64 (x9_4 * (wrap64 ((wrap64 (bt (rdOf ByteArray.empty t271 1) x10_4)) - 48)))))), (wrap64 (Int.tdiv x9_4 10)), (wrap64 (x10_4 + 1)), (by first | rfl | (simp; done) | (simp [*]; done)), (by first | rfl | (simp; done) | (simp [*]; done)), (by first | rfl | (simp; done) | (simp [*]; done)), H', ⟨by have := HJ2.out; have := HJ6.out; have := HJ12.out; have := HK4.out; omega⟩, ⟨by (with_reducible repeat (first | apply Kd.R_alloc | apply Kd.R_drewN | apply Kd.R_drew)); exact HO_5.out⟩, ⟨bel_⟩⟩
                                      · replace c29 := Bool.eq_false_iff.mpr c29
                                        subst c29
                                        have H1 : (some (0, false)) = some (r1, r2) := by rw [if_neg (show ¬ (false = true) by decide)] at H; exact H
                                        clear H
                                        have H := H1
                                        clear H1
                                        simp only [Option.some.injEq, Prod.mk.injEq] at H
                                        obtain ⟨rfl, rfl⟩ := H
                                        have p279 : 0 ≤ (1 : Int) := (by omega)
                                        have q279 : 1 < (t271.length : Int) := of_decide_eq_true (by first | (with_reducible assumption) | assumption)
                                        obtain ⟨ad279, e279, hx279_0⟩ := Kd.at_string (Kd.R_reads' HO_5.out).2.2 1 p279 q279
                                        obtain rfl : ad274 = ad279 := (by injection e279)
                                        (try simp only [show (1 : Int).toNat = 1 from rfl, Nat.reduceMul, Nat.reduceEqDiff, Go.Addr.add, ↓reduceIte] at hx279_0)
                                        have qi279 : (1 < t271.length) = True := eq_true (by omega)
                                        (try rw [show ((1 : Int)).toNat = 1 from rfl] at hx279_0)
                                        replace p279 := eq_true p279
                                        replace q279 := eq_true q279
                                        have p280 : 0 ≤ (1 : Int) := (by omega)
                                        have q280 : 1 < (t271.length : Int) := of_decide_eq_true (by first | (with_reducible assumption) | assumption)
                                        obtain ⟨ad280, e280, hx280_0⟩ := Kd.at_string (Kd.R_reads' HO_5.out).2.2 1 p280 q280
                                        obtain rfl : ad274 = ad280 := (by injection e280)
                                        (try simp only [show (1 : Int).toNat = 1 from rfl, Nat.reduceMul, Nat.reduceEqDiff, Go.Addr.add, ↓reduceIte] at hx280_0)
                                        have qi280 : (1 < t271.length) = True := eq_true (by omega)
                                        (try rw [show ((1 : Int)).toNat = 1 from rfl] at hx280_0)
                                        replace p280 := eq_true p280
                                        replace q280 := eq_true q280
                                        have p27 : 0 ≤ (x10_4 : Int) := of_decide_eq_true (by first | (with_reducible assumption) | assumption)
                                        have q27 : x10_4 < ((rdOf ByteArray.empty t271 1).size : Int) := of_decide_eq_true (by first | (with_reducible assumption) | assumption)
                                        have hx27 := bt_at (rdOf ByteArray.empty t271 1) x10_4
                                        replace p27 := eq_true p27
                                        replace q27 := eq_true q27
                                        go_wp2_with (first | ((with_reducible refine gate_callee (f := 57) rfl ?_); refine goesL_ (some 69) rfl rfl Tryd.func57 (by kernel_rfl) rfl #[.int .i64 (wrap64 ((wrap64 (bt (rdOf ByteArray.empty t271 1) x10_4)) - 48)), .int .i64 0, .int .i64 9] rfl mp_ ?_; (with_reducible refine (spec_l1In.calls (wrap64 ((wrap64 (bt (rdOf ByteArray.empty t271 1) x10_4)) - 48)) 0 9 false _ A28.out).mono ?_); rintro e w' ⟨rfl, ⟨nd, rfl⟩⟩; refine ⟨_, rfl, ?_⟩))
                                        go_ret2
                                        exact ⟨rf_, bel_⟩
                                    · rw [if_neg c26] at H
                                      exact absurd H (by simp)
                                  · rw [if_neg c25] at H
                                    have c25b0 : decide (x10_4 < ((rdOf ByteArray.empty t271 1).size : Int)) = false := decide_eq_false c25
                                    clear c25
                                    have H' := Aside0.mk H
                                    clear H
                                    have p279 : 0 ≤ (1 : Int) := (by omega)
                                    have q279 : 1 < (t271.length : Int) := of_decide_eq_true (by first | (with_reducible assumption) | assumption)
                                    obtain ⟨ad279, e279, hx279_0⟩ := Kd.at_string (Kd.R_reads' HO_5.out).2.2 1 p279 q279
                                    obtain rfl : ad274 = ad279 := (by injection e279)
                                    (try simp only [show (1 : Int).toNat = 1 from rfl, Nat.reduceMul, Nat.reduceEqDiff, Go.Addr.add, ↓reduceIte] at hx279_0)
                                    have qi279 : (1 < t271.length) = True := eq_true (by omega)
                                    (try rw [show ((1 : Int)).toNat = 1 from rfl] at hx279_0)
                                    replace p279 := eq_true p279
                                    replace q279 := eq_true q279
                                    go_wp2
                                    go_meet
                                    case rel => exact ⟨_, (x8_4), (by first | rfl | (simp; done) | (simp [*]; done)), H', ⟨by have := HJ2.out; have := HJ6.out; have := HJ12.out; have := HK4.out; first | omega | exact Nat.le_refl _⟩, ⟨bel_⟩⟩
                                · rw [if_neg c24] at H
                                  exact absurd H (by simp)
                          · replace c23 := Bool.eq_false_iff.mpr c23
                            subst c23
                            have H1 : (some (0, false)) = some (r1, r2) := by rw [if_neg (show ¬ (false = true) by decide)] at H; exact H
                            clear H
                            have H := H1
                            clear H1
                            simp only [Option.some.injEq, Prod.mk.injEq] at H
                            obtain ⟨rfl, rfl⟩ := H
                            have p277 : 0 ≤ (1 : Int) := (by omega)
                            have q277 : 1 < (t271.length : Int) := of_decide_eq_true (by first | (with_reducible assumption) | assumption)
                            obtain ⟨ad277, e277, hx277_0⟩ := Kd.at_string (Kd.R_reads' HO_5.out).2.2 1 p277 q277
                            obtain rfl : ad274 = ad277 := (by injection e277)
                            (try simp only [show (1 : Int).toNat = 1 from rfl, Nat.reduceMul, Nat.reduceEqDiff, Go.Addr.add, ↓reduceIte] at hx277_0)
                            have qi277 : (1 < t271.length) = True := eq_true (by omega)
                            (try rw [show ((1 : Int)).toNat = 1 from rfl] at hx277_0)
                            replace p277 := eq_true p277
                            replace q277 := eq_true q277
                            go_wp2_with (first | ((with_reducible refine gate_callee (f := 57) rfl ?_); refine goesL_ (some 51) rfl rfl Tryd.func57 (by kernel_rfl) rfl #[.int .i64 ((rdOf ByteArray.empty t271 1).size : Int), .int .i64 1, .int .i64 3] rfl mp_ ?_; (with_reducible refine (spec_l1In.calls ((rdOf ByteArray.empty t271 1).size : Int) 1 3 false _ A22.out).mono ?_); rintro e w' ⟨rfl, ⟨nd, rfl⟩⟩; refine ⟨_, rfl, ?_⟩))
                            go_ret2
                            exact ⟨rf_, bel_⟩
                        · rw [if_neg c21] at H
                          exact absurd H (by simp)
                      · rw [if_neg c20] at H
                        have c20b0 : ((t271.length : Int) == 2) = false := beq_eq_false_iff_ne.mpr c20
                        have c20b1 : ((t271.length : Int) != 2) = true := bne_iff_ne.mpr c20
                        (first | rw [c20b0] | (simp only [i64_w, i32_w]; rw [c20b0]) | skip)
                        have H' := Aside0.mk H
                        clear H
                        go_wp2
                        go_meet
                        case rel => exact ⟨_, (wrap64 (1000 * t275)), (by first | rfl | (simp; done) | (simp [*]; done)), H', ⟨by have := HJ2.out; have := HJ6.out; have := HJ12.out; first | omega | exact Nat.le_refl _⟩, ⟨bel_⟩⟩
                    case rest =>
                      clear HC19
                      try clear c1
                      try clear c2
                      try clear c2b0
                      try clear c2b1
                      try clear p2
                      try clear q2
                      try clear hx2
                      try clear qi2
                      try clear c3
                      try clear c4
                      try clear c4b0
                      try clear c4b1
                      try clear c5
                      try clear c5b0
                      try clear c5b1
                      try clear p6
                      try clear q6
                      try clear hx6
                      try clear qi6
                      try clear c8
                      try clear c9
                      try clear c9b0
                      try clear c9b1
                      try clear c11
                      try clear c11b0
                      try clear c11b1
                      try clear c17
                      try clear c18
                      try clear c20
                      try clear c20b0
                      try clear c20b1
                      try clear c21
                      try clear c21b0
                      try clear c21b1
                      try clear c23
                      try clear c24
                      try clear c24b0
                      try clear c24b1
                      try clear c25
                      try clear c25b0
                      try clear c26
                      try clear c26b0
                      try clear p27
                      try clear q27
                      try clear hx27
                      try clear qi27
                      try clear p28
                      try clear q28
                      try clear hx28
                      try clear qi28
                      try clear c29
                      try clear hx274_0
                      try clear hx277_0
                      try clear hx279_0
                      try clear hx280_0
                      try clear p2
                      try clear p27
                      try clear p274
                      try clear p277
                      try clear p279
                      try clear p280
                      try clear p6
                      try clear q2
                      try clear q27
                      try clear q274
                      try clear q277
                      try clear q279
                      try clear q280
                      try clear q6
                      obtain ⟨kq, x8_18, rfl, HA, HJ18, HB⟩ := hcut
                      cases kq with
                      | zero => exact absurd HA.out (by simp [spec_ReadFix.j4])
                      | succ kj18 =>
                        have H := HA.out
                        clear HA
                        simp only [spec_ReadFix.j4] at H
                        by_cases c30 : x4_2 = true
                        · subst c30
                          have H1 : ((spec_l6Value.f (wrap64 (-x8_18))).bind fun t282 => (if t282 = true then (some (wrap64 (-x8_18), true)) else (some (0, false)))) = some (r1, r2) := by rw [if_pos rfl] at H; exact H
                          clear H
                          have H := H1
                          clear H1
                          replace H := Option.bind_eq_some_iff.mp H
                          obtain ⟨t282, A310, H⟩ := H
                          replace H : (if t282 = true then (some (wrap64 (-x8_18), true)) else (some (0, false))) = some (r1, r2) := H
                          have A31 := Aside0.mk A310
                          clear A310
                          by_cases c32 : t282 = true
                          · subst c32
                            have H1 : (some (wrap64 (-x8_18), true)) = some (r1, r2) := by rw [if_pos rfl] at H; exact H
                            clear H
                            have H := H1
                            clear H1
                            simp only [Option.some.injEq, Prod.mk.injEq] at H
                            obtain ⟨rfl, rfl⟩ := H
                            go_wp2_with (first | ((with_reducible refine gate_callee (f := 80) rfl ?_); refine goesL_ (some 82) rfl rfl Tryd.func80 (by kernel_rfl) rfl #[.int .i64 (wrap64 (-x8_18))] rfl mp_ ?_; (with_reducible refine (spec_l6Value.calls (wrap64 (-x8_18)) true _ A31.out).mono ?_); rintro e w' ⟨rfl, ⟨nd, rfl⟩⟩; refine ⟨_, rfl, ?_⟩))
                            go_ret2
                            exact ⟨rf_, bel_⟩
                          · replace c32 := Bool.eq_false_iff.mpr c32
                            subst c32
                            have H1 : (some (0, false)) = some (r1, r2) := by rw [if_neg (show ¬ (false = true) by decide)] at H; exact H
                            clear H
                            have H := H1
                            clear H1
                            simp only [Option.some.injEq, Prod.mk.injEq] at H
                            obtain ⟨rfl, rfl⟩ := H
                            go_wp2_with (first | ((with_reducible refine gate_callee (f := 80) rfl ?_); refine goesL_ (some 82) rfl rfl Tryd.func80 (by kernel_rfl) rfl #[.int .i64 (wrap64 (-x8_18))] rfl mp_ ?_; (with_reducible refine (spec_l6Value.calls (wrap64 (-x8_18)) false _ A31.out).mono ?_); rintro e w' ⟨rfl, ⟨nd, rfl⟩⟩; refine ⟨_, rfl, ?_⟩))
                            go_ret2
                            exact ⟨rf_, bel_⟩
                        · replace c30 := Bool.eq_false_iff.mpr c30
                          subst c30
                          have H1 : ((spec_l6Value.f x8_18).bind fun t283 => (if t283 = true then (some (x8_18, true)) else (some (0, false)))) = some (r1, r2) := by rw [if_neg (show ¬ (false = true) by decide)] at H; exact H
                          clear H
                          have H := H1
                          clear H1
                          replace H := Option.bind_eq_some_iff.mp H
                          obtain ⟨t283, A330, H⟩ := H
                          replace H : (if t283 = true then (some (x8_18, true)) else (some (0, false))) = some (r1, r2) := H
                          have A33 := Aside0.mk A330
                          clear A330
                          by_cases c34 : t283 = true
                          · subst c34
                            have H1 : (some (x8_18, true)) = some (r1, r2) := by rw [if_pos rfl] at H; exact H
                            clear H
                            have H := H1
                            clear H1
                            simp only [Option.some.injEq, Prod.mk.injEq] at H
                            obtain ⟨rfl, rfl⟩ := H
                            go_wp2_with (first | ((with_reducible refine gate_callee (f := 80) rfl ?_); refine goesL_ (some 82) rfl rfl Tryd.func80 (by kernel_rfl) rfl #[.int .i64 x8_18] rfl mp_ ?_; (with_reducible refine (spec_l6Value.calls x8_18 true _ A33.out).mono ?_); rintro e w' ⟨rfl, ⟨nd, rfl⟩⟩; refine ⟨_, rfl, ?_⟩))
                            go_ret2
                            exact ⟨rf_, bel_⟩
                          · replace c34 := Bool.eq_false_iff.mpr c34
                            subst c34
                            have H1 : (some (0, false)) = some (r1, r2) := by rw [if_neg (show ¬ (false = true) by decide)] at H; exact H
                            clear H
                            have H := H1
                            clear H1
                            simp only [Option.some.injEq, Prod.mk.injEq] at H
                            obtain ⟨rfl, rfl⟩ := H
                            go_wp2_with (first | ((with_reducible refine gate_callee (f := 80) rfl ?_); refine goesL_ (some 82) rfl rfl Tryd.func80 (by kernel_rfl) rfl #[.int .i64 x8_18] rfl mp_ ?_; (with_reducible refine (spec_l6Value.calls x8_18 false _ A33.out).mono ?_); rintro e w' ⟨rfl, ⟨nd, rfl⟩⟩; refine ⟨_, rfl, ?_⟩))
                            go_ret2
                            exact ⟨rf_, bel_⟩
            · rw [if_neg c11] at H
              exact absurd H (by simp)

end Go.Proofs.YtkpgpifkbdpnkaaDoor.PFnFix
