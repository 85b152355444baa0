/- Contracts of Go functions, each with the Lean function that says what it computes: begun by the print, turned by this session. No condition beyond what each theorem states. -/
import Derived.Test.YtcbiijfiecjcaaaDoorPFnExactConfigTextx0
import Derived.Test.YtcbiijfiecjcaaaDoorPFnExactConfigTextx1
namespace Go.Proofs.YtcbiijfiecjcaaaDoor.PFnExactConfigText
open Go.RowKit Go.Proofs.YtcbiijfiecjcaaaDoorW.PrintWords Go.Proofs.YtcbiijfiecjcaaaDoorW.PrintLast Go.Proofs.YtcbiijfiecjcaaaDoorW.PrintMore
attribute [local go_sem] max2_int min2_int max_two min_two max_three min_three max_four min_four   -- for this text's walks alone
set_option linter.unusedVariables false
set_option linter.unusedSimpArgs false

/-! ### spec_ConfigOk: function 30 -/
mutual
def spec_ConfigOk.l0 : Nat → List Int → Int → Int → Int → Int → Int → Int → Int → Int → List Int → Option (Bool)
  | 0, _, _, _, _, _, _, _, _, _, _ => none
  | k + 1, x3, x4, x114000, x114001, x114002, x114003, x114004, x114005, x114006, x114007 => if x4 < 5 then (if 0 ≤ x4 then (if x4 < (x3.length : Int) then ((spec_l8Least.f).bind fun t118 => (if x4 < (t118.length : Int) then ((spec_l8Most.f).bind fun t122 => (if x4 < (t122.length : Int) then ((spec_l1In.f (rd x3 x4) (rd t118 x4) (rd t122 x4)).bind fun t126 => (if t126 = true then (spec_ConfigOk.l0 k x3 (wrap64 (x4 + 1)) x114000 x114001 x114002 x114003 x114004 x114005 x114006 x114007) else (some false))) else (none))) else (none))) else (none)) else (none)) else (spec_ConfigOk.l1 k 0 x114000 x114001 x114002 x114003 x114004 x114005 x114006 x114007)
def spec_ConfigOk.l1 : Nat → Int → Int → Int → Int → Int → Int → Int → Int → List Int → Option (Bool)
  | 0, _, _, _, _, _, _, _, _, _ => none
  | k + 1, x5, x114000, x114001, x114002, x114003, x114004, x114005, x114006, x114007 => if x5 < (x114007.length : Int) then (if 0 ≤ x5 then ((spec_l1In.f (rd x114007 x5) (-1) 1).bind fun t128 => (if t128 = true then (spec_ConfigOk.l1 k (wrap64 (x5 + 1)) x114000 x114001 x114002 x114003 x114004 x114005 x114006 x114007) else (some false))) else (none)) else ((spec_l1In.f x114006 1 1000).bind fun t129 => (if t129 = true then ((spec_l1In.f x114005 1 x114006).bind fun t130 => (if t130 = true then (some (decide ((x114007.length : Int) ≤ 4))) else (some false))) else (some false)))
end
def spec_ConfigOk.f (k : Nat) (a0_0 : Int) (a0_1 : Int) (a0_2 : Int) (a0_3 : Int) (a0_4 : Int) (a0_5 : Int) (a0_6 : Int) (l0_7 : List Int) : Option (Bool) := (spec_l8Numbers.f a0_0 a0_1 a0_2 a0_3 a0_4 a0_5 a0_6 l0_7).bind fun t114 => (spec_ConfigOk.l0 k t114 0 a0_0 a0_1 a0_2 a0_3 a0_4 a0_5 a0_6 l0_7)
theorem spec_ConfigOk.mono_l : ∀ k, (∀ y0 y1 y2 y3 y4 y5 y6 y7 y8 y9, LeO (spec_ConfigOk.l0 k y0 y1 y2 y3 y4 y5 y6 y7 y8 y9) (spec_ConfigOk.l0 (k + 1) y0 y1 y2 y3 y4 y5 y6 y7 y8 y9)) ∧ (∀ y0 y1 y2 y3 y4 y5 y6 y7 y8, LeO (spec_ConfigOk.l1 k y0 y1 y2 y3 y4 y5 y6 y7 y8) (spec_ConfigOk.l1 (k + 1) y0 y1 y2 y3 y4 y5 y6 y7 y8))
  | 0 => ⟨fun _ _ _ _ _ _ _ _ _ _ r h => by simp [spec_ConfigOk.l0] at h, fun _ _ _ _ _ _ _ _ _ r h => by simp [spec_ConfigOk.l1] at h⟩
  | k + 1 => by
    obtain ⟨ih0, ih1⟩ := spec_ConfigOk.mono_l k
    refine ⟨?_, ?_⟩
    · intro y0 y1 y2 y3 y4 y5 y6 y7 y8 y9
      unfold spec_ConfigOk.l0
      repeat' first
      | (with_reducible exact ih0 _ _ _ _ _ _ _ _ _ _)
      | (with_reducible exact ih1 _ _ _ _ _ _ _ _ _)
      | (with_reducible exact LeO.refl _)
      | (with_reducible exact LeO.none _)
      | (with_reducible refine LeO.ite ?_ ?_)
      | (with_reducible refine LeO.bind ?_ (fun _ => ?_))
      | exact ih0 _ _ _ _ _ _ _ _ _ _
      | exact ih1 _ _ _ _ _ _ _ _ _
      | exact LeO.none _
      | refine LeO.ite ?_ ?_
      | refine LeO.bind ?_ (fun _ => ?_)
    · intro y0 y1 y2 y3 y4 y5 y6 y7 y8
      unfold spec_ConfigOk.l1
      repeat' first
      | (with_reducible exact ih0 _ _ _ _ _ _ _ _ _ _)
      | (with_reducible exact ih1 _ _ _ _ _ _ _ _ _)
      | (with_reducible exact LeO.refl _)
      | (with_reducible exact LeO.none _)
      | (with_reducible refine LeO.ite ?_ ?_)
      | (with_reducible refine LeO.bind ?_ (fun _ => ?_))
      | exact ih0 _ _ _ _ _ _ _ _ _ _
      | exact ih1 _ _ _ _ _ _ _ _ _
      | exact LeO.none _
      | refine LeO.ite ?_ ?_
      | refine LeO.bind ?_ (fun _ => ?_)
theorem spec_ConfigOk.mono : ∀ a0 a1 a2 a3 a4 a5 a6 a7 k, LeO (spec_ConfigOk.f k a0 a1 a2 a3 a4 a5 a6 a7) (spec_ConfigOk.f (k + 1) a0 a1 a2 a3 a4 a5 a6 a7) := by
  intro a0 a1 a2 a3 a4 a5 a6 a7 k
  obtain ⟨ih0, ih1⟩ := spec_ConfigOk.mono_l k
  unfold spec_ConfigOk.f
  repeat' first
      | (with_reducible exact ih0 _ _ _ _ _ _ _ _ _ _)
      | (with_reducible exact ih1 _ _ _ _ _ _ _ _ _)
      | (with_reducible exact LeO.refl _)
      | (with_reducible exact LeO.none _)
      | (with_reducible refine LeO.ite ?_ ?_)
      | (with_reducible refine LeO.bind ?_ (fun _ => ?_))
      | exact ih0 _ _ _ _ _ _ _ _ _ _
      | exact ih1 _ _ _ _ _ _ _ _ _
      | exact LeO.none _
      | refine LeO.ite ?_ ?_
      | refine LeO.bind ?_ (fun _ => ?_)
def spec_ConfigOk.T5 : Bool × List (List Nat × List Nat) := (true, [([], []), ([], []), ([0, 1], [0, 1]), ([2], [2]), ([], []), ([], []), ([4, 5], [4, 5]), ([6], [6]), ([4], []), ([], []), ([8, 9], [8, 9]), ([10], [10]), ([3, 7, 11, 8], [3, 7, 11]), ([12], [12])])
def spec_ConfigOk.B5 : List Nat := [0, 0, 3, 7, 0, 0, 48, 112, 16, 0, 784, 1808, 4095, 8191]
theorem spec_ConfigOk.tab5 : rtab .any (opsOf Tryd.f30 5) = spec_ConfigOk.T5 := by kernel_rfl
theorem spec_ConfigOk.bits5 : waitsOk spec_ConfigOk.T5.2 spec_ConfigOk.B5 = true := by kernel_rfl
set_option maxHeartbeats 8000000 in
set_option maxRecDepth 100000 in
theorem spec_ConfigOk.calls (k : Nat) (a0_0 : Int) (a0_1 : Int) (a0_2 : Int) (a0_3 : Int) (a0_4 : Int) (a0_5 : Int) (a0_6 : Int) (A0_7 : Option Addr) (c0_7 : Nat) (l0_7 : List Int) (r : Bool) (w : World) (hr0_7 : Kd.C (Kd.int .i64) w A0_7 l0_7.length l0_7) (hc0_7 : l0_7.length ≤ c0_7) (h : spec_ConfigOk.f k a0_0 a0_1 a0_2 a0_3 a0_4 a0_5 a0_6 l0_7 = some r) :
    Calls Tryd.prog 30 #[.agg #[.int .i64 a0_0, .int .i64 a0_1, .int .i64 a0_2, .int .i64 a0_3, .int .i64 a0_4, .int .i64 a0_5, .int .i64 a0_6, .slice A0_7 l0_7.length c0_7]] w fun e w' => e = .returned (.bool r) ∧ Below w.heap.size w w' := by
  have hu29 := Tryd.underlying29
  have HR0_7 := Aside0.mk hr0_7
  have HC0_7 := Aside0.mk hc0_7
  clear hr0_7 hc0_7
  have HB := Aside0.mk (Below.refl w.heap.size w)
  have H : ((spec_l8Numbers.f a0_0 a0_1 a0_2 a0_3 a0_4 a0_5 a0_6 l0_7).bind fun t114 => (spec_ConfigOk.l0 k t114 0 a0_0 a0_1 a0_2 a0_3 a0_4 a0_5 a0_6 l0_7)) = some r := h
  clear h
  replace H := Option.bind_eq_some_iff.mp H
  obtain ⟨t114, A20, H⟩ := H
  replace H : (spec_ConfigOk.l0 k t114 0 a0_0 a0_1 a0_2 a0_3 a0_4 a0_5 a0_6 l0_7) = some r := H
  have A2 := Aside0.mk A20
  clear A20
  have H' := Aside0.mk H
  clear H
  go_enter Tryd.func30, Tryd.ntmps30
  go_wp2_with (first | ((with_reducible refine gate_dst (N := 1) rfl ?_); (try (refine gate_guard (by rfl) ?_; dsimp only)); refine box_event ?hg (N := 1) ?hd (cs := #[.int .i64 a0_0, .int .i64 a0_1, .int .i64 a0_2, .int .i64 a0_3, .int .i64 a0_4, .int .i64 a0_5, .int .i64 a0_6, .slice A0_7 l0_7.length c0_7]) (t := 29) ?hr ?_; (case hd => rfl); (case hg => rfl); (case hr => first | (go_simp; done) | (go_simp; rfl)); intro gb113 hg w3 hbox hb; have n0_ := Aside0.mk (below_step bel_ hb); have n1_ := Aside0.mk (hbox); have n2_ := bs_ (w := w) hg; have n3_ := bs_ (w := w) hg; clear HB; have HB := n0_; have BK113 := n1_; have GW113 := n2_; have GE113 := n3_; clear n0_ n1_ n2_ n3_; clear hb hbox hg; have hcz4_0 : w3.cell? ⟨gb113, 0, none⟩ = some (.int .i64 a0_0) := bc_; have hcz4_1 : w3.cell? ⟨gb113, 1, none⟩ = some (.int .i64 a0_1) := bc_; have hcz4_2 : w3.cell? ⟨gb113, 2, none⟩ = some (.int .i64 a0_2) := bc_; have hcz4_3 : w3.cell? ⟨gb113, 3, none⟩ = some (.int .i64 a0_3) := bc_; have hcz4_4 : w3.cell? ⟨gb113, 4, none⟩ = some (.int .i64 a0_4) := bc_; have hcz4_5 : w3.cell? ⟨gb113, 5, none⟩ = some (.int .i64 a0_5) := bc_; have hcz4_6 : w3.cell? ⟨gb113, 6, none⟩ = some (.int .i64 a0_6) := bc_; have hcz4_7 : w3.cell? ⟨gb113, 7, none⟩ = some (.slice A0_7 l0_7.length c0_7) := bc_; have hfz4_0 := blk_frozen BK113.out 0; have hfz4_1 := blk_frozen BK113.out 1; have hfz4_2 := blk_frozen BK113.out 2; have hfz4_3 := blk_frozen BK113.out 3; have hfz4_4 := blk_frozen BK113.out 4; have hfz4_5 := blk_frozen BK113.out 5; have hfz4_6 := blk_frozen BK113.out 6; have hfz4_7 := blk_frozen BK113.out 7) | ((with_reducible refine gate_callee (f := 31) rfl ?_); refine goesL_ (some 7) rfl rfl Tryd.func31 (by kernel_rfl) rfl #[.agg #[.int .i64 a0_0, .int .i64 a0_1, .int .i64 a0_2, .int .i64 a0_3, .int .i64 a0_4, .int .i64 a0_5, .int .i64 a0_6, .slice A0_7 l0_7.length c0_7]] rfl mp_ ?_; (with_reducible refine (spec_l8Numbers.calls a0_0 a0_1 a0_2 a0_3 a0_4 a0_5 a0_6 _ _ l0_7 t114 _ ?side1 ?side2 A2.out).mono ?_); (case side1 => repeat (first | exact (Kd.C_below HR0_7.out HB.out) | (with_reducible refine Kd.C_alloc ?_ _) | (with_reducible refine Kd.C_drewN ?_ _) | (with_reducible refine Kd.C_drew ?_))); (case side2 => exact HC0_7.out); rintro e w5 ⟨v115, rfl, ho0, hb⟩; refine ⟨_, rfl, ?_⟩; have n0_ := Aside0.mk (Kd.R_lower ho0 (below_size bel_)); have n1_ := bb_ (g := gb113) hb; have n2_ := Aside0.mk (below_step bel_ hb); clear BK113; clear HB; have HO116 := n0_; have BK113 := n1_; have HB := n2_; clear n0_ n1_ n2_; (try clear hb); (try clear hb2); (try clear hk); (try clear hi); (try clear ho0)))
  go_loopg [4] k (fun kq v4 w' => ∃ (x4_1 : Int), v4 = .int .i64 x4_1 ∧ Aside0 (spec_ConfigOk.l0 kq t114 x4_1 a0_0 a0_1 a0_2 a0_3 a0_4 a0_5 a0_6 l0_7 = some r) ∧ Aside0 (kq ≤ k) ∧ Aside0 (Kd.R (Kd.int .i64) 3 w' w.heap.size (fun _ => True) v115 t114) ∧ Aside0 (w'.heap[gb113]? = some (.cells #[.int .i64 a0_0, .int .i64 a0_1, .int .i64 a0_2, .int .i64 a0_3, .int .i64 a0_4, .int .i64 a0_5, .int .i64 a0_6, (.slice A0_7 l0_7.length c0_7)] 29 (0, 0))) ∧ Aside0 (Below w.heap.size w w'))
  case atStart => exact ⟨(0), (by first | rfl | (simp; done) | (simp [*]; done)), H', ⟨Nat.le_refl _⟩, ⟨by (with_reducible repeat (first | apply Kd.R_alloc | apply Kd.R_drewN | apply Kd.R_drew)); exact HO116.out⟩, ⟨by (with_reducible repeat (first | refine bN_ _ ?_ | refine bd_ ?_ | refine ba_ _ ?_)); exact BK113.out⟩, ⟨bel_⟩⟩
  case round =>
    clear H'
    try clear p2
    try clear c3
    try clear hcz4_0
    try clear hcz4_1
    try clear hcz4_2
    try clear hcz4_3
    try clear hcz4_4
    try clear hcz4_5
    try clear hcz4_6
    try clear hcz4_7
    try clear hfz4_0
    try clear hfz4_1
    try clear hfz4_2
    try clear hfz4_3
    try clear hfz4_4
    try clear hfz4_5
    try clear hfz4_6
    try clear hfz4_7
    try clear BK113
    obtain ⟨x4_1, rfl, HA, HK1, HO_3, BK113, HB⟩ := hrel
    cases gk with
    | zero => exact absurd HA.out (by simp [spec_ConfigOk.l0])
    | succ k1 =>
      have H := HA.out
      clear HA
      simp only [spec_ConfigOk.l0] at H
      by_cases c6 : x4_1 < 5
      · rw [if_pos c6] at H
        have c6b0 : decide (x4_1 < 5) = true := decide_eq_true c6
        clear c6
        by_cases c7 : 0 ≤ x4_1
        · rw [if_pos c7] at H
          have c7b0 : decide (0 ≤ x4_1) = true := decide_eq_true c7
          clear c7
          by_cases c8 : x4_1 < (t114.length : Int)
          · rw [if_pos c8] at H
            have c8b0 : decide (x4_1 < (t114.length : Int)) = true := decide_eq_true c8
            clear c8
            replace H := Option.bind_eq_some_iff.mp H
            obtain ⟨t118, A90, H⟩ := H
            replace H : (if x4_1 < (t118.length : Int) then ((spec_l8Most.f).bind fun t122 => (if x4_1 < (t122.length : Int) then ((spec_l1In.f (rd t114 x4_1) (rd t118 x4_1) (rd t122 x4_1)).bind fun t126 => (if t126 = true then (spec_ConfigOk.l0 k1 t114 (wrap64 (x4_1 + 1)) a0_0 a0_1 a0_2 a0_3 a0_4 a0_5 a0_6 l0_7) else (some false))) else (none))) else (none)) = some r := H
            have A9 := Aside0.mk A90
            clear A90
            by_cases c10 : x4_1 < (t118.length : Int)
            · rw [if_pos c10] at H
              have c10b0 : decide (x4_1 < (t118.length : Int)) = true := decide_eq_true c10
              clear c10
              replace H := Option.bind_eq_some_iff.mp H
              obtain ⟨t122, A110, H⟩ := H
              replace H : (if x4_1 < (t122.length : Int) then ((spec_l1In.f (rd t114 x4_1) (rd t118 x4_1) (rd t122 x4_1)).bind fun t126 => (if t126 = true then (spec_ConfigOk.l0 k1 t114 (wrap64 (x4_1 + 1)) a0_0 a0_1 a0_2 a0_3 a0_4 a0_5 a0_6 l0_7) else (some false))) else (none)) = some r := H
              have A11 := Aside0.mk A110
              clear A110
              by_cases c12 : x4_1 < (t122.length : Int)
              · rw [if_pos c12] at H
                have c12b0 : decide (x4_1 < (t122.length : Int)) = true := decide_eq_true c12
                clear c12
                replace H := Option.bind_eq_some_iff.mp H
                obtain ⟨t126, A130, H⟩ := H
                replace H : (if t126 = true then (spec_ConfigOk.l0 k1 t114 (wrap64 (x4_1 + 1)) a0_0 a0_1 a0_2 a0_3 a0_4 a0_5 a0_6 l0_7) else (some false)) = some r := H
                have A13 := Aside0.mk A130
                clear A130
                by_cases c14 : t126 = true
                · subst c14
                  have H1 : (spec_ConfigOk.l0 k1 t114 (wrap64 (x4_1 + 1)) a0_0 a0_1 a0_2 a0_3 a0_4 a0_5 a0_6 l0_7) = some r := by rw [if_pos rfl] at H; exact H
                  clear H
                  have H := H1
                  clear H1
                  have H' := Aside0.mk H
                  clear H
                  try go_wp2
                  have n0_ := Aside0.mk (Kd.R_drew HO_3.out)
                  have n1_ := Aside0.mk (blk_drew BK113.out)
                  have n2_ := Aside0.mk (below_drew1 HB.out)
                  clear HO_3
                  clear BK113
                  clear HB
                  have HO_3 := n0_
                  have BK113 := n1_
                  have HB := n2_
                  clear n0_ n1_ n2_
                  obtain ⟨Ao16, co16, eo16⟩ := Kd.R_slice HO_3.out
                  (first | subst eo16 | (injection eo16 with f1_ f2_ f3_; have f4_ := f1_.symm; have f5_ := f3_.symm; clear f1_ f2_ f3_; subst f4_; subst f5_))
                  have p117 : 0 ≤ (x4_1 : Int) := of_decide_eq_true (by first | (with_reducible assumption) | assumption)
                  have q117 : x4_1 < (t114.length : Int) := of_decide_eq_true (by first | (with_reducible assumption) | assumption)
                  obtain ⟨ad117, e117, hx117_0⟩ := Kd.at_int (Kd.R_reads' HO_3.out).2.2 x4_1 p117 q117
                  cases e117
                  replace p117 := eq_true p117
                  replace q117 := eq_true q117
                  refine start_ (n := 14) (S := fun w' => w'.cell? (ad117.add (x4_1).toNat) = some (.int .i64 (rd t114 x4_1)) ∧ True ∧ True) (ds := []) #[false, false, false, false, false, false, false, false, false, false, false, false, false, false] (by kernel_rfl) rfl rfl ⟨hx117_0, trivial, trivial⟩ (fun hHeld => ?_); refine with_tabW spec_ConfigOk.tab5 spec_ConfigOk.bits5 (fun HT_ HW_ => ?_)
                  generalize wr.drew = w15 at HO_3 BK113 HB hx117_0 hHeld ⊢
                  refine pure_ (i := 0) (N := some 12) (v := ?_) (a' := ?_) #[true, false, false, false, false, false, false, false, false, false, false, false, false, false] rfl rfl (any_of HT_.out (by kernel_rfl)) (fun _ _ _ h => h) (Or.inl ⟨by rfl, ?_⟩) ?_ ?_
                  rotate_left
                  · intro w'
                    go_simp
                    with_reducible rfl
                  rotate_left
                  · simp only [Act.put, la_, lb_, lc_, i64_w, i32_w]
                    rfl
                  refine pure_ (i := 1) (N := some 13) (v := ?_) (a' := ?_) #[true, true, false, false, false, false, false, false, false, false, false, false, false, false] rfl rfl (any_of HT_.out (by kernel_rfl)) (fun _ _ _ h => h) (Or.inl ⟨by rfl, ?_⟩) ?_ ?_
                  rotate_left
                  · intro w'
                    go_simp
                    with_reducible rfl
                  rotate_left
                  · simp only [Act.put, la_, lb_, lc_, i64_w, i32_w]
                    rfl
                  refine pure_ (i := 2) (N := some 14) (v := ?_) (a' := ?_) #[true, true, true, false, false, false, false, false, false, false, false, false, false, false] rfl rfl (any_of HT_.out (by kernel_rfl)) (fun _ _ _ h => h) (Or.inl ⟨by rfl, ?_⟩) ?_ ?_
                  rotate_left
                  · intro w'
                    go_simp
                    with_reducible rfl
                  rotate_left
                  · simp only [Act.put, la_, lb_, lc_, i64_w, i32_w]
                    rfl
                  refine pure_ (i := 5) (N := some 17) (v := ?_) (a' := ?_) #[true, true, true, false, false, true, false, false, false, false, false, false, false, false] rfl rfl (any_of HT_.out (by kernel_rfl)) (fun _ _ _ h => h) (Or.inl ⟨by rfl, ?_⟩) ?_ ?_
                  rotate_left
                  · intro w'
                    go_simp
                    with_reducible rfl
                  rotate_left
                  · simp only [Act.put, la_, lb_, lc_, i64_w, i32_w]
                    rfl
                  refine pure_ (i := 9) (N := some 21) (v := ?_) (a' := ?_) #[true, true, true, false, false, true, false, false, false, true, false, false, false, false] rfl rfl (any_of HT_.out (by kernel_rfl)) (fun _ _ _ h => h) (Or.inl ⟨by rfl, ?_⟩) ?_ ?_
                  rotate_left
                  · intro w'
                    go_simp
                    with_reducible rfl
                  rotate_left
                  · simp only [Act.put, la_, lb_, lc_, i64_w, i32_w]
                    rfl
                  refine take_ (i := 3) (N := some 15) (v := ?_) (a' := ?_) #[true, true, true, true, false, true, false, false, false, true, false, false, false, false] rfl rfl (take_ofW HT_.out HW_.out (by kernel_rfl)) (fun _ _ _ h => h) (Or.inl ⟨by rfl, ?_⟩) hHeld ?_ ?_
                  rotate_left
                  · rintro w' ⟨s0, s1, s2⟩
                    go_simp
                    with_reducible rfl
                  rotate_left
                  · simp only [Act.put, la_, lb_, lc_, i64_w, i32_w]
                    rfl
                  refine one_ (i := 4) (N := some 16) #[true, true, true, true, true, true, false, false, false, true, false, false, false, false] rfl rfl (one_of HT_.out (by kernel_rfl)) (by decide) (fun K hK => ?_)
                  refine goes_ Tryd.func58 (by kernel_rfl) rfl #[] (by rfl) rfl rfl mp_ ?_
                  with_reducible refine (spec_l8Least.calls  t118 _ A9.out).mono ?_
                  rintro e w17 ⟨v119, rfl, ho0, hb⟩
                  have HS0_ := (hb.cell (World.block_lt_of_cell? _ _ (hHeld.1))).trans (hHeld.1)
                  have HS1_ : True := trivial
                  have HS2_ : True := trivial
                  refine ⟨_, rfl, ?_⟩
                  have n0_ := Aside0.mk (Kd.R_elder' (by (with_reducible repeat (first | apply Kd.R_alloc | apply Kd.R_drewN | apply Kd.R_drew)); exact HO_3.out) (Kd.R_base ho0) hb)
                  have n1_ := Aside0.mk (Kd.R_lower (Kd.R_new' ho0 (Kd.R_lt (by (with_reducible repeat (first | apply Kd.R_alloc | apply Kd.R_drewN | apply Kd.R_drew)); exact HO_3.out))) (below_size bel_))
                  have n2_ := bb_ (g := gb113) hb
                  have n3_ := Aside0.mk (below_step bel_ hb)
                  clear HO_3
                  clear BK113
                  clear HB
                  have HO_3 := n0_
                  have HO120 := n1_
                  have BK113 := n2_
                  have HB := n3_
                  clear n0_ n1_ n2_ n3_
                  (try clear hb)
                  (try clear hb2)
                  (try clear hk)
                  (try clear hi)
                  (try clear ho0)
                  obtain ⟨Ao18, co18, eo18⟩ := Kd.R_slice HO120.out
                  (first | subst eo18 | (injection eo18 with f1_ f2_ f3_; have f4_ := f1_.symm; have f5_ := f3_.symm; clear f1_ f2_ f3_; subst f4_; subst f5_))
                  have p121 : 0 ≤ (x4_1 : Int) := of_decide_eq_true (by first | (with_reducible assumption) | assumption)
                  have q121 : x4_1 < (t118.length : Int) := of_decide_eq_true (by first | (with_reducible assumption) | assumption)
                  obtain ⟨ad121, e121, hx121_0⟩ := Kd.at_int (Kd.R_reads' HO120.out).2.2 x4_1 p121 q121
                  cases e121
                  replace p121 := eq_true p121
                  replace q121 := eq_true q121
                  refine hK.out _ _ ⟨HS0_, HS1_, HS2_⟩ (fun hHeld => ?_)
                  clear hK K
                  refine stronger_ (fun w' => w'.cell? (ad117.add (x4_1).toNat) = some (.int .i64 (rd t114 x4_1)) ∧ w'.cell? (ad121.add (x4_1).toNat) = some (.int .i64 (rd t118 x4_1)) ∧ True) (fun _ h => ⟨h.1, trivial, trivial⟩) ⟨hHeld.1, hx121_0, trivial⟩ (fun hHeld => ?_)
                  refine norm_ (a' := ?_) ?_ ?_
                  rotate_left
                  · show Act.put _ (some 16) _ = _
                    simp only [Act.put, la_, lb_, lc_, i64_w, i32_w]
                    rfl
                  refine pure_ (i := 6) (N := some 18) (v := ?_) (a' := ?_) #[true, true, true, true, true, true, true, false, false, true, false, false, false, false] rfl rfl (any_of HT_.out (by kernel_rfl)) (fun _ _ _ h => h) (Or.inl ⟨by rfl, ?_⟩) ?_ ?_
                  rotate_left
                  · intro w'
                    go_simp
                    with_reducible rfl
                  rotate_left
                  · simp only [Act.put, la_, lb_, lc_, i64_w, i32_w]
                    rfl
                  refine take_ (i := 7) (N := some 19) (v := ?_) (a' := ?_) #[true, true, true, true, true, true, true, true, false, true, false, false, false, false] rfl rfl (take_ofW HT_.out HW_.out (by kernel_rfl)) (fun _ _ _ h => h) (Or.inl ⟨by rfl, ?_⟩) hHeld ?_ ?_
                  rotate_left
                  · rintro w' ⟨s0, s1, s2⟩
                    go_simp
                    with_reducible rfl
                  rotate_left
                  · simp only [Act.put, la_, lb_, lc_, i64_w, i32_w]
                    rfl
                  refine one_ (i := 8) (N := some 20) #[true, true, true, true, true, true, true, true, true, true, false, false, false, false] rfl rfl (one_of HT_.out (by kernel_rfl)) (by decide) (fun K hK => ?_)
                  refine goes_ Tryd.func59 (by kernel_rfl) rfl #[] (by rfl) rfl rfl mp_ ?_
                  with_reducible refine (spec_l8Most.calls  t122 _ A11.out).mono ?_
                  rintro e w19 ⟨v123, rfl, ho0, hb⟩
                  have HS0_ := (hb.cell (World.block_lt_of_cell? _ _ (hHeld.1))).trans (hHeld.1)
                  have HS1_ := (hb.cell (World.block_lt_of_cell? _ _ (hHeld.2.1))).trans (hHeld.2.1)
                  have HS2_ : True := trivial
                  refine ⟨_, rfl, ?_⟩
                  have n0_ := Aside0.mk (Kd.R_elder' (by (with_reducible repeat (first | apply Kd.R_alloc | apply Kd.R_drewN | apply Kd.R_drew)); exact HO_3.out) (Kd.R_base ho0) hb)
                  have n1_ := Aside0.mk (Kd.R_elder' (by (with_reducible repeat (first | apply Kd.R_alloc | apply Kd.R_drewN | apply Kd.R_drew)); exact HO120.out) (Kd.R_base ho0) hb)
                  have n2_ := Aside0.mk (Kd.R_lower (Kd.R_new' (Kd.R_new' ho0 (Kd.R_lt (by (with_reducible repeat (first | apply Kd.R_alloc | apply Kd.R_drewN | apply Kd.R_drew)); exact HO_3.out))) (Kd.R_lt (by (with_reducible repeat (first | apply Kd.R_alloc | apply Kd.R_drewN | apply Kd.R_drew)); exact HO120.out))) (below_size bel_))
                  have n3_ := bb_ (g := gb113) hb
                  have n4_ := Aside0.mk (below_step bel_ hb)
                  clear HO_3
                  clear HO120
                  clear BK113
                  clear HB
                  have HO_3 := n0_
                  have HO120 := n1_
                  have HO124 := n2_
                  have BK113 := n3_
                  have HB := n4_
                  clear n0_ n1_ n2_ n3_ n4_
                  (try clear hb)
                  (try clear hb2)
                  (try clear hk)
                  (try clear hi)
                  (try clear ho0)
                  obtain ⟨Ao20, co20, eo20⟩ := Kd.R_slice HO124.out
                  (first | subst eo20 | (injection eo20 with f1_ f2_ f3_; have f4_ := f1_.symm; have f5_ := f3_.symm; clear f1_ f2_ f3_; subst f4_; subst f5_))
                  have p125 : 0 ≤ (x4_1 : Int) := of_decide_eq_true (by first | (with_reducible assumption) | assumption)
                  have q125 : x4_1 < (t122.length : Int) := of_decide_eq_true (by first | (with_reducible assumption) | assumption)
                  obtain ⟨ad125, e125, hx125_0⟩ := Kd.at_int (Kd.R_reads' HO124.out).2.2 x4_1 p125 q125
                  cases e125
                  replace p125 := eq_true p125
                  replace q125 := eq_true q125
                  refine hK.out _ _ ⟨HS0_, HS1_, HS2_⟩ (fun hHeld => ?_)
                  clear hK K
                  refine stronger_ (fun w' => w'.cell? (ad117.add (x4_1).toNat) = some (.int .i64 (rd t114 x4_1)) ∧ w'.cell? (ad121.add (x4_1).toNat) = some (.int .i64 (rd t118 x4_1)) ∧ w'.cell? (ad125.add (x4_1).toNat) = some (.int .i64 (rd t122 x4_1))) (fun _ h => ⟨h.1, h.2.1, trivial⟩) ⟨hHeld.1, hHeld.2.1, hx125_0⟩ (fun hHeld => ?_)
                  refine norm_ (a' := ?_) ?_ ?_
                  rotate_left
                  · show Act.put _ (some 20) _ = _
                    simp only [Act.put, la_, lb_, lc_, i64_w, i32_w]
                    rfl
                  refine pure_ (i := 10) (N := some 22) (v := ?_) (a' := ?_) #[true, true, true, true, true, true, true, true, true, true, true, false, false, false] rfl rfl (any_of HT_.out (by kernel_rfl)) (fun _ _ _ h => h) (Or.inl ⟨by rfl, ?_⟩) ?_ ?_
                  rotate_left
                  · intro w'
                    go_simp
                    with_reducible rfl
                  rotate_left
                  · simp only [Act.put, la_, lb_, lc_, i64_w, i32_w]
                    rfl
                  refine take_ (i := 11) (N := some 23) (v := ?_) (a' := ?_) #[true, true, true, true, true, true, true, true, true, true, true, true, false, false] rfl rfl (take_ofW HT_.out HW_.out (by kernel_rfl)) (fun _ _ _ h => h) (Or.inl ⟨by rfl, ?_⟩) hHeld ?_ ?_
                  rotate_left
                  · rintro w' ⟨s0, s1, s2⟩
                    go_simp
                    with_reducible rfl
                  rotate_left
                  · simp only [Act.put, la_, lb_, lc_, i64_w, i32_w]
                    rfl
                  refine one_ (i := 12) (N := some 24) #[true, true, true, true, true, true, true, true, true, true, true, true, true, false] rfl rfl (one_of HT_.out (by kernel_rfl)) (by decide) (fun K hK => ?_)
                  refine goes_ Tryd.func57 (by kernel_rfl) rfl #[.int .i64 (rd t114 x4_1), .int .i64 (rd t118 x4_1), .int .i64 (rd t122 x4_1)] (by rfl) rfl rfl mp_ ?_
                  with_reducible refine (spec_l1In.calls (rd t114 x4_1) (rd t118 x4_1) (rd t122 x4_1) true _ A13.out).mono ?_
                  rintro e w' ⟨rfl, ⟨nd, rfl⟩⟩
                  refine ⟨_, rfl, ?_⟩
                  refine hK.out _ _ ⟨hHeld.1, hHeld.2.1, hHeld.2.2⟩ (fun hHeld => ?_)
                  clear hK K
                  refine norm_ (a' := ?_) ?_ ?_
                  rotate_left
                  · show Act.put _ (some 24) _ = _
                    simp only [Act.put, la_, lb_, lc_, i64_w, i32_w]
                    rfl
                  refine pure_ (i := 13) (N := some 25) (v := ?_) (a' := ?_) #[true, true, true, true, true, true, true, true, true, true, true, true, true, true] rfl rfl (any_of HT_.out (by kernel_rfl)) (fun _ _ _ h => h) (Or.inl ⟨by rfl, ?_⟩) ?_ ?_
                  rotate_left
                  · intro w'
                    go_simp
                    with_reducible rfl
                  rotate_left
                  · simp only [Act.put, la_, lb_, lc_, i64_w, i32_w]
                    rfl
                  refine done_ (done_of HT_.out (by kernel_rfl)) ?_
                  try go_wp2
                  go_roundg k1
                  case measure => have := HK1.out; omega
                  case rel => exact ⟨(wrap64 (x4_1 + 1)), (by first | rfl | (simp; done) | (simp [*]; done)), H', ⟨by have := HK1.out; omega⟩, ⟨by (with_reducible repeat (first | apply Kd.R_alloc | apply Kd.R_drewN | apply Kd.R_drew)); exact Kd.R_mono HO_3.out (fun _ hk => trivial)⟩, ⟨by (with_reducible repeat (first | refine bN_ _ ?_ | refine bd_ ?_ | refine ba_ _ ?_)); exact BK113.out⟩, ⟨bel_⟩⟩
                · replace c14 := Bool.eq_false_iff.mpr c14
                  subst c14
                  have H1 : (some false) = some r := by rw [if_neg (show ¬ (false = true) by decide)] at H; exact H
                  clear H
                  have H := H1
                  clear H1
                  obtain rfl := Option.some.inj H
                  try go_wp2
                  have n0_ := Aside0.mk (Kd.R_drew HO_3.out)
                  have n1_ := Aside0.mk (blk_drew BK113.out)
                  have n2_ := Aside0.mk (below_drew1 HB.out)
                  clear HO_3
                  clear BK113
                  clear HB
                  have HO_3 := n0_
                  have BK113 := n1_
                  have HB := n2_
                  clear n0_ n1_ n2_
                  obtain ⟨Ao22, co22, eo22⟩ := Kd.R_slice HO_3.out
                  (first | subst eo22 | (injection eo22 with f1_ f2_ f3_; have f4_ := f1_.symm; have f5_ := f3_.symm; clear f1_ f2_ f3_; subst f4_; subst f5_))
                  have p117 : 0 ≤ (x4_1 : Int) := of_decide_eq_true (by first | (with_reducible assumption) | assumption)
                  have q117 : x4_1 < (t114.length : Int) := of_decide_eq_true (by first | (with_reducible assumption) | assumption)
                  obtain ⟨ad117, e117, hx117_0⟩ := Kd.at_int (Kd.R_reads' HO_3.out).2.2 x4_1 p117 q117
                  cases e117
                  replace p117 := eq_true p117
                  replace q117 := eq_true q117
                  refine start_ (n := 14) (S := fun w' => w'.cell? (ad117.add (x4_1).toNat) = some (.int .i64 (rd t114 x4_1)) ∧ True ∧ True) (ds := []) #[false, false, false, false, false, false, false, false, false, false, false, false, false, false] (by kernel_rfl) rfl rfl ⟨hx117_0, trivial, trivial⟩ (fun hHeld => ?_); refine with_tabW spec_ConfigOk.tab5 spec_ConfigOk.bits5 (fun HT_ HW_ => ?_)
                  generalize wr.drew = w21 at HO_3 BK113 HB hx117_0 hHeld ⊢
                  refine pure_ (i := 0) (N := some 12) (v := ?_) (a' := ?_) #[true, false, false, false, false, false, false, false, false, false, false, false, false, false] rfl rfl (any_of HT_.out (by kernel_rfl)) (fun _ _ _ h => h) (Or.inl ⟨by rfl, ?_⟩) ?_ ?_
                  rotate_left
                  · intro w'
                    go_simp
                    with_reducible rfl
                  rotate_left
                  · simp only [Act.put, la_, lb_, lc_, i64_w, i32_w]
                    rfl
                  refine pure_ (i := 1) (N := some 13) (v := ?_) (a' := ?_) #[true, true, false, false, false, false, false, false, false, false, false, false, false, false] rfl rfl (any_of HT_.out (by kernel_rfl)) (fun _ _ _ h => h) (Or.inl ⟨by rfl, ?_⟩) ?_ ?_
                  rotate_left
                  · intro w'
                    go_simp
                    with_reducible rfl
                  rotate_left
                  · simp only [Act.put, la_, lb_, lc_, i64_w, i32_w]
                    rfl
                  refine pure_ (i := 2) (N := some 14) (v := ?_) (a' := ?_) #[true, true, true, false, false, false, false, false, false, false, false, false, false, false] rfl rfl (any_of HT_.out (by kernel_rfl)) (fun _ _ _ h => h) (Or.inl ⟨by rfl, ?_⟩) ?_ ?_
                  rotate_left
                  · intro w'
                    go_simp
                    with_reducible rfl
                  rotate_left
                  · simp only [Act.put, la_, lb_, lc_, i64_w, i32_w]
                    rfl
                  refine pure_ (i := 5) (N := some 17) (v := ?_) (a' := ?_) #[true, true, true, false, false, true, false, false, false, false, false, false, false, false] rfl rfl (any_of HT_.out (by kernel_rfl)) (fun _ _ _ h => h) (Or.inl ⟨by rfl, ?_⟩) ?_ ?_
                  rotate_left
                  · intro w'
                    go_simp
                    with_reducible rfl
                  rotate_left
                  · simp only [Act.put, la_, lb_, lc_, i64_w, i32_w]
                    rfl
                  refine pure_ (i := 9) (N := some 21) (v := ?_) (a' := ?_) #[true, true, true, false, false, true, false, false, false, true, false, false, false, false] rfl rfl (any_of HT_.out (by kernel_rfl)) (fun _ _ _ h => h) (Or.inl ⟨by rfl, ?_⟩) ?_ ?_
                  rotate_left
                  · intro w'
                    go_simp
                    with_reducible rfl
                  rotate_left
                  · simp only [Act.put, la_, lb_, lc_, i64_w, i32_w]
                    rfl
                  refine take_ (i := 3) (N := some 15) (v := ?_) (a' := ?_) #[true, true, true, true, false, true, false, false, false, true, false, false, false, false] rfl rfl (take_ofW HT_.out HW_.out (by kernel_rfl)) (fun _ _ _ h => h) (Or.inl ⟨by rfl, ?_⟩) hHeld ?_ ?_
                  rotate_left
                  · rintro w' ⟨s0, s1, s2⟩
                    go_simp
                    with_reducible rfl
                  rotate_left
                  · simp only [Act.put, la_, lb_, lc_, i64_w, i32_w]
                    rfl
                  refine one_ (i := 4) (N := some 16) #[true, true, true, true, true, true, false, false, false, true, false, false, false, false] rfl rfl (one_of HT_.out (by kernel_rfl)) (by decide) (fun K hK => ?_)
                  refine goes_ Tryd.func58 (by kernel_rfl) rfl #[] (by rfl) rfl rfl mp_ ?_
                  with_reducible refine (spec_l8Least.calls  t118 _ A9.out).mono ?_
                  rintro e w23 ⟨v119, rfl, ho0, hb⟩
                  have HS0_ := (hb.cell (World.block_lt_of_cell? _ _ (hHeld.1))).trans (hHeld.1)
                  have HS1_ : True := trivial
                  have HS2_ : True := trivial
                  refine ⟨_, rfl, ?_⟩
                  have n0_ := Aside0.mk (Kd.R_elder' (by (with_reducible repeat (first | apply Kd.R_alloc | apply Kd.R_drewN | apply Kd.R_drew)); exact HO_3.out) (Kd.R_base ho0) hb)
                  have n1_ := Aside0.mk (Kd.R_lower (Kd.R_new' ho0 (Kd.R_lt (by (with_reducible repeat (first | apply Kd.R_alloc | apply Kd.R_drewN | apply Kd.R_drew)); exact HO_3.out))) (below_size bel_))
                  have n2_ := bb_ (g := gb113) hb
                  have n3_ := Aside0.mk (below_step bel_ hb)
                  clear HO_3
                  clear BK113
                  clear HB
                  have HO_3 := n0_
                  have HO120 := n1_
                  have BK113 := n2_
                  have HB := n3_
                  clear n0_ n1_ n2_ n3_
                  (try clear hb)
                  (try clear hb2)
                  (try clear hk)
                  (try clear hi)
                  (try clear ho0)
                  obtain ⟨Ao24, co24, eo24⟩ := Kd.R_slice HO120.out
                  (first | subst eo24 | (injection eo24 with f1_ f2_ f3_; have f4_ := f1_.symm; have f5_ := f3_.symm; clear f1_ f2_ f3_; subst f4_; subst f5_))
                  have p121 : 0 ≤ (x4_1 : Int) := of_decide_eq_true (by first | (with_reducible assumption) | assumption)
                  have q121 : x4_1 < (t118.length : Int) := of_decide_eq_true (by first | (with_reducible assumption) | assumption)
                  obtain ⟨ad121, e121, hx121_0⟩ := Kd.at_int (Kd.R_reads' HO120.out).2.2 x4_1 p121 q121
                  cases e121
                  replace p121 := eq_true p121
                  replace q121 := eq_true q121
                  refine hK.out _ _ ⟨HS0_, HS1_, HS2_⟩ (fun hHeld => ?_)
                  clear hK K
                  refine stronger_ (fun w' => w'.cell? (ad117.add (x4_1).toNat) = some (.int .i64 (rd t114 x4_1)) ∧ w'.cell? (ad121.add (x4_1).toNat) = some (.int .i64 (rd t118 x4_1)) ∧ True) (fun _ h => ⟨h.1, trivial, trivial⟩) ⟨hHeld.1, hx121_0, trivial⟩ (fun hHeld => ?_)
                  refine norm_ (a' := ?_) ?_ ?_
                  rotate_left
                  · show Act.put _ (some 16) _ = _
                    simp only [Act.put, la_, lb_, lc_, i64_w, i32_w]
                    rfl
                  refine pure_ (i := 6) (N := some 18) (v := ?_) (a' := ?_) #[true, true, true, true, true, true, true, false, false, true, false, false, false, false] rfl rfl (any_of HT_.out (by kernel_rfl)) (fun _ _ _ h => h) (Or.inl ⟨by rfl, ?_⟩) ?_ ?_
                  rotate_left
                  · intro w'
                    go_simp
                    with_reducible rfl
                  rotate_left
                  · simp only [Act.put, la_, lb_, lc_, i64_w, i32_w]
                    rfl
                  refine take_ (i := 7) (N := some 19) (v := ?_) (a' := ?_) #[true, true, true, true, true, true, true, true, false, true, false, false, false, false] rfl rfl (take_ofW HT_.out HW_.out (by kernel_rfl)) (fun _ _ _ h => h) (Or.inl ⟨by rfl, ?_⟩) hHeld ?_ ?_
                  rotate_left
                  · rintro w' ⟨s0, s1, s2⟩
                    go_simp
                    with_reducible rfl
                  rotate_left
                  · simp only [Act.put, la_, lb_, lc_, i64_w, i32_w]
                    rfl
                  refine one_ (i := 8) (N := some 20) #[true, true, true, true, true, true, true, true, true, true, false, false, false, false] rfl rfl (one_of HT_.out (by kernel_rfl)) (by decide) (fun K hK => ?_)
                  refine goes_ Tryd.func59 (by kernel_rfl) rfl #[] (by rfl) rfl rfl mp_ ?_
                  with_reducible refine (spec_l8Most.calls  t122 _ A11.out).mono ?_
                  rintro e w25 ⟨v123, rfl, ho0, hb⟩
                  have HS0_ := (hb.cell (World.block_lt_of_cell? _ _ (hHeld.1))).trans (hHeld.1)
                  have HS1_ := (hb.cell (World.block_lt_of_cell? _ _ (hHeld.2.1))).trans (hHeld.2.1)
                  have HS2_ : True := trivial
                  refine ⟨_, rfl, ?_⟩
                  have n0_ := Aside0.mk (Kd.R_elder' (by (with_reducible repeat (first | apply Kd.R_alloc | apply Kd.R_drewN | apply Kd.R_drew)); exact HO_3.out) (Kd.R_base ho0) hb)
                  have n1_ := Aside0.mk (Kd.R_elder' (by (with_reducible repeat (first | apply Kd.R_alloc | apply Kd.R_drewN | apply Kd.R_drew)); exact HO120.out) (Kd.R_base ho0) hb)
                  have n2_ := Aside0.mk (Kd.R_lower (Kd.R_new' (Kd.R_new' ho0 (Kd.R_lt (by (with_reducible repeat (first | apply Kd.R_alloc | apply Kd.R_drewN | apply Kd.R_drew)); exact HO_3.out))) (Kd.R_lt (by (with_reducible repeat (first | apply Kd.R_alloc | apply Kd.R_drewN | apply Kd.R_drew)); exact HO120.out))) (below_size bel_))
                  have n3_ := bb_ (g := gb113) hb
                  have n4_ := Aside0.mk (below_step bel_ hb)
                  clear HO_3
                  clear HO120
                  clear BK113
                  clear HB
                  have HO_3 := n0_
                  have HO120 := n1_
                  have HO124 := n2_
                  have BK113 := n3_
                  have HB := n4_
                  clear n0_ n1_ n2_ n3_ n4_
                  (try clear hb)
                  (try clear hb2)
                  (try clear hk)
                  (try clear hi)
                  (try clear ho0)
                  obtain ⟨Ao26, co26, eo26⟩ := Kd.R_slice HO124.out
                  (first | subst eo26 | (injection eo26 with f1_ f2_ f3_; have f4_ := f1_.symm; have f5_ := f3_.symm; clear f1_ f2_ f3_; subst f4_; subst f5_))
                  have p125 : 0 ≤ (x4_1 : Int) := of_decide_eq_true (by first | (with_reducible assumption) | assumption)
                  have q125 : x4_1 < (t122.length : Int) := of_decide_eq_true (by first | (with_reducible assumption) | assumption)
                  obtain ⟨ad125, e125, hx125_0⟩ := Kd.at_int (Kd.R_reads' HO124.out).2.2 x4_1 p125 q125
                  cases e125
                  replace p125 := eq_true p125
                  replace q125 := eq_true q125
                  refine hK.out _ _ ⟨HS0_, HS1_, HS2_⟩ (fun hHeld => ?_)
                  clear hK K
                  refine stronger_ (fun w' => w'.cell? (ad117.add (x4_1).toNat) = some (.int .i64 (rd t114 x4_1)) ∧ w'.cell? (ad121.add (x4_1).toNat) = some (.int .i64 (rd t118 x4_1)) ∧ w'.cell? (ad125.add (x4_1).toNat) = some (.int .i64 (rd t122 x4_1))) (fun _ h => ⟨h.1, h.2.1, trivial⟩) ⟨hHeld.1, hHeld.2.1, hx125_0⟩ (fun hHeld => ?_)
                  refine norm_ (a' := ?_) ?_ ?_
                  rotate_left
                  · show Act.put _ (some 20) _ = _
                    simp only [Act.put, la_, lb_, lc_, i64_w, i32_w]
                    rfl
                  refine pure_ (i := 10) (N := some 22) (v := ?_) (a' := ?_) #[true, true, true, true, true, true, true, true, true, true, true, false, false, false] rfl rfl (any_of HT_.out (by kernel_rfl)) (fun _ _ _ h => h) (Or.inl ⟨by rfl, ?_⟩) ?_ ?_
                  rotate_left
                  · intro w'
                    go_simp
                    with_reducible rfl
                  rotate_left
                  · simp only [Act.put, la_, lb_, lc_, i64_w, i32_w]
                    rfl
                  refine take_ (i := 11) (N := some 23) (v := ?_) (a' := ?_) #[true, true, true, true, true, true, true, true, true, true, true, true, false, false] rfl rfl (take_ofW HT_.out HW_.out (by kernel_rfl)) (fun _ _ _ h => h) (Or.inl ⟨by rfl, ?_⟩) hHeld ?_ ?_
                  rotate_left
                  · rintro w' ⟨s0, s1, s2⟩
                    go_simp
                    with_reducible rfl
                  rotate_left
                  · simp only [Act.put, la_, lb_, lc_, i64_w, i32_w]
                    rfl
                  refine one_ (i := 12) (N := some 24) #[true, true, true, true, true, true, true, true, true, true, true, true, true, false] rfl rfl (one_of HT_.out (by kernel_rfl)) (by decide) (fun K hK => ?_)
                  refine goes_ Tryd.func57 (by kernel_rfl) rfl #[.int .i64 (rd t114 x4_1), .int .i64 (rd t118 x4_1), .int .i64 (rd t122 x4_1)] (by rfl) rfl rfl mp_ ?_
                  with_reducible refine (spec_l1In.calls (rd t114 x4_1) (rd t118 x4_1) (rd t122 x4_1) false _ A13.out).mono ?_
                  rintro e w' ⟨rfl, ⟨nd, rfl⟩⟩
                  refine ⟨_, rfl, ?_⟩
                  refine hK.out _ _ ⟨hHeld.1, hHeld.2.1, hHeld.2.2⟩ (fun hHeld => ?_)
                  clear hK K
                  refine norm_ (a' := ?_) ?_ ?_
                  rotate_left
                  · show Act.put _ (some 24) _ = _
                    simp only [Act.put, la_, lb_, lc_, i64_w, i32_w]
                    rfl
                  refine pure_ (i := 13) (N := some 25) (v := ?_) (a' := ?_) #[true, true, true, true, true, true, true, true, true, true, true, true, true, true] rfl rfl (any_of HT_.out (by kernel_rfl)) (fun _ _ _ h => h) (Or.inl ⟨by rfl, ?_⟩) ?_ ?_
                  rotate_left
                  · intro w'
                    go_simp
                    with_reducible rfl
                  rotate_left
                  · simp only [Act.put, la_, lb_, lc_, i64_w, i32_w]
                    rfl
                  refine done_ (done_of HT_.out (by kernel_rfl)) ?_
                  try go_wp2
                  go_ret
                  exact ⟨rf_, bel_⟩
              · rw [if_neg c12] at H
                exact absurd H (by simp)
            · rw [if_neg c10] at H
              exact absurd H (by simp)
          · rw [if_neg c8] at H
            exact absurd H (by simp)
        · rw [if_neg c7] at H
          exact absurd H (by simp)
      · rw [if_neg c6] at H
        have c6b0 : decide (x4_1 < 5) = false := decide_eq_false c6
        clear c6
        have H' := Aside0.mk H
        clear H
        go_wp2
        go_loopg [5] k1 (fun kq v5 w' => ∃ (x5_2 : Int), v5 = .int .i64 x5_2 ∧ Aside0 (spec_ConfigOk.l1 kq x5_2 a0_0 a0_1 a0_2 a0_3 a0_4 a0_5 a0_6 l0_7 = some r) ∧ Aside0 (kq ≤ k1) ∧ Aside0 (w'.heap[gb113]? = some (.cells #[.int .i64 a0_0, .int .i64 a0_1, .int .i64 a0_2, .int .i64 a0_3, .int .i64 a0_4, .int .i64 a0_5, .int .i64 a0_6, (.slice A0_7 l0_7.length c0_7)] 29 (0, 0))) ∧ Aside0 (Below w.heap.size w w'))
        case atStart => exact ⟨(0), (by first | rfl | (simp; done) | (simp [*]; done)), H', ⟨Nat.le_refl _⟩, ⟨by (with_reducible repeat (first | refine bN_ _ ?_ | refine bd_ ?_ | refine ba_ _ ?_)); exact BK113.out⟩, ⟨bel_⟩⟩
        case round =>
          clear H'
          try clear c1
          try clear p1
          try clear q1
          try clear hx1
          try clear p2
          try clear c3
          try clear c5
          try clear c6
          try clear c6b0
          try clear p6
          try clear c7
          try clear c7b0
          try clear c8
          try clear c8b0
          try clear c10
          try clear c10b0
          try clear p11
          try clear q11
          try clear hx11
          try clear c12
          try clear c12b0
          try clear p12
          try clear q12
          try clear hx12
          try clear c14
          try clear hcz4_0
          try clear hcz4_1
          try clear hcz4_2
          try clear hcz4_3
          try clear hcz4_4
          try clear hcz4_5
          try clear hcz4_6
          try clear hcz4_7
          try clear hfz4_0
          try clear hfz4_1
          try clear hfz4_2
          try clear hfz4_3
          try clear hfz4_4
          try clear hfz4_5
          try clear hfz4_6
          try clear hfz4_7
          try clear hx117_0
          try clear hx121_0
          try clear hx125_0
          try clear p117
          try clear p121
          try clear p125
          try clear p2
          try clear q117
          try clear q121
          try clear q125
          try clear BK113
          obtain ⟨x5_2, rfl, HA, HK2, BK113, HB⟩ := hrel
          cases gk with
          | zero => exact absurd HA.out (by simp [spec_ConfigOk.l1])
          | succ k2 =>
            have H := HA.out
            clear HA
            simp only [spec_ConfigOk.l1] at H
            by_cases c27 : x5_2 < (l0_7.length : Int)
            · rw [if_pos c27] at H
              have c27b0 : decide (x5_2 < (l0_7.length : Int)) = true := decide_eq_true c27
              clear c27
              by_cases c28 : 0 ≤ x5_2
              · rw [if_pos c28] at H
                have c28b0 : decide (0 ≤ x5_2) = true := decide_eq_true c28
                clear c28
                replace H := Option.bind_eq_some_iff.mp H
                obtain ⟨t128, A290, H⟩ := H
                replace H : (if t128 = true then (spec_ConfigOk.l1 k2 (wrap64 (x5_2 + 1)) a0_0 a0_1 a0_2 a0_3 a0_4 a0_5 a0_6 l0_7) else (some false)) = some r := H
                have A29 := Aside0.mk A290
                clear A290
                by_cases c30 : t128 = true
                · subst c30
                  have H1 : (spec_ConfigOk.l1 k2 (wrap64 (x5_2 + 1)) a0_0 a0_1 a0_2 a0_3 a0_4 a0_5 a0_6 l0_7) = some r := by rw [if_pos rfl] at H; exact H
                  clear H
                  have H := H1
                  clear H1
                  have H' := Aside0.mk H
                  clear H
                  have hcz31_0 : wr.cell? ⟨gb113, 0, none⟩ = some (.int .i64 a0_0) := bc_
                  have hcz31_1 : wr.cell? ⟨gb113, 1, none⟩ = some (.int .i64 a0_1) := bc_
                  have hcz31_2 : wr.cell? ⟨gb113, 2, none⟩ = some (.int .i64 a0_2) := bc_
                  have hcz31_3 : wr.cell? ⟨gb113, 3, none⟩ = some (.int .i64 a0_3) := bc_
                  have hcz31_4 : wr.cell? ⟨gb113, 4, none⟩ = some (.int .i64 a0_4) := bc_
                  have hcz31_5 : wr.cell? ⟨gb113, 5, none⟩ = some (.int .i64 a0_5) := bc_
                  have hcz31_6 : wr.cell? ⟨gb113, 6, none⟩ = some (.int .i64 a0_6) := bc_
                  have hcz31_7 : wr.cell? ⟨gb113, 7, none⟩ = some (.slice A0_7 l0_7.length c0_7) := bc_
                  have hfz31_0 := blk_frozen BK113.out 0
                  have hfz31_1 := blk_frozen BK113.out 1
                  have hfz31_2 := blk_frozen BK113.out 2
                  have hfz31_3 := blk_frozen BK113.out 3
                  have hfz31_4 := blk_frozen BK113.out 4
                  have hfz31_5 := blk_frozen BK113.out 5
                  have hfz31_6 := blk_frozen BK113.out 6
                  have hfz31_7 := blk_frozen BK113.out 7
                  have p127 : 0 ≤ (x5_2 : Int) := of_decide_eq_true (by first | (with_reducible assumption) | assumption)
                  have q127 : x5_2 < (l0_7.length : Int) := of_decide_eq_true (by first | (with_reducible assumption) | assumption)
                  obtain ⟨ad127, e127, hx127_0⟩ := Kd.at_int HR0_7.out x5_2 p127 q127
                  cases e127
                  replace hx127_0 := (HB.out.cell (World.block_lt_of_cell? w _ hx127_0)).trans hx127_0
                  replace p127 := eq_true p127
                  replace q127 := eq_true q127
                  go_wp2_with (first | ((with_reducible refine gate_callee (f := 57) rfl ?_); refine goesL_ (some 38) rfl rfl Tryd.func57 (by kernel_rfl) rfl #[.int .i64 (rd l0_7 x5_2), .int .i64 (-1), .int .i64 1] rfl mp_ ?_; (with_reducible refine (spec_l1In.calls (rd l0_7 x5_2) (-1) 1 true _ A29.out).mono ?_); rintro e w' ⟨rfl, ⟨nd, rfl⟩⟩; refine ⟨_, rfl, ?_⟩))
                  go_roundg k2
                  case measure => have := HK1.out; have := HK2.out; omega
                  case rel => exact ⟨(wrap64 (x5_2 + 1)), (by first | rfl | (simp; done) | (simp [*]; done)), H', ⟨by have := HK1.out; have := HK2.out; omega⟩, ⟨by (with_reducible repeat (first | refine bN_ _ ?_ | refine bd_ ?_ | refine ba_ _ ?_)); exact BK113.out⟩, ⟨bel_⟩⟩
                · replace c30 := Bool.eq_false_iff.mpr c30
                  subst c30
                  have H1 : (some false) = some r := by rw [if_neg (show ¬ (false = true) by decide)] at H; exact H
                  clear H
                  have H := H1
                  clear H1
                  obtain rfl := Option.some.inj H
                  have hcz32_0 : wr.cell? ⟨gb113, 0, none⟩ = some (.int .i64 a0_0) := bc_
                  have hcz32_1 : wr.cell? ⟨gb113, 1, none⟩ = some (.int .i64 a0_1) := bc_
                  have hcz32_2 : wr.cell? ⟨gb113, 2, none⟩ = some (.int .i64 a0_2) := bc_
                  have hcz32_3 : wr.cell? ⟨gb113, 3, none⟩ = some (.int .i64 a0_3) := bc_
                  have hcz32_4 : wr.cell? ⟨gb113, 4, none⟩ = some (.int .i64 a0_4) := bc_
                  have hcz32_5 : wr.cell? ⟨gb113, 5, none⟩ = some (.int .i64 a0_5) := bc_
                  have hcz32_6 : wr.cell? ⟨gb113, 6, none⟩ = some (.int .i64 a0_6) := bc_
                  have hcz32_7 : wr.cell? ⟨gb113, 7, none⟩ = some (.slice A0_7 l0_7.length c0_7) := bc_
                  have hfz32_0 := blk_frozen BK113.out 0
                  have hfz32_1 := blk_frozen BK113.out 1
                  have hfz32_2 := blk_frozen BK113.out 2
                  have hfz32_3 := blk_frozen BK113.out 3
                  have hfz32_4 := blk_frozen BK113.out 4
                  have hfz32_5 := blk_frozen BK113.out 5
                  have hfz32_6 := blk_frozen BK113.out 6
                  have hfz32_7 := blk_frozen BK113.out 7
                  have p127 : 0 ≤ (x5_2 : Int) := of_decide_eq_true (by first | (with_reducible assumption) | assumption)
                  have q127 : x5_2 < (l0_7.length : Int) := of_decide_eq_true (by first | (with_reducible assumption) | assumption)
                  obtain ⟨ad127, e127, hx127_0⟩ := Kd.at_int HR0_7.out x5_2 p127 q127
                  cases e127
                  replace hx127_0 := (HB.out.cell (World.block_lt_of_cell? w _ hx127_0)).trans hx127_0
                  replace p127 := eq_true p127
                  replace q127 := eq_true q127
                  go_wp2_with (first | ((with_reducible refine gate_callee (f := 57) rfl ?_); refine goesL_ (some 38) rfl rfl Tryd.func57 (by kernel_rfl) rfl #[.int .i64 (rd l0_7 x5_2), .int .i64 (-1), .int .i64 1] rfl mp_ ?_; (with_reducible refine (spec_l1In.calls (rd l0_7 x5_2) (-1) 1 false _ A29.out).mono ?_); rintro e w' ⟨rfl, ⟨nd, rfl⟩⟩; refine ⟨_, rfl, ?_⟩))
                  go_ret
                  exact ⟨rf_, bel_⟩
              · rw [if_neg c28] at H
                exact absurd H (by simp)
            · rw [if_neg c27] at H
              have c27b0 : decide (x5_2 < (l0_7.length : Int)) = false := decide_eq_false c27
              clear c27
              replace H := Option.bind_eq_some_iff.mp H
              obtain ⟨t129, A330, H⟩ := H
              replace H : (if t129 = true then ((spec_l1In.f a0_5 1 a0_6).bind fun t130 => (if t130 = true then (some (decide ((l0_7.length : Int) ≤ 4))) else (some false))) else (some false)) = some r := H
              have A33 := Aside0.mk A330
              clear A330
              by_cases c34 : t129 = true
              · subst c34
                have H1 : ((spec_l1In.f a0_5 1 a0_6).bind fun t130 => (if t130 = true then (some (decide ((l0_7.length : Int) ≤ 4))) else (some false))) = some r := by rw [if_pos rfl] at H; exact H
                clear H
                have H := H1
                clear H1
                replace H := Option.bind_eq_some_iff.mp H
                obtain ⟨t130, A350, H⟩ := H
                replace H : (if t130 = true then (some (decide ((l0_7.length : Int) ≤ 4))) else (some false)) = some r := H
                have A35 := Aside0.mk A350
                clear A350
                by_cases c36 : t130 = true
                · subst c36
                  have H1 : (some (decide ((l0_7.length : Int) ≤ 4))) = some r := by rw [if_pos rfl] at H; exact H
                  clear H
                  have H := H1
                  clear H1
                  obtain rfl := Option.some.inj H
                  have hcz37_0 : wr.cell? ⟨gb113, 0, none⟩ = some (.int .i64 a0_0) := bc_
                  have hcz37_1 : wr.cell? ⟨gb113, 1, none⟩ = some (.int .i64 a0_1) := bc_
                  have hcz37_2 : wr.cell? ⟨gb113, 2, none⟩ = some (.int .i64 a0_2) := bc_
                  have hcz37_3 : wr.cell? ⟨gb113, 3, none⟩ = some (.int .i64 a0_3) := bc_
                  have hcz37_4 : wr.cell? ⟨gb113, 4, none⟩ = some (.int .i64 a0_4) := bc_
                  have hcz37_5 : wr.cell? ⟨gb113, 5, none⟩ = some (.int .i64 a0_5) := bc_
                  have hcz37_6 : wr.cell? ⟨gb113, 6, none⟩ = some (.int .i64 a0_6) := bc_
                  have hcz37_7 : wr.cell? ⟨gb113, 7, none⟩ = some (.slice A0_7 l0_7.length c0_7) := bc_
                  have hfz37_0 := blk_frozen BK113.out 0
                  have hfz37_1 := blk_frozen BK113.out 1
                  have hfz37_2 := blk_frozen BK113.out 2
                  have hfz37_3 := blk_frozen BK113.out 3
                  have hfz37_4 := blk_frozen BK113.out 4
                  have hfz37_5 := blk_frozen BK113.out 5
                  have hfz37_6 := blk_frozen BK113.out 6
                  have hfz37_7 := blk_frozen BK113.out 7
                  go_wp2_with (first | ((with_reducible refine gate_callee (f := 57) rfl ?_); refine goesL_ (some 42) rfl rfl Tryd.func57 (by kernel_rfl) rfl #[.int .i64 a0_6, .int .i64 1, .int .i64 1000] rfl mp_ ?_; (with_reducible refine (spec_l1In.calls a0_6 1 1000 true _ A33.out).mono ?_); rintro e w' ⟨rfl, ⟨nd, rfl⟩⟩; refine ⟨_, rfl, ?_⟩) | (go_at_call 57; (with_reducible refine (spec_l1In.calls a0_5 1 a0_6 true _ A35.out).mono ?_); rintro e w' ⟨rfl, ⟨nd, rfl⟩⟩))
                  go_ret
                  exact ⟨rf_, bel_⟩
                · replace c36 := Bool.eq_false_iff.mpr c36
                  subst c36
                  have H1 : (some false) = some r := by rw [if_neg (show ¬ (false = true) by decide)] at H; exact H
                  clear H
                  have H := H1
                  clear H1
                  obtain rfl := Option.some.inj H
                  have hcz38_0 : wr.cell? ⟨gb113, 0, none⟩ = some (.int .i64 a0_0) := bc_
                  have hcz38_1 : wr.cell? ⟨gb113, 1, none⟩ = some (.int .i64 a0_1) := bc_
                  have hcz38_2 : wr.cell? ⟨gb113, 2, none⟩ = some (.int .i64 a0_2) := bc_
                  have hcz38_3 : wr.cell? ⟨gb113, 3, none⟩ = some (.int .i64 a0_3) := bc_
                  have hcz38_4 : wr.cell? ⟨gb113, 4, none⟩ = some (.int .i64 a0_4) := bc_
                  have hcz38_5 : wr.cell? ⟨gb113, 5, none⟩ = some (.int .i64 a0_5) := bc_
                  have hcz38_6 : wr.cell? ⟨gb113, 6, none⟩ = some (.int .i64 a0_6) := bc_
                  have hcz38_7 : wr.cell? ⟨gb113, 7, none⟩ = some (.slice A0_7 l0_7.length c0_7) := bc_
                  have hfz38_0 := blk_frozen BK113.out 0
                  have hfz38_1 := blk_frozen BK113.out 1
                  have hfz38_2 := blk_frozen BK113.out 2
                  have hfz38_3 := blk_frozen BK113.out 3
                  have hfz38_4 := blk_frozen BK113.out 4
                  have hfz38_5 := blk_frozen BK113.out 5
                  have hfz38_6 := blk_frozen BK113.out 6
                  have hfz38_7 := blk_frozen BK113.out 7
                  go_wp2_with (first | ((with_reducible refine gate_callee (f := 57) rfl ?_); refine goesL_ (some 42) rfl rfl Tryd.func57 (by kernel_rfl) rfl #[.int .i64 a0_6, .int .i64 1, .int .i64 1000] rfl mp_ ?_; (with_reducible refine (spec_l1In.calls a0_6 1 1000 true _ A33.out).mono ?_); rintro e w' ⟨rfl, ⟨nd, rfl⟩⟩; refine ⟨_, rfl, ?_⟩) | (go_at_call 57; (with_reducible refine (spec_l1In.calls a0_5 1 a0_6 false _ A35.out).mono ?_); rintro e w' ⟨rfl, ⟨nd, rfl⟩⟩))
                  go_ret
                  exact ⟨rf_, bel_⟩
              · replace c34 := Bool.eq_false_iff.mpr c34
                subst c34
                have H1 : (some false) = some r := by rw [if_neg (show ¬ (false = true) by decide)] at H; exact H
                clear H
                have H := H1
                clear H1
                obtain rfl := Option.some.inj H
                have hcz39_0 : wr.cell? ⟨gb113, 0, none⟩ = some (.int .i64 a0_0) := bc_
                have hcz39_1 : wr.cell? ⟨gb113, 1, none⟩ = some (.int .i64 a0_1) := bc_
                have hcz39_2 : wr.cell? ⟨gb113, 2, none⟩ = some (.int .i64 a0_2) := bc_
                have hcz39_3 : wr.cell? ⟨gb113, 3, none⟩ = some (.int .i64 a0_3) := bc_
                have hcz39_4 : wr.cell? ⟨gb113, 4, none⟩ = some (.int .i64 a0_4) := bc_
                have hcz39_5 : wr.cell? ⟨gb113, 5, none⟩ = some (.int .i64 a0_5) := bc_
                have hcz39_6 : wr.cell? ⟨gb113, 6, none⟩ = some (.int .i64 a0_6) := bc_
                have hcz39_7 : wr.cell? ⟨gb113, 7, none⟩ = some (.slice A0_7 l0_7.length c0_7) := bc_
                have hfz39_0 := blk_frozen BK113.out 0
                have hfz39_1 := blk_frozen BK113.out 1
                have hfz39_2 := blk_frozen BK113.out 2
                have hfz39_3 := blk_frozen BK113.out 3
                have hfz39_4 := blk_frozen BK113.out 4
                have hfz39_5 := blk_frozen BK113.out 5
                have hfz39_6 := blk_frozen BK113.out 6
                have hfz39_7 := blk_frozen BK113.out 7
                go_wp2_with (first | ((with_reducible refine gate_callee (f := 57) rfl ?_); refine goesL_ (some 42) rfl rfl Tryd.func57 (by kernel_rfl) rfl #[.int .i64 a0_6, .int .i64 1, .int .i64 1000] rfl mp_ ?_; (with_reducible refine (spec_l1In.calls a0_6 1 1000 false _ A33.out).mono ?_); rintro e w' ⟨rfl, ⟨nd, rfl⟩⟩; refine ⟨_, rfl, ?_⟩))
                go_ret
                exact ⟨rf_, bel_⟩

/-! ### spec_l8Words: function 32 -/
def spec_l8Words.f  : Option (List ByteArray) := some (([(⟨#[114, 111, 117, 110, 100, 115]⟩ : ByteArray), (⟨#[100, 101, 112, 116, 104]⟩ : ByteArray), (⟨#[98, 105, 110, 115]⟩ : ByteArray), (⟨#[108, 97, 109, 98, 100, 97]⟩ : ByteArray), (⟨#[114, 111, 119, 115]⟩ : ByteArray), (⟨#[114, 97, 116, 101]⟩ : ByteArray), (⟨#[115, 105, 103, 110, 115]⟩ : ByteArray)] : List ByteArray))
set_option maxHeartbeats 8000000 in
set_option maxRecDepth 100000 in
theorem spec_l8Words.calls  (r : List ByteArray) (w : World) (h : spec_l8Words.f  = some r) :
    Calls Tryd.prog 32 #[] w fun e w' => ∃ v0_ : Value, e = .returned (v0_) ∧ Kd.R Kd.string 9 w' w.heap.size (fun _ => True) v0_ r ∧ Below w.heap.size w w' := by
  have HB := Aside0.mk (Below.refl w.heap.size w)
  have H : (some (([(⟨#[114, 111, 117, 110, 100, 115]⟩ : ByteArray), (⟨#[100, 101, 112, 116, 104]⟩ : ByteArray), (⟨#[98, 105, 110, 115]⟩ : ByteArray), (⟨#[108, 97, 109, 98, 100, 97]⟩ : ByteArray), (⟨#[114, 111, 119, 115]⟩ : ByteArray), (⟨#[114, 97, 116, 101]⟩ : ByteArray), (⟨#[115, 105, 103, 110, 115]⟩ : ByteArray)] : List ByteArray))) = some r := h
  clear h
  obtain ⟨y131, hy131⟩ : ∃ y_ : List ByteArray, y_ = (([(⟨#[114, 111, 117, 110, 100, 115]⟩ : ByteArray), (⟨#[100, 101, 112, 116, 104]⟩ : ByteArray), (⟨#[98, 105, 110, 115]⟩ : ByteArray), (⟨#[108, 97, 109, 98, 100, 97]⟩ : ByteArray), (⟨#[114, 111, 119, 115]⟩ : ByteArray), (⟨#[114, 97, 116, 101]⟩ : ByteArray), (⟨#[115, 105, 103, 110, 115]⟩ : ByteArray)] : List ByteArray)) := ⟨_, rfl⟩
  replace H : (some y131) = some r := by first | (rw [hy131]; with_reducible exact H) | (have H2_ := (Option.bind_some _ _).symm.trans H; rw [hy131]; with_reducible exact H2_) | (have H2_ := (Option.bind_some _ _).symm.trans H; with_reducible exact H2_) | with_reducible exact H | (rw [hy131]; exact H) | exact H
  have Ny131 := Aside0.mk hy131
  clear hy131
  obtain rfl := Option.some.inj H
  go_enter Tryd.func32, Tryd.ntmps32
  go_wp2_with (first | ((with_reducible refine gate_dst (N := 1) rfl ?_); refine Kd.R_lit Kd.string _ 9 ?hg (N := 1) ?hd (xs := ([(⟨#[114, 111, 117, 110, 100, 115]⟩ : ByteArray), (⟨#[100, 101, 112, 116, 104]⟩ : ByteArray), (⟨#[98, 105, 110, 115]⟩ : ByteArray), (⟨#[108, 97, 109, 98, 100, 97]⟩ : ByteArray), (⟨#[114, 111, 119, 115]⟩ : ByteArray), (⟨#[114, 97, 116, 101]⟩ : ByteArray), (⟨#[115, 105, 103, 110, 115]⟩ : ByteArray)] : List ByteArray)) (inner := [.string (⟨#[114, 111, 117, 110, 100, 115]⟩ : ByteArray), .string (⟨#[100, 101, 112, 116, 104]⟩ : ByteArray), .string (⟨#[98, 105, 110, 115]⟩ : ByteArray), .string (⟨#[108, 97, 109, 98, 100, 97]⟩ : ByteArray), .string (⟨#[114, 111, 119, 115]⟩ : ByteArray), .string (⟨#[114, 97, 116, 101]⟩ : ByteArray), .string (⟨#[115, 105, 103, 110, 115]⟩ : ByteArray)]) (ok := fun _ => True) (okp := fun _ => True) ?hr ?hp (fun _ hk => hk) trivial (Below.refl _ _) (Nat.le_refl _) (by simp) ?_; (case hd => rfl); (case hg => rfl); (case hr => first | (go_simp; done) | (go_simp; rfl)); (case hp => exact (Reps.one (show Kd.M Kd.string _ _ _ (⟨#[114, 111, 117, 110, 100, 115]⟩ : ByteArray) [.string (⟨#[114, 111, 117, 110, 100, 115]⟩ : ByteArray)] from rfl) (Reps.one (show Kd.M Kd.string _ _ _ (⟨#[100, 101, 112, 116, 104]⟩ : ByteArray) [.string (⟨#[100, 101, 112, 116, 104]⟩ : ByteArray)] from rfl) (Reps.one (show Kd.M Kd.string _ _ _ (⟨#[98, 105, 110, 115]⟩ : ByteArray) [.string (⟨#[98, 105, 110, 115]⟩ : ByteArray)] from rfl) (Reps.one (show Kd.M Kd.string _ _ _ (⟨#[108, 97, 109, 98, 100, 97]⟩ : ByteArray) [.string (⟨#[108, 97, 109, 98, 100, 97]⟩ : ByteArray)] from rfl) (Reps.one (show Kd.M Kd.string _ _ _ (⟨#[114, 111, 119, 115]⟩ : ByteArray) [.string (⟨#[114, 111, 119, 115]⟩ : ByteArray)] from rfl) (Reps.one (show Kd.M Kd.string _ _ _ (⟨#[114, 97, 116, 101]⟩ : ByteArray) [.string (⟨#[114, 97, 116, 101]⟩ : ByteArray)] from rfl) (Reps.one (show Kd.M Kd.string _ _ _ (⟨#[115, 105, 103, 110, 115]⟩ : ByteArray) [.string (⟨#[115, 105, 103, 110, 115]⟩ : ByteArray)] from rfl) (Reps.none _ _))))))))); intro v132 w1 ho2 hb hg_ hnew_; clear hg_ hnew_; (first | rw [← Ny131.out] at ho2 | (simp only [Int.reduceToNat] at ho2; rw [← Ny131.out] at ho2)); have n0_ := Aside0.mk (Kd.R_lower ho2 (below_size bel_)); have n1_ := Aside0.mk (below_step bel_ hb); clear HB; have HO133 := n0_; have HB := n1_; clear n0_ n1_; clear hb ho2))
  go_ret
  exact ⟨_, by first | rfl | (simp [errW_none, errW_some] <;> rfl) | (simp [*, errW_none, errW_some] <;> rfl), by (with_reducible repeat (first | apply Kd.R_alloc | apply Kd.R_drewN | apply Kd.R_drew)); exact HO133.out, bel_⟩

end Go.Proofs.YtcbiijfiecjcaaaDoor.PFnExactConfigText
