/- Contracts of Go functions, each with the Lean function that says what it computes: begun by the print, turned by this session. No condition beyond what each theorem states. -/
import Derived.Test.YtcbiijfiecjcaaaPFnExactConfigOkx0
namespace Go.Proofs.Ytcbiijfiecjcaaa.PFnExactConfigOk
open Go.RowKit Go.Proofs.YtcbiijfiecjcaaaW.PrintWords Go.Proofs.YtcbiijfiecjcaaaW.PrintLast Go.Proofs.YtcbiijfiecjcaaaW.PrintMore
attribute [local go_sem] max2_int min2_int max_two min_two max_three min_three max_four min_four   -- for this text's walks alone
set_option linter.unusedVariables false
set_option linter.unusedSimpArgs false

/-! ### laws_toIntS: function 32 -/
def laws_toIntS.l0 : Nat → List Int → List Int → Int → Option (List Int)
  | 0, _, _, _ => none
  | k + 1, x0, x3, x4 => if x4 < (x0.length : Int) then (if 0 ≤ x4 then (if x4 < (x3.length : Int) then (laws_toIntS.l0 k x0 (x3.set (x4 : Int).toNat (rd x0 x4)) (wrap64 (x4 + 1))) else (none)) else (none)) else (some x3)
def laws_toIntS.f (k : Nat) (l0 : List Int) : Option (List Int) := if 0 ≤ (l0.length : Int) then (if ((l0.length : Int) : Int).toNat ≤ 35184372088832 then (laws_toIntS.l0 k l0 (List.replicate ((l0.length : Int) : Int).toNat 0) 0) else (none)) else (none)
theorem laws_toIntS.mono_l : ∀ k, (∀ y0 y1 y2, LeO (laws_toIntS.l0 k y0 y1 y2) (laws_toIntS.l0 (k + 1) y0 y1 y2))
  | 0 => fun _ _ _ r h => by simp [laws_toIntS.l0] at h
  | k + 1 => by
    have ih0 := laws_toIntS.mono_l k
    · intro y0 y1 y2
      unfold laws_toIntS.l0
      repeat' first
      | (with_reducible exact ih0 _ _ _)
      | (with_reducible exact LeO.refl _)
      | (with_reducible exact LeO.none _)
      | (with_reducible refine LeO.ite ?_ ?_)
      | (with_reducible refine LeO.bind ?_ (fun _ => ?_))
      | exact ih0 _ _ _
      | exact LeO.none _
      | refine LeO.ite ?_ ?_
      | refine LeO.bind ?_ (fun _ => ?_)
theorem laws_toIntS.mono : ∀ a0 k, LeO (laws_toIntS.f k a0) (laws_toIntS.f (k + 1) a0) := by
  intro a0 k
  have ih0 := laws_toIntS.mono_l k
  unfold laws_toIntS.f
  repeat' first
      | (with_reducible exact ih0 _ _ _)
      | (with_reducible exact LeO.refl _)
      | (with_reducible exact LeO.none _)
      | (with_reducible refine LeO.ite ?_ ?_)
      | (with_reducible refine LeO.bind ?_ (fun _ => ?_))
      | exact ih0 _ _ _
      | exact LeO.none _
      | refine LeO.ite ?_ ?_
      | refine LeO.bind ?_ (fun _ => ?_)
set_option maxHeartbeats 8000000 in
set_option maxRecDepth 100000 in
theorem laws_toIntS.calls (k : Nat) (A0 : Option Addr) (c0 : Nat) (l0 : List Int) (r : List Int) (w : World) (hr0 : Kd.C (Kd.int .i64) w A0 l0.length l0) (hc0 : l0.length ≤ c0) (h : laws_toIntS.f k l0 = some r) :
    Calls Try.prog 32 #[.slice A0 l0.length c0] w fun e w' => ∃ v0_ : Value, e = .returned (v0_) ∧ Kd.R (Kd.int .i64) 3 w' w.heap.size (fun _ => True) v0_ r ∧ Below w.heap.size w w' := by
  have HR0 := Aside0.mk hr0
  have HC0 := Aside0.mk hc0
  clear hr0 hc0
  have HB := Aside0.mk (Below.refl w.heap.size w)
  have H : (if 0 ≤ (l0.length : Int) then (if ((l0.length : Int) : Int).toNat ≤ 35184372088832 then (laws_toIntS.l0 k l0 (List.replicate ((l0.length : Int) : Int).toNat 0) 0) else (none)) else (none)) = some r := h
  clear h
  by_cases c2 : 0 ≤ (l0.length : Int)
  · rw [if_pos c2] at H
    have c2b0 := eq_true c2
    have c2b1 : decide (0 ≤ (l0.length : Int)) = true := decide_eq_true c2
    clear c2
    by_cases c3 : ((l0.length : Int) : Int).toNat ≤ 35184372088832
    · rw [if_pos c3] at H
      have c3b0 := eq_true c3
      have c3b1 : decide (((l0.length : Int) : Int).toNat ≤ 35184372088832) = true := decide_eq_true c3
      clear c3
      obtain ⟨y131, hy131⟩ : ∃ y_ : List Int, y_ = (List.replicate ((l0.length : Int) : Int).toNat 0) := ⟨_, rfl⟩
      replace H : (laws_toIntS.l0 k l0 y131 0) = some r := by first | (rw [hy131]; with_reducible exact H) | (have H2_ := (Option.bind_some _ _).symm.trans H; rw [hy131]; with_reducible exact H2_) | (have H2_ := (Option.bind_some _ _).symm.trans H; with_reducible exact H2_) | with_reducible exact H | (rw [hy131]; exact H) | exact H
      have Ny131 := Aside0.mk hy131
      clear hy131
      have H' := Aside0.mk H
      clear H
      go_enter Try.func32, Try.ntmps32
      go_wp2_with (first | ((with_reducible refine gate_dst (N := 7) rfl ?_); refine Kd.R_make (Kd.int .i64) _ 3 rfl (N := 7) rfl 26 _ _ rfl (l0.length : Int) rfl rfl Try.underlying26 (.int .i64 0) 8 info3 rfl (by decide) (by omega) 0 (ok := fun _ => True) (okp := fun _ => True) rfl (fun _ hk => hk) trivial (of_decide_eq_true (by first | (with_reducible assumption) | assumption)) (Nat.le_trans (Nat.mul_le_mul_right _ (of_decide_eq_true (by first | (with_reducible assumption) | assumption) : (l0.length : Int).toNat ≤ 35184372088832)) (by omega)) (Below.refl _ _) (Nat.le_refl _) ?_; intro v132 w4 ho5 hb hg_ hnew_; clear hg_ hnew_; (first | rw [← Ny131.out] at ho5 | (simp only [Int.reduceToNat] at ho5; rw [← Ny131.out] at ho5)); have n0_ := Aside0.mk (Kd.R_lower ho5 (below_size bel_)); have n1_ := Aside0.mk (below_step bel_ hb); clear HB; have HO133 := n0_; have HB := n1_; clear n0_ n1_; clear hb ho5))
      go_loopg [4] k (fun kq v4 w' => ∃ (x3_1 : List Int) (x4_1 : Int), v4 = .int .i64 x4_1 ∧ Aside0 (laws_toIntS.l0 kq l0 x3_1 x4_1 = some r) ∧ Aside0 (kq ≤ k) ∧ Aside0 (Kd.R (Kd.int .i64) 3 w' w.heap.size (fun _ => True) v132 x3_1) ∧ Aside0 (Below w.heap.size w w'))
      case atStart => exact ⟨(y131), (0), (by first | rfl | (simp; done) | (simp [*]; done)), H', ⟨Nat.le_refl _⟩, ⟨by (with_reducible repeat (first | apply Kd.R_alloc | apply Kd.R_drewN | apply Kd.R_drew)); exact HO133.out⟩, ⟨bel_⟩⟩
      case round =>
        clear H'
        try clear c2
        try clear c2b0
        try clear c2b1
        try clear p2
        try clear c3
        try clear c3b0
        try clear c3b1
        obtain ⟨x3_1, x4_1, rfl, HA, HK1, HO_3, HB⟩ := hrel
        cases gk with
        | zero => exact absurd HA.out (by simp [laws_toIntS.l0])
        | succ k1 =>
          have H := HA.out
          clear HA
          simp only [laws_toIntS.l0] at H
          by_cases c6 : x4_1 < (l0.length : Int)
          · rw [if_pos c6] at H
            have c6b0 : decide (x4_1 < (l0.length : Int)) = true := decide_eq_true c6
            clear c6
            by_cases c7 : 0 ≤ x4_1
            · rw [if_pos c7] at H
              have c7b0 : decide (0 ≤ x4_1) = true := decide_eq_true c7
              clear c7
              by_cases c8 : x4_1 < (x3_1.length : Int)
              · rw [if_pos c8] at H
                have c8b0 : decide (x4_1 < (x3_1.length : Int)) = true := decide_eq_true c8
                clear c8
                obtain ⟨y135, hy135⟩ : ∃ y_ : List Int, y_ = (x3_1.set (x4_1 : Int).toNat (rd l0 x4_1)) := ⟨_, rfl⟩
                replace H : (laws_toIntS.l0 k1 l0 y135 (wrap64 (x4_1 + 1))) = some r := by first | (rw [hy135]; with_reducible exact H) | (have H2_ := (Option.bind_some _ _).symm.trans H; rw [hy135]; with_reducible exact H2_) | (have H2_ := (Option.bind_some _ _).symm.trans H; with_reducible exact H2_) | with_reducible exact H | (rw [hy135]; exact H) | exact H
                have Ny135 := Aside0.mk hy135
                clear hy135
                have H' := Aside0.mk H
                clear H
                have p134 : 0 ≤ (x4_1 : Int) := of_decide_eq_true (by first | (with_reducible assumption) | assumption)
                have q134 : x4_1 < (l0.length : Int) := of_decide_eq_true (by first | (with_reducible assumption) | assumption)
                obtain ⟨ad134, e134, hx134_0⟩ := Kd.at_int HR0.out x4_1 p134 q134
                cases e134
                replace hx134_0 := (HB.out.cell (World.block_lt_of_cell? w _ hx134_0)).trans hx134_0
                replace p134 := eq_true p134
                replace q134 := eq_true q134
                have p9 : 0 ≤ (x4_1 : Int) := of_decide_eq_true (by first | (with_reducible assumption) | assumption)
                have q9 : (x4_1 : Int) < ((x3_1.length : Int) : Int) := of_decide_eq_true (by first | (with_reducible assumption) | assumption)
                obtain ⟨go9, co9, eo9, gb9, gl9, cl9, HG9⟩ := Kd.R_form HO_3.out (by omega)
                (first | cases eo9 | (injection eo9 with ea_ en_ ec_; (first | subst ea_ | (injection ea_ with ea_; subst ea_)); subst ec_; clear en_))
                have GB9 := Aside0.mk gb9
                have GG9 := Aside0.mk HG9
                clear gb9 gl9 HG9
                obtain ⟨hx9_0, hf9_0⟩ := Kd.R_celln 0 HO_3.out (x4_1 : Int) p9 q9
                replace p9 := eq_true p9
                replace q9 := eq_true q9
                have HP10 := Kd.R_putg HO_3.out (x4_1 : Int) (rd l0 x4_1)
                go_wp2_with (first | ((with_reducible refine gate_store (t := 3) (p := 20) rfl ?_); refine store_event (t := 3) (p := 20) (v := ?vo_w11) (w1 := (wr.setCell ⟨go9, (x4_1 : Int).toNat, none⟩ (.int .i64 (rd l0 x4_1)))) ?hg ?ho ?hn ?hr ?_; (case ho => rfl); (case hg => rfl); (case hn => rfl); (case hr => first | (go_simp; done) | (go_simp; rfl)); intro w11 hw; have hg : wr.grownBy w11 (some go9) := (by rw [hw]; exact HP10.2); have hp_ : Kd.R (Kd.int .i64) 3 w11 w.heap.size (fun _ => True) (.slice (some ⟨go9, 0, none⟩) x3_1.length co9) y135 := (by rw [hw, Ny135.out]; exact HP10.1); clear HP10; have n0_ := Aside0.mk (hp_); have n1_ := Aside0.mk ((by rw [hw]; exact below_set (HB.out) GB9.out : Below w.heap.size w w11)); clear HO_3; clear HB; have HO_3 := n0_; have HB := n1_; clear n0_ n1_; clear hg hw hp_))
                go_roundg k1
                case measure => have := HK1.out; omega
                case rel => exact ⟨(y135), (wrap64 (x4_1 + 1)), (by first | rfl | (simp; done) | (simp [*]; done)), H', ⟨by have := HK1.out; omega⟩, ⟨by (with_reducible repeat (first | apply Kd.R_alloc | apply Kd.R_drewN | apply Kd.R_drew)); exact HO_3.out⟩, ⟨bel_⟩⟩
              · rw [if_neg c8] at H
                exact absurd H (by simp)
            · rw [if_neg c7] at H
              exact absurd H (by simp)
          · rw [if_neg c6] at H
            have c6b0 : decide (x4_1 < (l0.length : Int)) = false := decide_eq_false c6
            clear c6
            obtain rfl := Option.some.inj H
            go_wp2
            go_ret
            exact ⟨_, by first | rfl | (simp [errW_none, errW_some] <;> rfl) | (simp [*, errW_none, errW_some] <;> rfl), by (with_reducible repeat (first | apply Kd.R_alloc | apply Kd.R_drewN | apply Kd.R_drew)); exact HO_3.out, bel_⟩
    · rw [if_neg c3] at H
      exact absurd H (by simp)
  · rw [if_neg c2] at H
    exact absurd H (by simp)

/-! ### laws_toConfig: function 13 -/
def laws_toConfig.f (k : Nat) (a0_0 : Int) (a0_1 : Int) (a0_2 : Int) (a0_3 : Int) (a0_4 : Int) (a0_5 : Int) (a0_6 : Int) (l0_7 : List Int) : Option (Int × Int × Int × Int × Int × Int × Int × List Int) := (laws_toIntS.f k l0_7).bind fun t139 => (some (a0_0, a0_1, a0_2, a0_3, a0_4, a0_5, a0_6, t139))
theorem laws_toConfig.mono : ∀ a0 a1 a2 a3 a4 a5 a6 a7 k, LeO (laws_toConfig.f k a0 a1 a2 a3 a4 a5 a6 a7) (laws_toConfig.f (k + 1) a0 a1 a2 a3 a4 a5 a6 a7) := by
  intro a0 a1 a2 a3 a4 a5 a6 a7 k
  unfold laws_toConfig.f
  repeat' first
      | (with_reducible exact laws_toIntS.mono _ _)
      | (with_reducible exact LeO.refl _)
      | (with_reducible exact LeO.none _)
      | (with_reducible refine LeO.ite ?_ ?_)
      | (with_reducible refine LeO.bind ?_ (fun _ => ?_))
      | exact laws_toIntS.mono _ _
      | exact LeO.none _
      | refine LeO.ite ?_ ?_
      | refine LeO.bind ?_ (fun _ => ?_)
set_option maxHeartbeats 8000000 in
set_option maxRecDepth 100000 in
theorem laws_toConfig.calls (k : Nat) (a0_0 : Int) (a0_1 : Int) (a0_2 : Int) (a0_3 : Int) (a0_4 : Int) (a0_5 : Int) (a0_6 : Int) (A0_7 : Option Addr) (c0_7 : Nat) (l0_7 : List Int) (r1 : Int) (r2 : Int) (r3 : Int) (r4 : Int) (r5 : Int) (r6 : Int) (r7 : Int) (r8 : List Int) (w : World) (hr0_7 : Kd.C (Kd.int .i64) w A0_7 l0_7.length l0_7) (hc0_7 : l0_7.length ≤ c0_7) (h : laws_toConfig.f k a0_0 a0_1 a0_2 a0_3 a0_4 a0_5 a0_6 l0_7 = some (r1, r2, r3, r4, r5, r6, r7, r8)) :
    Calls Try.prog 13 #[.agg #[.int .i64 a0_0, .int .i64 a0_1, .int .i64 a0_2, .int .i64 a0_3, .int .i64 a0_4, .int .i64 a0_5, .int .i64 a0_6, .slice A0_7 l0_7.length c0_7]] w fun e w' => ∃ v7_ : Value, e = .returned (.agg #[.int .i64 r1, .int .i64 r2, .int .i64 r3, .int .i64 r4, .int .i64 r5, .int .i64 r6, .int .i64 r7, v7_]) ∧ Kd.R (Kd.int .i64) 3 w' w.heap.size (fun _ => True) v7_ r8 ∧ Below w.heap.size w w' := by
  have hu28 := Try.underlying28
  have hu31 := Try.underlying31
  have HR0_7 := Aside0.mk hr0_7
  have HC0_7 := Aside0.mk hc0_7
  clear hr0_7 hc0_7
  have HB := Aside0.mk (Below.refl w.heap.size w)
  have H : ((laws_toIntS.f k l0_7).bind fun t139 => (some (a0_0, a0_1, a0_2, a0_3, a0_4, a0_5, a0_6, t139))) = some (r1, r2, r3, r4, r5, r6, r7, r8) := h
  clear h
  replace H := Option.bind_eq_some_iff.mp H
  obtain ⟨t139, A20, H⟩ := H
  replace H : (some (a0_0, a0_1, a0_2, a0_3, a0_4, a0_5, a0_6, t139)) = some (r1, r2, r3, r4, r5, r6, r7, r8) := H
  have A2 := Aside0.mk A20
  clear A20
  simp only [Option.some.injEq, Prod.mk.injEq] at H
  obtain ⟨rfl, rfl, rfl, rfl, rfl, rfl, rfl, rfl⟩ := H
  go_enter Try.func13, Try.ntmps13
  go_wp2_with (first | ((with_reducible refine gate_dst (N := 1) rfl ?_); refine box_event ?hg (N := 1) ?hd (cs := #[.int .i64 a0_0, .int .i64 a0_1, .int .i64 a0_2, .int .i64 a0_3, .int .i64 a0_4, .int .i64 a0_5, .int .i64 a0_6, .slice A0_7 l0_7.length c0_7]) (t := 28) ?hr ?_; (case hd => rfl); (case hg => rfl); (case hr => first | (go_simp; done) | (go_simp; rfl)); intro gb136 hg w3 hbox hb; have n0_ := Aside0.mk (below_step bel_ hb); have n1_ := Aside0.mk (hbox); have n2_ := bs_ (w := w) hg; have n3_ := bs_ (w := w) hg; clear HB; have HB := n0_; have BK136 := n1_; have GW136 := n2_; have GE136 := n3_; clear n0_ n1_ n2_ n3_; clear hb hbox hg) | ((with_reducible refine gate_dst (N := 2) rfl ?_); refine box_event ?hg (N := 2) ?hd (cs := #[.int .i64 0, .int .i64 0, .int .i64 0, .int .i64 0, .int .i64 0, .int .i64 0, .int .i64 0, .slice none 0 0]) (t := 31) ?hr ?_; (case hd => rfl); (case hg => rfl); (case hr => first | (go_simp; done) | (go_simp; rfl)); intro gb137 hg w4 hbox hb; have n0_ := bb_ (g := gb136) hb; have n1_ := Aside0.mk (below_step bel_ hb); have n2_ := Aside0.mk (hbox); have n3_ := bs_ (w := w) hg; have n4_ := bs_ (w := w) hg; have n5_ := nlt_ (g := gb136) hg; have n6_ := ngt_ (g := gb136) hg; clear BK136; clear HB; have BK136 := n0_; have HB := n1_; have BK137 := n2_; have GW137 := n3_; have GE137 := n4_; have NB136_137 := n5_; have NB137_136 := n6_; clear n0_ n1_ n2_ n3_ n4_ n5_ n6_; clear hb hbox hg) | ((with_reducible refine gate_dst (N := 3) rfl ?_); refine box_event ?hg (N := 3) ?hd (cs := #[.int .i64 0, .int .i64 0, .int .i64 0, .int .i64 0, .int .i64 0, .int .i64 0, .int .i64 0, .slice none 0 0]) (t := 31) ?hr ?_; (case hd => rfl); (case hg => rfl); (case hr => first | (go_simp; done) | (go_simp; rfl)); intro gb138 hg w5 hbox hb; have n0_ := bb_ (g := gb136) hb; have n1_ := bb_ (g := gb137) hb; have n2_ := Aside0.mk (below_step bel_ hb); have n3_ := Aside0.mk (hbox); have n4_ := bs_ (w := w) hg; have n5_ := bs_ (w := w) hg; have n6_ := nlt_ (g := gb136) hg; have n7_ := ngt_ (g := gb136) hg; have n8_ := nlt_ (g := gb137) hg; have n9_ := ngt_ (g := gb137) hg; clear BK136; clear BK137; clear HB; have BK136 := n0_; have BK137 := n1_; have HB := n2_; have BK138 := n3_; have GW138 := n4_; have GE138 := n5_; have NB136_138 := n6_; have NB138_136 := n7_; have NB137_138 := n8_; have NB138_137 := n9_; clear n0_ n1_ n2_ n3_ n4_ n5_ n6_ n7_ n8_ n9_; clear hb hbox hg; have hnb6 := NB136_137.out; have hnc6 := NB137_136.out; have hnb7 := NB136_138.out; have hnc7 := NB138_136.out; have hcz8_0 : w5.cell? ⟨gb136, 0, none⟩ = some (.int .i64 a0_0) := bc_; have hcz8_1 : w5.cell? ⟨gb136, 1, none⟩ = some (.int .i64 a0_1) := bc_; have hcz8_2 : w5.cell? ⟨gb136, 2, none⟩ = some (.int .i64 a0_2) := bc_; have hcz8_3 : w5.cell? ⟨gb136, 3, none⟩ = some (.int .i64 a0_3) := bc_; have hcz8_4 : w5.cell? ⟨gb136, 4, none⟩ = some (.int .i64 a0_4) := bc_; have hcz8_5 : w5.cell? ⟨gb136, 5, none⟩ = some (.int .i64 a0_5) := bc_; have hcz8_6 : w5.cell? ⟨gb136, 6, none⟩ = some (.int .i64 a0_6) := bc_; have hcz8_7 : w5.cell? ⟨gb136, 7, none⟩ = some (.slice A0_7 l0_7.length c0_7) := bc_; have hfz8_0 := blk_frozen BK136.out 0; have hfz8_1 := blk_frozen BK136.out 1; have hfz8_2 := blk_frozen BK136.out 2; have hfz8_3 := blk_frozen BK136.out 3; have hfz8_4 := blk_frozen BK136.out 4; have hfz8_5 := blk_frozen BK136.out 5; have hfz8_6 := blk_frozen BK136.out 6; have hfz8_7 := blk_frozen BK136.out 7; have hnb9 := NB138_137.out; have hnc9 := NB137_138.out; have hcz10_0 : w5.cell? ⟨gb138, 0, none⟩ = some (.int .i64 0) := bc_; have hcz10_1 : w5.cell? ⟨gb138, 1, none⟩ = some (.int .i64 0) := bc_; have hcz10_2 : w5.cell? ⟨gb138, 2, none⟩ = some (.int .i64 0) := bc_; have hcz10_3 : w5.cell? ⟨gb138, 3, none⟩ = some (.int .i64 0) := bc_; have hcz10_4 : w5.cell? ⟨gb138, 4, none⟩ = some (.int .i64 0) := bc_; have hcz10_5 : w5.cell? ⟨gb138, 5, none⟩ = some (.int .i64 0) := bc_; have hcz10_6 : w5.cell? ⟨gb138, 6, none⟩ = some (.int .i64 0) := bc_; have hcz10_7 : w5.cell? ⟨gb138, 7, none⟩ = some (.slice none 0 0) := bc_; have hfz10_0 := blk_frozen BK138.out 0; have hfz10_1 := blk_frozen BK138.out 1; have hfz10_2 := blk_frozen BK138.out 2; have hfz10_3 := blk_frozen BK138.out 3; have hfz10_4 := blk_frozen BK138.out 4; have hfz10_5 := blk_frozen BK138.out 5; have hfz10_6 := blk_frozen BK138.out 6; have hfz10_7 := blk_frozen BK138.out 7) | ((with_reducible refine gate_callee (f := 32) rfl ?_); refine goesL_ (some 27) rfl rfl Try.func32 (by kernel_rfl) rfl #[.slice A0_7 l0_7.length c0_7] rfl mp_ ?_; (with_reducible refine (laws_toIntS.calls k _ _ l0_7 t139 _ ?side1 ?side2 A2.out).mono ?_); (case side1 => exact Kd.C_below HR0_7.out bel_); (case side2 => exact HC0_7.out); rintro e w11 ⟨v140, rfl, ho0, hb⟩; refine ⟨_, rfl, ?_⟩; have n0_ := Aside0.mk (Kd.R_lower ho0 (below_size bel_)); have n1_ := Aside0.mk (blk_below (g := gb136) (o := .cells #[.int .i64 a0_0, .int .i64 a0_1, .int .i64 a0_2, .int .i64 a0_3, .int .i64 a0_4, .int .i64 a0_5, .int .i64 a0_6, .slice A0_7 l0_7.length c0_7] 28 (0, 0)) bk_ hb); have n2_ := Aside0.mk (blk_below (g := gb137) (o := .cells #[.int .i64 0, .int .i64 0, .int .i64 0, .int .i64 0, .int .i64 0, .int .i64 0, .int .i64 0, .slice none 0 0] 31 (0, 0)) bk_ hb); have n3_ := Aside0.mk (blk_below (g := gb138) (o := .cells #[.int .i64 a0_0, .int .i64 a0_1, .int .i64 a0_2, .int .i64 a0_3, .int .i64 a0_4, .int .i64 a0_5, .int .i64 a0_6, .slice none 0 0] 31 (0, 0)) (pu_ #[.int .i64 a0_0, .int .i64 a0_1, .int .i64 a0_2, .int .i64 a0_3, .int .i64 a0_4, .int .i64 a0_5, .int .i64 0, .slice none 0 0] 6 (h := (pu_ #[.int .i64 a0_0, .int .i64 a0_1, .int .i64 a0_2, .int .i64 a0_3, .int .i64 a0_4, .int .i64 0, .int .i64 0, .slice none 0 0] 5 (h := (pu_ #[.int .i64 a0_0, .int .i64 a0_1, .int .i64 a0_2, .int .i64 a0_3, .int .i64 0, .int .i64 0, .int .i64 0, .slice none 0 0] 4 (h := (pu_ #[.int .i64 a0_0, .int .i64 a0_1, .int .i64 a0_2, .int .i64 0, .int .i64 0, .int .i64 0, .int .i64 0, .slice none 0 0] 3 (h := (pu_ #[.int .i64 a0_0, .int .i64 a0_1, .int .i64 0, .int .i64 0, .int .i64 0, .int .i64 0, .int .i64 0, .slice none 0 0] 2 (h := (pu_ #[.int .i64 a0_0, .int .i64 0, .int .i64 0, .int .i64 0, .int .i64 0, .int .i64 0, .int .i64 0, .slice none 0 0] 1 (h := (pu_ #[.int .i64 0, .int .i64 0, .int .i64 0, .int .i64 0, .int .i64 0, .int .i64 0, .int .i64 0, .slice none 0 0] 0 (h := bk_)))))))))))))) hb); have n4_ := Aside0.mk (below_step bel_ hb); clear BK136; clear BK137; clear BK138; clear HB; have HO141 := n0_; have BK136 := n1_; have BK137 := n2_; have BK138 := n3_; have HB := n4_; clear n0_ n1_ n2_ n3_ n4_; (try clear hb); (try clear hb2); (try clear hk); (try clear hi); (try clear ho0); obtain ⟨Ao12, co12, eo12⟩ := Kd.R_slice HO141.out; subst eo12; have hcz13_0 : w11.cell? ⟨gb138, 0, none⟩ = some (.int .i64 a0_0) := bc_; have hcz13_1 : w11.cell? ⟨gb138, 1, none⟩ = some (.int .i64 a0_1) := bc_; have hcz13_2 : w11.cell? ⟨gb138, 2, none⟩ = some (.int .i64 a0_2) := bc_; have hcz13_3 : w11.cell? ⟨gb138, 3, none⟩ = some (.int .i64 a0_3) := bc_; have hcz13_4 : w11.cell? ⟨gb138, 4, none⟩ = some (.int .i64 a0_4) := bc_; have hcz13_5 : w11.cell? ⟨gb138, 5, none⟩ = some (.int .i64 a0_5) := bc_; have hcz13_6 : w11.cell? ⟨gb138, 6, none⟩ = some (.int .i64 a0_6) := bc_; have hcz13_7 : w11.cell? ⟨gb138, 7, none⟩ = some (.slice none 0 0) := bc_; have hfz13_0 := blk_frozen BK138.out 0; have hfz13_1 := blk_frozen BK138.out 1; have hfz13_2 := blk_frozen BK138.out 2; have hfz13_3 := blk_frozen BK138.out 3; have hfz13_4 := blk_frozen BK138.out 4; have hfz13_5 := blk_frozen BK138.out 5; have hfz13_6 := blk_frozen BK138.out 6; have hfz13_7 := blk_frozen BK138.out 7; have hcz14_0 : w11.cell? ⟨gb137, 0, none⟩ = some (.int .i64 0) := bc_; have hcz14_1 : w11.cell? ⟨gb137, 1, none⟩ = some (.int .i64 0) := bc_; have hcz14_2 : w11.cell? ⟨gb137, 2, none⟩ = some (.int .i64 0) := bc_; have hcz14_3 : w11.cell? ⟨gb137, 3, none⟩ = some (.int .i64 0) := bc_; have hcz14_4 : w11.cell? ⟨gb137, 4, none⟩ = some (.int .i64 0) := bc_; have hcz14_5 : w11.cell? ⟨gb137, 5, none⟩ = some (.int .i64 0) := bc_; have hcz14_6 : w11.cell? ⟨gb137, 6, none⟩ = some (.int .i64 0) := bc_; have hcz14_7 : w11.cell? ⟨gb137, 7, none⟩ = some (.slice none 0 0) := bc_; have hfz14_0 := blk_frozen BK137.out 0; have hfz14_1 := blk_frozen BK137.out 1; have hfz14_2 := blk_frozen BK137.out 2; have hfz14_3 := blk_frozen BK137.out 3; have hfz14_4 := blk_frozen BK137.out 4; have hfz14_5 := blk_frozen BK137.out 5; have hfz14_6 := blk_frozen BK137.out 6; have hfz14_7 := blk_frozen BK137.out 7))
  refine bodyPost_ret (results_cell_row rfl _ _ gb137 31 #[.int .i64 a0_0, .int .i64 a0_1, .int .i64 a0_2, .int .i64 a0_3, .int .i64 a0_4, .int .i64 a0_5, .int .i64 a0_6, .slice Ao12 t139.length co12] (0, 0) _ rfl (pu_ #[.int .i64 a0_0, .int .i64 a0_1, .int .i64 a0_2, .int .i64 a0_3, .int .i64 a0_4, .int .i64 a0_5, .int .i64 a0_6, .slice none 0 0] 7 (h := (pu_ #[.int .i64 a0_0, .int .i64 a0_1, .int .i64 a0_2, .int .i64 a0_3, .int .i64 a0_4, .int .i64 a0_5, .int .i64 0, .slice none 0 0] 6 (h := (pu_ #[.int .i64 a0_0, .int .i64 a0_1, .int .i64 a0_2, .int .i64 a0_3, .int .i64 a0_4, .int .i64 0, .int .i64 0, .slice none 0 0] 5 (h := (pu_ #[.int .i64 a0_0, .int .i64 a0_1, .int .i64 a0_2, .int .i64 a0_3, .int .i64 0, .int .i64 0, .int .i64 0, .slice none 0 0] 4 (h := (pu_ #[.int .i64 a0_0, .int .i64 a0_1, .int .i64 a0_2, .int .i64 0, .int .i64 0, .int .i64 0, .int .i64 0, .slice none 0 0] 3 (h := (pu_ #[.int .i64 a0_0, .int .i64 a0_1, .int .i64 0, .int .i64 0, .int .i64 0, .int .i64 0, .int .i64 0, .slice none 0 0] 2 (h := (pu_ #[.int .i64 a0_0, .int .i64 0, .int .i64 0, .int .i64 0, .int .i64 0, .int .i64 0, .int .i64 0, .slice none 0 0] 1 (h := (pu_ #[.int .i64 0, .int .i64 0, .int .i64 0, .int .i64 0, .int .i64 0, .int .i64 0, .int .i64 0, .slice none 0 0] 0 (h := bk_)))))))))))))))) Try.underlying31 rfl (by kernel_rfl)) rfl ?_
  exact ⟨_, by first | rfl | (simp [errW_none, errW_some] <;> rfl) | (simp [*, errW_none, errW_some] <;> rfl), by (with_reducible repeat (first | apply Kd.R_alloc | apply Kd.R_drewN | apply Kd.R_drew)); exact Kd.R_mono (Kd.R_far (p := ⟨gb137, 7, none⟩) (Kd.R_far (p := ⟨gb137, 6, none⟩) (Kd.R_far (p := ⟨gb137, 5, none⟩) (Kd.R_far (p := ⟨gb137, 4, none⟩) (Kd.R_far (p := ⟨gb137, 3, none⟩) (Kd.R_far (p := ⟨gb137, 2, none⟩) (Kd.R_far (p := ⟨gb137, 1, none⟩) (Kd.R_far (p := ⟨gb137, 0, none⟩) (Kd.R_far (p := ⟨gb138, 7, none⟩) (Kd.R_types (Kd.R_types HO141.out BK138.out (by decide)) BK137.out (by decide)) (fun _ hk => hk.1.2) (.slice Ao12 t139.length co12)) (fun _ hk => hk.2) (.int .i64 a0_0)) (fun _ hk => hk.2) (.int .i64 a0_1)) (fun _ hk => hk.2) (.int .i64 a0_2)) (fun _ hk => hk.2) (.int .i64 a0_3)) (fun _ hk => hk.2) (.int .i64 a0_4)) (fun _ hk => hk.2) (.int .i64 a0_5)) (fun _ hk => hk.2) (.int .i64 a0_6)) (fun _ hk => hk.2) (.slice Ao12 t139.length co12)) (fun _ hk => trivial), bel_⟩

/-! ### impl_within: function 33 -/
def impl_within.f (a0 : Int) (a1 : Int) (a2 : Int) : Option (Bool) := if a0 ≥ a1 then (some (decide (a0 ≤ a2))) else (some false)
set_option maxHeartbeats 8000000 in
set_option maxRecDepth 100000 in
theorem impl_within.calls (a0 : Int) (a1 : Int) (a2 : Int) (r : Bool) (w : World) (h : impl_within.f a0 a1 a2 = some r) :
    Calls Try.prog 33 #[.int .i64 a0, .int .i64 a1, .int .i64 a2] w fun e w' => e = .returned (.bool r) ∧ Drawn0 w w' := by
  have H : (if a0 ≥ a1 then (some (decide (a0 ≤ a2))) else (some false)) = some r := h
  clear h
  by_cases c4 : a0 ≥ a1
  · rw [if_pos c4] at H
    have c4b0 : decide (a1 ≤ a0) = true := decide_eq_true c4
    clear c4
    obtain rfl := Option.some.inj H
    go_enter Try.func33, Try.ntmps33
    go_wp2
    go_ret
    exact ⟨by first | rfl | (simp; done) | (simp [*]; done), by repeat (first | exact Drawn0.refl _ | apply Drawn0.step)⟩
  · rw [if_neg c4] at H
    have c4b0 : decide (a1 ≤ a0) = false := decide_eq_false c4
    clear c4
    obtain rfl := Option.some.inj H
    go_enter Try.func33, Try.ntmps33
    go_wp2
    go_ret
    exact ⟨by first | rfl | (simp; done) | (simp [*]; done), by repeat (first | exact Drawn0.refl _ | apply Drawn0.step)⟩

-- NOT PRINTED: function 44 (slices_IndexFunc_int_int)

-- NOT PRINTED: function 34 (slices_ContainsFunc_int_int)

/-! ### impl_isSign: function 36 -/
def impl_isSign.f (a0 : Int) : Option (Bool) := (impl_within.f a0 (-1) 1).bind fun t142 => (some t142)
set_option maxHeartbeats 8000000 in
set_option maxRecDepth 100000 in
theorem impl_isSign.calls (a0 : Int) (r : Bool) (w : World) (h : impl_isSign.f a0 = some r) :
    Calls Try.prog 36 #[.int .i64 a0] w fun e w' => e = .returned (.bool r) ∧ Drawn0 w w' := by
  have H : ((impl_within.f a0 (-1) 1).bind fun t142 => (some t142)) = some r := h
  clear h
  replace H := Option.bind_eq_some_iff.mp H
  obtain ⟨t142, A20, H⟩ := H
  replace H : (some t142) = some r := H
  have A2 := Aside0.mk A20
  clear A20
  obtain rfl := Option.some.inj H
  go_enter Try.func36, Try.ntmps36
  go_wp2_with (first | ((with_reducible refine gate_callee (f := 33) rfl ?_); refine goesL_ (some 4) rfl rfl Try.func33 (by kernel_rfl) rfl #[.int .i64 a0, .int .i64 (-1), .int .i64 1] rfl mp_ ?_; (with_reducible refine (impl_within.calls a0 (-1) 1 t142 _ A2.out).mono ?_); rintro e w' ⟨rfl, ⟨nd, rfl⟩⟩; refine ⟨_, rfl, ?_⟩))
  go_ret
  exact ⟨by first | rfl | (simp; done) | (simp [*]; done), by repeat (first | exact Drawn0.refl _ | apply Drawn0.step)⟩

-- NOT PRINTED: function 35 (impl_ConfigOk_1)

/-! ### impl_ConfigOk: function 14, by its code and slices.ContainsFunc's -/
def impl_ConfigOk.inR (a lo hi : Int) : Bool := decide (lo ≤ a ∧ a ≤ hi)
def impl_ConfigOk.sgn (a : Int) : Bool := impl_ConfigOk.inR a (-1) 1
theorem impl_ConfigOk.wi (a lo hi : Int) (w : World) : Calls Try.prog 33 #[.int .i64 a, .int .i64 lo, .int .i64 hi] w fun e w' => e = .returned (.bool (impl_ConfigOk.inR a lo hi)) ∧ Drawn0 w w' := by
  refine impl_within.calls a lo hi _ w ?_
  unfold impl_within.f impl_ConfigOk.inR
  by_cases c : a ≥ lo
  · rw [if_pos c]; congr 1; exact decide_eq_decide.2 ⟨fun h => ⟨c, h⟩, fun h => h.2⟩
  · rw [if_neg c, decide_eq_false (fun h => c h.1)]
theorem impl_ConfigOk.sg (a : Int) (w : World) : Calls Try.prog 36 #[.int .i64 a] w fun e w' => e = .returned (.bool (impl_ConfigOk.sgn a)) ∧ Drawn0 w w' := by
  have HC := impl_ConfigOk.wi a (-1) 1
  go_enter Try.func36, Try.ntmps36
  go_wp2_with (go_at_call 33; refine (HC _).mono ?_; rintro e w' ⟨rfl, nd, rfl⟩)
  go_ret
  exact ⟨rfl, nd, rfl⟩
theorem impl_ConfigOk.clo (a : Int) (w : World) : Calls Try.prog 35 #[.int .i64 a] w fun e w' => e = .returned (.bool (!impl_ConfigOk.sgn a)) ∧ Drawn0 w w' := by
  have HC := impl_ConfigOk.sg a
  go_enter Try.func35, Try.ntmps35
  go_wp2_with (go_at_call 36; refine (HC _).mono ?_; rintro e w' ⟨rfl, nd, rfl⟩)
  go_ret
  exact ⟨rfl, nd, rfl⟩
def impl_ConfigOk.Found (l : List Int) (w : World) (e : Ending) (w' : World) : Prop := ∃ z : Int, e = .returned (.int .i64 z) ∧ decide (0 ≤ z) = l.any (fun n => !impl_ConfigOk.sgn n) ∧ Drawn0 w w'
theorem impl_ConfigOk.any_no {l : List Int} (h : ∀ y ∈ l, impl_ConfigOk.sgn y = true) : l.any (fun n => !impl_ConfigOk.sgn n) = false := by
  rw [List.any_eq_false]
  intro y hy
  rw [h y hy]
  simp
theorem impl_ConfigOk.any_yes {l : List Int} {x : Int} (hm : x ∈ l) (h : impl_ConfigOk.sgn x = false) : l.any (fun n => !impl_ConfigOk.sgn n) = true := List.any_eq_true.2 ⟨x, hm, by rw [h]; rfl⟩
theorem impl_ConfigOk.take_one {l : List Int} {i : Nat} {x : Int} (hx : l[i]? = some x) (h : ∀ y ∈ l.take i, impl_ConfigOk.sgn y = true) (hs : impl_ConfigOk.sgn x = true) : ∀ y ∈ l.take (i + 1), impl_ConfigOk.sgn y = true := fun y hy => by
  rw [List.take_add_one, hx, List.mem_append] at hy
  rcases hy with hy | hy
  · exact h y hy
  · have : y = x := by simpa using hy
    rw [this]; exact hs
theorem impl_ConfigOk.rd_at (l : List Int) (i : Nat) (h : i < l.length) : l[i]? = some (rd l (i : Int)) := by
  unfold rd
  rw [Int.toNat_natCast, List.getElem?_eq_getElem h, List.getD_eq_getElem?_getD, List.getElem?_eq_getElem h]
  rfl
set_option maxHeartbeats 4000000 in
set_option maxRecDepth 100000 in
theorem impl_ConfigOk.xf (A0 : Option Addr) (c0 : Nat) (l0 : List Int) (w : World) (hr0 : Kd.C (Kd.int .i64) w A0 l0.length l0) :
    Calls Try.prog 44 #[.slice A0 l0.length c0, .func (.func 35) #[] #[]] w (impl_ConfigOk.Found l0 w) := by
  have HR0 := Aside0.mk hr0
  have hbig := hr0.2.1
  clear hr0
  go_enter Try.func44, Try.ntmps44
  go_wp2
  repeat (go_quiet (fail); try go_wp2)
  go_loopg [8] l0.length (fun g v8 wx => ∃ i : Nat, i + g = l0.length ∧ v8 = .int .i64 (i : Nat) ∧ Aside0 (∀ y ∈ l0.take i, impl_ConfigOk.sgn y = true) ∧ Drawn0 w wx)
  case atStart => exact ⟨0, by omega, rfl, ⟨fun y hy => by simp at hy⟩, Drawn0.refl _⟩
  case round =>
    obtain ⟨i, hig, rfl, HN, ⟨m1, rfl⟩⟩ := hrel
    cases gk with
    | zero =>
      obtain rfl : i = l0.length := by omega
      go_wp2
      go_ret
      exact ⟨-1, rfl, by rw [impl_ConfigOk.any_no (by have := HN.out; rwa [List.take_length] at this)]; rfl, ⟨_, rfl⟩⟩
    | succ g =>
      have hi : i < l0.length := by omega
      have hiz : (i : Int) < (l0.length : Int) := by omega
      have p1 : (0 : Int) ≤ (i : Int) := by omega
      obtain ⟨ad, e1, hx⟩ := Kd.at_int HR0.out (i : Int) p1 hiz
      cases e1
      rw [Int.toNat_natCast] at hx
      have HX := Aside0.mk (impl_ConfigOk.rd_at l0 i hi)
      generalize rd l0 (i : Int) = x at hx HX
      have HC := impl_ConfigOk.clo x
      cases hs : impl_ConfigOk.sgn x with
      | true =>
        rw [hs] at HC
        have HS := Aside0.mk hs
        clear hs
        have HC2 := Aside0.mk HC
        clear HC
        go_wp2_with (go_at_call 35; refine (HC2.out _).mono ?_; rintro e w' ⟨rfl, nd, rfl⟩)
        repeat (go_quiet (first | (go_at_call 35; refine (HC2.out _).mono ?_; rintro e w' ⟨rfl, nd, rfl⟩; exact ⟨rfl, _, World.drewN_drewN _ _ _⟩)); try go_wp2)
        go_roundg g
        case measure => omega
        case rel => exact ⟨i + 1, by omega, by first | rfl | go_num | simp, ⟨impl_ConfigOk.take_one HX.out HN.out HS.out⟩, by repeat (first | exact Drawn0.refl _ | apply Drawn0.step)⟩
      | false =>
        rw [hs] at HC
        have HS := Aside0.mk hs
        clear hs
        have HC2 := Aside0.mk HC
        clear HC
        go_wp2_with (go_at_call 35; refine (HC2.out _).mono ?_; rintro e w' ⟨rfl, nd, rfl⟩)
        repeat (go_quiet (first | (go_at_call 35; refine (HC2.out _).mono ?_; rintro e w' ⟨rfl, nd, rfl⟩; exact ⟨rfl, _, World.drewN_drewN _ _ _⟩)); try go_wp2)
        go_ret
        exact ⟨i, rfl, by rw [impl_ConfigOk.any_yes (List.mem_of_getElem? HX.out) HS.out]; exact decide_eq_true (by omega), by repeat (first | exact Drawn0.refl _ | apply Drawn0.step)⟩
theorem impl_ConfigOk.cf (A0 : Option Addr) (c0 : Nat) (l0 : List Int) (r : Bool) (w : World) (hr0 : Kd.C (Kd.int .i64) w A0 l0.length l0) (h : l0.any (fun n => !impl_ConfigOk.sgn n) = r) :
    Calls Try.prog 34 #[.slice A0 l0.length c0, .func (.func 35) #[] #[]] w fun e w' => e = .returned (.bool r) ∧ Drawn0 w w' := by
  have HC := impl_ConfigOk.xf A0 c0 l0 w hr0
  have H := Aside0.mk h
  clear h
  go_enter Try.func34, Try.ntmps34
  go_wp2_with (go_at_call 44; refine HC.mono ?_; rintro e w' ⟨z, rfl, hz, nd, rfl⟩; have HZ := Aside0.mk hz; clear hz)
  go_ret
  refine ⟨?_, nd, rfl⟩
  have e := HZ.out.trans H.out
  show Ending.returned (.bool (decide (0 ≤ z))) = _
  rw [e]
def impl_ConfigOk.ok (a0_0 a0_1 a0_2 a0_3 a0_4 a0_5 a0_6 : Int) (l0_7 : List Int) : Bool := impl_ConfigOk.inR a0_0 1 8 && impl_ConfigOk.inR a0_1 0 4 && impl_ConfigOk.inR a0_2 2 8 && impl_ConfigOk.inR a0_3 1 100 && impl_ConfigOk.inR a0_4 1 20 && impl_ConfigOk.inR a0_6 1 1000 && impl_ConfigOk.inR a0_5 1 a0_6 && decide (l0_7.length ≤ 4) && !(l0_7.any (fun n => !impl_ConfigOk.sgn n))
def impl_ConfigOk.f (a0_0 : Int) (a0_1 : Int) (a0_2 : Int) (a0_3 : Int) (a0_4 : Int) (a0_5 : Int) (a0_6 : Int) (l0_7 : List Int) : Option (Bool) := some (impl_ConfigOk.ok a0_0 a0_1 a0_2 a0_3 a0_4 a0_5 a0_6 l0_7)
set_option maxHeartbeats 8000000 in
set_option maxRecDepth 100000 in
theorem impl_ConfigOk.walk (a0_0 : Int) (a0_1 : Int) (a0_2 : Int) (a0_3 : Int) (a0_4 : Int) (a0_5 : Int) (a0_6 : Int) (A0_7 : Option Addr) (c0_7 : Nat) (l0_7 : List Int) (w : World) (hr0_7 : Kd.C (Kd.int .i64) w A0_7 l0_7.length l0_7) (hc0_7 : l0_7.length ≤ c0_7) :
    Calls Try.prog 14 #[.agg #[.int .i64 a0_0, .int .i64 a0_1, .int .i64 a0_2, .int .i64 a0_3, .int .i64 a0_4, .int .i64 a0_5, .int .i64 a0_6, .slice A0_7 l0_7.length c0_7]] w fun e w' => e = .returned (.bool (impl_ConfigOk.ok a0_0 a0_1 a0_2 a0_3 a0_4 a0_5 a0_6 l0_7)) ∧ Below w.heap.size w w' := by
  have HR := Aside0.mk hr0_7
  clear hr0_7
  cases c0 : impl_ConfigOk.inR a0_0 1 8 with
  | false =>
    rw [show impl_ConfigOk.ok a0_0 a0_1 a0_2 a0_3 a0_4 a0_5 a0_6 l0_7 = false by unfold impl_ConfigOk.ok; rw [c0]; simp]
    go_enter Try.func14, Try.ntmps14
    go_wp2_with (first | (go_at_call 33; (with_reducible refine (impl_ConfigOk.wi _ _ _ _).mono ?_); rintro e w' ⟨rfl, nd, rfl⟩) | (go_at_call 34; (with_reducible refine (impl_ConfigOk.cf _ _ l0_7 _ _ ?side1 c8).mono ?_); (case side1 => repeat (first | exact HR.out | (with_reducible refine Kd.C_alloc ?_ _) | (with_reducible refine Kd.C_drewN ?_ _) | (with_reducible refine Kd.C_drew ?_))); rintro e w' ⟨rfl, nd, rfl⟩))
    go_ret
    exact ⟨rfl, by repeat (first | (with_reducible first | exact Below.refl _ _ | apply below_alloc | apply pw_below_drewN | apply below_drew1) | exact Below.refl _ _)⟩
  | true =>
    cases c1 : impl_ConfigOk.inR a0_1 0 4 with
    | false =>
      rw [show impl_ConfigOk.ok a0_0 a0_1 a0_2 a0_3 a0_4 a0_5 a0_6 l0_7 = false by unfold impl_ConfigOk.ok; rw [c0, c1]; simp]
      go_enter Try.func14, Try.ntmps14
      go_wp2_with (first | (go_at_call 33; (with_reducible refine (impl_ConfigOk.wi _ _ _ _).mono ?_); rintro e w' ⟨rfl, nd, rfl⟩) | (go_at_call 34; (with_reducible refine (impl_ConfigOk.cf _ _ l0_7 _ _ ?side1 c8).mono ?_); (case side1 => repeat (first | exact HR.out | (with_reducible refine Kd.C_alloc ?_ _) | (with_reducible refine Kd.C_drewN ?_ _) | (with_reducible refine Kd.C_drew ?_))); rintro e w' ⟨rfl, nd, rfl⟩))
      go_ret
      exact ⟨rfl, by repeat (first | (with_reducible first | exact Below.refl _ _ | apply below_alloc | apply pw_below_drewN | apply below_drew1) | exact Below.refl _ _)⟩
    | true =>
      cases c2 : impl_ConfigOk.inR a0_2 2 8 with
      | false =>
        rw [show impl_ConfigOk.ok a0_0 a0_1 a0_2 a0_3 a0_4 a0_5 a0_6 l0_7 = false by unfold impl_ConfigOk.ok; rw [c0, c1, c2]; simp]
        go_enter Try.func14, Try.ntmps14
        go_wp2_with (first | (go_at_call 33; (with_reducible refine (impl_ConfigOk.wi _ _ _ _).mono ?_); rintro e w' ⟨rfl, nd, rfl⟩) | (go_at_call 34; (with_reducible refine (impl_ConfigOk.cf _ _ l0_7 _ _ ?side1 c8).mono ?_); (case side1 => repeat (first | exact HR.out | (with_reducible refine Kd.C_alloc ?_ _) | (with_reducible refine Kd.C_drewN ?_ _) | (with_reducible refine Kd.C_drew ?_))); rintro e w' ⟨rfl, nd, rfl⟩))
        go_ret
        exact ⟨rfl, by repeat (first | (with_reducible first | exact Below.refl _ _ | apply below_alloc | apply pw_below_drewN | apply below_drew1) | exact Below.refl _ _)⟩
      | true =>
        cases c3 : impl_ConfigOk.inR a0_3 1 100 with
        | false =>
          rw [show impl_ConfigOk.ok a0_0 a0_1 a0_2 a0_3 a0_4 a0_5 a0_6 l0_7 = false by unfold impl_ConfigOk.ok; rw [c0, c1, c2, c3]; simp]
          go_enter Try.func14, Try.ntmps14
          go_wp2_with (first | (go_at_call 33; (with_reducible refine (impl_ConfigOk.wi _ _ _ _).mono ?_); rintro e w' ⟨rfl, nd, rfl⟩) | (go_at_call 34; (with_reducible refine (impl_ConfigOk.cf _ _ l0_7 _ _ ?side1 c8).mono ?_); (case side1 => repeat (first | exact HR.out | (with_reducible refine Kd.C_alloc ?_ _) | (with_reducible refine Kd.C_drewN ?_ _) | (with_reducible refine Kd.C_drew ?_))); rintro e w' ⟨rfl, nd, rfl⟩))
          go_ret
          exact ⟨rfl, by repeat (first | (with_reducible first | exact Below.refl _ _ | apply below_alloc | apply pw_below_drewN | apply below_drew1) | exact Below.refl _ _)⟩
        | true =>
          cases c4 : impl_ConfigOk.inR a0_4 1 20 with
          | false =>
            rw [show impl_ConfigOk.ok a0_0 a0_1 a0_2 a0_3 a0_4 a0_5 a0_6 l0_7 = false by unfold impl_ConfigOk.ok; rw [c0, c1, c2, c3, c4]; simp]
            go_enter Try.func14, Try.ntmps14
            go_wp2_with (first | (go_at_call 33; (with_reducible refine (impl_ConfigOk.wi _ _ _ _).mono ?_); rintro e w' ⟨rfl, nd, rfl⟩) | (go_at_call 34; (with_reducible refine (impl_ConfigOk.cf _ _ l0_7 _ _ ?side1 c8).mono ?_); (case side1 => repeat (first | exact HR.out | (with_reducible refine Kd.C_alloc ?_ _) | (with_reducible refine Kd.C_drewN ?_ _) | (with_reducible refine Kd.C_drew ?_))); rintro e w' ⟨rfl, nd, rfl⟩))
            go_ret
            exact ⟨rfl, by repeat (first | (with_reducible first | exact Below.refl _ _ | apply below_alloc | apply pw_below_drewN | apply below_drew1) | exact Below.refl _ _)⟩
          | true =>
            cases c5 : impl_ConfigOk.inR a0_6 1 1000 with
            | false =>
              rw [show impl_ConfigOk.ok a0_0 a0_1 a0_2 a0_3 a0_4 a0_5 a0_6 l0_7 = false by unfold impl_ConfigOk.ok; rw [c0, c1, c2, c3, c4, c5]; simp]
              go_enter Try.func14, Try.ntmps14
              go_wp2_with (first | (go_at_call 33; (with_reducible refine (impl_ConfigOk.wi _ _ _ _).mono ?_); rintro e w' ⟨rfl, nd, rfl⟩) | (go_at_call 34; (with_reducible refine (impl_ConfigOk.cf _ _ l0_7 _ _ ?side1 c8).mono ?_); (case side1 => repeat (first | exact HR.out | (with_reducible refine Kd.C_alloc ?_ _) | (with_reducible refine Kd.C_drewN ?_ _) | (with_reducible refine Kd.C_drew ?_))); rintro e w' ⟨rfl, nd, rfl⟩))
              go_ret
              exact ⟨rfl, by repeat (first | (with_reducible first | exact Below.refl _ _ | apply below_alloc | apply pw_below_drewN | apply below_drew1) | exact Below.refl _ _)⟩
            | true =>
              cases c6 : impl_ConfigOk.inR a0_5 1 a0_6 with
              | false =>
                rw [show impl_ConfigOk.ok a0_0 a0_1 a0_2 a0_3 a0_4 a0_5 a0_6 l0_7 = false by unfold impl_ConfigOk.ok; rw [c0, c1, c2, c3, c4, c5, c6]; simp]
                go_enter Try.func14, Try.ntmps14
                go_wp2_with (first | (go_at_call 33; (with_reducible refine (impl_ConfigOk.wi _ _ _ _).mono ?_); rintro e w' ⟨rfl, nd, rfl⟩) | (go_at_call 34; (with_reducible refine (impl_ConfigOk.cf _ _ l0_7 _ _ ?side1 c8).mono ?_); (case side1 => repeat (first | exact HR.out | (with_reducible refine Kd.C_alloc ?_ _) | (with_reducible refine Kd.C_drewN ?_ _) | (with_reducible refine Kd.C_drew ?_))); rintro e w' ⟨rfl, nd, rfl⟩))
                go_ret
                exact ⟨rfl, by repeat (first | (with_reducible first | exact Below.refl _ _ | apply below_alloc | apply pw_below_drewN | apply below_drew1) | exact Below.refl _ _)⟩
              | true =>
                cases c7 : decide (l0_7.length ≤ 4) with
                | false =>
                  have z8 : decide ((l0_7.length : Int) ≤ 4) = false := by rw [← c7]; exact decide_eq_decide.2 (by omega)
                  rw [show impl_ConfigOk.ok a0_0 a0_1 a0_2 a0_3 a0_4 a0_5 a0_6 l0_7 = false by unfold impl_ConfigOk.ok; rw [c0, c1, c2, c3, c4, c5, c6, c7]; simp]
                  go_enter Try.func14, Try.ntmps14
                  go_wp2_with (first | (go_at_call 33; (with_reducible refine (impl_ConfigOk.wi _ _ _ _).mono ?_); rintro e w' ⟨rfl, nd, rfl⟩) | (go_at_call 34; (with_reducible refine (impl_ConfigOk.cf _ _ l0_7 _ _ ?side1 c8).mono ?_); (case side1 => repeat (first | exact HR.out | (with_reducible refine Kd.C_alloc ?_ _) | (with_reducible refine Kd.C_drewN ?_ _) | (with_reducible refine Kd.C_drew ?_))); rintro e w' ⟨rfl, nd, rfl⟩))
                  go_ret
                  exact ⟨rfl, by repeat (first | (with_reducible first | exact Below.refl _ _ | apply below_alloc | apply pw_below_drewN | apply below_drew1) | exact Below.refl _ _)⟩
                | true =>
                  have z8 : decide ((l0_7.length : Int) ≤ 4) = true := by rw [← c7]; exact decide_eq_decide.2 (by omega)
                  cases c8 : l0_7.any (fun n => !impl_ConfigOk.sgn n) with
                  | true =>
                    rw [show impl_ConfigOk.ok a0_0 a0_1 a0_2 a0_3 a0_4 a0_5 a0_6 l0_7 = false by unfold impl_ConfigOk.ok; rw [c0, c1, c2, c3, c4, c5, c6, c7, c8]; simp]
                    go_enter Try.func14, Try.ntmps14
                    go_wp2_with (first | (go_at_call 33; (with_reducible refine (impl_ConfigOk.wi _ _ _ _).mono ?_); rintro e w' ⟨rfl, nd, rfl⟩) | (go_at_call 34; (with_reducible refine (impl_ConfigOk.cf _ _ l0_7 _ _ ?side1 c8).mono ?_); (case side1 => repeat (first | exact HR.out | (with_reducible refine Kd.C_alloc ?_ _) | (with_reducible refine Kd.C_drewN ?_ _) | (with_reducible refine Kd.C_drew ?_))); rintro e w' ⟨rfl, nd, rfl⟩))
                    go_ret
                    exact ⟨rfl, by repeat (first | (with_reducible first | exact Below.refl _ _ | apply below_alloc | apply pw_below_drewN | apply below_drew1) | exact Below.refl _ _)⟩
                  | false =>
                    rw [show impl_ConfigOk.ok a0_0 a0_1 a0_2 a0_3 a0_4 a0_5 a0_6 l0_7 = true by unfold impl_ConfigOk.ok; rw [c0, c1, c2, c3, c4, c5, c6, c7, c8]; rfl]
                    go_enter Try.func14, Try.ntmps14
                    go_wp2_with (first | (go_at_call 33; (with_reducible refine (impl_ConfigOk.wi _ _ _ _).mono ?_); rintro e w' ⟨rfl, nd, rfl⟩) | (go_at_call 34; (with_reducible refine (impl_ConfigOk.cf _ _ l0_7 _ _ ?side1 c8).mono ?_); (case side1 => repeat (first | exact HR.out | (with_reducible refine Kd.C_alloc ?_ _) | (with_reducible refine Kd.C_drewN ?_ _) | (with_reducible refine Kd.C_drew ?_))); rintro e w' ⟨rfl, nd, rfl⟩))
                    go_ret
                    exact ⟨rfl, by repeat (first | (with_reducible first | exact Below.refl _ _ | apply below_alloc | apply pw_below_drewN | apply below_drew1) | exact Below.refl _ _)⟩
theorem impl_ConfigOk.calls (a0_0 : Int) (a0_1 : Int) (a0_2 : Int) (a0_3 : Int) (a0_4 : Int) (a0_5 : Int) (a0_6 : Int) (A0_7 : Option Addr) (c0_7 : Nat) (l0_7 : List Int) (r : Bool) (w : World) (hr0_7 : Kd.C (Kd.int .i64) w A0_7 l0_7.length l0_7) (hc0_7 : l0_7.length ≤ c0_7) (h : impl_ConfigOk.f a0_0 a0_1 a0_2 a0_3 a0_4 a0_5 a0_6 l0_7 = some r) :
    Calls Try.prog 14 #[.agg #[.int .i64 a0_0, .int .i64 a0_1, .int .i64 a0_2, .int .i64 a0_3, .int .i64 a0_4, .int .i64 a0_5, .int .i64 a0_6, .slice A0_7 l0_7.length c0_7]] w fun e w' => e = .returned (.bool r) ∧ Below w.heap.size w w' := by
  obtain rfl := Option.some.inj h
  exact impl_ConfigOk.walk a0_0 a0_1 a0_2 a0_3 a0_4 a0_5 a0_6 A0_7 c0_7 l0_7 w hr0_7 hc0_7

/-! ### laws_eqIntS: function 37 -/
def laws_eqIntS.l0 : Nat → List Int → List Int → Int → Option (Bool)
  | 0, _, _, _ => none
  | k + 1, x0, x1, x5 => if x5 < (x0.length : Int) then (if 0 ≤ x5 then (if x5 < (x1.length : Int) then (if (rd x0 x5) = (rd x1 x5) then (laws_eqIntS.l0 k x0 x1 (wrap64 (x5 + 1))) else (some false)) else (none)) else (none)) else (some true)
def laws_eqIntS.f (k : Nat) (l0 : List Int) (l1 : List Int) : Option (Bool) := if (l0.length : Int) = (l1.length : Int) then (laws_eqIntS.l0 k l0 l1 0) else (some false)
theorem laws_eqIntS.mono_l : ∀ k, (∀ y0 y1 y2, LeO (laws_eqIntS.l0 k y0 y1 y2) (laws_eqIntS.l0 (k + 1) y0 y1 y2))
  | 0 => fun _ _ _ r h => by simp [laws_eqIntS.l0] at h
  | k + 1 => by
    have ih0 := laws_eqIntS.mono_l k
    · intro y0 y1 y2
      unfold laws_eqIntS.l0
      repeat' first
      | (with_reducible exact ih0 _ _ _)
      | (with_reducible exact LeO.refl _)
      | (with_reducible exact LeO.none _)
      | (with_reducible refine LeO.ite ?_ ?_)
      | (with_reducible refine LeO.bind ?_ (fun _ => ?_))
      | exact ih0 _ _ _
      | exact LeO.none _
      | refine LeO.ite ?_ ?_
      | refine LeO.bind ?_ (fun _ => ?_)
theorem laws_eqIntS.mono : ∀ a0 a1 k, LeO (laws_eqIntS.f k a0 a1) (laws_eqIntS.f (k + 1) a0 a1) := by
  intro a0 a1 k
  have ih0 := laws_eqIntS.mono_l k
  unfold laws_eqIntS.f
  repeat' first
      | (with_reducible exact ih0 _ _ _)
      | (with_reducible exact LeO.refl _)
      | (with_reducible exact LeO.none _)
      | (with_reducible refine LeO.ite ?_ ?_)
      | (with_reducible refine LeO.bind ?_ (fun _ => ?_))
      | exact ih0 _ _ _
      | exact LeO.none _
      | refine LeO.ite ?_ ?_
      | refine LeO.bind ?_ (fun _ => ?_)
set_option maxHeartbeats 8000000 in
set_option maxRecDepth 100000 in
theorem laws_eqIntS.calls (k : Nat) (A0 : Option Addr) (c0 : Nat) (l0 : List Int) (A1 : Option Addr) (c1 : Nat) (l1 : List Int) (r : Bool) (w : World) (hr0 : Kd.C (Kd.int .i64) w A0 l0.length l0) (hc0 : l0.length ≤ c0) (hr1 : Kd.C (Kd.int .i64) w A1 l1.length l1) (hc1 : l1.length ≤ c1) (h : laws_eqIntS.f k l0 l1 = some r) :
    Calls Try.prog 37 #[.slice A0 l0.length c0, .slice A1 l1.length c1] w fun e w' => e = .returned (.bool r) ∧ Drawn0 w w' := by
  have HR0 := Aside0.mk hr0
  have HC0 := Aside0.mk hc0
  clear hr0 hc0
  have HR1 := Aside0.mk hr1
  have HC1 := Aside0.mk hc1
  clear hr1 hc1
  have H : (if (l0.length : Int) = (l1.length : Int) then (laws_eqIntS.l0 k l0 l1 0) else (some false)) = some r := h
  clear h
  by_cases c3 : (l0.length : Int) = (l1.length : Int)
  · rw [if_pos c3] at H
    have c3b0 : ((l0.length : Int) == (l1.length : Int)) = true := beq_iff_eq.mpr c3
    have c3b1 : ((l0.length : Int) != (l1.length : Int)) = false := bne_eq_false_iff_eq.mpr c3
    have c3b2 : (l0.length == l1.length) = true := by first | simpa using c3 | (simp at c3 ⊢; omega)
    clear c3
    have H' := Aside0.mk H
    clear H
    go_enter Try.func37, Try.ntmps37
    go_wp2
    repeat (go_quiet (fail); try go_wp2)
    go_loopg [5] k (fun kq v5 w' => ∃ (x5_1 : Int), v5 = .int .i64 x5_1 ∧ Aside0 (laws_eqIntS.l0 kq l0 l1 x5_1 = some r) ∧ Aside0 (kq ≤ k) ∧ Drawn0 w w')
    case atStart => exact ⟨(0), (by first | rfl | (simp; done) | (simp [*]; done)), H', ⟨Nat.le_refl _⟩, by repeat (first | exact Drawn0.refl _ | apply Drawn0.step)⟩
    case round =>
      clear H'
      try clear c1
      try clear p2
      try clear c3
      try clear c3b0
      try clear c3b1
      try clear c3b2
      obtain ⟨x5_1, rfl, HA, HK1, ⟨m1, rfl⟩⟩ := hrel
      cases gk with
      | zero => exact absurd HA.out (by simp [laws_eqIntS.l0])
      | succ k1 =>
        have H := HA.out
        clear HA
        simp only [laws_eqIntS.l0] at H
        by_cases c4 : x5_1 < (l0.length : Int)
        · rw [if_pos c4] at H
          have c4b0 : decide (x5_1 < (l0.length : Int)) = true := decide_eq_true c4
          clear c4
          by_cases c5 : 0 ≤ x5_1
          · rw [if_pos c5] at H
            have c5b0 : decide (0 ≤ x5_1) = true := decide_eq_true c5
            clear c5
            by_cases c6 : x5_1 < (l1.length : Int)
            · rw [if_pos c6] at H
              have c6b0 : decide (x5_1 < (l1.length : Int)) = true := decide_eq_true c6
              clear c6
              by_cases c7 : (rd l0 x5_1) = (rd l1 x5_1)
              · rw [if_pos c7] at H
                have c7b0 : ((rd l0 x5_1) == (rd l1 x5_1)) = true := beq_iff_eq.mpr c7
                have c7b1 : ((rd l0 x5_1) != (rd l1 x5_1)) = false := bne_eq_false_iff_eq.mpr c7
                clear c7
                have H' := Aside0.mk H
                clear H
                have p143 : 0 ≤ (x5_1 : Int) := of_decide_eq_true (by first | (with_reducible assumption) | assumption)
                have q143 : x5_1 < (l0.length : Int) := of_decide_eq_true (by first | (with_reducible assumption) | assumption)
                obtain ⟨ad143, e143, hx143_0⟩ := Kd.at_int HR0.out x5_1 p143 q143
                cases e143
                replace p143 := eq_true p143
                replace q143 := eq_true q143
                have p144 : 0 ≤ (x5_1 : Int) := of_decide_eq_true (by first | (with_reducible assumption) | assumption)
                have q144 : x5_1 < (l1.length : Int) := of_decide_eq_true (by first | (with_reducible assumption) | assumption)
                obtain ⟨ad144, e144, hx144_0⟩ := Kd.at_int HR1.out x5_1 p144 q144
                cases e144
                replace p144 := eq_true p144
                replace q144 := eq_true q144
                go_wp2
                repeat (go_quiet (fail); try go_wp2)
                go_roundg k1
                case measure => have := HK1.out; omega
                case rel => exact ⟨(wrap64 (x5_1 + 1)), (by first | rfl | (simp; done) | (simp [*]; done)), H', ⟨by have := HK1.out; omega⟩, by repeat (first | exact Drawn0.refl _ | apply Drawn0.step)⟩
              · rw [if_neg c7] at H
                have c7b0 : ((rd l0 x5_1) == (rd l1 x5_1)) = false := beq_eq_false_iff_ne.mpr c7
                have c7b1 : ((rd l0 x5_1) != (rd l1 x5_1)) = true := bne_iff_ne.mpr c7
                obtain rfl := Option.some.inj H
                have p143 : 0 ≤ (x5_1 : Int) := of_decide_eq_true (by first | (with_reducible assumption) | assumption)
                have q143 : x5_1 < (l0.length : Int) := of_decide_eq_true (by first | (with_reducible assumption) | assumption)
                obtain ⟨ad143, e143, hx143_0⟩ := Kd.at_int HR0.out x5_1 p143 q143
                cases e143
                replace p143 := eq_true p143
                replace q143 := eq_true q143
                have p144 : 0 ≤ (x5_1 : Int) := of_decide_eq_true (by first | (with_reducible assumption) | assumption)
                have q144 : x5_1 < (l1.length : Int) := of_decide_eq_true (by first | (with_reducible assumption) | assumption)
                obtain ⟨ad144, e144, hx144_0⟩ := Kd.at_int HR1.out x5_1 p144 q144
                cases e144
                replace p144 := eq_true p144
                replace q144 := eq_true q144
                go_wp2
                repeat (go_quiet (fail); try go_wp2)
                go_ret
                exact ⟨by first | rfl | (simp; done) | (simp [*]; done), by repeat (first | exact Drawn0.refl _ | apply Drawn0.step)⟩
            · rw [if_neg c6] at H
              exact absurd H (by simp)
          · rw [if_neg c5] at H
            exact absurd H (by simp)
        · rw [if_neg c4] at H
          have c4b0 : decide (x5_1 < (l0.length : Int)) = false := decide_eq_false c4
          clear c4
          obtain rfl := Option.some.inj H
          go_wp2
          repeat (go_quiet (fail); try go_wp2)
          go_ret
          exact ⟨by first | rfl | (simp; done) | (simp [*]; done), by repeat (first | exact Drawn0.refl _ | apply Drawn0.step)⟩
  · rw [if_neg c3] at H
    have c3b0 : ((l0.length : Int) == (l1.length : Int)) = false := beq_eq_false_iff_ne.mpr c3
    have c3b1 : ((l0.length : Int) != (l1.length : Int)) = true := bne_iff_ne.mpr c3
    have c3b2 : (l0.length == l1.length) = false := by first | simpa using c3 | (simp at c3 ⊢; omega)
    obtain rfl := Option.some.inj H
    go_enter Try.func37, Try.ntmps37
    go_wp2
    repeat (go_quiet (fail); try go_wp2)
    go_ret
    exact ⟨by first | rfl | (simp; done) | (simp [*]; done), by repeat (first | exact Drawn0.refl _ | apply Drawn0.step)⟩

/-! ### laws_eqConfig: function 15 -/
def laws_eqConfig.f (k : Nat) (a0_0 : Int) (a0_1 : Int) (a0_2 : Int) (a0_3 : Int) (a0_4 : Int) (a0_5 : Int) (a0_6 : Int) (l0_7 : List Int) (a1_0 : Int) (a1_1 : Int) (a1_2 : Int) (a1_3 : Int) (a1_4 : Int) (a1_5 : Int) (a1_6 : Int) (l1_7 : List Int) : Option (Bool) := if a0_0 = a1_0 then (if a0_1 = a1_1 then (if a0_2 = a1_2 then (if a0_3 = a1_3 then (if a0_4 = a1_4 then (if a0_5 = a1_5 then (if a0_6 = a1_6 then ((laws_eqIntS.f k l0_7 l1_7).bind fun t147 => (if t147 = true then (some true) else (some false))) else (some false)) else (some false)) else (some false)) else (some false)) else (some false)) else (some false)) else (some false)
theorem laws_eqConfig.mono : ∀ a0 a1 a2 a3 a4 a5 a6 a7 a8 a9 a10 a11 a12 a13 a14 a15 k, LeO (laws_eqConfig.f k a0 a1 a2 a3 a4 a5 a6 a7 a8 a9 a10 a11 a12 a13 a14 a15) (laws_eqConfig.f (k + 1) a0 a1 a2 a3 a4 a5 a6 a7 a8 a9 a10 a11 a12 a13 a14 a15) := by
  intro a0 a1 a2 a3 a4 a5 a6 a7 a8 a9 a10 a11 a12 a13 a14 a15 k
  unfold laws_eqConfig.f
  repeat' first
      | (with_reducible exact laws_eqIntS.mono _ _ _)
      | (with_reducible exact LeO.refl _)
      | (with_reducible exact LeO.none _)
      | (with_reducible refine LeO.ite ?_ ?_)
      | (with_reducible refine LeO.bind ?_ (fun _ => ?_))
      | exact laws_eqIntS.mono _ _ _
      | exact LeO.none _
      | refine LeO.ite ?_ ?_
      | refine LeO.bind ?_ (fun _ => ?_)
set_option maxHeartbeats 8000000 in
set_option maxRecDepth 100000 in
theorem laws_eqConfig.calls (k : Nat) (a0_0 : Int) (a0_1 : Int) (a0_2 : Int) (a0_3 : Int) (a0_4 : Int) (a0_5 : Int) (a0_6 : Int) (A0_7 : Option Addr) (c0_7 : Nat) (l0_7 : List Int) (a1_0 : Int) (a1_1 : Int) (a1_2 : Int) (a1_3 : Int) (a1_4 : Int) (a1_5 : Int) (a1_6 : Int) (A1_7 : Option Addr) (c1_7 : Nat) (l1_7 : List Int) (r : Bool) (w : World) (hr0_7 : Kd.C (Kd.int .i64) w A0_7 l0_7.length l0_7) (hc0_7 : l0_7.length ≤ c0_7) (hr1_7 : Kd.C (Kd.int .i64) w A1_7 l1_7.length l1_7) (hc1_7 : l1_7.length ≤ c1_7) (h : laws_eqConfig.f k a0_0 a0_1 a0_2 a0_3 a0_4 a0_5 a0_6 l0_7 a1_0 a1_1 a1_2 a1_3 a1_4 a1_5 a1_6 l1_7 = some r) :
    Calls Try.prog 15 #[.agg #[.int .i64 a0_0, .int .i64 a0_1, .int .i64 a0_2, .int .i64 a0_3, .int .i64 a0_4, .int .i64 a0_5, .int .i64 a0_6, .slice A0_7 l0_7.length c0_7], .agg #[.int .i64 a1_0, .int .i64 a1_1, .int .i64 a1_2, .int .i64 a1_3, .int .i64 a1_4, .int .i64 a1_5, .int .i64 a1_6, .slice A1_7 l1_7.length c1_7]] w fun e w' => e = .returned (.bool r) ∧ Below w.heap.size w w' := by
  have hu31 := Try.underlying31
  have HR0_7 := Aside0.mk hr0_7
  have HC0_7 := Aside0.mk hc0_7
  clear hr0_7 hc0_7
  have HR1_7 := Aside0.mk hr1_7
  have HC1_7 := Aside0.mk hc1_7
  clear hr1_7 hc1_7
  have HB := Aside0.mk (Below.refl w.heap.size w)
  have H : (if a0_0 = a1_0 then (if a0_1 = a1_1 then (if a0_2 = a1_2 then (if a0_3 = a1_3 then (if a0_4 = a1_4 then (if a0_5 = a1_5 then (if a0_6 = a1_6 then ((laws_eqIntS.f k l0_7 l1_7).bind fun t147 => (if t147 = true then (some true) else (some false))) else (some false)) else (some false)) else (some false)) else (some false)) else (some false)) else (some false)) else (some false)) = some r := h
  clear h
  by_cases c3 : a0_0 = a1_0
  · rw [if_pos c3] at H
    have c3b0 : (a0_0 == a1_0) = true := beq_iff_eq.mpr c3
    have c3b1 : (a0_0 != a1_0) = false := bne_eq_false_iff_eq.mpr c3
    clear c3
    by_cases c4 : a0_1 = a1_1
    · rw [if_pos c4] at H
      have c4b0 : (a0_1 == a1_1) = true := beq_iff_eq.mpr c4
      have c4b1 : (a0_1 != a1_1) = false := bne_eq_false_iff_eq.mpr c4
      clear c4
      by_cases c5 : a0_2 = a1_2
      · rw [if_pos c5] at H
        have c5b0 : (a0_2 == a1_2) = true := beq_iff_eq.mpr c5
        have c5b1 : (a0_2 != a1_2) = false := bne_eq_false_iff_eq.mpr c5
        clear c5
        by_cases c6 : a0_3 = a1_3
        · rw [if_pos c6] at H
          have c6b0 : (a0_3 == a1_3) = true := beq_iff_eq.mpr c6
          have c6b1 : (a0_3 != a1_3) = false := bne_eq_false_iff_eq.mpr c6
          clear c6
          by_cases c7 : a0_4 = a1_4
          · rw [if_pos c7] at H
            have c7b0 : (a0_4 == a1_4) = true := beq_iff_eq.mpr c7
            have c7b1 : (a0_4 != a1_4) = false := bne_eq_false_iff_eq.mpr c7
            clear c7
            by_cases c8 : a0_5 = a1_5
            · rw [if_pos c8] at H
              have c8b0 : (a0_5 == a1_5) = true := beq_iff_eq.mpr c8
              have c8b1 : (a0_5 != a1_5) = false := bne_eq_false_iff_eq.mpr c8
              clear c8
              by_cases c9 : a0_6 = a1_6
              · rw [if_pos c9] at H
                have c9b0 : (a0_6 == a1_6) = true := beq_iff_eq.mpr c9
                have c9b1 : (a0_6 != a1_6) = false := bne_eq_false_iff_eq.mpr c9
                clear c9
                replace H := Option.bind_eq_some_iff.mp H
                obtain ⟨t147, A100, H⟩ := H
                replace H : (if t147 = true then (some true) else (some false)) = some r := H
                have A10 := Aside0.mk A100
                clear A100
                by_cases c11 : t147 = true
                · subst c11
                  have H1 : (some true) = some r := by rw [if_pos rfl] at H; exact H
                  clear H
                  have H := H1
                  clear H1
                  obtain rfl := Option.some.inj H
                  go_enter Try.func15, Try.ntmps15
                  go_wp2_with (first | ((with_reducible refine gate_dst (N := 2) rfl ?_); refine box_event ?hg (N := 2) ?hd (cs := #[.int .i64 a0_0, .int .i64 a0_1, .int .i64 a0_2, .int .i64 a0_3, .int .i64 a0_4, .int .i64 a0_5, .int .i64 a0_6, .slice A0_7 l0_7.length c0_7]) (t := 31) ?hr ?_; (case hd => rfl); (case hg => rfl); (case hr => first | (go_simp; done) | (go_simp; rfl)); intro gb145 hg w12 hbox hb; have n0_ := Aside0.mk (below_step bel_ hb); have n1_ := Aside0.mk (hbox); have n2_ := bs_ (w := w) hg; have n3_ := bs_ (w := w) hg; clear HB; have HB := n0_; have BK145 := n1_; have GW145 := n2_; have GE145 := n3_; clear n0_ n1_ n2_ n3_; clear hb hbox hg) | ((with_reducible refine gate_dst (N := 3) rfl ?_); refine box_event ?hg (N := 3) ?hd (cs := #[.int .i64 a1_0, .int .i64 a1_1, .int .i64 a1_2, .int .i64 a1_3, .int .i64 a1_4, .int .i64 a1_5, .int .i64 a1_6, .slice A1_7 l1_7.length c1_7]) (t := 31) ?hr ?_; (case hd => rfl); (case hg => rfl); (case hr => first | (go_simp; done) | (go_simp; rfl)); intro gb146 hg w13 hbox hb; have n0_ := bb_ (g := gb145) hb; have n1_ := Aside0.mk (below_step bel_ hb); have n2_ := Aside0.mk (hbox); have n3_ := bs_ (w := w) hg; have n4_ := bs_ (w := w) hg; have n5_ := nlt_ (g := gb145) hg; have n6_ := ngt_ (g := gb145) hg; clear BK145; clear HB; have BK145 := n0_; have HB := n1_; have BK146 := n2_; have GW146 := n3_; have GE146 := n4_; have NB145_146 := n5_; have NB146_145 := n6_; clear n0_ n1_ n2_ n3_ n4_ n5_ n6_; clear hb hbox hg; have hnb14 := NB145_146.out; have hnc14 := NB146_145.out; have hcz15_0 : w13.cell? ⟨gb145, 0, none⟩ = some (.int .i64 a0_0) := bc_; have hcz15_1 : w13.cell? ⟨gb145, 1, none⟩ = some (.int .i64 a0_1) := bc_; have hcz15_2 : w13.cell? ⟨gb145, 2, none⟩ = some (.int .i64 a0_2) := bc_; have hcz15_3 : w13.cell? ⟨gb145, 3, none⟩ = some (.int .i64 a0_3) := bc_; have hcz15_4 : w13.cell? ⟨gb145, 4, none⟩ = some (.int .i64 a0_4) := bc_; have hcz15_5 : w13.cell? ⟨gb145, 5, none⟩ = some (.int .i64 a0_5) := bc_; have hcz15_6 : w13.cell? ⟨gb145, 6, none⟩ = some (.int .i64 a0_6) := bc_; have hcz15_7 : w13.cell? ⟨gb145, 7, none⟩ = some (.slice A0_7 l0_7.length c0_7) := bc_; have hfz15_0 := blk_frozen BK145.out 0; have hfz15_1 := blk_frozen BK145.out 1; have hfz15_2 := blk_frozen BK145.out 2; have hfz15_3 := blk_frozen BK145.out 3; have hfz15_4 := blk_frozen BK145.out 4; have hfz15_5 := blk_frozen BK145.out 5; have hfz15_6 := blk_frozen BK145.out 6; have hfz15_7 := blk_frozen BK145.out 7; have hcz16_0 : w13.cell? ⟨gb146, 0, none⟩ = some (.int .i64 a1_0) := bc_; have hcz16_1 : w13.cell? ⟨gb146, 1, none⟩ = some (.int .i64 a1_1) := bc_; have hcz16_2 : w13.cell? ⟨gb146, 2, none⟩ = some (.int .i64 a1_2) := bc_; have hcz16_3 : w13.cell? ⟨gb146, 3, none⟩ = some (.int .i64 a1_3) := bc_; have hcz16_4 : w13.cell? ⟨gb146, 4, none⟩ = some (.int .i64 a1_4) := bc_; have hcz16_5 : w13.cell? ⟨gb146, 5, none⟩ = some (.int .i64 a1_5) := bc_; have hcz16_6 : w13.cell? ⟨gb146, 6, none⟩ = some (.int .i64 a1_6) := bc_; have hcz16_7 : w13.cell? ⟨gb146, 7, none⟩ = some (.slice A1_7 l1_7.length c1_7) := bc_; have hfz16_0 := blk_frozen BK146.out 0; have hfz16_1 := blk_frozen BK146.out 1; have hfz16_2 := blk_frozen BK146.out 2; have hfz16_3 := blk_frozen BK146.out 3; have hfz16_4 := blk_frozen BK146.out 4; have hfz16_5 := blk_frozen BK146.out 5; have hfz16_6 := blk_frozen BK146.out 6; have hfz16_7 := blk_frozen BK146.out 7) | ((with_reducible refine gate_callee (f := 37) rfl ?_); refine goesL_ (some 44) rfl rfl Try.func37 (by kernel_rfl) rfl #[.slice A0_7 l0_7.length c0_7, .slice A1_7 l1_7.length c1_7] rfl mp_ ?_; (with_reducible refine (laws_eqIntS.calls k _ _ l0_7 _ _ l1_7 true _ ?side1 ?side2 ?side3 ?side4 A10.out).mono ?_); (case side1 => repeat (first | exact (Kd.C_below HR0_7.out HB.out) | (with_reducible refine Kd.C_alloc ?_ _) | (with_reducible refine Kd.C_drewN ?_ _) | (with_reducible refine Kd.C_drew ?_))); (case side2 => exact HC0_7.out); (case side3 => repeat (first | exact (Kd.C_below HR1_7.out HB.out) | (with_reducible refine Kd.C_alloc ?_ _) | (with_reducible refine Kd.C_drewN ?_ _) | (with_reducible refine Kd.C_drew ?_))); (case side4 => exact HC1_7.out); rintro e w' ⟨rfl, ⟨nd, rfl⟩⟩; refine ⟨_, rfl, ?_⟩))
                  go_ret
                  exact ⟨rf_, bel_⟩
                · replace c11 := Bool.eq_false_iff.mpr c11
                  subst c11
                  have H1 : (some false) = some r := by rw [if_neg (show ¬ (false = true) by decide)] at H; exact H
                  clear H
                  have H := H1
                  clear H1
                  obtain rfl := Option.some.inj H
                  go_enter Try.func15, Try.ntmps15
                  go_wp2_with (first | ((with_reducible refine gate_dst (N := 2) rfl ?_); refine box_event ?hg (N := 2) ?hd (cs := #[.int .i64 a0_0, .int .i64 a0_1, .int .i64 a0_2, .int .i64 a0_3, .int .i64 a0_4, .int .i64 a0_5, .int .i64 a0_6, .slice A0_7 l0_7.length c0_7]) (t := 31) ?hr ?_; (case hd => rfl); (case hg => rfl); (case hr => first | (go_simp; done) | (go_simp; rfl)); intro gb145 hg w17 hbox hb; have n0_ := Aside0.mk (below_step bel_ hb); have n1_ := Aside0.mk (hbox); have n2_ := bs_ (w := w) hg; have n3_ := bs_ (w := w) hg; clear HB; have HB := n0_; have BK145 := n1_; have GW145 := n2_; have GE145 := n3_; clear n0_ n1_ n2_ n3_; clear hb hbox hg) | ((with_reducible refine gate_dst (N := 3) rfl ?_); refine box_event ?hg (N := 3) ?hd (cs := #[.int .i64 a1_0, .int .i64 a1_1, .int .i64 a1_2, .int .i64 a1_3, .int .i64 a1_4, .int .i64 a1_5, .int .i64 a1_6, .slice A1_7 l1_7.length c1_7]) (t := 31) ?hr ?_; (case hd => rfl); (case hg => rfl); (case hr => first | (go_simp; done) | (go_simp; rfl)); intro gb146 hg w18 hbox hb; have n0_ := bb_ (g := gb145) hb; have n1_ := Aside0.mk (below_step bel_ hb); have n2_ := Aside0.mk (hbox); have n3_ := bs_ (w := w) hg; have n4_ := bs_ (w := w) hg; have n5_ := nlt_ (g := gb145) hg; have n6_ := ngt_ (g := gb145) hg; clear BK145; clear HB; have BK145 := n0_; have HB := n1_; have BK146 := n2_; have GW146 := n3_; have GE146 := n4_; have NB145_146 := n5_; have NB146_145 := n6_; clear n0_ n1_ n2_ n3_ n4_ n5_ n6_; clear hb hbox hg; have hnb19 := NB145_146.out; have hnc19 := NB146_145.out; have hcz20_0 : w18.cell? ⟨gb145, 0, none⟩ = some (.int .i64 a0_0) := bc_; have hcz20_1 : w18.cell? ⟨gb145, 1, none⟩ = some (.int .i64 a0_1) := bc_; have hcz20_2 : w18.cell? ⟨gb145, 2, none⟩ = some (.int .i64 a0_2) := bc_; have hcz20_3 : w18.cell? ⟨gb145, 3, none⟩ = some (.int .i64 a0_3) := bc_; have hcz20_4 : w18.cell? ⟨gb145, 4, none⟩ = some (.int .i64 a0_4) := bc_; have hcz20_5 : w18.cell? ⟨gb145, 5, none⟩ = some (.int .i64 a0_5) := bc_; have hcz20_6 : w18.cell? ⟨gb145, 6, none⟩ = some (.int .i64 a0_6) := bc_; have hcz20_7 : w18.cell? ⟨gb145, 7, none⟩ = some (.slice A0_7 l0_7.length c0_7) := bc_; have hfz20_0 := blk_frozen BK145.out 0; have hfz20_1 := blk_frozen BK145.out 1; have hfz20_2 := blk_frozen BK145.out 2; have hfz20_3 := blk_frozen BK145.out 3; have hfz20_4 := blk_frozen BK145.out 4; have hfz20_5 := blk_frozen BK145.out 5; have hfz20_6 := blk_frozen BK145.out 6; have hfz20_7 := blk_frozen BK145.out 7; have hcz21_0 : w18.cell? ⟨gb146, 0, none⟩ = some (.int .i64 a1_0) := bc_; have hcz21_1 : w18.cell? ⟨gb146, 1, none⟩ = some (.int .i64 a1_1) := bc_; have hcz21_2 : w18.cell? ⟨gb146, 2, none⟩ = some (.int .i64 a1_2) := bc_; have hcz21_3 : w18.cell? ⟨gb146, 3, none⟩ = some (.int .i64 a1_3) := bc_; have hcz21_4 : w18.cell? ⟨gb146, 4, none⟩ = some (.int .i64 a1_4) := bc_; have hcz21_5 : w18.cell? ⟨gb146, 5, none⟩ = some (.int .i64 a1_5) := bc_; have hcz21_6 : w18.cell? ⟨gb146, 6, none⟩ = some (.int .i64 a1_6) := bc_; have hcz21_7 : w18.cell? ⟨gb146, 7, none⟩ = some (.slice A1_7 l1_7.length c1_7) := bc_; have hfz21_0 := blk_frozen BK146.out 0; have hfz21_1 := blk_frozen BK146.out 1; have hfz21_2 := blk_frozen BK146.out 2; have hfz21_3 := blk_frozen BK146.out 3; have hfz21_4 := blk_frozen BK146.out 4; have hfz21_5 := blk_frozen BK146.out 5; have hfz21_6 := blk_frozen BK146.out 6; have hfz21_7 := blk_frozen BK146.out 7) | ((with_reducible refine gate_callee (f := 37) rfl ?_); refine goesL_ (some 44) rfl rfl Try.func37 (by kernel_rfl) rfl #[.slice A0_7 l0_7.length c0_7, .slice A1_7 l1_7.length c1_7] rfl mp_ ?_; (with_reducible refine (laws_eqIntS.calls k _ _ l0_7 _ _ l1_7 false _ ?side1 ?side2 ?side3 ?side4 A10.out).mono ?_); (case side1 => repeat (first | exact (Kd.C_below HR0_7.out HB.out) | (with_reducible refine Kd.C_alloc ?_ _) | (with_reducible refine Kd.C_drewN ?_ _) | (with_reducible refine Kd.C_drew ?_))); (case side2 => exact HC0_7.out); (case side3 => repeat (first | exact (Kd.C_below HR1_7.out HB.out) | (with_reducible refine Kd.C_alloc ?_ _) | (with_reducible refine Kd.C_drewN ?_ _) | (with_reducible refine Kd.C_drew ?_))); (case side4 => exact HC1_7.out); rintro e w' ⟨rfl, ⟨nd, rfl⟩⟩; refine ⟨_, rfl, ?_⟩))
                  go_ret
                  exact ⟨rf_, bel_⟩
              · rw [if_neg c9] at H
                have c9b0 : (a0_6 == a1_6) = false := beq_eq_false_iff_ne.mpr c9
                have c9b1 : (a0_6 != a1_6) = true := bne_iff_ne.mpr c9
                obtain rfl := Option.some.inj H
                go_enter Try.func15, Try.ntmps15
                go_wp2_with (first | ((with_reducible refine gate_dst (N := 2) rfl ?_); refine box_event ?hg (N := 2) ?hd (cs := #[.int .i64 a0_0, .int .i64 a0_1, .int .i64 a0_2, .int .i64 a0_3, .int .i64 a0_4, .int .i64 a0_5, .int .i64 a0_6, .slice A0_7 l0_7.length c0_7]) (t := 31) ?hr ?_; (case hd => rfl); (case hg => rfl); (case hr => first | (go_simp; done) | (go_simp; rfl)); intro gb145 hg w22 hbox hb; have n0_ := Aside0.mk (below_step bel_ hb); have n1_ := Aside0.mk (hbox); have n2_ := bs_ (w := w) hg; have n3_ := bs_ (w := w) hg; clear HB; have HB := n0_; have BK145 := n1_; have GW145 := n2_; have GE145 := n3_; clear n0_ n1_ n2_ n3_; clear hb hbox hg) | ((with_reducible refine gate_dst (N := 3) rfl ?_); refine box_event ?hg (N := 3) ?hd (cs := #[.int .i64 a1_0, .int .i64 a1_1, .int .i64 a1_2, .int .i64 a1_3, .int .i64 a1_4, .int .i64 a1_5, .int .i64 a1_6, .slice A1_7 l1_7.length c1_7]) (t := 31) ?hr ?_; (case hd => rfl); (case hg => rfl); (case hr => first | (go_simp; done) | (go_simp; rfl)); intro gb146 hg w23 hbox hb; have n0_ := bb_ (g := gb145) hb; have n1_ := Aside0.mk (below_step bel_ hb); have n2_ := Aside0.mk (hbox); have n3_ := bs_ (w := w) hg; have n4_ := bs_ (w := w) hg; have n5_ := nlt_ (g := gb145) hg; have n6_ := ngt_ (g := gb145) hg; clear BK145; clear HB; have BK145 := n0_; have HB := n1_; have BK146 := n2_; have GW146 := n3_; have GE146 := n4_; have NB145_146 := n5_; have NB146_145 := n6_; clear n0_ n1_ n2_ n3_ n4_ n5_ n6_; clear hb hbox hg; have hnb24 := NB145_146.out; have hnc24 := NB146_145.out; have hcz25_0 : w23.cell? ⟨gb145, 0, none⟩ = some (.int .i64 a0_0) := bc_; have hcz25_1 : w23.cell? ⟨gb145, 1, none⟩ = some (.int .i64 a0_1) := bc_; have hcz25_2 : w23.cell? ⟨gb145, 2, none⟩ = some (.int .i64 a0_2) := bc_; have hcz25_3 : w23.cell? ⟨gb145, 3, none⟩ = some (.int .i64 a0_3) := bc_; have hcz25_4 : w23.cell? ⟨gb145, 4, none⟩ = some (.int .i64 a0_4) := bc_; have hcz25_5 : w23.cell? ⟨gb145, 5, none⟩ = some (.int .i64 a0_5) := bc_; have hcz25_6 : w23.cell? ⟨gb145, 6, none⟩ = some (.int .i64 a0_6) := bc_; have hcz25_7 : w23.cell? ⟨gb145, 7, none⟩ = some (.slice A0_7 l0_7.length c0_7) := bc_; have hfz25_0 := blk_frozen BK145.out 0; have hfz25_1 := blk_frozen BK145.out 1; have hfz25_2 := blk_frozen BK145.out 2; have hfz25_3 := blk_frozen BK145.out 3; have hfz25_4 := blk_frozen BK145.out 4; have hfz25_5 := blk_frozen BK145.out 5; have hfz25_6 := blk_frozen BK145.out 6; have hfz25_7 := blk_frozen BK145.out 7; have hcz26_0 : w23.cell? ⟨gb146, 0, none⟩ = some (.int .i64 a1_0) := bc_; have hcz26_1 : w23.cell? ⟨gb146, 1, none⟩ = some (.int .i64 a1_1) := bc_; have hcz26_2 : w23.cell? ⟨gb146, 2, none⟩ = some (.int .i64 a1_2) := bc_; have hcz26_3 : w23.cell? ⟨gb146, 3, none⟩ = some (.int .i64 a1_3) := bc_; have hcz26_4 : w23.cell? ⟨gb146, 4, none⟩ = some (.int .i64 a1_4) := bc_; have hcz26_5 : w23.cell? ⟨gb146, 5, none⟩ = some (.int .i64 a1_5) := bc_; have hcz26_6 : w23.cell? ⟨gb146, 6, none⟩ = some (.int .i64 a1_6) := bc_; have hcz26_7 : w23.cell? ⟨gb146, 7, none⟩ = some (.slice A1_7 l1_7.length c1_7) := bc_; have hfz26_0 := blk_frozen BK146.out 0; have hfz26_1 := blk_frozen BK146.out 1; have hfz26_2 := blk_frozen BK146.out 2; have hfz26_3 := blk_frozen BK146.out 3; have hfz26_4 := blk_frozen BK146.out 4; have hfz26_5 := blk_frozen BK146.out 5; have hfz26_6 := blk_frozen BK146.out 6; have hfz26_7 := blk_frozen BK146.out 7))
                go_ret
                exact ⟨rf_, bel_⟩
            · rw [if_neg c8] at H
              have c8b0 : (a0_5 == a1_5) = false := beq_eq_false_iff_ne.mpr c8
              have c8b1 : (a0_5 != a1_5) = true := bne_iff_ne.mpr c8
              obtain rfl := Option.some.inj H
              go_enter Try.func15, Try.ntmps15
              go_wp2_with (first | ((with_reducible refine gate_dst (N := 2) rfl ?_); refine box_event ?hg (N := 2) ?hd (cs := #[.int .i64 a0_0, .int .i64 a0_1, .int .i64 a0_2, .int .i64 a0_3, .int .i64 a0_4, .int .i64 a0_5, .int .i64 a0_6, .slice A0_7 l0_7.length c0_7]) (t := 31) ?hr ?_; (case hd => rfl); (case hg => rfl); (case hr => first | (go_simp; done) | (go_simp; rfl)); intro gb145 hg w27 hbox hb; have n0_ := Aside0.mk (below_step bel_ hb); have n1_ := Aside0.mk (hbox); have n2_ := bs_ (w := w) hg; have n3_ := bs_ (w := w) hg; clear HB; have HB := n0_; have BK145 := n1_; have GW145 := n2_; have GE145 := n3_; clear n0_ n1_ n2_ n3_; clear hb hbox hg) | ((with_reducible refine gate_dst (N := 3) rfl ?_); refine box_event ?hg (N := 3) ?hd (cs := #[.int .i64 a1_0, .int .i64 a1_1, .int .i64 a1_2, .int .i64 a1_3, .int .i64 a1_4, .int .i64 a1_5, .int .i64 a1_6, .slice A1_7 l1_7.length c1_7]) (t := 31) ?hr ?_; (case hd => rfl); (case hg => rfl); (case hr => first | (go_simp; done) | (go_simp; rfl)); intro gb146 hg w28 hbox hb; have n0_ := bb_ (g := gb145) hb; have n1_ := Aside0.mk (below_step bel_ hb); have n2_ := Aside0.mk (hbox); have n3_ := bs_ (w := w) hg; have n4_ := bs_ (w := w) hg; have n5_ := nlt_ (g := gb145) hg; have n6_ := ngt_ (g := gb145) hg; clear BK145; clear HB; have BK145 := n0_; have HB := n1_; have BK146 := n2_; have GW146 := n3_; have GE146 := n4_; have NB145_146 := n5_; have NB146_145 := n6_; clear n0_ n1_ n2_ n3_ n4_ n5_ n6_; clear hb hbox hg; have hnb29 := NB145_146.out; have hnc29 := NB146_145.out; have hcz30_0 : w28.cell? ⟨gb145, 0, none⟩ = some (.int .i64 a0_0) := bc_; have hcz30_1 : w28.cell? ⟨gb145, 1, none⟩ = some (.int .i64 a0_1) := bc_; have hcz30_2 : w28.cell? ⟨gb145, 2, none⟩ = some (.int .i64 a0_2) := bc_; have hcz30_3 : w28.cell? ⟨gb145, 3, none⟩ = some (.int .i64 a0_3) := bc_; have hcz30_4 : w28.cell? ⟨gb145, 4, none⟩ = some (.int .i64 a0_4) := bc_; have hcz30_5 : w28.cell? ⟨gb145, 5, none⟩ = some (.int .i64 a0_5) := bc_; have hcz30_6 : w28.cell? ⟨gb145, 6, none⟩ = some (.int .i64 a0_6) := bc_; have hcz30_7 : w28.cell? ⟨gb145, 7, none⟩ = some (.slice A0_7 l0_7.length c0_7) := bc_; have hfz30_0 := blk_frozen BK145.out 0; have hfz30_1 := blk_frozen BK145.out 1; have hfz30_2 := blk_frozen BK145.out 2; have hfz30_3 := blk_frozen BK145.out 3; have hfz30_4 := blk_frozen BK145.out 4; have hfz30_5 := blk_frozen BK145.out 5; have hfz30_6 := blk_frozen BK145.out 6; have hfz30_7 := blk_frozen BK145.out 7; have hcz31_0 : w28.cell? ⟨gb146, 0, none⟩ = some (.int .i64 a1_0) := bc_; have hcz31_1 : w28.cell? ⟨gb146, 1, none⟩ = some (.int .i64 a1_1) := bc_; have hcz31_2 : w28.cell? ⟨gb146, 2, none⟩ = some (.int .i64 a1_2) := bc_; have hcz31_3 : w28.cell? ⟨gb146, 3, none⟩ = some (.int .i64 a1_3) := bc_; have hcz31_4 : w28.cell? ⟨gb146, 4, none⟩ = some (.int .i64 a1_4) := bc_; have hcz31_5 : w28.cell? ⟨gb146, 5, none⟩ = some (.int .i64 a1_5) := bc_; have hcz31_6 : w28.cell? ⟨gb146, 6, none⟩ = some (.int .i64 a1_6) := bc_; have hcz31_7 : w28.cell? ⟨gb146, 7, none⟩ = some (.slice A1_7 l1_7.length c1_7) := bc_; have hfz31_0 := blk_frozen BK146.out 0; have hfz31_1 := blk_frozen BK146.out 1; have hfz31_2 := blk_frozen BK146.out 2; have hfz31_3 := blk_frozen BK146.out 3; have hfz31_4 := blk_frozen BK146.out 4; have hfz31_5 := blk_frozen BK146.out 5; have hfz31_6 := blk_frozen BK146.out 6; have hfz31_7 := blk_frozen BK146.out 7))
              go_ret
              exact ⟨rf_, bel_⟩
          · rw [if_neg c7] at H
            have c7b0 : (a0_4 == a1_4) = false := beq_eq_false_iff_ne.mpr c7
            have c7b1 : (a0_4 != a1_4) = true := bne_iff_ne.mpr c7
            obtain rfl := Option.some.inj H
            go_enter Try.func15, Try.ntmps15
            go_wp2_with (first | ((with_reducible refine gate_dst (N := 2) rfl ?_); refine box_event ?hg (N := 2) ?hd (cs := #[.int .i64 a0_0, .int .i64 a0_1, .int .i64 a0_2, .int .i64 a0_3, .int .i64 a0_4, .int .i64 a0_5, .int .i64 a0_6, .slice A0_7 l0_7.length c0_7]) (t := 31) ?hr ?_; (case hd => rfl); (case hg => rfl); (case hr => first | (go_simp; done) | (go_simp; rfl)); intro gb145 hg w32 hbox hb; have n0_ := Aside0.mk (below_step bel_ hb); have n1_ := Aside0.mk (hbox); have n2_ := bs_ (w := w) hg; have n3_ := bs_ (w := w) hg; clear HB; have HB := n0_; have BK145 := n1_; have GW145 := n2_; have GE145 := n3_; clear n0_ n1_ n2_ n3_; clear hb hbox hg) | ((with_reducible refine gate_dst (N := 3) rfl ?_); refine box_event ?hg (N := 3) ?hd (cs := #[.int .i64 a1_0, .int .i64 a1_1, .int .i64 a1_2, .int .i64 a1_3, .int .i64 a1_4, .int .i64 a1_5, .int .i64 a1_6, .slice A1_7 l1_7.length c1_7]) (t := 31) ?hr ?_; (case hd => rfl); (case hg => rfl); (case hr => first | (go_simp; done) | (go_simp; rfl)); intro gb146 hg w33 hbox hb; have n0_ := bb_ (g := gb145) hb; have n1_ := Aside0.mk (below_step bel_ hb); have n2_ := Aside0.mk (hbox); have n3_ := bs_ (w := w) hg; have n4_ := bs_ (w := w) hg; have n5_ := nlt_ (g := gb145) hg; have n6_ := ngt_ (g := gb145) hg; clear BK145; clear HB; have BK145 := n0_; have HB := n1_; have BK146 := n2_; have GW146 := n3_; have GE146 := n4_; have NB145_146 := n5_; have NB146_145 := n6_; clear n0_ n1_ n2_ n3_ n4_ n5_ n6_; clear hb hbox hg; have hnb34 := NB145_146.out; have hnc34 := NB146_145.out; have hcz35_0 : w33.cell? ⟨gb145, 0, none⟩ = some (.int .i64 a0_0) := bc_; have hcz35_1 : w33.cell? ⟨gb145, 1, none⟩ = some (.int .i64 a0_1) := bc_; have hcz35_2 : w33.cell? ⟨gb145, 2, none⟩ = some (.int .i64 a0_2) := bc_; have hcz35_3 : w33.cell? ⟨gb145, 3, none⟩ = some (.int .i64 a0_3) := bc_; have hcz35_4 : w33.cell? ⟨gb145, 4, none⟩ = some (.int .i64 a0_4) := bc_; have hcz35_5 : w33.cell? ⟨gb145, 5, none⟩ = some (.int .i64 a0_5) := bc_; have hcz35_6 : w33.cell? ⟨gb145, 6, none⟩ = some (.int .i64 a0_6) := bc_; have hcz35_7 : w33.cell? ⟨gb145, 7, none⟩ = some (.slice A0_7 l0_7.length c0_7) := bc_; have hfz35_0 := blk_frozen BK145.out 0; have hfz35_1 := blk_frozen BK145.out 1; have hfz35_2 := blk_frozen BK145.out 2; have hfz35_3 := blk_frozen BK145.out 3; have hfz35_4 := blk_frozen BK145.out 4; have hfz35_5 := blk_frozen BK145.out 5; have hfz35_6 := blk_frozen BK145.out 6; have hfz35_7 := blk_frozen BK145.out 7; have hcz36_0 : w33.cell? ⟨gb146, 0, none⟩ = some (.int .i64 a1_0) := bc_; have hcz36_1 : w33.cell? ⟨gb146, 1, none⟩ = some (.int .i64 a1_1) := bc_; have hcz36_2 : w33.cell? ⟨gb146, 2, none⟩ = some (.int .i64 a1_2) := bc_; have hcz36_3 : w33.cell? ⟨gb146, 3, none⟩ = some (.int .i64 a1_3) := bc_; have hcz36_4 : w33.cell? ⟨gb146, 4, none⟩ = some (.int .i64 a1_4) := bc_; have hcz36_5 : w33.cell? ⟨gb146, 5, none⟩ = some (.int .i64 a1_5) := bc_; have hcz36_6 : w33.cell? ⟨gb146, 6, none⟩ = some (.int .i64 a1_6) := bc_; have hcz36_7 : w33.cell? ⟨gb146, 7, none⟩ = some (.slice A1_7 l1_7.length c1_7) := bc_; have hfz36_0 := blk_frozen BK146.out 0; have hfz36_1 := blk_frozen BK146.out 1; have hfz36_2 := blk_frozen BK146.out 2; have hfz36_3 := blk_frozen BK146.out 3; have hfz36_4 := blk_frozen BK146.out 4; have hfz36_5 := blk_frozen BK146.out 5; have hfz36_6 := blk_frozen BK146.out 6; have hfz36_7 := blk_frozen BK146.out 7))
            go_ret
            exact ⟨rf_, bel_⟩
        · rw [if_neg c6] at H
          have c6b0 : (a0_3 == a1_3) = false := beq_eq_false_iff_ne.mpr c6
          have c6b1 : (a0_3 != a1_3) = true := bne_iff_ne.mpr c6
          obtain rfl := Option.some.inj H
          go_enter Try.func15, Try.ntmps15
          go_wp2_with (first | ((with_reducible refine gate_dst (N := 2) rfl ?_); refine box_event ?hg (N := 2) ?hd (cs := #[.int .i64 a0_0, .int .i64 a0_1, .int .i64 a0_2, .int .i64 a0_3, .int .i64 a0_4, .int .i64 a0_5, .int .i64 a0_6, .slice A0_7 l0_7.length c0_7]) (t := 31) ?hr ?_; (case hd => rfl); (case hg => rfl); (case hr => first | (go_simp; done) | (go_simp; rfl)); intro gb145 hg w37 hbox hb; have n0_ := Aside0.mk (below_step bel_ hb); have n1_ := Aside0.mk (hbox); have n2_ := bs_ (w := w) hg; have n3_ := bs_ (w := w) hg; clear HB; have HB := n0_; have BK145 := n1_; have GW145 := n2_; have GE145 := n3_; clear n0_ n1_ n2_ n3_; clear hb hbox hg) | ((with_reducible refine gate_dst (N := 3) rfl ?_); refine box_event ?hg (N := 3) ?hd (cs := #[.int .i64 a1_0, .int .i64 a1_1, .int .i64 a1_2, .int .i64 a1_3, .int .i64 a1_4, .int .i64 a1_5, .int .i64 a1_6, .slice A1_7 l1_7.length c1_7]) (t := 31) ?hr ?_; (case hd => rfl); (case hg => rfl); (case hr => first | (go_simp; done) | (go_simp; rfl)); intro gb146 hg w38 hbox hb; have n0_ := bb_ (g := gb145) hb; have n1_ := Aside0.mk (below_step bel_ hb); have n2_ := Aside0.mk (hbox); have n3_ := bs_ (w := w) hg; have n4_ := bs_ (w := w) hg; have n5_ := nlt_ (g := gb145) hg; have n6_ := ngt_ (g := gb145) hg; clear BK145; clear HB; have BK145 := n0_; have HB := n1_; have BK146 := n2_; have GW146 := n3_; have GE146 := n4_; have NB145_146 := n5_; have NB146_145 := n6_; clear n0_ n1_ n2_ n3_ n4_ n5_ n6_; clear hb hbox hg; have hnb39 := NB145_146.out; have hnc39 := NB146_145.out; have hcz40_0 : w38.cell? ⟨gb145, 0, none⟩ = some (.int .i64 a0_0) := bc_; have hcz40_1 : w38.cell? ⟨gb145, 1, none⟩ = some (.int .i64 a0_1) := bc_; have hcz40_2 : w38.cell? ⟨gb145, 2, none⟩ = some (.int .i64 a0_2) := bc_; have hcz40_3 : w38.cell? ⟨gb145, 3, none⟩ = some (.int .i64 a0_3) := bc_; have hcz40_4 : w38.cell? ⟨gb145, 4, none⟩ = some (.int .i64 a0_4) := bc_; have hcz40_5 : w38.cell? ⟨gb145, 5, none⟩ = some (.int .i64 a0_5) := bc_; have hcz40_6 : w38.cell? ⟨gb145, 6, none⟩ = some (.int .i64 a0_6) := bc_; have hcz40_7 : w38.cell? ⟨gb145, 7, none⟩ = some (.slice A0_7 l0_7.length c0_7) := bc_; have hfz40_0 := blk_frozen BK145.out 0; have hfz40_1 := blk_frozen BK145.out 1; have hfz40_2 := blk_frozen BK145.out 2; have hfz40_3 := blk_frozen BK145.out 3; have hfz40_4 := blk_frozen BK145.out 4; have hfz40_5 := blk_frozen BK145.out 5; have hfz40_6 := blk_frozen BK145.out 6; have hfz40_7 := blk_frozen BK145.out 7; have hcz41_0 : w38.cell? ⟨gb146, 0, none⟩ = some (.int .i64 a1_0) := bc_; have hcz41_1 : w38.cell? ⟨gb146, 1, none⟩ = some (.int .i64 a1_1) := bc_; have hcz41_2 : w38.cell? ⟨gb146, 2, none⟩ = some (.int .i64 a1_2) := bc_; have hcz41_3 : w38.cell? ⟨gb146, 3, none⟩ = some (.int .i64 a1_3) := bc_; have hcz41_4 : w38.cell? ⟨gb146, 4, none⟩ = some (.int .i64 a1_4) := bc_; have hcz41_5 : w38.cell? ⟨gb146, 5, none⟩ = some (.int .i64 a1_5) := bc_; have hcz41_6 : w38.cell? ⟨gb146, 6, none⟩ = some (.int .i64 a1_6) := bc_; have hcz41_7 : w38.cell? ⟨gb146, 7, none⟩ = some (.slice A1_7 l1_7.length c1_7) := bc_; have hfz41_0 := blk_frozen BK146.out 0; have hfz41_1 := blk_frozen BK146.out 1; have hfz41_2 := blk_frozen BK146.out 2; have hfz41_3 := blk_frozen BK146.out 3; have hfz41_4 := blk_frozen BK146.out 4; have hfz41_5 := blk_frozen BK146.out 5; have hfz41_6 := blk_frozen BK146.out 6; have hfz41_7 := blk_frozen BK146.out 7))
          go_ret
          exact ⟨rf_, bel_⟩
      · rw [if_neg c5] at H
        have c5b0 : (a0_2 == a1_2) = false := beq_eq_false_iff_ne.mpr c5
        have c5b1 : (a0_2 != a1_2) = true := bne_iff_ne.mpr c5
        obtain rfl := Option.some.inj H
        go_enter Try.func15, Try.ntmps15
        go_wp2_with (first | ((with_reducible refine gate_dst (N := 2) rfl ?_); refine box_event ?hg (N := 2) ?hd (cs := #[.int .i64 a0_0, .int .i64 a0_1, .int .i64 a0_2, .int .i64 a0_3, .int .i64 a0_4, .int .i64 a0_5, .int .i64 a0_6, .slice A0_7 l0_7.length c0_7]) (t := 31) ?hr ?_; (case hd => rfl); (case hg => rfl); (case hr => first | (go_simp; done) | (go_simp; rfl)); intro gb145 hg w42 hbox hb; have n0_ := Aside0.mk (below_step bel_ hb); have n1_ := Aside0.mk (hbox); have n2_ := bs_ (w := w) hg; have n3_ := bs_ (w := w) hg; clear HB; have HB := n0_; have BK145 := n1_; have GW145 := n2_; have GE145 := n3_; clear n0_ n1_ n2_ n3_; clear hb hbox hg) | ((with_reducible refine gate_dst (N := 3) rfl ?_); refine box_event ?hg (N := 3) ?hd (cs := #[.int .i64 a1_0, .int .i64 a1_1, .int .i64 a1_2, .int .i64 a1_3, .int .i64 a1_4, .int .i64 a1_5, .int .i64 a1_6, .slice A1_7 l1_7.length c1_7]) (t := 31) ?hr ?_; (case hd => rfl); (case hg => rfl); (case hr => first | (go_simp; done) | (go_simp; rfl)); intro gb146 hg w43 hbox hb; have n0_ := bb_ (g := gb145) hb; have n1_ := Aside0.mk (below_step bel_ hb); have n2_ := Aside0.mk (hbox); have n3_ := bs_ (w := w) hg; have n4_ := bs_ (w := w) hg; have n5_ := nlt_ (g := gb145) hg; have n6_ := ngt_ (g := gb145) hg; clear BK145; clear HB; have BK145 := n0_; have HB := n1_; have BK146 := n2_; have GW146 := n3_; have GE146 := n4_; have NB145_146 := n5_; have NB146_145 := n6_; clear n0_ n1_ n2_ n3_ n4_ n5_ n6_; clear hb hbox hg; have hnb44 := NB145_146.out; have hnc44 := NB146_145.out; have hcz45_0 : w43.cell? ⟨gb145, 0, none⟩ = some (.int .i64 a0_0) := bc_; have hcz45_1 : w43.cell? ⟨gb145, 1, none⟩ = some (.int .i64 a0_1) := bc_; have hcz45_2 : w43.cell? ⟨gb145, 2, none⟩ = some (.int .i64 a0_2) := bc_; have hcz45_3 : w43.cell? ⟨gb145, 3, none⟩ = some (.int .i64 a0_3) := bc_; have hcz45_4 : w43.cell? ⟨gb145, 4, none⟩ = some (.int .i64 a0_4) := bc_; have hcz45_5 : w43.cell? ⟨gb145, 5, none⟩ = some (.int .i64 a0_5) := bc_; have hcz45_6 : w43.cell? ⟨gb145, 6, none⟩ = some (.int .i64 a0_6) := bc_; have hcz45_7 : w43.cell? ⟨gb145, 7, none⟩ = some (.slice A0_7 l0_7.length c0_7) := bc_; have hfz45_0 := blk_frozen BK145.out 0; have hfz45_1 := blk_frozen BK145.out 1; have hfz45_2 := blk_frozen BK145.out 2; have hfz45_3 := blk_frozen BK145.out 3; have hfz45_4 := blk_frozen BK145.out 4; have hfz45_5 := blk_frozen BK145.out 5; have hfz45_6 := blk_frozen BK145.out 6; have hfz45_7 := blk_frozen BK145.out 7; have hcz46_0 : w43.cell? ⟨gb146, 0, none⟩ = some (.int .i64 a1_0) := bc_; have hcz46_1 : w43.cell? ⟨gb146, 1, none⟩ = some (.int .i64 a1_1) := bc_; have hcz46_2 : w43.cell? ⟨gb146, 2, none⟩ = some (.int .i64 a1_2) := bc_; have hcz46_3 : w43.cell? ⟨gb146, 3, none⟩ = some (.int .i64 a1_3) := bc_; have hcz46_4 : w43.cell? ⟨gb146, 4, none⟩ = some (.int .i64 a1_4) := bc_; have hcz46_5 : w43.cell? ⟨gb146, 5, none⟩ = some (.int .i64 a1_5) := bc_; have hcz46_6 : w43.cell? ⟨gb146, 6, none⟩ = some (.int .i64 a1_6) := bc_; have hcz46_7 : w43.cell? ⟨gb146, 7, none⟩ = some (.slice A1_7 l1_7.length c1_7) := bc_; have hfz46_0 := blk_frozen BK146.out 0; have hfz46_1 := blk_frozen BK146.out 1; have hfz46_2 := blk_frozen BK146.out 2; have hfz46_3 := blk_frozen BK146.out 3; have hfz46_4 := blk_frozen BK146.out 4; have hfz46_5 := blk_frozen BK146.out 5; have hfz46_6 := blk_frozen BK146.out 6; have hfz46_7 := blk_frozen BK146.out 7))
        go_ret
        exact ⟨rf_, bel_⟩
    · rw [if_neg c4] at H
      have c4b0 : (a0_1 == a1_1) = false := beq_eq_false_iff_ne.mpr c4
      have c4b1 : (a0_1 != a1_1) = true := bne_iff_ne.mpr c4
      obtain rfl := Option.some.inj H
      go_enter Try.func15, Try.ntmps15
      go_wp2_with (first | ((with_reducible refine gate_dst (N := 2) rfl ?_); refine box_event ?hg (N := 2) ?hd (cs := #[.int .i64 a0_0, .int .i64 a0_1, .int .i64 a0_2, .int .i64 a0_3, .int .i64 a0_4, .int .i64 a0_5, .int .i64 a0_6, .slice A0_7 l0_7.length c0_7]) (t := 31) ?hr ?_; (case hd => rfl); (case hg => rfl); (case hr => first | (go_simp; done) | (go_simp; rfl)); intro gb145 hg w47 hbox hb; have n0_ := Aside0.mk (below_step bel_ hb); have n1_ := Aside0.mk (hbox); have n2_ := bs_ (w := w) hg; have n3_ := bs_ (w := w) hg; clear HB; have HB := n0_; have BK145 := n1_; have GW145 := n2_; have GE145 := n3_; clear n0_ n1_ n2_ n3_; clear hb hbox hg) | ((with_reducible refine gate_dst (N := 3) rfl ?_); refine box_event ?hg (N := 3) ?hd (cs := #[.int .i64 a1_0, .int .i64 a1_1, .int .i64 a1_2, .int .i64 a1_3, .int .i64 a1_4, .int .i64 a1_5, .int .i64 a1_6, .slice A1_7 l1_7.length c1_7]) (t := 31) ?hr ?_; (case hd => rfl); (case hg => rfl); (case hr => first | (go_simp; done) | (go_simp; rfl)); intro gb146 hg w48 hbox hb; have n0_ := bb_ (g := gb145) hb; have n1_ := Aside0.mk (below_step bel_ hb); have n2_ := Aside0.mk (hbox); have n3_ := bs_ (w := w) hg; have n4_ := bs_ (w := w) hg; have n5_ := nlt_ (g := gb145) hg; have n6_ := ngt_ (g := gb145) hg; clear BK145; clear HB; have BK145 := n0_; have HB := n1_; have BK146 := n2_; have GW146 := n3_; have GE146 := n4_; have NB145_146 := n5_; have NB146_145 := n6_; clear n0_ n1_ n2_ n3_ n4_ n5_ n6_; clear hb hbox hg; have hnb49 := NB145_146.out; have hnc49 := NB146_145.out; have hcz50_0 : w48.cell? ⟨gb145, 0, none⟩ = some (.int .i64 a0_0) := bc_; have hcz50_1 : w48.cell? ⟨gb145, 1, none⟩ = some (.int .i64 a0_1) := bc_; have hcz50_2 : w48.cell? ⟨gb145, 2, none⟩ = some (.int .i64 a0_2) := bc_; have hcz50_3 : w48.cell? ⟨gb145, 3, none⟩ = some (.int .i64 a0_3) := bc_; have hcz50_4 : w48.cell? ⟨gb145, 4, none⟩ = some (.int .i64 a0_4) := bc_; have hcz50_5 : w48.cell? ⟨gb145, 5, none⟩ = some (.int .i64 a0_5) := bc_; have hcz50_6 : w48.cell? ⟨gb145, 6, none⟩ = some (.int .i64 a0_6) := bc_; have hcz50_7 : w48.cell? ⟨gb145, 7, none⟩ = some (.slice A0_7 l0_7.length c0_7) := bc_; have hfz50_0 := blk_frozen BK145.out 0; have hfz50_1 := blk_frozen BK145.out 1; have hfz50_2 := blk_frozen BK145.out 2; have hfz50_3 := blk_frozen BK145.out 3; have hfz50_4 := blk_frozen BK145.out 4; have hfz50_5 := blk_frozen BK145.out 5; have hfz50_6 := blk_frozen BK145.out 6; have hfz50_7 := blk_frozen BK145.out 7; have hcz51_0 : w48.cell? ⟨gb146, 0, none⟩ = some (.int .i64 a1_0) := bc_; have hcz51_1 : w48.cell? ⟨gb146, 1, none⟩ = some (.int .i64 a1_1) := bc_; have hcz51_2 : w48.cell? ⟨gb146, 2, none⟩ = some (.int .i64 a1_2) := bc_; have hcz51_3 : w48.cell? ⟨gb146, 3, none⟩ = some (.int .i64 a1_3) := bc_; have hcz51_4 : w48.cell? ⟨gb146, 4, none⟩ = some (.int .i64 a1_4) := bc_; have hcz51_5 : w48.cell? ⟨gb146, 5, none⟩ = some (.int .i64 a1_5) := bc_; have hcz51_6 : w48.cell? ⟨gb146, 6, none⟩ = some (.int .i64 a1_6) := bc_; have hcz51_7 : w48.cell? ⟨gb146, 7, none⟩ = some (.slice A1_7 l1_7.length c1_7) := bc_; have hfz51_0 := blk_frozen BK146.out 0; have hfz51_1 := blk_frozen BK146.out 1; have hfz51_2 := blk_frozen BK146.out 2; have hfz51_3 := blk_frozen BK146.out 3; have hfz51_4 := blk_frozen BK146.out 4; have hfz51_5 := blk_frozen BK146.out 5; have hfz51_6 := blk_frozen BK146.out 6; have hfz51_7 := blk_frozen BK146.out 7))
      go_ret
      exact ⟨rf_, bel_⟩
  · rw [if_neg c3] at H
    have c3b0 : (a0_0 == a1_0) = false := beq_eq_false_iff_ne.mpr c3
    have c3b1 : (a0_0 != a1_0) = true := bne_iff_ne.mpr c3
    obtain rfl := Option.some.inj H
    go_enter Try.func15, Try.ntmps15
    go_wp2_with (first | ((with_reducible refine gate_dst (N := 2) rfl ?_); refine box_event ?hg (N := 2) ?hd (cs := #[.int .i64 a0_0, .int .i64 a0_1, .int .i64 a0_2, .int .i64 a0_3, .int .i64 a0_4, .int .i64 a0_5, .int .i64 a0_6, .slice A0_7 l0_7.length c0_7]) (t := 31) ?hr ?_; (case hd => rfl); (case hg => rfl); (case hr => first | (go_simp; done) | (go_simp; rfl)); intro gb145 hg w52 hbox hb; have n0_ := Aside0.mk (below_step bel_ hb); have n1_ := Aside0.mk (hbox); have n2_ := bs_ (w := w) hg; have n3_ := bs_ (w := w) hg; clear HB; have HB := n0_; have BK145 := n1_; have GW145 := n2_; have GE145 := n3_; clear n0_ n1_ n2_ n3_; clear hb hbox hg) | ((with_reducible refine gate_dst (N := 3) rfl ?_); refine box_event ?hg (N := 3) ?hd (cs := #[.int .i64 a1_0, .int .i64 a1_1, .int .i64 a1_2, .int .i64 a1_3, .int .i64 a1_4, .int .i64 a1_5, .int .i64 a1_6, .slice A1_7 l1_7.length c1_7]) (t := 31) ?hr ?_; (case hd => rfl); (case hg => rfl); (case hr => first | (go_simp; done) | (go_simp; rfl)); intro gb146 hg w53 hbox hb; have n0_ := bb_ (g := gb145) hb; have n1_ := Aside0.mk (below_step bel_ hb); have n2_ := Aside0.mk (hbox); have n3_ := bs_ (w := w) hg; have n4_ := bs_ (w := w) hg; have n5_ := nlt_ (g := gb145) hg; have n6_ := ngt_ (g := gb145) hg; clear BK145; clear HB; have BK145 := n0_; have HB := n1_; have BK146 := n2_; have GW146 := n3_; have GE146 := n4_; have NB145_146 := n5_; have NB146_145 := n6_; clear n0_ n1_ n2_ n3_ n4_ n5_ n6_; clear hb hbox hg; have hnb54 := NB145_146.out; have hnc54 := NB146_145.out; have hcz55_0 : w53.cell? ⟨gb145, 0, none⟩ = some (.int .i64 a0_0) := bc_; have hcz55_1 : w53.cell? ⟨gb145, 1, none⟩ = some (.int .i64 a0_1) := bc_; have hcz55_2 : w53.cell? ⟨gb145, 2, none⟩ = some (.int .i64 a0_2) := bc_; have hcz55_3 : w53.cell? ⟨gb145, 3, none⟩ = some (.int .i64 a0_3) := bc_; have hcz55_4 : w53.cell? ⟨gb145, 4, none⟩ = some (.int .i64 a0_4) := bc_; have hcz55_5 : w53.cell? ⟨gb145, 5, none⟩ = some (.int .i64 a0_5) := bc_; have hcz55_6 : w53.cell? ⟨gb145, 6, none⟩ = some (.int .i64 a0_6) := bc_; have hcz55_7 : w53.cell? ⟨gb145, 7, none⟩ = some (.slice A0_7 l0_7.length c0_7) := bc_; have hfz55_0 := blk_frozen BK145.out 0; have hfz55_1 := blk_frozen BK145.out 1; have hfz55_2 := blk_frozen BK145.out 2; have hfz55_3 := blk_frozen BK145.out 3; have hfz55_4 := blk_frozen BK145.out 4; have hfz55_5 := blk_frozen BK145.out 5; have hfz55_6 := blk_frozen BK145.out 6; have hfz55_7 := blk_frozen BK145.out 7; have hcz56_0 : w53.cell? ⟨gb146, 0, none⟩ = some (.int .i64 a1_0) := bc_; have hcz56_1 : w53.cell? ⟨gb146, 1, none⟩ = some (.int .i64 a1_1) := bc_; have hcz56_2 : w53.cell? ⟨gb146, 2, none⟩ = some (.int .i64 a1_2) := bc_; have hcz56_3 : w53.cell? ⟨gb146, 3, none⟩ = some (.int .i64 a1_3) := bc_; have hcz56_4 : w53.cell? ⟨gb146, 4, none⟩ = some (.int .i64 a1_4) := bc_; have hcz56_5 : w53.cell? ⟨gb146, 5, none⟩ = some (.int .i64 a1_5) := bc_; have hcz56_6 : w53.cell? ⟨gb146, 6, none⟩ = some (.int .i64 a1_6) := bc_; have hcz56_7 : w53.cell? ⟨gb146, 7, none⟩ = some (.slice A1_7 l1_7.length c1_7) := bc_; have hfz56_0 := blk_frozen BK146.out 0; have hfz56_1 := blk_frozen BK146.out 1; have hfz56_2 := blk_frozen BK146.out 2; have hfz56_3 := blk_frozen BK146.out 3; have hfz56_4 := blk_frozen BK146.out 4; have hfz56_5 := blk_frozen BK146.out 5; have hfz56_6 := blk_frozen BK146.out 6; have hfz56_7 := blk_frozen BK146.out 7))
    go_ret
    exact ⟨rf_, bel_⟩

end Go.Proofs.Ytcbiijfiecjcaaa.PFnExactConfigOk
