/- Contracts of Go functions, each with the Lean function that says what it computes: begun by the print, turned by this session. No condition beyond what each theorem states. -/
import Derived.Test.YtcbiijfiecjcaaaDoorPFnExactConfigTextx0
namespace Go.Proofs.YtcbiijfiecjcaaaDoor.PFnExactConfigText
open Go.RowKit Go.Proofs.YtcbiijfiecjcaaaDoorW.PrintWords Go.Proofs.YtcbiijfiecjcaaaDoorW.PrintLast Go.Proofs.YtcbiijfiecjcaaaDoorW.PrintMore
attribute [local go_sem] max2_int min2_int max_two min_two max_three min_three max_four min_four   -- for this text's walks alone
set_option linter.unusedVariables false
set_option linter.unusedSimpArgs false

/-! ### laws_toIntS: function 35 -/
def laws_toIntS.l0 : Nat → List Int → List Int → Int → Option (List Int)
  | 0, _, _, _ => none
  | k + 1, x0, x3, x4 => if x4 < (x0.length : Int) then (if 0 ≤ x4 then (if x4 < (x3.length : Int) then (laws_toIntS.l0 k x0 (x3.set (x4 : Int).toNat (rd x0 x4)) (wrap64 (x4 + 1))) else (none)) else (none)) else (some x3)
def laws_toIntS.f (k : Nat) (l0 : List Int) : Option (List Int) := if 0 ≤ (l0.length : Int) then (if ((l0.length : Int) : Int).toNat ≤ 35184372088832 then (laws_toIntS.l0 k l0 (List.replicate ((l0.length : Int) : Int).toNat 0) 0) else (none)) else (none)
theorem laws_toIntS.mono_l : ∀ k, (∀ y0 y1 y2, LeO (laws_toIntS.l0 k y0 y1 y2) (laws_toIntS.l0 (k + 1) y0 y1 y2))
  | 0 => fun _ _ _ r h => by simp [laws_toIntS.l0] at h
  | k + 1 => by
    have ih0 := laws_toIntS.mono_l k
    · intro y0 y1 y2
      unfold laws_toIntS.l0
      repeat' first
      | (with_reducible exact ih0 _ _ _)
      | (with_reducible exact LeO.refl _)
      | (with_reducible exact LeO.none _)
      | (with_reducible refine LeO.ite ?_ ?_)
      | (with_reducible refine LeO.bind ?_ (fun _ => ?_))
      | exact ih0 _ _ _
      | exact LeO.none _
      | refine LeO.ite ?_ ?_
      | refine LeO.bind ?_ (fun _ => ?_)
theorem laws_toIntS.mono : ∀ a0 k, LeO (laws_toIntS.f k a0) (laws_toIntS.f (k + 1) a0) := by
  intro a0 k
  have ih0 := laws_toIntS.mono_l k
  unfold laws_toIntS.f
  repeat' first
      | (with_reducible exact ih0 _ _ _)
      | (with_reducible exact LeO.refl _)
      | (with_reducible exact LeO.none _)
      | (with_reducible refine LeO.ite ?_ ?_)
      | (with_reducible refine LeO.bind ?_ (fun _ => ?_))
      | exact ih0 _ _ _
      | exact LeO.none _
      | refine LeO.ite ?_ ?_
      | refine LeO.bind ?_ (fun _ => ?_)
set_option maxHeartbeats 8000000 in
set_option maxRecDepth 100000 in
theorem laws_toIntS.calls (k : Nat) (A0 : Option Addr) (c0 : Nat) (l0 : List Int) (r : List Int) (w : World) (hr0 : Kd.C (Kd.int .i64) w A0 l0.length l0) (hc0 : l0.length ≤ c0) (h : laws_toIntS.f k l0 = some r) :
    Calls Tryd.prog 35 #[.slice A0 l0.length c0] w fun e w' => ∃ v0_ : Value, e = .returned (v0_) ∧ Kd.R (Kd.int .i64) 3 w' w.heap.size (fun _ => True) v0_ r ∧ Below w.heap.size w w' := by
  have HR0 := Aside0.mk hr0
  have HC0 := Aside0.mk hc0
  clear hr0 hc0
  have HB := Aside0.mk (Below.refl w.heap.size w)
  have H : (if 0 ≤ (l0.length : Int) then (if ((l0.length : Int) : Int).toNat ≤ 35184372088832 then (laws_toIntS.l0 k l0 (List.replicate ((l0.length : Int) : Int).toNat 0) 0) else (none)) else (none)) = some r := h
  clear h
  by_cases c2 : 0 ≤ (l0.length : Int)
  · rw [if_pos c2] at H
    have c2b0 := eq_true c2
    have c2b1 : decide (0 ≤ (l0.length : Int)) = true := decide_eq_true c2
    clear c2
    by_cases c3 : ((l0.length : Int) : Int).toNat ≤ 35184372088832
    · rw [if_pos c3] at H
      have c3b0 := eq_true c3
      have c3b1 : decide (((l0.length : Int) : Int).toNat ≤ 35184372088832) = true := decide_eq_true c3
      clear c3
      obtain ⟨y179, hy179⟩ : ∃ y_ : List Int, y_ = (List.replicate ((l0.length : Int) : Int).toNat 0) := ⟨_, rfl⟩
      replace H : (laws_toIntS.l0 k l0 y179 0) = some r := by first | (rw [hy179]; with_reducible exact H) | (have H2_ := (Option.bind_some _ _).symm.trans H; rw [hy179]; with_reducible exact H2_) | (have H2_ := (Option.bind_some _ _).symm.trans H; with_reducible exact H2_) | with_reducible exact H | (rw [hy179]; exact H) | exact H
      have Ny179 := Aside0.mk hy179
      clear hy179
      have H' := Aside0.mk H
      clear H
      go_enter Tryd.func35, Tryd.ntmps35
      go_wp2_with (first | ((with_reducible refine gate_dst (N := 7) rfl ?_); refine Kd.R_make (Kd.int .i64) _ 3 rfl (N := 7) rfl 24 _ _ rfl (l0.length : Int) rfl rfl Tryd.underlying24 (.int .i64 0) 8 info3 rfl (by decide) (by omega) 0 (ok := fun _ => True) (okp := fun _ => True) rfl (fun _ hk => hk) trivial (of_decide_eq_true (by first | (with_reducible assumption) | assumption)) (Nat.le_trans (Nat.mul_le_mul_right _ (of_decide_eq_true (by first | (with_reducible assumption) | assumption) : (l0.length : Int).toNat ≤ 35184372088832)) (by omega)) (Below.refl _ _) (Nat.le_refl _) ?_; intro v180 w4 ho5 hb hg_ hnew_; clear hg_ hnew_; (first | rw [← Ny179.out] at ho5 | (simp only [Int.reduceToNat] at ho5; rw [← Ny179.out] at ho5)); have n0_ := Aside0.mk (Kd.R_lower ho5 (below_size bel_)); have n1_ := Aside0.mk (below_step bel_ hb); clear HB; have HO181 := n0_; have HB := n1_; clear n0_ n1_; clear hb ho5))
      go_loopg [4] k (fun kq v4 w' => ∃ (x3_1 : List Int) (x4_1 : Int), v4 = .int .i64 x4_1 ∧ Aside0 (laws_toIntS.l0 kq l0 x3_1 x4_1 = some r) ∧ Aside0 (kq ≤ k) ∧ Aside0 (Kd.R (Kd.int .i64) 3 w' w.heap.size (fun _ => True) v180 x3_1) ∧ Aside0 (Below w.heap.size w w'))
      case atStart => exact ⟨(y179), (0), (by first | rfl | (simp; done) | (simp [*]; done)), H', ⟨Nat.le_refl _⟩, ⟨by (with_reducible repeat (first | apply Kd.R_alloc | apply Kd.R_drewN | apply Kd.R_drew)); exact HO181.out⟩, ⟨bel_⟩⟩
      case round =>
        clear H'
        try clear c2
        try clear c2b0
        try clear c2b1
        try clear p2
        try clear c3
        try clear c3b0
        try clear c3b1
        obtain ⟨x3_1, x4_1, rfl, HA, HK1, HO_3, HB⟩ := hrel
        cases gk with
        | zero => exact absurd HA.out (by simp [laws_toIntS.l0])
        | succ k1 =>
          have H := HA.out
          clear HA
          simp only [laws_toIntS.l0] at H
          by_cases c6 : x4_1 < (l0.length : Int)
          · rw [if_pos c6] at H
            have c6b0 : decide (x4_1 < (l0.length : Int)) = true := decide_eq_true c6
            clear c6
            by_cases c7 : 0 ≤ x4_1
            · rw [if_pos c7] at H
              have c7b0 : decide (0 ≤ x4_1) = true := decide_eq_true c7
              clear c7
              by_cases c8 : x4_1 < (x3_1.length : Int)
              · rw [if_pos c8] at H
                have c8b0 : decide (x4_1 < (x3_1.length : Int)) = true := decide_eq_true c8
                clear c8
                obtain ⟨y183, hy183⟩ : ∃ y_ : List Int, y_ = (x3_1.set (x4_1 : Int).toNat (rd l0 x4_1)) := ⟨_, rfl⟩
                replace H : (laws_toIntS.l0 k1 l0 y183 (wrap64 (x4_1 + 1))) = some r := by first | (rw [hy183]; with_reducible exact H) | (have H2_ := (Option.bind_some _ _).symm.trans H; rw [hy183]; with_reducible exact H2_) | (have H2_ := (Option.bind_some _ _).symm.trans H; with_reducible exact H2_) | with_reducible exact H | (rw [hy183]; exact H) | exact H
                have Ny183 := Aside0.mk hy183
                clear hy183
                have H' := Aside0.mk H
                clear H
                have p182 : 0 ≤ (x4_1 : Int) := of_decide_eq_true (by first | (with_reducible assumption) | assumption)
                have q182 : x4_1 < (l0.length : Int) := of_decide_eq_true (by first | (with_reducible assumption) | assumption)
                obtain ⟨ad182, e182, hx182_0⟩ := Kd.at_int HR0.out x4_1 p182 q182
                cases e182
                replace hx182_0 := (HB.out.cell (World.block_lt_of_cell? w _ hx182_0)).trans hx182_0
                replace p182 := eq_true p182
                replace q182 := eq_true q182
                have p9 : 0 ≤ (x4_1 : Int) := of_decide_eq_true (by first | (with_reducible assumption) | assumption)
                have q9 : (x4_1 : Int) < ((x3_1.length : Int) : Int) := of_decide_eq_true (by first | (with_reducible assumption) | assumption)
                obtain ⟨go9, co9, eo9, gb9, gl9, cl9, HG9⟩ := Kd.R_form HO_3.out (by omega)
                (first | cases eo9 | (injection eo9 with ea_ en_ ec_; (first | subst ea_ | (injection ea_ with ea_; subst ea_)); subst ec_; clear en_))
                have GB9 := Aside0.mk gb9
                have GG9 := Aside0.mk HG9
                clear gb9 gl9 HG9
                obtain ⟨hx9_0, hf9_0⟩ := Kd.R_celln 0 HO_3.out (x4_1 : Int) p9 q9
                replace p9 := eq_true p9
                replace q9 := eq_true q9
                have HP10 := Kd.R_putg HO_3.out (x4_1 : Int) (rd l0 x4_1)
                go_wp2_with (first | ((with_reducible refine gate_store (t := 3) (p := 20) rfl ?_); refine store_event (t := 3) (p := 20) (v := ?vo_w11) (w1 := (wr.setCell ⟨go9, (x4_1 : Int).toNat, none⟩ (.int .i64 (rd l0 x4_1)))) ?hg ?ho ?hn ?hr ?_; (case ho => rfl); (case hg => rfl); (case hn => rfl); (case hr => first | (go_simp; done) | (go_simp; rfl)); intro w11 hw; have hg : wr.grownBy w11 (some go9) := (by rw [hw]; exact HP10.2); have hp_ : Kd.R (Kd.int .i64) 3 w11 w.heap.size (fun _ => True) (.slice (some ⟨go9, 0, none⟩) x3_1.length co9) y183 := (by rw [hw, Ny183.out]; exact HP10.1); clear HP10; have n0_ := Aside0.mk (hp_); have n1_ := Aside0.mk ((by rw [hw]; exact below_set (HB.out) GB9.out : Below w.heap.size w w11)); clear HO_3; clear HB; have HO_3 := n0_; have HB := n1_; clear n0_ n1_; clear hg hw hp_))
                go_roundg k1
                case measure => have := HK1.out; omega
                case rel => exact ⟨(y183), (wrap64 (x4_1 + 1)), (by first | rfl | (simp; done) | (simp [*]; done)), H', ⟨by have := HK1.out; omega⟩, ⟨by (with_reducible repeat (first | apply Kd.R_alloc | apply Kd.R_drewN | apply Kd.R_drew)); exact HO_3.out⟩, ⟨bel_⟩⟩
              · rw [if_neg c8] at H
                exact absurd H (by simp)
            · rw [if_neg c7] at H
              exact absurd H (by simp)
          · rw [if_neg c6] at H
            have c6b0 : decide (x4_1 < (l0.length : Int)) = false := decide_eq_false c6
            clear c6
            obtain rfl := Option.some.inj H
            go_wp2
            go_ret
            exact ⟨_, by first | rfl | (simp [errW_none, errW_some] <;> rfl) | (simp [*, errW_none, errW_some] <;> rfl), by (with_reducible repeat (first | apply Kd.R_alloc | apply Kd.R_drewN | apply Kd.R_drew)); exact HO_3.out, bel_⟩
    · rw [if_neg c3] at H
      exact absurd H (by simp)
  · rw [if_neg c2] at H
    exact absurd H (by simp)

/-! ### laws_toConfig: function 12 -/
def laws_toConfig.f (k : Nat) (a0_0 : Int) (a0_1 : Int) (a0_2 : Int) (a0_3 : Int) (a0_4 : Int) (a0_5 : Int) (a0_6 : Int) (l0_7 : List Int) : Option (Int × Int × Int × Int × Int × Int × Int × List Int) := (laws_toIntS.f k l0_7).bind fun t187 => (some (a0_0, a0_1, a0_2, a0_3, a0_4, a0_5, a0_6, t187))
theorem laws_toConfig.mono : ∀ a0 a1 a2 a3 a4 a5 a6 a7 k, LeO (laws_toConfig.f k a0 a1 a2 a3 a4 a5 a6 a7) (laws_toConfig.f (k + 1) a0 a1 a2 a3 a4 a5 a6 a7) := by
  intro a0 a1 a2 a3 a4 a5 a6 a7 k
  unfold laws_toConfig.f
  repeat' first
      | (with_reducible exact laws_toIntS.mono _ _)
      | (with_reducible exact LeO.refl _)
      | (with_reducible exact LeO.none _)
      | (with_reducible refine LeO.ite ?_ ?_)
      | (with_reducible refine LeO.bind ?_ (fun _ => ?_))
      | exact laws_toIntS.mono _ _
      | exact LeO.none _
      | refine LeO.ite ?_ ?_
      | refine LeO.bind ?_ (fun _ => ?_)
set_option maxHeartbeats 8000000 in
set_option maxRecDepth 100000 in
theorem laws_toConfig.calls (k : Nat) (a0_0 : Int) (a0_1 : Int) (a0_2 : Int) (a0_3 : Int) (a0_4 : Int) (a0_5 : Int) (a0_6 : Int) (A0_7 : Option Addr) (c0_7 : Nat) (l0_7 : List Int) (r1 : Int) (r2 : Int) (r3 : Int) (r4 : Int) (r5 : Int) (r6 : Int) (r7 : Int) (r8 : List Int) (w : World) (hr0_7 : Kd.C (Kd.int .i64) w A0_7 l0_7.length l0_7) (hc0_7 : l0_7.length ≤ c0_7) (h : laws_toConfig.f k a0_0 a0_1 a0_2 a0_3 a0_4 a0_5 a0_6 l0_7 = some (r1, r2, r3, r4, r5, r6, r7, r8)) :
    Calls Tryd.prog 12 #[.agg #[.int .i64 a0_0, .int .i64 a0_1, .int .i64 a0_2, .int .i64 a0_3, .int .i64 a0_4, .int .i64 a0_5, .int .i64 a0_6, .slice A0_7 l0_7.length c0_7]] w fun e w' => ∃ v7_ : Value, e = .returned (.agg #[.int .i64 r1, .int .i64 r2, .int .i64 r3, .int .i64 r4, .int .i64 r5, .int .i64 r6, .int .i64 r7, v7_]) ∧ Kd.R (Kd.int .i64) 3 w' w.heap.size (fun _ => True) v7_ r8 ∧ Below w.heap.size w w' := by
  have hu26 := Tryd.underlying26
  have hu29 := Tryd.underlying29
  have HR0_7 := Aside0.mk hr0_7
  have HC0_7 := Aside0.mk hc0_7
  clear hr0_7 hc0_7
  have HB := Aside0.mk (Below.refl w.heap.size w)
  have H : ((laws_toIntS.f k l0_7).bind fun t187 => (some (a0_0, a0_1, a0_2, a0_3, a0_4, a0_5, a0_6, t187))) = some (r1, r2, r3, r4, r5, r6, r7, r8) := h
  clear h
  replace H := Option.bind_eq_some_iff.mp H
  obtain ⟨t187, A20, H⟩ := H
  replace H : (some (a0_0, a0_1, a0_2, a0_3, a0_4, a0_5, a0_6, t187)) = some (r1, r2, r3, r4, r5, r6, r7, r8) := H
  have A2 := Aside0.mk A20
  clear A20
  simp only [Option.some.injEq, Prod.mk.injEq] at H
  obtain ⟨rfl, rfl, rfl, rfl, rfl, rfl, rfl, rfl⟩ := H
  go_enter Tryd.func12, Tryd.ntmps12
  go_wp2_with (first | ((with_reducible refine gate_dst (N := 1) rfl ?_); refine box_event ?hg (N := 1) ?hd (cs := #[.int .i64 a0_0, .int .i64 a0_1, .int .i64 a0_2, .int .i64 a0_3, .int .i64 a0_4, .int .i64 a0_5, .int .i64 a0_6, .slice A0_7 l0_7.length c0_7]) (t := 26) ?hr ?_; (case hd => rfl); (case hg => rfl); (case hr => first | (go_simp; done) | (go_simp; rfl)); intro gb184 hg w3 hbox hb; have n0_ := Aside0.mk (below_step bel_ hb); have n1_ := Aside0.mk (hbox); have n2_ := bs_ (w := w) hg; have n3_ := bs_ (w := w) hg; clear HB; have HB := n0_; have BK184 := n1_; have GW184 := n2_; have GE184 := n3_; clear n0_ n1_ n2_ n3_; clear hb hbox hg) | ((with_reducible refine gate_dst (N := 2) rfl ?_); refine box_event ?hg (N := 2) ?hd (cs := #[.int .i64 0, .int .i64 0, .int .i64 0, .int .i64 0, .int .i64 0, .int .i64 0, .int .i64 0, .slice none 0 0]) (t := 29) ?hr ?_; (case hd => rfl); (case hg => rfl); (case hr => first | (go_simp; done) | (go_simp; rfl)); intro gb185 hg w4 hbox hb; have n0_ := bb_ (g := gb184) hb; have n1_ := Aside0.mk (below_step bel_ hb); have n2_ := Aside0.mk (hbox); have n3_ := bs_ (w := w) hg; have n4_ := bs_ (w := w) hg; have n5_ := nlt_ (g := gb184) hg; have n6_ := ngt_ (g := gb184) hg; clear BK184; clear HB; have BK184 := n0_; have HB := n1_; have BK185 := n2_; have GW185 := n3_; have GE185 := n4_; have NB184_185 := n5_; have NB185_184 := n6_; clear n0_ n1_ n2_ n3_ n4_ n5_ n6_; clear hb hbox hg) | ((with_reducible refine gate_dst (N := 3) rfl ?_); refine box_event ?hg (N := 3) ?hd (cs := #[.int .i64 0, .int .i64 0, .int .i64 0, .int .i64 0, .int .i64 0, .int .i64 0, .int .i64 0, .slice none 0 0]) (t := 29) ?hr ?_; (case hd => rfl); (case hg => rfl); (case hr => first | (go_simp; done) | (go_simp; rfl)); intro gb186 hg w5 hbox hb; have n0_ := bb_ (g := gb184) hb; have n1_ := bb_ (g := gb185) hb; have n2_ := Aside0.mk (below_step bel_ hb); have n3_ := Aside0.mk (hbox); have n4_ := bs_ (w := w) hg; have n5_ := bs_ (w := w) hg; have n6_ := nlt_ (g := gb184) hg; have n7_ := ngt_ (g := gb184) hg; have n8_ := nlt_ (g := gb185) hg; have n9_ := ngt_ (g := gb185) hg; clear BK184; clear BK185; clear HB; have BK184 := n0_; have BK185 := n1_; have HB := n2_; have BK186 := n3_; have GW186 := n4_; have GE186 := n5_; have NB184_186 := n6_; have NB186_184 := n7_; have NB185_186 := n8_; have NB186_185 := n9_; clear n0_ n1_ n2_ n3_ n4_ n5_ n6_ n7_ n8_ n9_; clear hb hbox hg; have hnb6 := NB184_185.out; have hnc6 := NB185_184.out; have hnb7 := NB184_186.out; have hnc7 := NB186_184.out; have hcz8_0 : w5.cell? ⟨gb184, 0, none⟩ = some (.int .i64 a0_0) := bc_; have hcz8_1 : w5.cell? ⟨gb184, 1, none⟩ = some (.int .i64 a0_1) := bc_; have hcz8_2 : w5.cell? ⟨gb184, 2, none⟩ = some (.int .i64 a0_2) := bc_; have hcz8_3 : w5.cell? ⟨gb184, 3, none⟩ = some (.int .i64 a0_3) := bc_; have hcz8_4 : w5.cell? ⟨gb184, 4, none⟩ = some (.int .i64 a0_4) := bc_; have hcz8_5 : w5.cell? ⟨gb184, 5, none⟩ = some (.int .i64 a0_5) := bc_; have hcz8_6 : w5.cell? ⟨gb184, 6, none⟩ = some (.int .i64 a0_6) := bc_; have hcz8_7 : w5.cell? ⟨gb184, 7, none⟩ = some (.slice A0_7 l0_7.length c0_7) := bc_; have hfz8_0 := blk_frozen BK184.out 0; have hfz8_1 := blk_frozen BK184.out 1; have hfz8_2 := blk_frozen BK184.out 2; have hfz8_3 := blk_frozen BK184.out 3; have hfz8_4 := blk_frozen BK184.out 4; have hfz8_5 := blk_frozen BK184.out 5; have hfz8_6 := blk_frozen BK184.out 6; have hfz8_7 := blk_frozen BK184.out 7; have hnb9 := NB186_185.out; have hnc9 := NB185_186.out; have hcz10_0 : w5.cell? ⟨gb186, 0, none⟩ = some (.int .i64 0) := bc_; have hcz10_1 : w5.cell? ⟨gb186, 1, none⟩ = some (.int .i64 0) := bc_; have hcz10_2 : w5.cell? ⟨gb186, 2, none⟩ = some (.int .i64 0) := bc_; have hcz10_3 : w5.cell? ⟨gb186, 3, none⟩ = some (.int .i64 0) := bc_; have hcz10_4 : w5.cell? ⟨gb186, 4, none⟩ = some (.int .i64 0) := bc_; have hcz10_5 : w5.cell? ⟨gb186, 5, none⟩ = some (.int .i64 0) := bc_; have hcz10_6 : w5.cell? ⟨gb186, 6, none⟩ = some (.int .i64 0) := bc_; have hcz10_7 : w5.cell? ⟨gb186, 7, none⟩ = some (.slice none 0 0) := bc_; have hfz10_0 := blk_frozen BK186.out 0; have hfz10_1 := blk_frozen BK186.out 1; have hfz10_2 := blk_frozen BK186.out 2; have hfz10_3 := blk_frozen BK186.out 3; have hfz10_4 := blk_frozen BK186.out 4; have hfz10_5 := blk_frozen BK186.out 5; have hfz10_6 := blk_frozen BK186.out 6; have hfz10_7 := blk_frozen BK186.out 7) | ((with_reducible refine gate_callee (f := 35) rfl ?_); refine goesL_ (some 27) rfl rfl Tryd.func35 (by kernel_rfl) rfl #[.slice A0_7 l0_7.length c0_7] rfl mp_ ?_; (with_reducible refine (laws_toIntS.calls k _ _ l0_7 t187 _ ?side1 ?side2 A2.out).mono ?_); (case side1 => exact Kd.C_below HR0_7.out bel_); (case side2 => exact HC0_7.out); rintro e w11 ⟨v188, rfl, ho0, hb⟩; refine ⟨_, rfl, ?_⟩; have n0_ := Aside0.mk (Kd.R_lower ho0 (below_size bel_)); have n1_ := Aside0.mk (blk_below (g := gb184) (o := .cells #[.int .i64 a0_0, .int .i64 a0_1, .int .i64 a0_2, .int .i64 a0_3, .int .i64 a0_4, .int .i64 a0_5, .int .i64 a0_6, .slice A0_7 l0_7.length c0_7] 26 (0, 0)) bk_ hb); have n2_ := Aside0.mk (blk_below (g := gb185) (o := .cells #[.int .i64 0, .int .i64 0, .int .i64 0, .int .i64 0, .int .i64 0, .int .i64 0, .int .i64 0, .slice none 0 0] 29 (0, 0)) bk_ hb); have n3_ := Aside0.mk (blk_below (g := gb186) (o := .cells #[.int .i64 a0_0, .int .i64 a0_1, .int .i64 a0_2, .int .i64 a0_3, .int .i64 a0_4, .int .i64 a0_5, .int .i64 a0_6, .slice none 0 0] 29 (0, 0)) (pu_ #[.int .i64 a0_0, .int .i64 a0_1, .int .i64 a0_2, .int .i64 a0_3, .int .i64 a0_4, .int .i64 a0_5, .int .i64 0, .slice none 0 0] 6 (h := (pu_ #[.int .i64 a0_0, .int .i64 a0_1, .int .i64 a0_2, .int .i64 a0_3, .int .i64 a0_4, .int .i64 0, .int .i64 0, .slice none 0 0] 5 (h := (pu_ #[.int .i64 a0_0, .int .i64 a0_1, .int .i64 a0_2, .int .i64 a0_3, .int .i64 0, .int .i64 0, .int .i64 0, .slice none 0 0] 4 (h := (pu_ #[.int .i64 a0_0, .int .i64 a0_1, .int .i64 a0_2, .int .i64 0, .int .i64 0, .int .i64 0, .int .i64 0, .slice none 0 0] 3 (h := (pu_ #[.int .i64 a0_0, .int .i64 a0_1, .int .i64 0, .int .i64 0, .int .i64 0, .int .i64 0, .int .i64 0, .slice none 0 0] 2 (h := (pu_ #[.int .i64 a0_0, .int .i64 0, .int .i64 0, .int .i64 0, .int .i64 0, .int .i64 0, .int .i64 0, .slice none 0 0] 1 (h := (pu_ #[.int .i64 0, .int .i64 0, .int .i64 0, .int .i64 0, .int .i64 0, .int .i64 0, .int .i64 0, .slice none 0 0] 0 (h := bk_)))))))))))))) hb); have n4_ := Aside0.mk (below_step bel_ hb); clear BK184; clear BK185; clear BK186; clear HB; have HO189 := n0_; have BK184 := n1_; have BK185 := n2_; have BK186 := n3_; have HB := n4_; clear n0_ n1_ n2_ n3_ n4_; (try clear hb); (try clear hb2); (try clear hk); (try clear hi); (try clear ho0); obtain ⟨Ao12, co12, eo12⟩ := Kd.R_slice HO189.out; subst eo12; have hcz13_0 : w11.cell? ⟨gb186, 0, none⟩ = some (.int .i64 a0_0) := bc_; have hcz13_1 : w11.cell? ⟨gb186, 1, none⟩ = some (.int .i64 a0_1) := bc_; have hcz13_2 : w11.cell? ⟨gb186, 2, none⟩ = some (.int .i64 a0_2) := bc_; have hcz13_3 : w11.cell? ⟨gb186, 3, none⟩ = some (.int .i64 a0_3) := bc_; have hcz13_4 : w11.cell? ⟨gb186, 4, none⟩ = some (.int .i64 a0_4) := bc_; have hcz13_5 : w11.cell? ⟨gb186, 5, none⟩ = some (.int .i64 a0_5) := bc_; have hcz13_6 : w11.cell? ⟨gb186, 6, none⟩ = some (.int .i64 a0_6) := bc_; have hcz13_7 : w11.cell? ⟨gb186, 7, none⟩ = some (.slice none 0 0) := bc_; have hfz13_0 := blk_frozen BK186.out 0; have hfz13_1 := blk_frozen BK186.out 1; have hfz13_2 := blk_frozen BK186.out 2; have hfz13_3 := blk_frozen BK186.out 3; have hfz13_4 := blk_frozen BK186.out 4; have hfz13_5 := blk_frozen BK186.out 5; have hfz13_6 := blk_frozen BK186.out 6; have hfz13_7 := blk_frozen BK186.out 7; have hcz14_0 : w11.cell? ⟨gb185, 0, none⟩ = some (.int .i64 0) := bc_; have hcz14_1 : w11.cell? ⟨gb185, 1, none⟩ = some (.int .i64 0) := bc_; have hcz14_2 : w11.cell? ⟨gb185, 2, none⟩ = some (.int .i64 0) := bc_; have hcz14_3 : w11.cell? ⟨gb185, 3, none⟩ = some (.int .i64 0) := bc_; have hcz14_4 : w11.cell? ⟨gb185, 4, none⟩ = some (.int .i64 0) := bc_; have hcz14_5 : w11.cell? ⟨gb185, 5, none⟩ = some (.int .i64 0) := bc_; have hcz14_6 : w11.cell? ⟨gb185, 6, none⟩ = some (.int .i64 0) := bc_; have hcz14_7 : w11.cell? ⟨gb185, 7, none⟩ = some (.slice none 0 0) := bc_; have hfz14_0 := blk_frozen BK185.out 0; have hfz14_1 := blk_frozen BK185.out 1; have hfz14_2 := blk_frozen BK185.out 2; have hfz14_3 := blk_frozen BK185.out 3; have hfz14_4 := blk_frozen BK185.out 4; have hfz14_5 := blk_frozen BK185.out 5; have hfz14_6 := blk_frozen BK185.out 6; have hfz14_7 := blk_frozen BK185.out 7))
  refine bodyPost_ret (results_cell_row rfl _ _ gb185 29 #[.int .i64 a0_0, .int .i64 a0_1, .int .i64 a0_2, .int .i64 a0_3, .int .i64 a0_4, .int .i64 a0_5, .int .i64 a0_6, .slice Ao12 t187.length co12] (0, 0) _ rfl (pu_ #[.int .i64 a0_0, .int .i64 a0_1, .int .i64 a0_2, .int .i64 a0_3, .int .i64 a0_4, .int .i64 a0_5, .int .i64 a0_6, .slice none 0 0] 7 (h := (pu_ #[.int .i64 a0_0, .int .i64 a0_1, .int .i64 a0_2, .int .i64 a0_3, .int .i64 a0_4, .int .i64 a0_5, .int .i64 0, .slice none 0 0] 6 (h := (pu_ #[.int .i64 a0_0, .int .i64 a0_1, .int .i64 a0_2, .int .i64 a0_3, .int .i64 a0_4, .int .i64 0, .int .i64 0, .slice none 0 0] 5 (h := (pu_ #[.int .i64 a0_0, .int .i64 a0_1, .int .i64 a0_2, .int .i64 a0_3, .int .i64 0, .int .i64 0, .int .i64 0, .slice none 0 0] 4 (h := (pu_ #[.int .i64 a0_0, .int .i64 a0_1, .int .i64 a0_2, .int .i64 0, .int .i64 0, .int .i64 0, .int .i64 0, .slice none 0 0] 3 (h := (pu_ #[.int .i64 a0_0, .int .i64 a0_1, .int .i64 0, .int .i64 0, .int .i64 0, .int .i64 0, .int .i64 0, .slice none 0 0] 2 (h := (pu_ #[.int .i64 a0_0, .int .i64 0, .int .i64 0, .int .i64 0, .int .i64 0, .int .i64 0, .int .i64 0, .slice none 0 0] 1 (h := (pu_ #[.int .i64 0, .int .i64 0, .int .i64 0, .int .i64 0, .int .i64 0, .int .i64 0, .int .i64 0, .slice none 0 0] 0 (h := bk_)))))))))))))))) Tryd.underlying29 rfl (by kernel_rfl)) rfl ?_
  exact ⟨_, by first | rfl | (simp [errW_none, errW_some] <;> rfl) | (simp [*, errW_none, errW_some] <;> rfl), by (with_reducible repeat (first | apply Kd.R_alloc | apply Kd.R_drewN | apply Kd.R_drew)); exact Kd.R_mono (Kd.R_far (p := ⟨gb185, 7, none⟩) (Kd.R_far (p := ⟨gb185, 6, none⟩) (Kd.R_far (p := ⟨gb185, 5, none⟩) (Kd.R_far (p := ⟨gb185, 4, none⟩) (Kd.R_far (p := ⟨gb185, 3, none⟩) (Kd.R_far (p := ⟨gb185, 2, none⟩) (Kd.R_far (p := ⟨gb185, 1, none⟩) (Kd.R_far (p := ⟨gb185, 0, none⟩) (Kd.R_far (p := ⟨gb186, 7, none⟩) (Kd.R_types (Kd.R_types HO189.out BK186.out (by decide)) BK185.out (by decide)) (fun _ hk => hk.1.2) (.slice Ao12 t187.length co12)) (fun _ hk => hk.2) (.int .i64 a0_0)) (fun _ hk => hk.2) (.int .i64 a0_1)) (fun _ hk => hk.2) (.int .i64 a0_2)) (fun _ hk => hk.2) (.int .i64 a0_3)) (fun _ hk => hk.2) (.int .i64 a0_4)) (fun _ hk => hk.2) (.int .i64 a0_5)) (fun _ hk => hk.2) (.int .i64 a0_6)) (fun _ hk => hk.2) (.slice Ao12 t187.length co12)) (fun _ hk => trivial), bel_⟩

/-! ### impl_within: function 60 -/
def impl_within.f (a0 : Int) (a1 : Int) (a2 : Int) : Option (Bool) := if a0 ≥ a1 then (some (decide (a0 ≤ a2))) else (some false)
set_option maxHeartbeats 8000000 in
set_option maxRecDepth 100000 in
theorem impl_within.calls (a0 : Int) (a1 : Int) (a2 : Int) (r : Bool) (w : World) (h : impl_within.f a0 a1 a2 = some r) :
    Calls Tryd.prog 60 #[.int .i64 a0, .int .i64 a1, .int .i64 a2] w fun e w' => e = .returned (.bool r) ∧ Drawn0 w w' := by
  have H : (if a0 ≥ a1 then (some (decide (a0 ≤ a2))) else (some false)) = some r := h
  clear h
  by_cases c4 : a0 ≥ a1
  · rw [if_pos c4] at H
    have c4b0 : decide (a1 ≤ a0) = true := decide_eq_true c4
    clear c4
    obtain rfl := Option.some.inj H
    go_enter Tryd.func60, Tryd.ntmps60
    go_wp2
    go_ret
    exact ⟨by first | rfl | (simp; done) | (simp [*]; done), by repeat (first | exact Drawn0.refl _ | apply Drawn0.step)⟩
  · rw [if_neg c4] at H
    have c4b0 : decide (a1 ≤ a0) = false := decide_eq_false c4
    clear c4
    obtain rfl := Option.some.inj H
    go_enter Tryd.func60, Tryd.ntmps60
    go_wp2
    go_ret
    exact ⟨by first | rfl | (simp; done) | (simp [*]; done), by repeat (first | exact Drawn0.refl _ | apply Drawn0.step)⟩

-- NOT PRINTED: function 79 (slices_IndexFunc_int_int)

-- NOT PRINTED: function 61 (slices_ContainsFunc_int_int)

/-! ### impl_ConfigOk: function 36, by its code and slices.ContainsFunc's -/
def impl_ConfigOk.inR (a lo hi : Int) : Bool := decide (lo ≤ a ∧ a ≤ hi)
def impl_ConfigOk.sgn (a : Int) : Bool := impl_ConfigOk.inR a (-1) 1
theorem impl_ConfigOk.wi (a lo hi : Int) (w : World) : Calls Tryd.prog 60 #[.int .i64 a, .int .i64 lo, .int .i64 hi] w fun e w' => e = .returned (.bool (impl_ConfigOk.inR a lo hi)) ∧ Drawn0 w w' := by
  refine impl_within.calls a lo hi _ w ?_
  unfold impl_within.f impl_ConfigOk.inR
  by_cases c : a ≥ lo
  · rw [if_pos c]; congr 1; exact decide_eq_decide.2 ⟨fun h => ⟨c, h⟩, fun h => h.2⟩
  · rw [if_neg c, decide_eq_false (fun h => c h.1)]
theorem impl_ConfigOk.sg (a : Int) (w : World) : Calls Tryd.prog 63 #[.int .i64 a] w fun e w' => e = .returned (.bool (impl_ConfigOk.sgn a)) ∧ Drawn0 w w' := by
  have HC := impl_ConfigOk.wi a (-1) 1
  go_enter Tryd.func63, Tryd.ntmps63
  go_wp2_with (go_at_call 60; refine (HC _).mono ?_; rintro e w' ⟨rfl, nd, rfl⟩)
  go_ret
  exact ⟨rfl, nd, rfl⟩
theorem impl_ConfigOk.clo (a : Int) (w : World) : Calls Tryd.prog 62 #[.int .i64 a] w fun e w' => e = .returned (.bool (!impl_ConfigOk.sgn a)) ∧ Drawn0 w w' := by
  have HC := impl_ConfigOk.sg a
  go_enter Tryd.func62, Tryd.ntmps62
  go_wp2_with (go_at_call 63; refine (HC _).mono ?_; rintro e w' ⟨rfl, nd, rfl⟩)
  go_ret
  exact ⟨rfl, nd, rfl⟩
def impl_ConfigOk.Found (l : List Int) (w : World) (e : Ending) (w' : World) : Prop := ∃ z : Int, e = .returned (.int .i64 z) ∧ decide (0 ≤ z) = l.any (fun n => !impl_ConfigOk.sgn n) ∧ Drawn0 w w'
theorem impl_ConfigOk.any_no {l : List Int} (h : ∀ y ∈ l, impl_ConfigOk.sgn y = true) : l.any (fun n => !impl_ConfigOk.sgn n) = false := by
  rw [List.any_eq_false]
  intro y hy
  rw [h y hy]
  simp
theorem impl_ConfigOk.any_yes {l : List Int} {x : Int} (hm : x ∈ l) (h : impl_ConfigOk.sgn x = false) : l.any (fun n => !impl_ConfigOk.sgn n) = true := List.any_eq_true.2 ⟨x, hm, by rw [h]; rfl⟩
theorem impl_ConfigOk.take_one {l : List Int} {i : Nat} {x : Int} (hx : l[i]? = some x) (h : ∀ y ∈ l.take i, impl_ConfigOk.sgn y = true) (hs : impl_ConfigOk.sgn x = true) : ∀ y ∈ l.take (i + 1), impl_ConfigOk.sgn y = true := fun y hy => by
  rw [List.take_add_one, hx, List.mem_append] at hy
  rcases hy with hy | hy
  · exact h y hy
  · have : y = x := by simpa using hy
    rw [this]; exact hs
theorem impl_ConfigOk.rd_at (l : List Int) (i : Nat) (h : i < l.length) : l[i]? = some (rd l (i : Int)) := by
  unfold rd
  rw [Int.toNat_natCast, List.getElem?_eq_getElem h, List.getD_eq_getElem?_getD, List.getElem?_eq_getElem h]
  rfl
set_option maxHeartbeats 4000000 in
set_option maxRecDepth 100000 in
theorem impl_ConfigOk.xf (A0 : Option Addr) (c0 : Nat) (l0 : List Int) (w : World) (hr0 : Kd.C (Kd.int .i64) w A0 l0.length l0) :
    Calls Tryd.prog 79 #[.slice A0 l0.length c0, .func (.func 62) #[] #[]] w (impl_ConfigOk.Found l0 w) := by
  have HR0 := Aside0.mk hr0
  have hbig := hr0.2.1
  clear hr0
  go_enter Tryd.func79, Tryd.ntmps79
  go_wp2
  repeat (go_quiet (fail); try go_wp2)
  go_loopg [8] l0.length (fun g v8 wx => ∃ i : Nat, i + g = l0.length ∧ v8 = .int .i64 (i : Nat) ∧ Aside0 (∀ y ∈ l0.take i, impl_ConfigOk.sgn y = true) ∧ Drawn0 w wx)
  case atStart => exact ⟨0, by omega, rfl, ⟨fun y hy => by simp at hy⟩, Drawn0.refl _⟩
  case round =>
    obtain ⟨i, hig, rfl, HN, ⟨m1, rfl⟩⟩ := hrel
    cases gk with
    | zero =>
      obtain rfl : i = l0.length := by omega
      go_wp2
      go_ret
      exact ⟨-1, rfl, by rw [impl_ConfigOk.any_no (by have := HN.out; rwa [List.take_length] at this)]; rfl, ⟨_, rfl⟩⟩
    | succ g =>
      have hi : i < l0.length := by omega
      have hiz : (i : Int) < (l0.length : Int) := by omega
      have p1 : (0 : Int) ≤ (i : Int) := by omega
      obtain ⟨ad, e1, hx⟩ := Kd.at_int HR0.out (i : Int) p1 hiz
      cases e1
      rw [Int.toNat_natCast] at hx
      have HX := Aside0.mk (impl_ConfigOk.rd_at l0 i hi)
      generalize rd l0 (i : Int) = x at hx HX
      have HC := impl_ConfigOk.clo x
      cases hs : impl_ConfigOk.sgn x with
      | true =>
        rw [hs] at HC
        have HS := Aside0.mk hs
        clear hs
        have HC2 := Aside0.mk HC
        clear HC
        go_wp2_with (go_at_call 62; refine (HC2.out _).mono ?_; rintro e w' ⟨rfl, nd, rfl⟩)
        repeat (go_quiet (first | (go_at_call 62; refine (HC2.out _).mono ?_; rintro e w' ⟨rfl, nd, rfl⟩; exact ⟨rfl, _, World.drewN_drewN _ _ _⟩)); try go_wp2)
        go_roundg g
        case measure => omega
        case rel => exact ⟨i + 1, by omega, by first | rfl | go_num | simp, ⟨impl_ConfigOk.take_one HX.out HN.out HS.out⟩, by repeat (first | exact Drawn0.refl _ | apply Drawn0.step)⟩
      | false =>
        rw [hs] at HC
        have HS := Aside0.mk hs
        clear hs
        have HC2 := Aside0.mk HC
        clear HC
        go_wp2_with (go_at_call 62; refine (HC2.out _).mono ?_; rintro e w' ⟨rfl, nd, rfl⟩)
        repeat (go_quiet (first | (go_at_call 62; refine (HC2.out _).mono ?_; rintro e w' ⟨rfl, nd, rfl⟩; exact ⟨rfl, _, World.drewN_drewN _ _ _⟩)); try go_wp2)
        go_ret
        exact ⟨i, rfl, by rw [impl_ConfigOk.any_yes (List.mem_of_getElem? HX.out) HS.out]; exact decide_eq_true (by omega), by repeat (first | exact Drawn0.refl _ | apply Drawn0.step)⟩
theorem impl_ConfigOk.cf (A0 : Option Addr) (c0 : Nat) (l0 : List Int) (r : Bool) (w : World) (hr0 : Kd.C (Kd.int .i64) w A0 l0.length l0) (h : l0.any (fun n => !impl_ConfigOk.sgn n) = r) :
    Calls Tryd.prog 61 #[.slice A0 l0.length c0, .func (.func 62) #[] #[]] w fun e w' => e = .returned (.bool r) ∧ Drawn0 w w' := by
  have HC := impl_ConfigOk.xf A0 c0 l0 w hr0
  have H := Aside0.mk h
  clear h
  go_enter Tryd.func61, Tryd.ntmps61
  go_wp2_with (go_at_call 79; refine HC.mono ?_; rintro e w' ⟨z, rfl, hz, nd, rfl⟩; have HZ := Aside0.mk hz; clear hz)
  go_ret
  refine ⟨?_, nd, rfl⟩
  have e := HZ.out.trans H.out
  show Ending.returned (.bool (decide (0 ≤ z))) = _
  rw [e]
def impl_ConfigOk.ok (a0_0 a0_1 a0_2 a0_3 a0_4 a0_5 a0_6 : Int) (l0_7 : List Int) : Bool := impl_ConfigOk.inR a0_0 1 8 && impl_ConfigOk.inR a0_1 0 4 && impl_ConfigOk.inR a0_2 2 8 && impl_ConfigOk.inR a0_3 1 100 && impl_ConfigOk.inR a0_4 1 20 && impl_ConfigOk.inR a0_6 1 1000 && impl_ConfigOk.inR a0_5 1 a0_6 && decide (l0_7.length ≤ 4) && !(l0_7.any (fun n => !impl_ConfigOk.sgn n))
def impl_ConfigOk.f (a0_0 : Int) (a0_1 : Int) (a0_2 : Int) (a0_3 : Int) (a0_4 : Int) (a0_5 : Int) (a0_6 : Int) (l0_7 : List Int) : Option (Bool) := some (impl_ConfigOk.ok a0_0 a0_1 a0_2 a0_3 a0_4 a0_5 a0_6 l0_7)
set_option maxHeartbeats 8000000 in
set_option maxRecDepth 100000 in
theorem impl_ConfigOk.walk (a0_0 : Int) (a0_1 : Int) (a0_2 : Int) (a0_3 : Int) (a0_4 : Int) (a0_5 : Int) (a0_6 : Int) (A0_7 : Option Addr) (c0_7 : Nat) (l0_7 : List Int) (w : World) (hr0_7 : Kd.C (Kd.int .i64) w A0_7 l0_7.length l0_7) (hc0_7 : l0_7.length ≤ c0_7) :
    Calls Tryd.prog 36 #[.agg #[.int .i64 a0_0, .int .i64 a0_1, .int .i64 a0_2, .int .i64 a0_3, .int .i64 a0_4, .int .i64 a0_5, .int .i64 a0_6, .slice A0_7 l0_7.length c0_7]] w fun e w' => e = .returned (.bool (impl_ConfigOk.ok a0_0 a0_1 a0_2 a0_3 a0_4 a0_5 a0_6 l0_7)) ∧ Below w.heap.size w w' := by
  have HR := Aside0.mk hr0_7
  clear hr0_7
  cases c0 : impl_ConfigOk.inR a0_0 1 8 with
  | false =>
    rw [show impl_ConfigOk.ok a0_0 a0_1 a0_2 a0_3 a0_4 a0_5 a0_6 l0_7 = false by unfold impl_ConfigOk.ok; rw [c0]; simp]
    go_enter Tryd.func36, Tryd.ntmps36
    go_wp2_with (first | (go_at_call 60; (with_reducible refine (impl_ConfigOk.wi _ _ _ _).mono ?_); rintro e w' ⟨rfl, nd, rfl⟩) | (go_at_call 61; (with_reducible refine (impl_ConfigOk.cf _ _ l0_7 _ _ ?side1 c8).mono ?_); (case side1 => repeat (first | exact HR.out | (with_reducible refine Kd.C_alloc ?_ _) | (with_reducible refine Kd.C_drewN ?_ _) | (with_reducible refine Kd.C_drew ?_))); rintro e w' ⟨rfl, nd, rfl⟩))
    go_ret
    exact ⟨rfl, by repeat (first | (with_reducible first | exact Below.refl _ _ | apply below_alloc | apply pw_below_drewN | apply below_drew1) | exact Below.refl _ _)⟩
  | true =>
    cases c1 : impl_ConfigOk.inR a0_1 0 4 with
    | false =>
      rw [show impl_ConfigOk.ok a0_0 a0_1 a0_2 a0_3 a0_4 a0_5 a0_6 l0_7 = false by unfold impl_ConfigOk.ok; rw [c0, c1]; simp]
      go_enter Tryd.func36, Tryd.ntmps36
      go_wp2_with (first | (go_at_call 60; (with_reducible refine (impl_ConfigOk.wi _ _ _ _).mono ?_); rintro e w' ⟨rfl, nd, rfl⟩) | (go_at_call 61; (with_reducible refine (impl_ConfigOk.cf _ _ l0_7 _ _ ?side1 c8).mono ?_); (case side1 => repeat (first | exact HR.out | (with_reducible refine Kd.C_alloc ?_ _) | (with_reducible refine Kd.C_drewN ?_ _) | (with_reducible refine Kd.C_drew ?_))); rintro e w' ⟨rfl, nd, rfl⟩))
      go_ret
      exact ⟨rfl, by repeat (first | (with_reducible first | exact Below.refl _ _ | apply below_alloc | apply pw_below_drewN | apply below_drew1) | exact Below.refl _ _)⟩
    | true =>
      cases c2 : impl_ConfigOk.inR a0_2 2 8 with
      | false =>
        rw [show impl_ConfigOk.ok a0_0 a0_1 a0_2 a0_3 a0_4 a0_5 a0_6 l0_7 = false by unfold impl_ConfigOk.ok; rw [c0, c1, c2]; simp]
        go_enter Tryd.func36, Tryd.ntmps36
        go_wp2_with (first | (go_at_call 60; (with_reducible refine (impl_ConfigOk.wi _ _ _ _).mono ?_); rintro e w' ⟨rfl, nd, rfl⟩) | (go_at_call 61; (with_reducible refine (impl_ConfigOk.cf _ _ l0_7 _ _ ?side1 c8).mono ?_); (case side1 => repeat (first | exact HR.out | (with_reducible refine Kd.C_alloc ?_ _) | (with_reducible refine Kd.C_drewN ?_ _) | (with_reducible refine Kd.C_drew ?_))); rintro e w' ⟨rfl, nd, rfl⟩))
        go_ret
        exact ⟨rfl, by repeat (first | (with_reducible first | exact Below.refl _ _ | apply below_alloc | apply pw_below_drewN | apply below_drew1) | exact Below.refl _ _)⟩
      | true =>
        cases c3 : impl_ConfigOk.inR a0_3 1 100 with
        | false =>
          rw [show impl_ConfigOk.ok a0_0 a0_1 a0_2 a0_3 a0_4 a0_5 a0_6 l0_7 = false by unfold impl_ConfigOk.ok; rw [c0, c1, c2, c3]; simp]
          go_enter Tryd.func36, Tryd.ntmps36
          go_wp2_with (first | (go_at_call 60; (with_reducible refine (impl_ConfigOk.wi _ _ _ _).mono ?_); rintro e w' ⟨rfl, nd, rfl⟩) | (go_at_call 61; (with_reducible refine (impl_ConfigOk.cf _ _ l0_7 _ _ ?side1 c8).mono ?_); (case side1 => repeat (first | exact HR.out | (with_reducible refine Kd.C_alloc ?_ _) | (with_reducible refine Kd.C_drewN ?_ _) | (with_reducible refine Kd.C_drew ?_))); rintro e w' ⟨rfl, nd, rfl⟩))
          go_ret
          exact ⟨rfl, by repeat (first | (with_reducible first | exact Below.refl _ _ | apply below_alloc | apply pw_below_drewN | apply below_drew1) | exact Below.refl _ _)⟩
        | true =>
          cases c4 : impl_ConfigOk.inR a0_4 1 20 with
          | false =>
            rw [show impl_ConfigOk.ok a0_0 a0_1 a0_2 a0_3 a0_4 a0_5 a0_6 l0_7 = false by unfold impl_ConfigOk.ok; rw [c0, c1, c2, c3, c4]; simp]
            go_enter Tryd.func36, Tryd.ntmps36
            go_wp2_with (first | (go_at_call 60; (with_reducible refine (impl_ConfigOk.wi _ _ _ _).mono ?_); rintro e w' ⟨rfl, nd, rfl⟩) | (go_at_call 61; (with_reducible refine (impl_ConfigOk.cf _ _ l0_7 _ _ ?side1 c8).mono ?_); (case side1 => repeat (first | exact HR.out | (with_reducible refine Kd.C_alloc ?_ _) | (with_reducible refine Kd.C_drewN ?_ _) | (with_reducible refine Kd.C_drew ?_))); rintro e w' ⟨rfl, nd, rfl⟩))
            go_ret
            exact ⟨rfl, by repeat (first | (with_reducible first | exact Below.refl _ _ | apply below_alloc | apply pw_below_drewN | apply below_drew1) | exact Below.refl _ _)⟩
          | true =>
            cases c5 : impl_ConfigOk.inR a0_6 1 1000 with
            | false =>
              rw [show impl_ConfigOk.ok a0_0 a0_1 a0_2 a0_3 a0_4 a0_5 a0_6 l0_7 = false by unfold impl_ConfigOk.ok; rw [c0, c1, c2, c3, c4, c5]; simp]
              go_enter Tryd.func36, Tryd.ntmps36
              go_wp2_with (first | (go_at_call 60; (with_reducible refine (impl_ConfigOk.wi _ _ _ _).mono ?_); rintro e w' ⟨rfl, nd, rfl⟩) | (go_at_call 61; (with_reducible refine (impl_ConfigOk.cf _ _ l0_7 _ _ ?side1 c8).mono ?_); (case side1 => repeat (first | exact HR.out | (with_reducible refine Kd.C_alloc ?_ _) | (with_reducible refine Kd.C_drewN ?_ _) | (with_reducible refine Kd.C_drew ?_))); rintro e w' ⟨rfl, nd, rfl⟩))
              go_ret
              exact ⟨rfl, by repeat (first | (with_reducible first | exact Below.refl _ _ | apply below_alloc | apply pw_below_drewN | apply below_drew1) | exact Below.refl _ _)⟩
            | true =>
              cases c6 : impl_ConfigOk.inR a0_5 1 a0_6 with
              | false =>
                rw [show impl_ConfigOk.ok a0_0 a0_1 a0_2 a0_3 a0_4 a0_5 a0_6 l0_7 = false by unfold impl_ConfigOk.ok; rw [c0, c1, c2, c3, c4, c5, c6]; simp]
                go_enter Tryd.func36, Tryd.ntmps36
                go_wp2_with (first | (go_at_call 60; (with_reducible refine (impl_ConfigOk.wi _ _ _ _).mono ?_); rintro e w' ⟨rfl, nd, rfl⟩) | (go_at_call 61; (with_reducible refine (impl_ConfigOk.cf _ _ l0_7 _ _ ?side1 c8).mono ?_); (case side1 => repeat (first | exact HR.out | (with_reducible refine Kd.C_alloc ?_ _) | (with_reducible refine Kd.C_drewN ?_ _) | (with_reducible refine Kd.C_drew ?_))); rintro e w' ⟨rfl, nd, rfl⟩))
                go_ret
                exact ⟨rfl, by repeat (first | (with_reducible first | exact Below.refl _ _ | apply below_alloc | apply pw_below_drewN | apply below_drew1) | exact Below.refl _ _)⟩
              | true =>
                cases c7 : decide (l0_7.length ≤ 4) with
                | false =>
                  have z8 : decide ((l0_7.length : Int) ≤ 4) = false := by rw [← c7]; exact decide_eq_decide.2 (by omega)
                  rw [show impl_ConfigOk.ok a0_0 a0_1 a0_2 a0_3 a0_4 a0_5 a0_6 l0_7 = false by unfold impl_ConfigOk.ok; rw [c0, c1, c2, c3, c4, c5, c6, c7]; simp]
                  go_enter Tryd.func36, Tryd.ntmps36
                  go_wp2_with (first | (go_at_call 60; (with_reducible refine (impl_ConfigOk.wi _ _ _ _).mono ?_); rintro e w' ⟨rfl, nd, rfl⟩) | (go_at_call 61; (with_reducible refine (impl_ConfigOk.cf _ _ l0_7 _ _ ?side1 c8).mono ?_); (case side1 => repeat (first | exact HR.out | (with_reducible refine Kd.C_alloc ?_ _) | (with_reducible refine Kd.C_drewN ?_ _) | (with_reducible refine Kd.C_drew ?_))); rintro e w' ⟨rfl, nd, rfl⟩))
                  go_ret
                  exact ⟨rfl, by repeat (first | (with_reducible first | exact Below.refl _ _ | apply below_alloc | apply pw_below_drewN | apply below_drew1) | exact Below.refl _ _)⟩
                | true =>
                  have z8 : decide ((l0_7.length : Int) ≤ 4) = true := by rw [← c7]; exact decide_eq_decide.2 (by omega)
                  cases c8 : l0_7.any (fun n => !impl_ConfigOk.sgn n) with
                  | true =>
                    rw [show impl_ConfigOk.ok a0_0 a0_1 a0_2 a0_3 a0_4 a0_5 a0_6 l0_7 = false by unfold impl_ConfigOk.ok; rw [c0, c1, c2, c3, c4, c5, c6, c7, c8]; simp]
                    go_enter Tryd.func36, Tryd.ntmps36
                    go_wp2_with (first | (go_at_call 60; (with_reducible refine (impl_ConfigOk.wi _ _ _ _).mono ?_); rintro e w' ⟨rfl, nd, rfl⟩) | (go_at_call 61; (with_reducible refine (impl_ConfigOk.cf _ _ l0_7 _ _ ?side1 c8).mono ?_); (case side1 => repeat (first | exact HR.out | (with_reducible refine Kd.C_alloc ?_ _) | (with_reducible refine Kd.C_drewN ?_ _) | (with_reducible refine Kd.C_drew ?_))); rintro e w' ⟨rfl, nd, rfl⟩))
                    go_ret
                    exact ⟨rfl, by repeat (first | (with_reducible first | exact Below.refl _ _ | apply below_alloc | apply pw_below_drewN | apply below_drew1) | exact Below.refl _ _)⟩
                  | false =>
                    rw [show impl_ConfigOk.ok a0_0 a0_1 a0_2 a0_3 a0_4 a0_5 a0_6 l0_7 = true by unfold impl_ConfigOk.ok; rw [c0, c1, c2, c3, c4, c5, c6, c7, c8]; rfl]
                    go_enter Tryd.func36, Tryd.ntmps36
                    go_wp2_with (first | (go_at_call 60; (with_reducible refine (impl_ConfigOk.wi _ _ _ _).mono ?_); rintro e w' ⟨rfl, nd, rfl⟩) | (go_at_call 61; (with_reducible refine (impl_ConfigOk.cf _ _ l0_7 _ _ ?side1 c8).mono ?_); (case side1 => repeat (first | exact HR.out | (with_reducible refine Kd.C_alloc ?_ _) | (with_reducible refine Kd.C_drewN ?_ _) | (with_reducible refine Kd.C_drew ?_))); rintro e w' ⟨rfl, nd, rfl⟩))
                    go_ret
                    exact ⟨rfl, by repeat (first | (with_reducible first | exact Below.refl _ _ | apply below_alloc | apply pw_below_drewN | apply below_drew1) | exact Below.refl _ _)⟩
theorem impl_ConfigOk.calls (a0_0 : Int) (a0_1 : Int) (a0_2 : Int) (a0_3 : Int) (a0_4 : Int) (a0_5 : Int) (a0_6 : Int) (A0_7 : Option Addr) (c0_7 : Nat) (l0_7 : List Int) (r : Bool) (w : World) (hr0_7 : Kd.C (Kd.int .i64) w A0_7 l0_7.length l0_7) (hc0_7 : l0_7.length ≤ c0_7) (h : impl_ConfigOk.f a0_0 a0_1 a0_2 a0_3 a0_4 a0_5 a0_6 l0_7 = some r) :
    Calls Tryd.prog 36 #[.agg #[.int .i64 a0_0, .int .i64 a0_1, .int .i64 a0_2, .int .i64 a0_3, .int .i64 a0_4, .int .i64 a0_5, .int .i64 a0_6, .slice A0_7 l0_7.length c0_7]] w fun e w' => e = .returned (.bool r) ∧ Below w.heap.size w w' := by
  obtain rfl := Option.some.inj h
  exact impl_ConfigOk.walk a0_0 a0_1 a0_2 a0_3 a0_4 a0_5 a0_6 A0_7 c0_7 l0_7 w hr0_7 hc0_7

/-! ### strconv_Itoa_64: function 64, by the shelf -/
def strconv_Itoa_64.f (a0 : Int) : Option (ByteArray) := if -9223372036854775808 ≤ a0 ∧ a0 ≤ 9223372036854775807 then some ⟨(Lib.itoa a0).toArray⟩ else none
theorem strconv_Itoa_64.calls (a0 : Int) (r : ByteArray) (w : World) (h : strconv_Itoa_64.f a0 = some r) (hl : Laid w) :
    Calls Tryd.prog 64 #[.int .i64 a0] w fun e w' => e = .returned (.string r) ∧ Below w.heap.size w w' := by
  unfold strconv_Itoa_64.f at h
  by_cases c : -9223372036854775808 ≤ a0 ∧ a0 ≤ 9223372036854775807
  · rw [if_pos c] at h
    obtain rfl := Option.some.inj h
    refine (Tryd.strconv_Itoa a0 c.1 c.2 w hl.pow10).mono ?_
    rintro e w' ⟨rfl, k, os, rfl⟩
    exact ⟨rfl, Lib.below_grow _ w (Nat.le_refl _) k os⟩
  · rw [if_neg c] at h
    cases h

/-! ### impl_Digits: function 37 -/
def impl_Digits.f (a0 : Int) : Option (ByteArray) := (strconv_Itoa_64.f a0).bind fun t210 => (some t210)
set_option maxHeartbeats 8000000 in
set_option maxRecDepth 100000 in
theorem impl_Digits.calls (a0 : Int) (r : ByteArray) (w : World) (h : impl_Digits.f a0 = some r) (hl : Laid w) :
    Calls Tryd.prog 37 #[.int .i64 a0] w fun e w' => e = .returned (.string r) ∧ Below w.heap.size w w' := by
  have HB := Aside0.mk (Below.refl w.heap.size w)
  have H : ((strconv_Itoa_64.f a0).bind fun t210 => (some t210)) = some r := h
  clear h
  replace H := Option.bind_eq_some_iff.mp H
  obtain ⟨t210, A20, H⟩ := H
  replace H : (some t210) = some r := H
  have A2 := Aside0.mk A20
  clear A20
  obtain rfl := Option.some.inj H
  go_enter Tryd.func37, Tryd.ntmps37
  go_wp2_with (first | ((with_reducible refine gate_callee (f := 64) rfl ?_); refine goesL_ (some 4) rfl rfl Tryd.func64 (by kernel_rfl) rfl #[.int .i64 a0] rfl mp_ ?_; (with_reducible refine (strconv_Itoa_64.calls a0 t210 _ A2.out (laid_ hl)).mono ?_); rintro e w3 ⟨rfl, hb⟩; refine ⟨_, rfl, ?_⟩; have n0_ := Aside0.mk (below_step bel_ hb); clear HB; have HB := n0_; clear n0_; (try clear hb); (try clear hb2); (try clear hk); (try clear hi)))
  go_ret
  exact ⟨rf_, bel_⟩

-- NOT PRINTED: function 95 (abi_NoEscape)

-- NOT PRINTED: function 89 (strings_Builder_copyCheck)

-- NOT PRINTED: function 96 (bytealg_MakeNoZero)

-- NOT PRINTED: function 90 (strings_Builder_grow)

-- NOT PRINTED: function 74 (strings_Builder_Grow)

-- NOT PRINTED: function 76 (strings_Builder_WriteString)

-- NOT PRINTED: function 78 (strings_Builder_String)

/-! ### strings_Join: function 81, by the shelf -/
def strings_Join.f (l0 : List ByteArray) (a1 : ByteArray) : Option (ByteArray) := if l0.length ≤ 140737488355328 ∧ (Lib.join (l0.map (·.data.toList)) a1.data.toList).length ≤ 140737488355328 then some ⟨(Lib.join (l0.map (·.data.toList)) a1.data.toList).toArray⟩ else none
theorem strings_Join.calls (A0 : Option Addr) (c0 : Nat) (l0 : List ByteArray) (a1 : ByteArray) (r : ByteArray) (w : World) (hr0 : Kd.C Kd.string w A0 l0.length l0) (hc0 : l0.length ≤ c0) (h : strings_Join.f l0 a1 = some r) :
    Calls Tryd.prog 81 #[.slice A0 l0.length c0, .string a1] w fun e w' => e = .returned (.string r) ∧ Below w.heap.size w w' := by
  unfold strings_Join.f at h
  by_cases c : l0.length ≤ 140737488355328 ∧ (Lib.join (l0.map (·.data.toList)) a1.data.toList).length ≤ 140737488355328
  · rw [if_pos c] at h
    obtain rfl := Option.some.inj h
    cases hl : l0 with
    | nil =>
      refine (Tryd.strings_Join_none A0 c0 a1 w).mono ?_
      rintro e w' ⟨rfl, rfl⟩
      exact ⟨rfl, Below.refl _ _⟩
    | cons x t =>
      rw [← hl]
      obtain ⟨_, _, hcell⟩ := hr0
      obtain ⟨ad, rfl, hc⟩ := hcell (by rw [hl]; simp)
      have hcells : ∀ (j : Nat) y, l0[j]? = some y → w.cell? (ad.add j) = some (.string y) := by
        intro j y hj
        obtain ⟨cs, _, hcs, hu⟩ := hc j y hj
        have hcs' : cs = [Value.string y] := hcs
        subst hcs'
        have := hu 0 _ rfl
        simpa [Kd.string, Kd.scalar] using this
      have h0 := hcells 0 x (by rw [hl]; rfl)
      obtain ⟨bk, o, p⟩ := ad
      have hp : p = none := by
        cases p with
        | none => rfl
        | some q =>
          unfold World.cell? Addr.add at h0
          split at h0
          · simp at h0
          · cases h0
      subst hp
      refine (Tryd.strings_Join bk o c0 l0 a1 w (fun j y hj => by
        have hh := hcells j y hj
        by_cases z : j = 0
        · subst z; simpa [Addr.add] using hh
        · simpa [Addr.add, z] using hh) (lt_of_cell_ h0) c.1 hc0 c.2).mono ?_
      rintro e w' ⟨rfl, hb⟩
      exact ⟨rfl, hb⟩
  · rw [if_neg c] at h
    cases h

/-! ### impl_Joined: function 65 -/
def impl_Joined.f (l0 : List ByteArray) (a1 : ByteArray) : Option (ByteArray) := (strings_Join.f l0 a1).bind fun t211 => (some t211)
set_option maxHeartbeats 8000000 in
set_option maxRecDepth 100000 in
theorem impl_Joined.calls (A0 : Option Addr) (c0 : Nat) (l0 : List ByteArray) (a1 : ByteArray) (r : ByteArray) (w : World) (hr0 : Kd.C Kd.string w A0 l0.length l0) (hc0 : l0.length ≤ c0) (h : impl_Joined.f l0 a1 = some r) :
    Calls Tryd.prog 65 #[.slice A0 l0.length c0, .string a1] w fun e w' => e = .returned (.string r) ∧ Below w.heap.size w w' := by
  have HR0 := Aside0.mk hr0
  have HC0 := Aside0.mk hc0
  clear hr0 hc0
  have HB := Aside0.mk (Below.refl w.heap.size w)
  have H : ((strings_Join.f l0 a1).bind fun t211 => (some t211)) = some r := h
  clear h
  replace H := Option.bind_eq_some_iff.mp H
  obtain ⟨t211, A30, H⟩ := H
  replace H : (some t211) = some r := H
  have A3 := Aside0.mk A30
  clear A30
  obtain rfl := Option.some.inj H
  go_enter Tryd.func65, Tryd.ntmps65
  go_wp2_with (first | ((with_reducible refine gate_callee (f := 81) rfl ?_); refine goesL_ (some 7) rfl rfl Tryd.func81 (by kernel_rfl) rfl #[.slice A0 l0.length c0, .string a1] rfl mp_ ?_; (with_reducible refine (strings_Join.calls _ _ l0 a1 t211 _ ?side1 ?side2 A3.out).mono ?_); (case side1 => repeat (first | exact HR0.out | (with_reducible refine Kd.C_alloc ?_ _) | (with_reducible refine Kd.C_drewN ?_ _) | (with_reducible refine Kd.C_drew ?_))); (case side2 => exact HC0.out); rintro e w4 ⟨rfl, hb⟩; refine ⟨_, rfl, ?_⟩; have n0_ := Aside0.mk (below_step bel_ hb); clear HB; have HB := n0_; clear n0_; (try clear hb); (try clear hb2); (try clear hk); (try clear hi)))
  go_ret
  exact ⟨rf_, bel_⟩

/-! ### impl_signsText: function 38 -/
def impl_signsText.l0 : Nat → List ByteArray → List Int → Int → Int → Option (ByteArray)
  | 0, _, _, _, _ => none
  | k + 1, x3, x7, x8, x9 => if x9 < x8 then (if 0 ≤ x9 then (if x9 < (x7.length : Int) then (if 0 ≤ (wrap64 ((rd x7 x9) + 1)) then (if (wrap64 ((rd x7 x9) + 1)) ≤ (wrap64 ((rd x7 x9) + 2)) then (if (wrap64 ((rd x7 x9) + 2)) ≤ 3 then (if x3.length < 8796093022208 then (impl_signsText.l0 k (x3 ++ [(⟨#[45, 48, 43]⟩ : ByteArray).extract ((wrap64 ((rd x7 x9) + 1)) : Int).toNat ((wrap64 ((rd x7 x9) + 2)) : Int).toNat]) x7 x8 (wrap64 (x9 + 1))) else (none)) else (none)) else (none)) else (none)) else (none)) else (none)) else ((impl_Joined.f x3 (⟨#[44]⟩ : ByteArray)).bind fun t219 => (some t219))
def impl_signsText.f (k : Nat) (l0 : List Int) : Option (ByteArray) := impl_signsText.l0 k (([] : List ByteArray)) l0 (l0.length : Int) 0
theorem impl_signsText.mono_l : ∀ k, (∀ y0 y1 y2 y3, LeO (impl_signsText.l0 k y0 y1 y2 y3) (impl_signsText.l0 (k + 1) y0 y1 y2 y3))
  | 0 => fun _ _ _ _ r h => by simp [impl_signsText.l0] at h
  | k + 1 => by
    have ih0 := impl_signsText.mono_l k
    · intro y0 y1 y2 y3
      unfold impl_signsText.l0
      repeat' first
      | (with_reducible exact ih0 _ _ _ _)
      | (with_reducible exact LeO.refl _)
      | (with_reducible exact LeO.none _)
      | (with_reducible refine LeO.ite ?_ ?_)
      | (with_reducible refine LeO.bind ?_ (fun _ => ?_))
      | exact ih0 _ _ _ _
      | exact LeO.none _
      | refine LeO.ite ?_ ?_
      | refine LeO.bind ?_ (fun _ => ?_)
theorem impl_signsText.mono : ∀ a0 k, LeO (impl_signsText.f k a0) (impl_signsText.f (k + 1) a0) := by
  intro a0 k
  have ih0 := impl_signsText.mono_l k
  unfold impl_signsText.f
  repeat' first
      | (with_reducible exact ih0 _ _ _ _)
      | (with_reducible exact LeO.refl _)
      | (with_reducible exact LeO.none _)
      | (with_reducible refine LeO.ite ?_ ?_)
      | (with_reducible refine LeO.bind ?_ (fun _ => ?_))
      | exact ih0 _ _ _ _
      | exact LeO.none _
      | refine LeO.ite ?_ ?_
      | refine LeO.bind ?_ (fun _ => ?_)
set_option maxHeartbeats 8000000 in
set_option maxRecDepth 100000 in
theorem impl_signsText.calls (k : Nat) (A0 : Option Addr) (c0 : Nat) (l0 : List Int) (r : ByteArray) (w : World) (hr0 : Kd.C (Kd.int .i64) w A0 l0.length l0) (hc0 : l0.length ≤ c0) (h : impl_signsText.f k l0 = some r) :
    Calls Tryd.prog 38 #[.slice A0 l0.length c0] w fun e w' => e = .returned (.string r) ∧ Below w.heap.size w w' := by
  have HR0 := Aside0.mk hr0
  have HC0 := Aside0.mk hc0
  clear hr0 hc0
  have HB := Aside0.mk (Below.refl w.heap.size w)
  have H : (impl_signsText.l0 k (([] : List ByteArray)) l0 (l0.length : Int) 0) = some r := h
  clear h
  obtain ⟨y212, hy212⟩ : ∃ y_ : List ByteArray, y_ = (([] : List ByteArray)) := ⟨_, rfl⟩
  replace H : (impl_signsText.l0 k y212 l0 (l0.length : Int) 0) = some r := by first | (rw [hy212]; with_reducible exact H) | (have H2_ := (Option.bind_some _ _).symm.trans H; rw [hy212]; with_reducible exact H2_) | (have H2_ := (Option.bind_some _ _).symm.trans H; with_reducible exact H2_) | with_reducible exact H | (rw [hy212]; exact H) | exact H
  have Ny212 := Aside0.mk hy212
  clear hy212
  have H' := Aside0.mk H
  clear H
  go_enter Tryd.func38, Tryd.ntmps38
  go_wp2_with (first | ((with_reducible refine gate_dst (N := 6) rfl ?_); refine Kd.R_lit Kd.string _ 9 ?hg (N := 6) ?hd (xs := ([] : List ByteArray)) (inner := []) (ok := fun _ => True) (okp := fun _ => True) ?hr ?hp (fun _ hk => hk) trivial (Below.refl _ _) (Nat.le_refl _) (by simp) ?_; (case hd => rfl); (case hg => rfl); (case hr => first | (go_simp; done) | (go_simp; rfl)); (case hp => exact (Reps.none _ _)); intro v213 w2 ho3 hb hg_ hnew_; clear hg_ hnew_; (first | rw [← Ny212.out] at ho3 | (simp only [Int.reduceToNat] at ho3; rw [← Ny212.out] at ho3)); have n0_ := Aside0.mk (Kd.R_lower ho3 (below_size bel_)); have n1_ := Aside0.mk (below_step bel_ hb); clear HB; have HO214 := n0_; have HB := n1_; clear n0_ n1_; clear hb ho3))
  go_loopg [3, 9] k (fun kq v3 v9 w' => ∃ (x3_1 : List ByteArray) (x9_1 : Int), v9 = .int .i64 x9_1 ∧ Aside0 (impl_signsText.l0 kq x3_1 l0 (l0.length : Int) x9_1 = some r) ∧ Aside0 (kq ≤ k) ∧ Aside0 (Kd.R Kd.string 9 w' w.heap.size (fun _ => True) v3 x3_1) ∧ Aside0 (Below w.heap.size w w'))
  case atStart => exact ⟨(y212), (0), (by first | rfl | (simp; done) | (simp [*]; done)), H', ⟨Nat.le_refl _⟩, ⟨by (with_reducible repeat (first | apply Kd.R_alloc | apply Kd.R_drewN | apply Kd.R_drew)); exact HO214.out⟩, ⟨bel_⟩⟩
  case round =>
    clear H'
    try clear p2
    try clear c3
    obtain ⟨x3_1, x9_1, rfl, HA, HK1, HO_3, HB⟩ := hrel
    cases gk with
    | zero => exact absurd HA.out (by simp [impl_signsText.l0])
    | succ k1 =>
      have H := HA.out
      clear HA
      simp only [impl_signsText.l0] at H
      by_cases c4 : x9_1 < (l0.length : Int)
      · rw [if_pos c4] at H
        have c4b0 : decide (x9_1 < (l0.length : Int)) = true := decide_eq_true c4
        clear c4
        by_cases c5 : 0 ≤ x9_1
        · rw [if_pos c5] at H
          have c5b0 : decide (0 ≤ x9_1) = true := decide_eq_true c5
          clear c5
          by_cases c6 : x9_1 < (l0.length : Int)
          · rw [if_pos c6] at H
            have c6b0 : decide (x9_1 < (l0.length : Int)) = true := decide_eq_true c6
            clear c6
            obtain ⟨ji7, hji7⟩ : ∃ j_ : Int, (wrap64 ((rd l0 x9_1) + 1)) = j_ := ⟨_, rfl⟩
            replace H : (if 0 ≤ (ji7) then (if (ji7) ≤ (wrap64 ((rd l0 x9_1) + 2)) then (if (wrap64 ((rd l0 x9_1) + 2)) ≤ 3 then (if x3_1.length < 8796093022208 then (impl_signsText.l0 k1 (x3_1 ++ [(⟨#[45, 48, 43]⟩ : ByteArray).extract ((ji7) : Int).toNat ((wrap64 ((rd l0 x9_1) + 2)) : Int).toNat]) l0 (l0.length : Int) (wrap64 (x9_1 + 1))) else (none)) else (none)) else (none)) else (none)) = some r := by first | (rw [hji7] at H; exact H) | (simp only [hji7] at H ⊢; exact H)
            have hji7w : (IntKind.i64.wrap ((rd l0 x9_1) + 1)) = ji7 := (i64_w _).trans hji7
            by_cases c8 : 0 ≤ (ji7)
            · rw [if_pos c8] at H
              have c8b0 := eq_true c8
              have c8b1 : decide (0 ≤ (ji7)) = true := decide_eq_true c8
              clear c8
              by_cases c9 : (ji7) ≤ (wrap64 ((rd l0 x9_1) + 2))
              · rw [if_pos c9] at H
                have c9b0 := eq_true c9
                have c9b1 : decide ((ji7) ≤ (wrap64 ((rd l0 x9_1) + 2))) = true := decide_eq_true c9
                by_cases c10 : (wrap64 ((rd l0 x9_1) + 2)) ≤ 3
                · rw [if_pos c10] at H
                  have c10b0 := eq_true c10
                  have c10b1 : decide ((wrap64 ((rd l0 x9_1) + 2)) ≤ 3) = true := decide_eq_true c10
                  by_cases c11 : x3_1.length < 8796093022208
                  · rw [if_pos c11] at H
                    have LMc11 := Aside0.mk c11
                    clear c11
                    obtain ⟨y216, hy216⟩ : ∃ y_ : List ByteArray, y_ = (x3_1 ++ [(⟨#[45, 48, 43]⟩ : ByteArray).extract ((ji7) : Int).toNat ((wrap64 ((rd l0 x9_1) + 2)) : Int).toNat]) := ⟨_, rfl⟩
                    replace H : (impl_signsText.l0 k1 y216 l0 (l0.length : Int) (wrap64 (x9_1 + 1))) = some r := by first | (rw [hy216]; with_reducible exact H) | (have H2_ := (Option.bind_some _ _).symm.trans H; rw [hy216]; with_reducible exact H2_) | (have H2_ := (Option.bind_some _ _).symm.trans H; with_reducible exact H2_) | with_reducible exact H | (rw [hy216]; exact H) | exact H
                    have Ny216 := Aside0.mk hy216
                    clear hy216
                    have H' := Aside0.mk H
                    clear H
                    have p215 : 0 ≤ (x9_1 : Int) := of_decide_eq_true (by first | (with_reducible assumption) | assumption)
                    have q215 : x9_1 < (l0.length : Int) := of_decide_eq_true (by first | (with_reducible assumption) | assumption)
                    obtain ⟨ad215, e215, hx215_0⟩ := Kd.at_int HR0.out x9_1 p215 q215
                    cases e215
                    replace hx215_0 := (HB.out.cell (World.block_lt_of_cell? w _ hx215_0)).trans hx215_0
                    replace p215 := eq_true p215
                    replace q215 := eq_true q215
                    go_wp2_with (first | ((with_reducible refine gate_builtin (b := .append) (xs := #[.tmp 13, .tmp 19]) rfl ?_); at_builtin; refine Kd.R_append Kd.string (w0 := w) w.heap.size rfl (.tmp 13) (.tmp 19) 52 9 (.string ⟨#[]⟩) 16 rfl Tryd.underlying52 info9 rfl (by decide) (by omega) u3 x3_1 ((⟨#[45, 48, 43]⟩ : ByteArray).extract ((ji7) : Int).toNat ((wrap64 ((rd l0 x9_1) + 2)) : Int).toNat) [.string ((⟨#[45, 48, 43]⟩ : ByteArray).extract ((ji7) : Int).toNat ((wrap64 ((rd l0 x9_1) + 2)) : Int).toNat)] (fun _ => True) (fun _ => False) rfl rfl ?aP (fun _ hk => hk.elim) ?aF ?aO ?aB ?aS ?aL ?_; (case aP => exact rfl); (case aB => exact bel_); (case aF => exact (fun _ _ => trivial)); (case aO => exact (by (with_reducible repeat (first | apply Kd.R_alloc | apply Kd.R_drewN | apply Kd.R_drew)); exact HO_3.out)); (case aS => exact (below_size bel_)); (case aL => have := LMc11.out; omega); intro v217 w12 ho hb hg hat; rw [← Ny216.out] at ho; have n0_ := Aside0.mk (hb); have n1_ := Aside0.mk (ho); clear HB; clear HO_3; have HB := n0_; have HO218 := n1_; clear n0_ n1_; clear ho hb hg hat))
                    go_roundg k1
                    case measure => have := HK1.out; omega
                    case rel => exact ⟨(y216), (wrap64 (x9_1 + 1)), (by first | rfl | (simp; done) | (simp [*]; done)), H', ⟨by have := HK1.out; omega⟩, ⟨by (with_reducible repeat (first | apply Kd.R_alloc | apply Kd.R_drewN | apply Kd.R_drew)); exact HO218.out⟩, ⟨bel_⟩⟩
                  · rw [if_neg c11] at H
                    exact absurd H (by simp)
                · rw [if_neg c10] at H
                  exact absurd H (by simp)
              · rw [if_neg c9] at H
                exact absurd H (by simp)
            · rw [if_neg c8] at H
              exact absurd H (by simp)
          · rw [if_neg c6] at H
            exact absurd H (by simp)
        · rw [if_neg c5] at H
          exact absurd H (by simp)
      · rw [if_neg c4] at H
        have c4b0 : decide (x9_1 < (l0.length : Int)) = false := decide_eq_false c4
        clear c4
        replace H := Option.bind_eq_some_iff.mp H
        obtain ⟨t219, A130, H⟩ := H
        replace H : (some t219) = some r := H
        have A13 := Aside0.mk A130
        clear A130
        obtain rfl := Option.some.inj H
        obtain ⟨Ao14, co14, eo14⟩ := Kd.R_slice HO_3.out
        subst eo14
        go_wp2_with (first | ((with_reducible refine gate_callee (f := 65) rfl ?_); refine goesL_ (some 23) rfl rfl Tryd.func65 (by kernel_rfl) rfl #[.slice Ao14 x3_1.length co14, .string (⟨#[44]⟩ : ByteArray)] rfl mp_ ?_; (with_reducible refine (impl_Joined.calls _ _ x3_1 (⟨#[44]⟩ : ByteArray) t219 _ ?side1 ?side2 A13.out).mono ?_); (case side1 => repeat (first | exact (Kd.R_reads' HO_3.out).2.2 | (with_reducible refine Kd.C_alloc ?_ _) | (with_reducible refine Kd.C_drewN ?_ _) | (with_reducible refine Kd.C_drew ?_))); (case side2 => exact (Kd.R_reads' HO_3.out).2.1); rintro e w15 ⟨rfl, hb⟩; refine ⟨_, rfl, ?_⟩; have n0_ := Aside0.mk (Kd.R_below (by (with_reducible repeat (first | apply Kd.R_alloc | apply Kd.R_drewN | apply Kd.R_drew)); exact HO_3.out) hb); have n1_ := Aside0.mk (below_step bel_ hb); clear HO_3; clear HB; have HO_3 := n0_; have HB := n1_; clear n0_ n1_; (try clear hb); (try clear hb2); (try clear hk); (try clear hi)))
        go_ret
        exact ⟨rf_, bel_⟩

end Go.Proofs.YtcbiijfiecjcaaaDoor.PFnExactConfigText
