/- Contracts of Go functions, each with the Lean function that says what it computes: begun by the print, turned by this session. No condition beyond what each theorem states. -/
import Derived.Test.YtcbiijfiecjcaaaDoorPFnExactConfigTextx0
import Derived.Test.YtcbiijfiecjcaaaDoorPFnExactConfigTextx1
import Derived.Test.YtcbiijfiecjcaaaDoorPFnExactConfigTextx2
import Derived.Test.YtcbiijfiecjcaaaDoorPFnExactConfigTextx3
namespace Go.Proofs.YtcbiijfiecjcaaaDoor.PFnExactConfigText
open Go.RowKit Go.Proofs.YtcbiijfiecjcaaaDoorW.PrintWords Go.Proofs.YtcbiijfiecjcaaaDoorW.PrintLast Go.Proofs.YtcbiijfiecjcaaaDoorW.PrintMore
attribute [local go_sem] max2_int min2_int max_two min_two max_three min_three max_four min_four   -- for this text's walks alone
set_option linter.unusedVariables false
set_option linter.unusedSimpArgs false

/-! ### spec_ConfigText: function 11 -/
mutual
def spec_ConfigText.l0 : Nat → ByteArray → List Int → Int → Int → Int → Int → Int → Int → Int → Int → List Int → Option (ByteArray)
  | 0, _, _, _, _, _, _, _, _, _, _, _ => none
  | k + 1, x3, x4, x5, x155000, x155001, x155002, x155003, x155004, x155005, x155006, x155007 => if x5 < 5 then ((spec_l8Words.f).bind fun t159 => (if 0 ≤ x5 then (if x5 < (t159.length : Int) then (if x3.size + (rdOf ByteArray.empty t159 x5).size ≤ 9223372036854775807 then (if (x3 ++ (rdOf ByteArray.empty t159 x5)).size + 1 ≤ 9223372036854775807 then (if x5 < (x4.length : Int) then ((spec_Digits.f k (rd x4 x5)).bind fun t164 => (if ((x3 ++ (rdOf ByteArray.empty t159 x5)) ++ (⟨#[61]⟩ : ByteArray)).size + t164.size ≤ 9223372036854775807 then (if (((x3 ++ (rdOf ByteArray.empty t159 x5)) ++ (⟨#[61]⟩ : ByteArray)) ++ t164).size + 1 ≤ 9223372036854775807 then (spec_ConfigText.l0 k ((((x3 ++ (rdOf ByteArray.empty t159 x5)) ++ (⟨#[61]⟩ : ByteArray)) ++ t164) ++ (⟨#[10]⟩ : ByteArray)) x4 (wrap64 (x5 + 1)) x155000 x155001 x155002 x155003 x155004 x155005 x155006 x155007) else (none)) else (none))) else (none)) else (none)) else (none)) else (none)) else (none))) else (if x3.size + 5 ≤ 9223372036854775807 then ((spec_Digits.f k x155005).bind fun t165 => (if (x3 ++ (⟨#[114, 97, 116, 101, 61]⟩ : ByteArray)).size + t165.size ≤ 9223372036854775807 then (if ((x3 ++ (⟨#[114, 97, 116, 101, 61]⟩ : ByteArray)) ++ t165).size + 1 ≤ 9223372036854775807 then ((spec_Digits.f k x155006).bind fun t166 => (if (((x3 ++ (⟨#[114, 97, 116, 101, 61]⟩ : ByteArray)) ++ t165) ++ (⟨#[47]⟩ : ByteArray)).size + t166.size ≤ 9223372036854775807 then (if ((((x3 ++ (⟨#[114, 97, 116, 101, 61]⟩ : ByteArray)) ++ t165) ++ (⟨#[47]⟩ : ByteArray)) ++ t166).size + 1 ≤ 9223372036854775807 then (if (x155007.length : Int) = 0 then (some (((((x3 ++ (⟨#[114, 97, 116, 101, 61]⟩ : ByteArray)) ++ t165) ++ (⟨#[47]⟩ : ByteArray)) ++ t166) ++ (⟨#[10]⟩ : ByteArray))) else (spec_ConfigText.l1 k (((((x3 ++ (⟨#[114, 97, 116, 101, 61]⟩ : ByteArray)) ++ t165) ++ (⟨#[47]⟩ : ByteArray)) ++ t166) ++ (⟨#[10]⟩ : ByteArray)) (([] : List ByteArray)) 0 x155000 x155001 x155002 x155003 x155004 x155005 x155006 x155007)) else (none)) else (none))) else (none)) else (none))) else (none))
def spec_ConfigText.l1 : Nat → ByteArray → List ByteArray → Int → Int → Int → Int → Int → Int → Int → Int → List Int → Option (ByteArray)
  | 0, _, _, _, _, _, _, _, _, _, _, _ => none
  | k + 1, x3, x6, x7, x155000, x155001, x155002, x155003, x155004, x155005, x155006, x155007 => if x7 < (x155007.length : Int) then ((some (([(⟨#[45]⟩ : ByteArray), (⟨#[48]⟩ : ByteArray), (⟨#[43]⟩ : ByteArray)] : List ByteArray) : List ByteArray)).bind fun y170 => (if 0 ≤ x7 then (if 0 ≤ (wrap64 ((rd x155007 x7) + 1)) then (if (wrap64 ((rd x155007 x7) + 1)) < (y170.length : Int) then (if x6.length < 8796093022208 then (spec_ConfigText.l1 k x3 (x6 ++ [rdOf ByteArray.empty y170 (wrap64 ((rd x155007 x7) + 1))]) (wrap64 (x7 + 1)) x155000 x155001 x155002 x155003 x155004 x155005 x155006 x155007) else (none)) else (none)) else (none)) else (none))) else (if x3.size + 6 ≤ 9223372036854775807 then ((spec_Joined.f k x6 (⟨#[44]⟩ : ByteArray)).bind fun t178 => (if (x3 ++ (⟨#[115, 105, 103, 110, 115, 61]⟩ : ByteArray)).size + t178.size ≤ 9223372036854775807 then (if ((x3 ++ (⟨#[115, 105, 103, 110, 115, 61]⟩ : ByteArray)) ++ t178).size + 1 ≤ 9223372036854775807 then (some (((x3 ++ (⟨#[115, 105, 103, 110, 115, 61]⟩ : ByteArray)) ++ t178) ++ (⟨#[10]⟩ : ByteArray))) else (none)) else (none))) else (none))
end
def spec_ConfigText.f (k : Nat) (a0_0 : Int) (a0_1 : Int) (a0_2 : Int) (a0_3 : Int) (a0_4 : Int) (a0_5 : Int) (a0_6 : Int) (l0_7 : List Int) : Option (ByteArray) := (spec_ConfigOk.f k a0_0 a0_1 a0_2 a0_3 a0_4 a0_5 a0_6 l0_7).bind fun t155 => (if t155 = true then ((spec_l8Numbers.f a0_0 a0_1 a0_2 a0_3 a0_4 a0_5 a0_6 l0_7).bind fun t156 => (spec_ConfigText.l0 k (⟨#[]⟩ : ByteArray) t156 0 a0_0 a0_1 a0_2 a0_3 a0_4 a0_5 a0_6 l0_7)) else (some (⟨#[]⟩ : ByteArray)))
theorem spec_ConfigText.mono_l : ∀ k, (∀ y0 y1 y2 y3 y4 y5 y6 y7 y8 y9 y10, LeO (spec_ConfigText.l0 k y0 y1 y2 y3 y4 y5 y6 y7 y8 y9 y10) (spec_ConfigText.l0 (k + 1) y0 y1 y2 y3 y4 y5 y6 y7 y8 y9 y10)) ∧ (∀ y0 y1 y2 y3 y4 y5 y6 y7 y8 y9 y10, LeO (spec_ConfigText.l1 k y0 y1 y2 y3 y4 y5 y6 y7 y8 y9 y10) (spec_ConfigText.l1 (k + 1) y0 y1 y2 y3 y4 y5 y6 y7 y8 y9 y10))
  | 0 => ⟨fun _ _ _ _ _ _ _ _ _ _ _ r h => by simp [spec_ConfigText.l0] at h, fun _ _ _ _ _ _ _ _ _ _ _ r h => by simp [spec_ConfigText.l1] at h⟩
  | k + 1 => by
    obtain ⟨ih0, ih1⟩ := spec_ConfigText.mono_l k
    refine ⟨?_, ?_⟩
    · intro y0 y1 y2 y3 y4 y5 y6 y7 y8 y9 y10
      unfold spec_ConfigText.l0
      repeat' first
      | (with_reducible exact ih0 _ _ _ _ _ _ _ _ _ _ _)
      | (with_reducible exact ih1 _ _ _ _ _ _ _ _ _ _ _)
      | (with_reducible exact spec_ConfigOk.mono _ _ _ _ _ _ _ _ _)
      | (with_reducible exact spec_Digits.mono _ _)
      | (with_reducible exact spec_Joined.mono _ _ _)
      | (with_reducible exact LeO.refl _)
      | (with_reducible exact LeO.none _)
      | (with_reducible refine LeO.ite ?_ ?_)
      | (with_reducible refine LeO.bind ?_ (fun _ => ?_))
      | exact ih0 _ _ _ _ _ _ _ _ _ _ _
      | exact ih1 _ _ _ _ _ _ _ _ _ _ _
      | exact spec_ConfigOk.mono _ _ _ _ _ _ _ _ _
      | exact spec_Digits.mono _ _
      | exact spec_Joined.mono _ _ _
      | exact LeO.none _
      | refine LeO.ite ?_ ?_
      | refine LeO.bind ?_ (fun _ => ?_)
    · intro y0 y1 y2 y3 y4 y5 y6 y7 y8 y9 y10
      unfold spec_ConfigText.l1
      repeat' first
      | (with_reducible exact ih0 _ _ _ _ _ _ _ _ _ _ _)
      | (with_reducible exact ih1 _ _ _ _ _ _ _ _ _ _ _)
      | (with_reducible exact spec_ConfigOk.mono _ _ _ _ _ _ _ _ _)
      | (with_reducible exact spec_Digits.mono _ _)
      | (with_reducible exact spec_Joined.mono _ _ _)
      | (with_reducible exact LeO.refl _)
      | (with_reducible exact LeO.none _)
      | (with_reducible refine LeO.ite ?_ ?_)
      | (with_reducible refine LeO.bind ?_ (fun _ => ?_))
      | exact ih0 _ _ _ _ _ _ _ _ _ _ _
      | exact ih1 _ _ _ _ _ _ _ _ _ _ _
      | exact spec_ConfigOk.mono _ _ _ _ _ _ _ _ _
      | exact spec_Digits.mono _ _
      | exact spec_Joined.mono _ _ _
      | exact LeO.none _
      | refine LeO.ite ?_ ?_
      | refine LeO.bind ?_ (fun _ => ?_)
theorem spec_ConfigText.mono : ∀ a0 a1 a2 a3 a4 a5 a6 a7 k, LeO (spec_ConfigText.f k a0 a1 a2 a3 a4 a5 a6 a7) (spec_ConfigText.f (k + 1) a0 a1 a2 a3 a4 a5 a6 a7) := by
  intro a0 a1 a2 a3 a4 a5 a6 a7 k
  obtain ⟨ih0, ih1⟩ := spec_ConfigText.mono_l k
  unfold spec_ConfigText.f
  repeat' first
      | (with_reducible exact ih0 _ _ _ _ _ _ _ _ _ _ _)
      | (with_reducible exact ih1 _ _ _ _ _ _ _ _ _ _ _)
      | (with_reducible exact spec_ConfigOk.mono _ _ _ _ _ _ _ _ _)
      | (with_reducible exact spec_Digits.mono _ _)
      | (with_reducible exact spec_Joined.mono _ _ _)
      | (with_reducible exact LeO.refl _)
      | (with_reducible exact LeO.none _)
      | (with_reducible refine LeO.ite ?_ ?_)
      | (with_reducible refine LeO.bind ?_ (fun _ => ?_))
      | exact ih0 _ _ _ _ _ _ _ _ _ _ _
      | exact ih1 _ _ _ _ _ _ _ _ _ _ _
      | exact spec_ConfigOk.mono _ _ _ _ _ _ _ _ _
      | exact spec_Digits.mono _ _
      | exact spec_Joined.mono _ _ _
      | exact LeO.none _
      | refine LeO.ite ?_ ?_
      | refine LeO.bind ?_ (fun _ => ?_)
def spec_ConfigText.T8 : Bool × List (List Nat × List Nat) := (true, [([], []), ([], []), ([], []), ([1, 2], [1, 2]), ([3], [3]), ([0, 4], [0, 4]), ([5], [5]), ([], []), ([], []), ([7, 8], [7, 8]), ([9], [9]), ([10, 1], [10]), ([6, 11], [6, 11]), ([12], [12]), ([13, 11, 0, 1, 2, 3, 4, 5, 6, 7, 8, 9, 10, 11, 12, 13], [0, 13])])
def spec_ConfigText.B8 : List Nat := [0, 0, 0, 6, 14, 31, 63, 0, 0, 384, 896, 1922, 4095, 8191, 16383]
theorem spec_ConfigText.tab8 : rtab .any (opsOf Tryd.f11 8) = spec_ConfigText.T8 := by kernel_rfl
theorem spec_ConfigText.bits8 : waitsOk spec_ConfigText.T8.2 spec_ConfigText.B8 = true := by kernel_rfl
def spec_ConfigText.T9 : Bool × List (List Nat × List Nat) := (true, [([], []), ([0], [0]), ([], []), ([2], [2]), ([3], [3]), ([1, 4], [1, 4]), ([5], [5]), ([], []), ([7], [7]), ([8, 4], [8]), ([6, 9], [6, 9]), ([10], [10]), ([11, 9, 0, 1, 2, 3, 4, 5, 6, 7, 8, 9, 10, 11], [0, 11])])
def spec_ConfigText.B9 : List Nat := [0, 1, 0, 4, 12, 31, 63, 0, 128, 412, 1023, 2047, 4095]
theorem spec_ConfigText.tab9 : rtab .any (opsOf Tryd.f11 9) = spec_ConfigText.T9 := by kernel_rfl
theorem spec_ConfigText.bits9 : waitsOk spec_ConfigText.T9.2 spec_ConfigText.B9 = true := by kernel_rfl
set_option maxHeartbeats 8000000 in
set_option maxRecDepth 100000 in
theorem spec_ConfigText.calls (k : Nat) (a0_0 : Int) (a0_1 : Int) (a0_2 : Int) (a0_3 : Int) (a0_4 : Int) (a0_5 : Int) (a0_6 : Int) (A0_7 : Option Addr) (c0_7 : Nat) (l0_7 : List Int) (r : ByteArray) (w : World) (hr0_7 : Kd.C (Kd.int .i64) w A0_7 l0_7.length l0_7) (hc0_7 : l0_7.length ≤ c0_7) (h : spec_ConfigText.f k a0_0 a0_1 a0_2 a0_3 a0_4 a0_5 a0_6 l0_7 = some r) :
    Calls Tryd.prog 11 #[.agg #[.int .i64 a0_0, .int .i64 a0_1, .int .i64 a0_2, .int .i64 a0_3, .int .i64 a0_4, .int .i64 a0_5, .int .i64 a0_6, .slice A0_7 l0_7.length c0_7]] w fun e w' => e = .returned (.string r) ∧ Below w.heap.size w w' := by
  have hu29 := Tryd.underlying29
  have HR0_7 := Aside0.mk hr0_7
  have HC0_7 := Aside0.mk hc0_7
  clear hr0_7 hc0_7
  have HB := Aside0.mk (Below.refl w.heap.size w)
  have H : ((spec_ConfigOk.f k a0_0 a0_1 a0_2 a0_3 a0_4 a0_5 a0_6 l0_7).bind fun t155 => (if t155 = true then ((spec_l8Numbers.f a0_0 a0_1 a0_2 a0_3 a0_4 a0_5 a0_6 l0_7).bind fun t156 => (spec_ConfigText.l0 k (⟨#[]⟩ : ByteArray) t156 0 a0_0 a0_1 a0_2 a0_3 a0_4 a0_5 a0_6 l0_7)) else (some (⟨#[]⟩ : ByteArray)))) = some r := h
  clear h
  replace H := Option.bind_eq_some_iff.mp H
  obtain ⟨t155, A20, H⟩ := H
  replace H : (if t155 = true then ((spec_l8Numbers.f a0_0 a0_1 a0_2 a0_3 a0_4 a0_5 a0_6 l0_7).bind fun t156 => (spec_ConfigText.l0 k (⟨#[]⟩ : ByteArray) t156 0 a0_0 a0_1 a0_2 a0_3 a0_4 a0_5 a0_6 l0_7)) else (some (⟨#[]⟩ : ByteArray))) = some r := H
  have A2 := Aside0.mk A20
  clear A20
  by_cases c3 : t155 = true
  · subst c3
    have H1 : ((spec_l8Numbers.f a0_0 a0_1 a0_2 a0_3 a0_4 a0_5 a0_6 l0_7).bind fun t156 => (spec_ConfigText.l0 k (⟨#[]⟩ : ByteArray) t156 0 a0_0 a0_1 a0_2 a0_3 a0_4 a0_5 a0_6 l0_7)) = some r := by rw [if_pos rfl] at H; exact H
    clear H
    have H := H1
    clear H1
    replace H := Option.bind_eq_some_iff.mp H
    obtain ⟨t156, A40, H⟩ := H
    replace H : (spec_ConfigText.l0 k (⟨#[]⟩ : ByteArray) t156 0 a0_0 a0_1 a0_2 a0_3 a0_4 a0_5 a0_6 l0_7) = some r := H
    have A4 := Aside0.mk A40
    clear A40
    have H' := Aside0.mk H
    clear H
    go_enter Tryd.func11, Tryd.ntmps11
    go_wp2_with (first | ((with_reducible refine gate_dst (N := 1) rfl ?_); refine box_event ?hg (N := 1) ?hd (cs := #[.int .i64 a0_0, .int .i64 a0_1, .int .i64 a0_2, .int .i64 a0_3, .int .i64 a0_4, .int .i64 a0_5, .int .i64 a0_6, .slice A0_7 l0_7.length c0_7]) (t := 29) ?hr ?_; (case hd => rfl); (case hg => rfl); (case hr => first | (go_simp; done) | (go_simp; rfl)); intro gb154 hg w5 hbox hb; have n0_ := Aside0.mk (below_step bel_ hb); have n1_ := Aside0.mk (hbox); have n2_ := bs_ (w := w) hg; have n3_ := bs_ (w := w) hg; clear HB; have HB := n0_; have BK154 := n1_; have GW154 := n2_; have GE154 := n3_; clear n0_ n1_ n2_ n3_; clear hb hbox hg; have hcz6_0 : w5.cell? ⟨gb154, 0, none⟩ = some (.int .i64 a0_0) := bc_; have hcz6_1 : w5.cell? ⟨gb154, 1, none⟩ = some (.int .i64 a0_1) := bc_; have hcz6_2 : w5.cell? ⟨gb154, 2, none⟩ = some (.int .i64 a0_2) := bc_; have hcz6_3 : w5.cell? ⟨gb154, 3, none⟩ = some (.int .i64 a0_3) := bc_; have hcz6_4 : w5.cell? ⟨gb154, 4, none⟩ = some (.int .i64 a0_4) := bc_; have hcz6_5 : w5.cell? ⟨gb154, 5, none⟩ = some (.int .i64 a0_5) := bc_; have hcz6_6 : w5.cell? ⟨gb154, 6, none⟩ = some (.int .i64 a0_6) := bc_; have hcz6_7 : w5.cell? ⟨gb154, 7, none⟩ = some (.slice A0_7 l0_7.length c0_7) := bc_; have hfz6_0 := blk_frozen BK154.out 0; have hfz6_1 := blk_frozen BK154.out 1; have hfz6_2 := blk_frozen BK154.out 2; have hfz6_3 := blk_frozen BK154.out 3; have hfz6_4 := blk_frozen BK154.out 4; have hfz6_5 := blk_frozen BK154.out 5; have hfz6_6 := blk_frozen BK154.out 6; have hfz6_7 := blk_frozen BK154.out 7) | ((with_reducible refine gate_callee (f := 30) rfl ?_); refine goesL_ (some 9) rfl rfl Tryd.func30 (by kernel_rfl) rfl #[.agg #[.int .i64 a0_0, .int .i64 a0_1, .int .i64 a0_2, .int .i64 a0_3, .int .i64 a0_4, .int .i64 a0_5, .int .i64 a0_6, .slice A0_7 l0_7.length c0_7]] rfl mp_ ?_; (with_reducible refine (spec_ConfigOk.calls k a0_0 a0_1 a0_2 a0_3 a0_4 a0_5 a0_6 _ _ l0_7 true _ ?side1 ?side2 A2.out).mono ?_); (case side1 => repeat (first | exact (Kd.C_below HR0_7.out HB.out) | (with_reducible refine Kd.C_alloc ?_ _) | (with_reducible refine Kd.C_drewN ?_ _) | (with_reducible refine Kd.C_drew ?_))); (case side2 => exact HC0_7.out); rintro e w7 ⟨rfl, hb⟩; refine ⟨_, rfl, ?_⟩; have n0_ := bb_ (g := gb154) hb; have n1_ := Aside0.mk (below_step bel_ hb); clear BK154; clear HB; have BK154 := n0_; have HB := n1_; clear n0_ n1_; (try clear hb); (try clear hb2); (try clear hk); (try clear hi); have hcz8_0 : w7.cell? ⟨gb154, 0, none⟩ = some (.int .i64 a0_0) := bc_; have hcz8_1 : w7.cell? ⟨gb154, 1, none⟩ = some (.int .i64 a0_1) := bc_; have hcz8_2 : w7.cell? ⟨gb154, 2, none⟩ = some (.int .i64 a0_2) := bc_; have hcz8_3 : w7.cell? ⟨gb154, 3, none⟩ = some (.int .i64 a0_3) := bc_; have hcz8_4 : w7.cell? ⟨gb154, 4, none⟩ = some (.int .i64 a0_4) := bc_; have hcz8_5 : w7.cell? ⟨gb154, 5, none⟩ = some (.int .i64 a0_5) := bc_; have hcz8_6 : w7.cell? ⟨gb154, 6, none⟩ = some (.int .i64 a0_6) := bc_; have hcz8_7 : w7.cell? ⟨gb154, 7, none⟩ = some (.slice A0_7 l0_7.length c0_7) := bc_; have hfz8_0 := blk_frozen BK154.out 0; have hfz8_1 := blk_frozen BK154.out 1; have hfz8_2 := blk_frozen BK154.out 2; have hfz8_3 := blk_frozen BK154.out 3; have hfz8_4 := blk_frozen BK154.out 4; have hfz8_5 := blk_frozen BK154.out 5; have hfz8_6 := blk_frozen BK154.out 6; have hfz8_7 := blk_frozen BK154.out 7) | ((with_reducible refine gate_callee (f := 31) rfl ?_); refine goesL_ (some 12) rfl rfl Tryd.func31 (by kernel_rfl) rfl #[.agg #[.int .i64 a0_0, .int .i64 a0_1, .int .i64 a0_2, .int .i64 a0_3, .int .i64 a0_4, .int .i64 a0_5, .int .i64 a0_6, .slice A0_7 l0_7.length c0_7]] rfl mp_ ?_; (with_reducible refine (spec_l8Numbers.calls a0_0 a0_1 a0_2 a0_3 a0_4 a0_5 a0_6 _ _ l0_7 t156 _ ?side1 ?side2 A4.out).mono ?_); (case side1 => repeat (first | exact (Kd.C_below HR0_7.out HB.out) | (with_reducible refine Kd.C_alloc ?_ _) | (with_reducible refine Kd.C_drewN ?_ _) | (with_reducible refine Kd.C_drew ?_))); (case side2 => exact HC0_7.out); rintro e w9 ⟨v157, rfl, ho0, hb⟩; refine ⟨_, rfl, ?_⟩; have n0_ := Aside0.mk (Kd.R_lower ho0 (below_size bel_)); have n1_ := bb_ (g := gb154) hb; have n2_ := Aside0.mk (below_step bel_ hb); clear BK154; clear HB; have HO158 := n0_; have BK154 := n1_; have HB := n2_; clear n0_ n1_ n2_; (try clear hb); (try clear hb2); (try clear hk); (try clear hi); (try clear ho0)))
    go_loopg [3, 5] k (fun kq v3 v5 w' => ∃ (x3_1 : ByteArray) (x5_1 : Int), v3 = .string x3_1 ∧ v5 = .int .i64 x5_1 ∧ Aside0 (spec_ConfigText.l0 kq x3_1 t156 x5_1 a0_0 a0_1 a0_2 a0_3 a0_4 a0_5 a0_6 l0_7 = some r) ∧ Aside0 (kq ≤ k) ∧ Aside0 (Kd.R (Kd.int .i64) 3 w' w.heap.size (fun _ => True) v157 t156) ∧ Aside0 (w'.heap[gb154]? = some (.cells #[.int .i64 a0_0, .int .i64 a0_1, .int .i64 a0_2, .int .i64 a0_3, .int .i64 a0_4, .int .i64 a0_5, .int .i64 a0_6, (.slice A0_7 l0_7.length c0_7)] 29 (0, 0))) ∧ Aside0 (Below w.heap.size w w'))
    case atStart => exact ⟨((⟨#[]⟩ : ByteArray)), (0), (by first | rfl | (simp; done) | (simp [*]; done)), (by first | rfl | (simp; done) | (simp [*]; done)), H', ⟨Nat.le_refl _⟩, ⟨by (with_reducible repeat (first | apply Kd.R_alloc | apply Kd.R_drewN | apply Kd.R_drew)); exact HO158.out⟩, ⟨by (with_reducible repeat (first | refine bN_ _ ?_ | refine bd_ ?_ | refine ba_ _ ?_)); exact BK154.out⟩, ⟨bel_⟩⟩
    case round =>
      clear H'
      try clear c1
      try clear p2
      try clear c3
      try clear hcz6_0
      try clear hcz6_1
      try clear hcz6_2
      try clear hcz6_3
      try clear hcz6_4
      try clear hcz6_5
      try clear hcz6_6
      try clear hcz6_7
      try clear hcz8_0
      try clear hcz8_1
      try clear hcz8_2
      try clear hcz8_3
      try clear hcz8_4
      try clear hcz8_5
      try clear hcz8_6
      try clear hcz8_7
      try clear hfz6_0
      try clear hfz6_1
      try clear hfz6_2
      try clear hfz6_3
      try clear hfz6_4
      try clear hfz6_5
      try clear hfz6_6
      try clear hfz6_7
      try clear hfz8_0
      try clear hfz8_1
      try clear hfz8_2
      try clear hfz8_3
      try clear hfz8_4
      try clear hfz8_5
      try clear hfz8_6
      try clear hfz8_7
      try clear BK154
      obtain ⟨x3_1, x5_1, rfl, rfl, HA, HK1, HO_4, BK154, HB⟩ := hrel
      cases gk with
      | zero => exact absurd HA.out (by simp [spec_ConfigText.l0])
      | succ k1 =>
        have H := HA.out
        clear HA
        simp only [spec_ConfigText.l0] at H
        by_cases c10 : x5_1 < 5
        · rw [if_pos c10] at H
          have c10b0 : decide (x5_1 < 5) = true := decide_eq_true c10
          clear c10
          replace H := Option.bind_eq_some_iff.mp H
          obtain ⟨t159, A110, H⟩ := H
          replace H : (if 0 ≤ x5_1 then (if x5_1 < (t159.length : Int) then (if x3_1.size + (rdOf ByteArray.empty t159 x5_1).size ≤ 9223372036854775807 then (if (x3_1 ++ (rdOf ByteArray.empty t159 x5_1)).size + 1 ≤ 9223372036854775807 then (if x5_1 < (t156.length : Int) then ((spec_Digits.f k1 (rd t156 x5_1)).bind fun t164 => (if ((x3_1 ++ (rdOf ByteArray.empty t159 x5_1)) ++ (⟨#[61]⟩ : ByteArray)).size + t164.size ≤ 9223372036854775807 then (if (((x3_1 ++ (rdOf ByteArray.empty t159 x5_1)) ++ (⟨#[61]⟩ : ByteArray)) ++ t164).size + 1 ≤ 9223372036854775807 then (spec_ConfigText.l0 k1 ((((x3_1 ++ (rdOf ByteArray.empty t159 x5_1)) ++ (⟨#[61]⟩ : ByteArray)) ++ t164) ++ (⟨#[10]⟩ : ByteArray)) t156 (wrap64 (x5_1 + 1)) a0_0 a0_1 a0_2 a0_3 a0_4 a0_5 a0_6 l0_7) else (none)) else (none))) else (none)) else (none)) else (none)) else (none)) else (none)) = some r := H
          have A11 := Aside0.mk A110
          clear A110
          by_cases c12 : 0 ≤ x5_1
          · rw [if_pos c12] at H
            have c12b0 : decide (0 ≤ x5_1) = true := decide_eq_true c12
            clear c12
            by_cases c13 : x5_1 < (t159.length : Int)
            · rw [if_pos c13] at H
              have c13b0 : decide (x5_1 < (t159.length : Int)) = true := decide_eq_true c13
              clear c13
              by_cases c14 : x3_1.size + (rdOf ByteArray.empty t159 x5_1).size ≤ 9223372036854775807
              · rw [if_pos c14] at H
                have c14b0 := eq_true c14
                have c14b1 : decide (x3_1.size + (rdOf ByteArray.empty t159 x5_1).size ≤ 9223372036854775807) = true := decide_eq_true c14
                try have c14b2 : (9223372036854775807 < x3_1.size + (rdOf ByteArray.empty t159 x5_1).size) = False := eq_false (Nat.not_lt.2 c14)
                by_cases c15 : (x3_1 ++ (rdOf ByteArray.empty t159 x5_1)).size + 1 ≤ 9223372036854775807
                · rw [if_pos c15] at H
                  have c15b0 := eq_true c15
                  have c15b1 : decide ((x3_1 ++ (rdOf ByteArray.empty t159 x5_1)).size + 1 ≤ 9223372036854775807) = true := decide_eq_true c15
                  try have c15b2 : (9223372036854775807 < (x3_1 ++ (rdOf ByteArray.empty t159 x5_1)).size + 1) = False := eq_false (Nat.not_lt.2 c15)
                  (try (have c15b7 := c15b2; simp only [ByteArray.size_append, bsz_, List.size_toArray, List.length_cons, List.length_nil, Nat.zero_add, Nat.reduceAdd] at c15b7))
                  by_cases c16 : x5_1 < (t156.length : Int)
                  · rw [if_pos c16] at H
                    have c16b0 : decide (x5_1 < (t156.length : Int)) = true := decide_eq_true c16
                    clear c16
                    replace H := Option.bind_eq_some_iff.mp H
                    obtain ⟨t164, A170, H⟩ := H
                    replace H : (if ((x3_1 ++ (rdOf ByteArray.empty t159 x5_1)) ++ (⟨#[61]⟩ : ByteArray)).size + t164.size ≤ 9223372036854775807 then (if (((x3_1 ++ (rdOf ByteArray.empty t159 x5_1)) ++ (⟨#[61]⟩ : ByteArray)) ++ t164).size + 1 ≤ 9223372036854775807 then (spec_ConfigText.l0 k1 ((((x3_1 ++ (rdOf ByteArray.empty t159 x5_1)) ++ (⟨#[61]⟩ : ByteArray)) ++ t164) ++ (⟨#[10]⟩ : ByteArray)) t156 (wrap64 (x5_1 + 1)) a0_0 a0_1 a0_2 a0_3 a0_4 a0_5 a0_6 l0_7) else (none)) else (none)) = some r := H
                    have A17 := Aside0.mk A170
                    clear A170
                    by_cases c18 : ((x3_1 ++ (rdOf ByteArray.empty t159 x5_1)) ++ (⟨#[61]⟩ : ByteArray)).size + t164.size ≤ 9223372036854775807
                    · rw [if_pos c18] at H
                      have c18b0 := eq_true c18
                      have c18b1 : decide (((x3_1 ++ (rdOf ByteArray.empty t159 x5_1)) ++ (⟨#[61]⟩ : ByteArray)).size + t164.size ≤ 9223372036854775807) = true := decide_eq_true c18
                      try have c18b2 : (9223372036854775807 < ((x3_1 ++ (rdOf ByteArray.empty t159 x5_1)) ++ (⟨#[61]⟩ : ByteArray)).size + t164.size) = False := eq_false (Nat.not_lt.2 c18)
                      (try (have c18b7 := c18b2; simp only [ByteArray.size_append, bsz_, List.size_toArray, List.length_cons, List.length_nil, Nat.zero_add, Nat.reduceAdd] at c18b7))
                      by_cases c19 : (((x3_1 ++ (rdOf ByteArray.empty t159 x5_1)) ++ (⟨#[61]⟩ : ByteArray)) ++ t164).size + 1 ≤ 9223372036854775807
                      · rw [if_pos c19] at H
                        have c19b0 := eq_true c19
                        have c19b1 : decide ((((x3_1 ++ (rdOf ByteArray.empty t159 x5_1)) ++ (⟨#[61]⟩ : ByteArray)) ++ t164).size + 1 ≤ 9223372036854775807) = true := decide_eq_true c19
                        try have c19b2 : (9223372036854775807 < (((x3_1 ++ (rdOf ByteArray.empty t159 x5_1)) ++ (⟨#[61]⟩ : ByteArray)) ++ t164).size + 1) = False := eq_false (Nat.not_lt.2 c19)
                        (try (have c19b7 := c19b2; simp only [ByteArray.size_append, bsz_, List.size_toArray, List.length_cons, List.length_nil, Nat.zero_add, Nat.reduceAdd] at c19b7))
                        have H' := Aside0.mk H
                        clear H
                        try go_wp2
                        have n0_ := Aside0.mk (Kd.R_drew HO_4.out)
                        have n1_ := Aside0.mk (blk_drew BK154.out)
                        have n2_ := Aside0.mk (below_drew1 HB.out)
                        clear HO_4
                        clear BK154
                        clear HB
                        have HO_4 := n0_
                        have BK154 := n1_
                        have HB := n2_
                        clear n0_ n1_ n2_
                        obtain ⟨Ao21, co21, eo21⟩ := Kd.R_slice HO_4.out
                        (first | subst eo21 | (injection eo21 with f1_ f2_ f3_; have f4_ := f1_.symm; have f5_ := f3_.symm; clear f1_ f2_ f3_; subst f4_; subst f5_))
                        have p163 : 0 ≤ (x5_1 : Int) := of_decide_eq_true (by first | (with_reducible assumption) | assumption)
                        have q163 : x5_1 < (t156.length : Int) := of_decide_eq_true (by first | (with_reducible assumption) | assumption)
                        obtain ⟨ad163, e163, hx163_0⟩ := Kd.at_int (Kd.R_reads' HO_4.out).2.2 x5_1 p163 q163
                        cases e163
                        replace p163 := eq_true p163
                        replace q163 := eq_true q163
                        refine start_ (n := 15) (S := fun w' => w'.cell? (ad163.add (x5_1).toNat) = some (.int .i64 (rd t156 x5_1)) ∧ True) (ds := []) #[false, false, false, false, false, false, false, false, false, false, false, false, false, false, false] (by kernel_rfl) rfl rfl ⟨hx163_0, trivial⟩ (fun hHeld => ?_); refine with_tabW spec_ConfigText.tab8 spec_ConfigText.bits8 (fun HT_ HW_ => ?_)
                        generalize wr.drew = w20 at HO_4 BK154 HB hx163_0 hHeld ⊢
                        refine pure_ (i := 0) (N := some 17) (v := ?_) (a' := ?_) #[true, false, false, false, false, false, false, false, false, false, false, false, false, false, false] rfl rfl (any_of HT_.out (by kernel_rfl)) (fun _ _ _ h => h) (Or.inl ⟨by rfl, ?_⟩) ?_ ?_
                        rotate_left
                        · intro w'
                          go_simp
                          with_reducible rfl
                        rotate_left
                        · simp only [Act.put, la_, lb_, lc_, i64_w, i32_w]
                          rfl
                        refine pure_ (i := 2) (N := some 19) (v := ?_) (a' := ?_) #[true, false, true, false, false, false, false, false, false, false, false, false, false, false, false] rfl rfl (any_of HT_.out (by kernel_rfl)) (fun _ _ _ h => h) (Or.inl ⟨by rfl, ?_⟩) ?_ ?_
                        rotate_left
                        · intro w'
                          go_simp
                          with_reducible rfl
                        rotate_left
                        · simp only [Act.put, la_, lb_, lc_, i64_w, i32_w]
                          rfl
                        refine pure_ (i := 7) (N := some 24) (v := ?_) (a' := ?_) #[true, false, true, false, false, false, false, true, false, false, false, false, false, false, false] rfl rfl (any_of HT_.out (by kernel_rfl)) (fun _ _ _ h => h) (Or.inl ⟨by rfl, ?_⟩) ?_ ?_
                        rotate_left
                        · intro w'
                          go_simp
                          with_reducible rfl
                        rotate_left
                        · simp only [Act.put, la_, lb_, lc_, i64_w, i32_w]
                          rfl
                        refine pure_ (i := 8) (N := some 25) (v := ?_) (a' := ?_) #[true, false, true, false, false, false, false, true, true, false, false, false, false, false, false] rfl rfl (any_of HT_.out (by kernel_rfl)) (fun _ _ _ h => h) (Or.inl ⟨by rfl, ?_⟩) ?_ ?_
                        rotate_left
                        · intro w'
                          go_simp
                          with_reducible rfl
                        rotate_left
                        · simp only [Act.put, la_, lb_, lc_, i64_w, i32_w]
                          rfl
                        refine pure_ (i := 9) (N := some 26) (v := ?_) (a' := ?_) #[true, false, true, false, false, false, false, true, true, true, false, false, false, false, false] rfl rfl (any_of HT_.out (by kernel_rfl)) (fun _ _ _ h => h) (Or.inl ⟨by rfl, ?_⟩) ?_ ?_
                        rotate_left
                        · intro w'
                          go_simp
                          with_reducible rfl
                        rotate_left
                        · simp only [Act.put, la_, lb_, lc_, i64_w, i32_w]
                          rfl
                        refine take_ (i := 10) (N := some 27) (v := ?_) (a' := ?_) #[true, false, true, false, false, false, false, true, true, true, true, false, false, false, false] rfl rfl (take_ofW HT_.out HW_.out (by kernel_rfl)) (fun _ _ _ h => h) (Or.inl ⟨by rfl, ?_⟩) hHeld ?_ ?_
                        rotate_left
                        · rintro w' ⟨s0, s1⟩
                          go_simp
                          with_reducible rfl
                        rotate_left
                        · simp only [Act.put, la_, lb_, lc_, i64_w, i32_w]
                          rfl
                        refine one_ (i := 1) (N := some 18) #[true, true, true, false, false, false, false, true, true, true, true, false, false, false, false] rfl rfl (one_of HT_.out (by kernel_rfl)) (by decide) (fun K hK => ?_)
                        refine goes_ Tryd.func32 (by kernel_rfl) rfl #[] (by rfl) rfl rfl mp_ ?_
                        with_reducible refine (spec_l8Words.calls  t159 _ A11.out).mono ?_
                        rintro e w22 ⟨v160, rfl, ho0, hb⟩
                        have HS0_ := (hb.cell (World.block_lt_of_cell? _ _ (hHeld.1))).trans (hHeld.1)
                        have HS1_ : True := trivial
                        refine ⟨_, rfl, ?_⟩
                        have n0_ := Aside0.mk (Kd.R_below (by (with_reducible repeat (first | apply Kd.R_alloc | apply Kd.R_drewN | apply Kd.R_drew)); exact HO_4.out) hb)
                        have n1_ := Aside0.mk (Kd.R_lower ho0 (below_size bel_))
                        have n2_ := bb_ (g := gb154) hb
                        have n3_ := Aside0.mk (below_step bel_ hb)
                        clear HO_4
                        clear BK154
                        clear HB
                        have HO_4 := n0_
                        have HO161 := n1_
                        have BK154 := n2_
                        have HB := n3_
                        clear n0_ n1_ n2_ n3_
                        (try clear hb)
                        (try clear hb2)
                        (try clear hk)
                        (try clear hi)
                        (try clear ho0)
                        obtain ⟨Ao23, co23, eo23⟩ := Kd.R_slice HO161.out
                        (first | subst eo23 | (injection eo23 with f1_ f2_ f3_; have f4_ := f1_.symm; have f5_ := f3_.symm; clear f1_ f2_ f3_; subst f4_; subst f5_))
                        have p162 : 0 ≤ (x5_1 : Int) := of_decide_eq_true (by first | (with_reducible assumption) | assumption)
                        have q162 : x5_1 < (t159.length : Int) := of_decide_eq_true (by first | (with_reducible assumption) | assumption)
                        obtain ⟨ad162, e162, hx162_0⟩ := Kd.at_string (Kd.R_reads' HO161.out).2.2 x5_1 p162 q162
                        cases e162
                        replace p162 := eq_true p162
                        replace q162 := eq_true q162
                        refine hK.out _ _ ⟨HS0_, HS1_⟩ (fun hHeld => ?_)
                        clear hK K
                        refine stronger_ (fun w' => w'.cell? (ad163.add (x5_1).toNat) = some (.int .i64 (rd t156 x5_1)) ∧ w'.cell? (ad162.add (x5_1).toNat) = some (.string (rdOf ByteArray.empty t159 x5_1))) (fun _ h => ⟨h.1, trivial⟩) ⟨hHeld.1, hx162_0⟩ (fun hHeld => ?_)
                        refine norm_ (a' := ?_) ?_ ?_
                        rotate_left
                        · show Act.put _ (some 18) _ = _
                          simp only [Act.put, la_, lb_, lc_, i64_w, i32_w]
                          rfl
                        refine pure_ (i := 3) (N := some 20) (v := ?_) (a' := ?_) #[true, true, true, true, false, false, false, true, true, true, true, false, false, false, false] rfl rfl (any_of HT_.out (by kernel_rfl)) (fun _ _ _ h => h) (Or.inl ⟨by rfl, ?_⟩) ?_ ?_
                        rotate_left
                        · intro w'
                          go_simp
                          with_reducible rfl
                        rotate_left
                        · simp only [Act.put, la_, lb_, lc_, i64_w, i32_w]
                          rfl
                        refine take_ (i := 4) (N := some 21) (v := ?_) (a' := ?_) #[true, true, true, true, true, false, false, true, true, true, true, false, false, false, false] rfl rfl (take_ofW HT_.out HW_.out (by kernel_rfl)) (fun _ _ _ h => h) (Or.inl ⟨by rfl, ?_⟩) hHeld ?_ ?_
                        rotate_left
                        · rintro w' ⟨s0, s1⟩
                          go_simp
                          with_reducible rfl
                        rotate_left
                        · simp only [Act.put, la_, lb_, lc_, i64_w, i32_w]
                          rfl
                        refine pure_ (i := 5) (N := some 22) (v := ?_) (a' := ?_) #[true, true, true, true, true, true, false, true, true, true, true, false, false, false, false] rfl rfl (any_of HT_.out (by kernel_rfl)) (fun _ _ _ h => h) (Or.inl ⟨by rfl, ?_⟩) ?_ ?_
                        rotate_left
                        · intro w'
                          go_simp
                          with_reducible rfl
                        rotate_left
                        · simp only [Act.put, la_, lb_, lc_, i64_w, i32_w]
                          rfl
                        refine pure_ (i := 6) (N := some 23) (v := ?_) (a' := ?_) #[true, true, true, true, true, true, true, true, true, true, true, false, false, false, false] rfl rfl (any_of HT_.out (by kernel_rfl)) (fun _ _ _ h => h) (Or.inl ⟨by rfl, ?_⟩) ?_ ?_
                        rotate_left
                        · intro w'
                          go_simp
                          with_reducible rfl
                        rotate_left
                        · simp only [Act.put, la_, lb_, lc_, i64_w, i32_w]
                          rfl
                        refine one_ (i := 11) (N := some 28) #[true, true, true, true, true, true, true, true, true, true, true, true, false, false, false] rfl rfl (one_of HT_.out (by kernel_rfl)) (by decide) (fun K hK => ?_)
                        refine goes_ Tryd.func33 (by kernel_rfl) rfl #[.int .i64 (rd t156 x5_1)] (by rfl) rfl rfl mp_ ?_
                        with_reducible refine (spec_Digits.calls k1 (rd t156 x5_1) t164 _ A17.out).mono ?_
                        rintro e w24 ⟨rfl, hb⟩
                        have HS0_ := (hb.cell (World.block_lt_of_cell? _ _ (hHeld.1))).trans (hHeld.1)
                        have HS1_ := (hb.cell (World.block_lt_of_cell? _ _ (hHeld.2))).trans (hHeld.2)
                        refine ⟨_, rfl, ?_⟩
                        have n0_ := Aside0.mk (Kd.R_below (by (with_reducible repeat (first | apply Kd.R_alloc | apply Kd.R_drewN | apply Kd.R_drew)); exact HO_4.out) hb)
                        have n1_ := Aside0.mk (Kd.R_below (by (with_reducible repeat (first | apply Kd.R_alloc | apply Kd.R_drewN | apply Kd.R_drew)); exact HO161.out) hb)
                        have n2_ := bb_ (g := gb154) hb
                        have n3_ := Aside0.mk (below_step bel_ hb)
                        clear HO_4
                        clear HO161
                        clear BK154
                        clear HB
                        have HO_4 := n0_
                        have HO161 := n1_
                        have BK154 := n2_
                        have HB := n3_
                        clear n0_ n1_ n2_ n3_
                        (try clear hb)
                        (try clear hb2)
                        (try clear hk)
                        (try clear hi)
                        refine hK.out _ _ ⟨HS0_, HS1_⟩ (fun hHeld => ?_)
                        clear hK K
                        refine norm_ (a' := ?_) ?_ ?_
                        rotate_left
                        · show Act.put _ (some 28) _ = _
                          simp only [Act.put, la_, lb_, lc_, i64_w, i32_w]
                          rfl
                        refine pure_ (i := 12) (N := some 29) (v := ?_) (a' := ?_) #[true, true, true, true, true, true, true, true, true, true, true, true, true, false, false] rfl rfl (any_of HT_.out (by kernel_rfl)) (fun _ _ _ h => h) (Or.inl ⟨by rfl, ?_⟩) ?_ ?_
                        rotate_left
                        · intro w'
                          go_simp
                          with_reducible rfl
                        rotate_left
                        · simp only [Act.put, la_, lb_, lc_, i64_w, i32_w]
                          rfl
                        refine pure_ (i := 13) (N := some 30) (v := ?_) (a' := ?_) #[true, true, true, true, true, true, true, true, true, true, true, true, true, true, false] rfl rfl (any_of HT_.out (by kernel_rfl)) (fun _ _ _ h => h) (Or.inl ⟨by rfl, ?_⟩) ?_ ?_
                        rotate_left
                        · intro w'
                          go_simp
                          with_reducible rfl
                        rotate_left
                        · simp only [Act.put, la_, lb_, lc_, i64_w, i32_w]
                          rfl
                        refine pure_ (i := 14) (N := some 3) (v := ?_) (a' := ?_) #[true, true, true, true, true, true, true, true, true, true, true, true, true, true, true] rfl rfl (any_of HT_.out (by kernel_rfl)) (fun _ _ _ h => h) (Or.inl ⟨by rfl, ?_⟩) ?_ ?_
                        rotate_left
                        · intro w'
                          go_simp
                          with_reducible rfl
                        rotate_left
                        · simp only [Act.put, la_, lb_, lc_, i64_w, i32_w]
                          rfl
                        refine done_ (done_of HT_.out (by kernel_rfl)) ?_
                        try go_wp2
                        go_roundg k1
                        case measure => have := HK1.out; omega
                        case rel => exact ⟨((((x3_1 ++ (rdOf ByteArray.empty t159 x5_1)) ++ (⟨#[61]⟩ : ByteArray)) ++ t164) ++ (⟨#[10]⟩ : ByteArray)), (wrap64 (x5_1 + 1)), (by first | rfl | (simp; done) | (simp [*]; done)), (by first | rfl | (simp; done) | (simp [*]; done)), H', ⟨by have := HK1.out; omega⟩, ⟨by (with_reducible repeat (first | apply Kd.R_alloc | apply Kd.R_drewN | apply Kd.R_drew)); exact HO_4.out⟩, ⟨by (with_reducible repeat (first | refine bN_ _ ?_ | refine bd_ ?_ | refine ba_ _ ?_)); exact BK154.out⟩, ⟨bel_⟩⟩
                      · rw [if_neg c19] at H
                        exact absurd H (by simp)
                    · rw [if_neg c18] at H
                      exact absurd H (by simp)
                  · rw [if_neg c16] at H
                    exact absurd H (by simp)
                · rw [if_neg c15] at H
                  exact absurd H (by simp)
              · rw [if_neg c14] at H
                exact absurd H (by simp)
            · rw [if_neg c13] at H
              exact absurd H (by simp)
          · rw [if_neg c12] at H
            exact absurd H (by simp)
        · rw [if_neg c10] at H
          have c10b0 : decide (x5_1 < 5) = false := decide_eq_false c10
          clear c10
          by_cases c25 : x3_1.size + 5 ≤ 9223372036854775807
          · rw [if_pos c25] at H
            have c25b0 := eq_true c25
            have c25b1 : decide (x3_1.size + 5 ≤ 9223372036854775807) = true := decide_eq_true c25
            try have c25b2 : (9223372036854775807 < x3_1.size + 5) = False := eq_false (Nat.not_lt.2 c25)
            replace H := Option.bind_eq_some_iff.mp H
            obtain ⟨t165, A260, H⟩ := H
            replace H : (if (x3_1 ++ (⟨#[114, 97, 116, 101, 61]⟩ : ByteArray)).size + t165.size ≤ 9223372036854775807 then (if ((x3_1 ++ (⟨#[114, 97, 116, 101, 61]⟩ : ByteArray)) ++ t165).size + 1 ≤ 9223372036854775807 then ((spec_Digits.f k1 a0_6).bind fun t166 => (if (((x3_1 ++ (⟨#[114, 97, 116, 101, 61]⟩ : ByteArray)) ++ t165) ++ (⟨#[47]⟩ : ByteArray)).size + t166.size ≤ 9223372036854775807 then (if ((((x3_1 ++ (⟨#[114, 97, 116, 101, 61]⟩ : ByteArray)) ++ t165) ++ (⟨#[47]⟩ : ByteArray)) ++ t166).size + 1 ≤ 9223372036854775807 then (if (l0_7.length : Int) = 0 then (some (((((x3_1 ++ (⟨#[114, 97, 116, 101, 61]⟩ : ByteArray)) ++ t165) ++ (⟨#[47]⟩ : ByteArray)) ++ t166) ++ (⟨#[10]⟩ : ByteArray))) else (spec_ConfigText.l1 k1 (((((x3_1 ++ (⟨#[114, 97, 116, 101, 61]⟩ : ByteArray)) ++ t165) ++ (⟨#[47]⟩ : ByteArray)) ++ t166) ++ (⟨#[10]⟩ : ByteArray)) (([] : List ByteArray)) 0 a0_0 a0_1 a0_2 a0_3 a0_4 a0_5 a0_6 l0_7)) else (none)) else (none))) else (none)) else (none)) = some r := H
            have A26 := Aside0.mk A260
            clear A260
            by_cases c27 : (x3_1 ++ (⟨#[114, 97, 116, 101, 61]⟩ : ByteArray)).size + t165.size ≤ 9223372036854775807
            · rw [if_pos c27] at H
              have c27b0 := eq_true c27
              have c27b1 : decide ((x3_1 ++ (⟨#[114, 97, 116, 101, 61]⟩ : ByteArray)).size + t165.size ≤ 9223372036854775807) = true := decide_eq_true c27
              try have c27b2 : (9223372036854775807 < (x3_1 ++ (⟨#[114, 97, 116, 101, 61]⟩ : ByteArray)).size + t165.size) = False := eq_false (Nat.not_lt.2 c27)
              (try (have c27b7 := c27b2; simp only [ByteArray.size_append, bsz_, List.size_toArray, List.length_cons, List.length_nil, Nat.zero_add, Nat.reduceAdd] at c27b7))
              by_cases c28 : ((x3_1 ++ (⟨#[114, 97, 116, 101, 61]⟩ : ByteArray)) ++ t165).size + 1 ≤ 9223372036854775807
              · rw [if_pos c28] at H
                have c28b0 := eq_true c28
                have c28b1 : decide (((x3_1 ++ (⟨#[114, 97, 116, 101, 61]⟩ : ByteArray)) ++ t165).size + 1 ≤ 9223372036854775807) = true := decide_eq_true c28
                try have c28b2 : (9223372036854775807 < ((x3_1 ++ (⟨#[114, 97, 116, 101, 61]⟩ : ByteArray)) ++ t165).size + 1) = False := eq_false (Nat.not_lt.2 c28)
                (try (have c28b7 := c28b2; simp only [ByteArray.size_append, bsz_, List.size_toArray, List.length_cons, List.length_nil, Nat.zero_add, Nat.reduceAdd] at c28b7))
                replace H := Option.bind_eq_some_iff.mp H
                obtain ⟨t166, A290, H⟩ := H
                replace H : (if (((x3_1 ++ (⟨#[114, 97, 116, 101, 61]⟩ : ByteArray)) ++ t165) ++ (⟨#[47]⟩ : ByteArray)).size + t166.size ≤ 9223372036854775807 then (if ((((x3_1 ++ (⟨#[114, 97, 116, 101, 61]⟩ : ByteArray)) ++ t165) ++ (⟨#[47]⟩ : ByteArray)) ++ t166).size + 1 ≤ 9223372036854775807 then (if (l0_7.length : Int) = 0 then (some (((((x3_1 ++ (⟨#[114, 97, 116, 101, 61]⟩ : ByteArray)) ++ t165) ++ (⟨#[47]⟩ : ByteArray)) ++ t166) ++ (⟨#[10]⟩ : ByteArray))) else (spec_ConfigText.l1 k1 (((((x3_1 ++ (⟨#[114, 97, 116, 101, 61]⟩ : ByteArray)) ++ t165) ++ (⟨#[47]⟩ : ByteArray)) ++ t166) ++ (⟨#[10]⟩ : ByteArray)) (([] : List ByteArray)) 0 a0_0 a0_1 a0_2 a0_3 a0_4 a0_5 a0_6 l0_7)) else (none)) else (none)) = some r := H
                have A29 := Aside0.mk A290
                clear A290
                by_cases c30 : (((x3_1 ++ (⟨#[114, 97, 116, 101, 61]⟩ : ByteArray)) ++ t165) ++ (⟨#[47]⟩ : ByteArray)).size + t166.size ≤ 9223372036854775807
                · rw [if_pos c30] at H
                  have c30b0 := eq_true c30
                  have c30b1 : decide ((((x3_1 ++ (⟨#[114, 97, 116, 101, 61]⟩ : ByteArray)) ++ t165) ++ (⟨#[47]⟩ : ByteArray)).size + t166.size ≤ 9223372036854775807) = true := decide_eq_true c30
                  try have c30b2 : (9223372036854775807 < (((x3_1 ++ (⟨#[114, 97, 116, 101, 61]⟩ : ByteArray)) ++ t165) ++ (⟨#[47]⟩ : ByteArray)).size + t166.size) = False := eq_false (Nat.not_lt.2 c30)
                  (try (have c30b7 := c30b2; simp only [ByteArray.size_append, bsz_, List.size_toArray, List.length_cons, List.length_nil, Nat.zero_add, Nat.reduceAdd] at c30b7))
                  by_cases c31 : ((((x3_1 ++ (⟨#[114, 97, 116, 101, 61]⟩ : ByteArray)) ++ t165) ++ (⟨#[47]⟩ : ByteArray)) ++ t166).size + 1 ≤ 9223372036854775807
                  · rw [if_pos c31] at H
                    have c31b0 := eq_true c31
                    have c31b1 : decide (((((x3_1 ++ (⟨#[114, 97, 116, 101, 61]⟩ : ByteArray)) ++ t165) ++ (⟨#[47]⟩ : ByteArray)) ++ t166).size + 1 ≤ 9223372036854775807) = true := decide_eq_true c31
                    try have c31b2 : (9223372036854775807 < ((((x3_1 ++ (⟨#[114, 97, 116, 101, 61]⟩ : ByteArray)) ++ t165) ++ (⟨#[47]⟩ : ByteArray)) ++ t166).size + 1) = False := eq_false (Nat.not_lt.2 c31)
                    (try (have c31b7 := c31b2; simp only [ByteArray.size_append, bsz_, List.size_toArray, List.length_cons, List.length_nil, Nat.zero_add, Nat.reduceAdd] at c31b7))
                    by_cases c32 : (l0_7.length : Int) = 0
                    · rw [if_pos c32] at H
                      have c32b0 : ((l0_7.length : Int) == 0) = true := beq_iff_eq.mpr c32
                      have c32b1 : ((l0_7.length : Int) != 0) = false := bne_eq_false_iff_eq.mpr c32
                      clear c32
                      obtain rfl := Option.some.inj H
                      try go_wp2
                      have n0_ := Aside0.mk (Kd.R_drew HO_4.out)
                      have n1_ := Aside0.mk (blk_drew BK154.out)
                      have n2_ := Aside0.mk (below_drew1 HB.out)
                      clear HO_4
                      clear BK154
                      clear HB
                      have HO_4 := n0_
                      have BK154 := n1_
                      have HB := n2_
                      clear n0_ n1_ n2_
                      refine start_ (n := 13) (S := fun w' => w'.cell? ⟨gb154, 0, none⟩ = some (.int .i64 a0_0) ∧ w'.cell? ⟨gb154, 1, none⟩ = some (.int .i64 a0_1) ∧ w'.cell? ⟨gb154, 2, none⟩ = some (.int .i64 a0_2) ∧ w'.cell? ⟨gb154, 3, none⟩ = some (.int .i64 a0_3) ∧ w'.cell? ⟨gb154, 4, none⟩ = some (.int .i64 a0_4) ∧ w'.cell? ⟨gb154, 5, none⟩ = some (.int .i64 a0_5) ∧ w'.cell? ⟨gb154, 6, none⟩ = some (.int .i64 a0_6) ∧ w'.cell? ⟨gb154, 7, none⟩ = some (.slice A0_7 l0_7.length c0_7)) (ds := []) #[false, false, false, false, false, false, false, false, false, false, false, false, false] (by kernel_rfl) rfl rfl ⟨bc_, bc_, bc_, bc_, bc_, bc_, bc_, bc_⟩ (fun hHeld => ?_); refine with_tabW spec_ConfigText.tab9 spec_ConfigText.bits9 (fun HT_ HW_ => ?_)
                      generalize wr.drew = w33 at HO_4 BK154 HB hHeld ⊢
                      refine pure_ (i := 0) (N := some 31) (v := ?_) (a' := ?_) #[true, false, false, false, false, false, false, false, false, false, false, false, false] rfl rfl (any_of HT_.out (by kernel_rfl)) (fun _ _ _ h => h) (Or.inl ⟨by rfl, ?_⟩) ?_ ?_
                      rotate_left
                      · intro w'
                        go_simp
                        with_reducible rfl
                      rotate_left
                      · simp only [Act.put, la_, lb_, lc_, i64_w, i32_w]
                        rfl
                      refine pure_ (i := 1) (N := some 32) (v := ?_) (a' := ?_) #[true, true, false, false, false, false, false, false, false, false, false, false, false] rfl rfl (any_of HT_.out (by kernel_rfl)) (fun _ _ _ h => h) (Or.inl ⟨by rfl, ?_⟩) ?_ ?_
                      rotate_left
                      · intro w'
                        go_simp
                        with_reducible rfl
                      rotate_left
                      · simp only [Act.put, la_, lb_, lc_, i64_w, i32_w]
                        rfl
                      refine pure_ (i := 2) (N := some 33) (v := ?_) (a' := ?_) #[true, true, true, false, false, false, false, false, false, false, false, false, false] rfl rfl (any_of HT_.out (by kernel_rfl)) (fun _ _ _ h => h) (Or.inl ⟨by rfl, ?_⟩) ?_ ?_
                      rotate_left
                      · intro w'
                        go_simp
                        with_reducible rfl
                      rotate_left
                      · simp only [Act.put, la_, lb_, lc_, i64_w, i32_w]
                        rfl
                      refine pure_ (i := 7) (N := some 38) (v := ?_) (a' := ?_) #[true, true, true, false, false, false, false, true, false, false, false, false, false] rfl rfl (any_of HT_.out (by kernel_rfl)) (fun _ _ _ h => h) (Or.inl ⟨by rfl, ?_⟩) ?_ ?_
                      rotate_left
                      · intro w'
                        go_simp
                        with_reducible rfl
                      rotate_left
                      · simp only [Act.put, la_, lb_, lc_, i64_w, i32_w]
                        rfl
                      refine take_ (i := 3) (N := some 34) (v := ?_) (a' := ?_) #[true, true, true, true, false, false, false, true, false, false, false, false, false] rfl rfl (take_ofW HT_.out HW_.out (by kernel_rfl)) (fun _ _ _ h => h) (Or.inl ⟨by rfl, ?_⟩) hHeld ?_ ?_
                      rotate_left
                      · rintro w' ⟨s0, s1, s2, s3, s4, s5, s6, s7⟩
                        go_simp
                        with_reducible rfl
                      rotate_left
                      · simp only [Act.put, la_, lb_, lc_, i64_w, i32_w]
                        rfl
                      refine take_ (i := 8) (N := some 39) (v := ?_) (a' := ?_) #[true, true, true, true, false, false, false, true, true, false, false, false, false] rfl rfl (take_ofW HT_.out HW_.out (by kernel_rfl)) (fun _ _ _ h => h) (Or.inl ⟨by rfl, ?_⟩) hHeld ?_ ?_
                      rotate_left
                      · rintro w' ⟨s0, s1, s2, s3, s4, s5, s6, s7⟩
                        go_simp
                        with_reducible rfl
                      rotate_left
                      · simp only [Act.put, la_, lb_, lc_, i64_w, i32_w]
                        rfl
                      refine one_ (i := 4) (N := some 35) #[true, true, true, true, true, false, false, true, true, false, false, false, false] rfl rfl (one_of HT_.out (by kernel_rfl)) (by decide) (fun K hK => ?_)
                      refine goes_ Tryd.func33 (by kernel_rfl) rfl #[.int .i64 a0_5] (by rfl) rfl rfl mp_ ?_
                      with_reducible refine (spec_Digits.calls k1 a0_5 t165 _ A26.out).mono ?_
                      rintro e w34 ⟨rfl, hb⟩
                      refine ⟨_, rfl, ?_⟩
                      have n0_ := Aside0.mk (Kd.R_below (by (with_reducible repeat (first | apply Kd.R_alloc | apply Kd.R_drewN | apply Kd.R_drew)); exact HO_4.out) hb)
                      have n1_ := bb_ (g := gb154) hb
                      have n2_ := Aside0.mk (below_step bel_ hb)
                      clear HO_4
                      clear BK154
                      clear HB
                      have HO_4 := n0_
                      have BK154 := n1_
                      have HB := n2_
                      clear n0_ n1_ n2_
                      (try clear hb)
                      (try clear hb2)
                      (try clear hk)
                      (try clear hi)
                      refine hK.out _ _ ⟨bc_, bc_, bc_, bc_, bc_, bc_, bc_, bc_⟩ (fun hHeld => ?_)
                      clear hK K
                      refine norm_ (a' := ?_) ?_ ?_
                      rotate_left
                      · show Act.put _ (some 35) _ = _
                        simp only [Act.put, la_, lb_, lc_, i64_w, i32_w]
                        rfl
                      refine pure_ (i := 5) (N := some 36) (v := ?_) (a' := ?_) #[true, true, true, true, true, true, false, true, true, false, false, false, false] rfl rfl (any_of HT_.out (by kernel_rfl)) (fun _ _ _ h => h) (Or.inl ⟨by rfl, ?_⟩) ?_ ?_
                      rotate_left
                      · intro w'
                        go_simp
                        with_reducible rfl
                      rotate_left
                      · simp only [Act.put, la_, lb_, lc_, i64_w, i32_w]
                        rfl
                      refine pure_ (i := 6) (N := some 37) (v := ?_) (a' := ?_) #[true, true, true, true, true, true, true, true, true, false, false, false, false] rfl rfl (any_of HT_.out (by kernel_rfl)) (fun _ _ _ h => h) (Or.inl ⟨by rfl, ?_⟩) ?_ ?_
                      rotate_left
                      · intro w'
                        go_simp
                        with_reducible rfl
                      rotate_left
                      · simp only [Act.put, la_, lb_, lc_, i64_w, i32_w]
                        rfl
                      refine one_ (i := 9) (N := some 40) #[true, true, true, true, true, true, true, true, true, true, false, false, false] rfl rfl (one_of HT_.out (by kernel_rfl)) (by decide) (fun K hK => ?_)
                      refine goes_ Tryd.func33 (by kernel_rfl) rfl #[.int .i64 a0_6] (by rfl) rfl rfl mp_ ?_
                      with_reducible refine (spec_Digits.calls k1 a0_6 t166 _ A29.out).mono ?_
                      rintro e w35 ⟨rfl, hb⟩
                      refine ⟨_, rfl, ?_⟩
                      have n0_ := Aside0.mk (Kd.R_below (by (with_reducible repeat (first | apply Kd.R_alloc | apply Kd.R_drewN | apply Kd.R_drew)); exact HO_4.out) hb)
                      have n1_ := bb_ (g := gb154) hb
                      have n2_ := Aside0.mk (below_step bel_ hb)
                      clear HO_4
                      clear BK154
                      clear HB
                      have HO_4 := n0_
                      have BK154 := n1_
                      have HB := n2_
                      clear n0_ n1_ n2_
                      (try clear hb)
                      (try clear hb2)
                      (try clear hk)
                      (try clear hi)
                      refine hK.out _ _ ⟨bc_, bc_, bc_, bc_, bc_, bc_, bc_, bc_⟩ (fun hHeld => ?_)
                      clear hK K
                      refine norm_ (a' := ?_) ?_ ?_
                      rotate_left
                      · show Act.put _ (some 40) _ = _
                        simp only [Act.put, la_, lb_, lc_, i64_w, i32_w]
                        rfl
                      refine pure_ (i := 10) (N := some 41) (v := ?_) (a' := ?_) #[true, true, true, true, true, true, true, true, true, true, true, false, false] rfl rfl (any_of HT_.out (by kernel_rfl)) (fun _ _ _ h => h) (Or.inl ⟨by rfl, ?_⟩) ?_ ?_
                      rotate_left
                      · intro w'
                        go_simp
                        with_reducible rfl
                      rotate_left
                      · simp only [Act.put, la_, lb_, lc_, i64_w, i32_w]
                        rfl
                      refine pure_ (i := 11) (N := some 42) (v := ?_) (a' := ?_) #[true, true, true, true, true, true, true, true, true, true, true, true, false] rfl rfl (any_of HT_.out (by kernel_rfl)) (fun _ _ _ h => h) (Or.inl ⟨by rfl, ?_⟩) ?_ ?_
                      rotate_left
                      · intro w'
                        go_simp
                        with_reducible rfl
                      rotate_left
                      · simp only [Act.put, la_, lb_, lc_, i64_w, i32_w]
                        rfl
                      refine pure_ (i := 12) (N := some 3) (v := ?_) (a' := ?_) #[true, true, true, true, true, true, true, true, true, true, true, true, true] rfl rfl (any_of HT_.out (by kernel_rfl)) (fun _ _ _ h => h) (Or.inl ⟨by rfl, ?_⟩) ?_ ?_
                      rotate_left
                      · intro w'
                        go_simp
                        with_reducible rfl
                      rotate_left
                      · simp only [Act.put, la_, lb_, lc_, i64_w, i32_w]
                        rfl
                      refine done_ (done_of HT_.out (by kernel_rfl)) ?_
                      have hcz36_0 : w35.cell? ⟨gb154, 0, none⟩ = some (.int .i64 a0_0) := bc_
                      have hcz36_1 : w35.cell? ⟨gb154, 1, none⟩ = some (.int .i64 a0_1) := bc_
                      have hcz36_2 : w35.cell? ⟨gb154, 2, none⟩ = some (.int .i64 a0_2) := bc_
                      have hcz36_3 : w35.cell? ⟨gb154, 3, none⟩ = some (.int .i64 a0_3) := bc_
                      have hcz36_4 : w35.cell? ⟨gb154, 4, none⟩ = some (.int .i64 a0_4) := bc_
                      have hcz36_5 : w35.cell? ⟨gb154, 5, none⟩ = some (.int .i64 a0_5) := bc_
                      have hcz36_6 : w35.cell? ⟨gb154, 6, none⟩ = some (.int .i64 a0_6) := bc_
                      have hcz36_7 : w35.cell? ⟨gb154, 7, none⟩ = some (.slice A0_7 l0_7.length c0_7) := bc_
                      have hfz36_0 := blk_frozen BK154.out 0
                      have hfz36_1 := blk_frozen BK154.out 1
                      have hfz36_2 := blk_frozen BK154.out 2
                      have hfz36_3 := blk_frozen BK154.out 3
                      have hfz36_4 := blk_frozen BK154.out 4
                      have hfz36_5 := blk_frozen BK154.out 5
                      have hfz36_6 := blk_frozen BK154.out 6
                      have hfz36_7 := blk_frozen BK154.out 7
                      try go_wp2
                      go_ret
                      exact ⟨rf_, bel_⟩
                    · rw [if_neg c32] at H
                      have c32b0 : ((l0_7.length : Int) == 0) = false := beq_eq_false_iff_ne.mpr c32
                      have c32b1 : ((l0_7.length : Int) != 0) = true := bne_iff_ne.mpr c32
                      have c32b2 : ¬ (l0_7 = []) := fun h_ => c32 (by rw [h_]; rfl)
                      obtain ⟨y167, hy167⟩ : ∃ y_ : List ByteArray, y_ = (([] : List ByteArray)) := ⟨_, rfl⟩
                      replace H : (spec_ConfigText.l1 k1 (((((x3_1 ++ (⟨#[114, 97, 116, 101, 61]⟩ : ByteArray)) ++ t165) ++ (⟨#[47]⟩ : ByteArray)) ++ t166) ++ (⟨#[10]⟩ : ByteArray)) y167 0 a0_0 a0_1 a0_2 a0_3 a0_4 a0_5 a0_6 l0_7) = some r := by first | (rw [hy167]; with_reducible exact H) | (have H2_ := (Option.bind_some _ _).symm.trans H; rw [hy167]; with_reducible exact H2_) | (have H2_ := (Option.bind_some _ _).symm.trans H; with_reducible exact H2_) | with_reducible exact H | (rw [hy167]; exact H) | exact H
                      have Ny167 := Aside0.mk hy167
                      clear hy167
                      have H' := Aside0.mk H
                      clear H
                      try go_wp2
                      have n0_ := Aside0.mk (Kd.R_drew HO_4.out)
                      have n1_ := Aside0.mk (blk_drew BK154.out)
                      have n2_ := Aside0.mk (below_drew1 HB.out)
                      clear HO_4
                      clear BK154
                      clear HB
                      have HO_4 := n0_
                      have BK154 := n1_
                      have HB := n2_
                      clear n0_ n1_ n2_
                      refine start_ (n := 13) (S := fun w' => w'.cell? ⟨gb154, 0, none⟩ = some (.int .i64 a0_0) ∧ w'.cell? ⟨gb154, 1, none⟩ = some (.int .i64 a0_1) ∧ w'.cell? ⟨gb154, 2, none⟩ = some (.int .i64 a0_2) ∧ w'.cell? ⟨gb154, 3, none⟩ = some (.int .i64 a0_3) ∧ w'.cell? ⟨gb154, 4, none⟩ = some (.int .i64 a0_4) ∧ w'.cell? ⟨gb154, 5, none⟩ = some (.int .i64 a0_5) ∧ w'.cell? ⟨gb154, 6, none⟩ = some (.int .i64 a0_6) ∧ w'.cell? ⟨gb154, 7, none⟩ = some (.slice A0_7 l0_7.length c0_7)) (ds := []) #[false, false, false, false, false, false, false, false, false, false, false, false, false] (by kernel_rfl) rfl rfl ⟨bc_, bc_, bc_, bc_, bc_, bc_, bc_, bc_⟩ (fun hHeld => ?_); refine with_tabW spec_ConfigText.tab9 spec_ConfigText.bits9 (fun HT_ HW_ => ?_)
                      generalize wr.drew = w37 at HO_4 BK154 HB hHeld ⊢
                      refine pure_ (i := 0) (N := some 31) (v := ?_) (a' := ?_) #[true, false, false, false, false, false, false, false, false, false, false, false, false] rfl rfl (any_of HT_.out (by kernel_rfl)) (fun _ _ _ h => h) (Or.inl ⟨by rfl, ?_⟩) ?_ ?_
                      rotate_left
                      · intro w'
                        go_simp
                        with_reducible rfl
                      rotate_left
                      · simp only [Act.put, la_, lb_, lc_, i64_w, i32_w]
                        rfl
                      refine pure_ (i := 1) (N := some 32) (v := ?_) (a' := ?_) #[true, true, false, false, false, false, false, false, false, false, false, false, false] rfl rfl (any_of HT_.out (by kernel_rfl)) (fun _ _ _ h => h) (Or.inl ⟨by rfl, ?_⟩) ?_ ?_
                      rotate_left
                      · intro w'
                        go_simp
                        with_reducible rfl
                      rotate_left
                      · simp only [Act.put, la_, lb_, lc_, i64_w, i32_w]
                        rfl
                      refine pure_ (i := 2) (N := some 33) (v := ?_) (a' := ?_) #[true, true, true, false, false, false, false, false, false, false, false, false, false] rfl rfl (any_of HT_.out (by kernel_rfl)) (fun _ _ _ h => h) (Or.inl ⟨by rfl, ?_⟩) ?_ ?_
                      rotate_left
                      · intro w'
                        go_simp
                        with_reducible rfl
                      rotate_left
                      · simp only [Act.put, la_, lb_, lc_, i64_w, i32_w]
                        rfl
                      refine pure_ (i := 7) (N := some 38) (v := ?_) (a' := ?_) #[true, true, true, false, false, false, false, true, false, false, false, false, false] rfl rfl (any_of HT_.out (by kernel_rfl)) (fun _ _ _ h => h) (Or.inl ⟨by rfl, ?_⟩) ?_ ?_
                      rotate_left
                      · intro w'
                        go_simp
                        with_reducible rfl
                      rotate_left
                      · simp only [Act.put, la_, lb_, lc_, i64_w, i32_w]
                        rfl
                      refine take_ (i := 3) (N := some 34) (v := ?_) (a' := ?_) #[true, true, true, true, false, false, false, true, false, false, false, false, false] rfl rfl (take_ofW HT_.out HW_.out (by kernel_rfl)) (fun _ _ _ h => h) (Or.inl ⟨by rfl, ?_⟩) hHeld ?_ ?_
                      rotate_left
                      · rintro w' ⟨s0, s1, s2, s3, s4, s5, s6, s7⟩
                        go_simp
                        with_reducible rfl
                      rotate_left
                      · simp only [Act.put, la_, lb_, lc_, i64_w, i32_w]
                        rfl
                      refine take_ (i := 8) (N := some 39) (v := ?_) (a' := ?_) #[true, true, true, true, false, false, false, true, true, false, false, false, false] rfl rfl (take_ofW HT_.out HW_.out (by kernel_rfl)) (fun _ _ _ h => h) (Or.inl ⟨by rfl, ?_⟩) hHeld ?_ ?_
                      rotate_left
                      · rintro w' ⟨s0, s1, s2, s3, s4, s5, s6, s7⟩
                        go_simp
                        with_reducible rfl
                      rotate_left
                      · simp only [Act.put, la_, lb_, lc_, i64_w, i32_w]
                        rfl
                      refine one_ (i := 4) (N := some 35) #[true, true, true, true, true, false, false, true, true, false, false, false, false] rfl rfl (one_of HT_.out (by kernel_rfl)) (by decide) (fun K hK => ?_)
                      refine goes_ Tryd.func33 (by kernel_rfl) rfl #[.int .i64 a0_5] (by rfl) rfl rfl mp_ ?_
                      with_reducible refine (spec_Digits.calls k1 a0_5 t165 _ A26.out).mono ?_
                      rintro e w38 ⟨rfl, hb⟩
                      refine ⟨_, rfl, ?_⟩
                      have n0_ := Aside0.mk (Kd.R_below (by (with_reducible repeat (first | apply Kd.R_alloc | apply Kd.R_drewN | apply Kd.R_drew)); exact HO_4.out) hb)
                      have n1_ := bb_ (g := gb154) hb
                      have n2_ := Aside0.mk (below_step bel_ hb)
                      clear HO_4
                      clear BK154
                      clear HB
                      have HO_4 := n0_
                      have BK154 := n1_
                      have HB := n2_
                      clear n0_ n1_ n2_
                      (try clear hb)
                      (try clear hb2)
                      (try clear hk)
                      (try clear hi)
                      refine hK.out _ _ ⟨bc_, bc_, bc_, bc_, bc_, bc_, bc_, bc_⟩ (fun hHeld => ?_)
                      clear hK K
                      refine norm_ (a' := ?_) ?_ ?_
                      rotate_left
                      · show Act.put _ (some 35) _ = _
                        simp only [Act.put, la_, lb_, lc_, i64_w, i32_w]
                        rfl
                      refine pure_ (i := 5) (N := some 36) (v := ?_) (a' := ?_) #[true, true, true, true, true, true, false, true, true, false, false, false, false] rfl rfl (any_of HT_.out (by kernel_rfl)) (fun _ _ _ h => h) (Or.inl ⟨by rfl, ?_⟩) ?_ ?_
                      rotate_left
                      · intro w'
                        go_simp
                        with_reducible rfl
                      rotate_left
                      · simp only [Act.put, la_, lb_, lc_, i64_w, i32_w]
                        rfl
                      refine pure_ (i := 6) (N := some 37) (v := ?_) (a' := ?_) #[true, true, true, true, true, true, true, true, true, false, false, false, false] rfl rfl (any_of HT_.out (by kernel_rfl)) (fun _ _ _ h => h) (Or.inl ⟨by rfl, ?_⟩) ?_ ?_
                      rotate_left
                      · intro w'
                        go_simp
                        with_reducible rfl
                      rotate_left
                      · simp only [Act.put, la_, lb_, lc_, i64_w, i32_w]
                        rfl
                      refine one_ (i := 9) (N := some 40) #[true, true, true, true, true, true, true, true, true, true, false, false, false] rfl rfl (one_of HT_.out (by kernel_rfl)) (by decide) (fun K hK => ?_)
                      refine goes_ Tryd.func33 (by kernel_rfl) rfl #[.int .i64 a0_6] (by rfl) rfl rfl mp_ ?_
                      with_reducible refine (spec_Digits.calls k1 a0_6 t166 _ A29.out).mono ?_
                      rintro e w39 ⟨rfl, hb⟩
                      refine ⟨_, rfl, ?_⟩
                      have n0_ := Aside0.mk (Kd.R_below (by (with_reducible repeat (first | apply Kd.R_alloc | apply Kd.R_drewN | apply Kd.R_drew)); exact HO_4.out) hb)
                      have n1_ := bb_ (g := gb154) hb
                      have n2_ := Aside0.mk (below_step bel_ hb)
                      clear HO_4
                      clear BK154
                      clear HB
                      have HO_4 := n0_
                      have BK154 := n1_
                      have HB := n2_
                      clear n0_ n1_ n2_
                      (try clear hb)
                      (try clear hb2)
                      (try clear hk)
                      (try clear hi)
                      refine hK.out _ _ ⟨bc_, bc_, bc_, bc_, bc_, bc_, bc_, bc_⟩ (fun hHeld => ?_)
                      clear hK K
                      refine norm_ (a' := ?_) ?_ ?_
                      rotate_left
                      · show Act.put _ (some 40) _ = _
                        simp only [Act.put, la_, lb_, lc_, i64_w, i32_w]
                        rfl
                      refine pure_ (i := 10) (N := some 41) (v := ?_) (a' := ?_) #[true, true, true, true, true, true, true, true, true, true, true, false, false] rfl rfl (any_of HT_.out (by kernel_rfl)) (fun _ _ _ h => h) (Or.inl ⟨by rfl, ?_⟩) ?_ ?_
                      rotate_left
                      · intro w'
                        go_simp
                        with_reducible rfl
                      rotate_left
                      · simp only [Act.put, la_, lb_, lc_, i64_w, i32_w]
                        rfl
                      refine pure_ (i := 11) (N := some 42) (v := ?_) (a' := ?_) #[true, true, true, true, true, true, true, true, true, true, true, true, false] rfl rfl (any_of HT_.out (by kernel_rfl)) (fun _ _ _ h => h) (Or.inl ⟨by rfl, ?_⟩) ?_ ?_
                      rotate_left
                      · intro w'
                        go_simp
                        with_reducible rfl
                      rotate_left
                      · simp only [Act.put, la_, lb_, lc_, i64_w, i32_w]
                        rfl
                      refine pure_ (i := 12) (N := some 3) (v := ?_) (a' := ?_) #[true, true, true, true, true, true, true, true, true, true, true, true, true] rfl rfl (any_of HT_.out (by kernel_rfl)) (fun _ _ _ h => h) (Or.inl ⟨by rfl, ?_⟩) ?_ ?_
                      rotate_left
                      · intro w'
                        go_simp
                        with_reducible rfl
                      rotate_left
                      · simp only [Act.put, la_, lb_, lc_, i64_w, i32_w]
                        rfl
                      refine done_ (done_of HT_.out (by kernel_rfl)) ?_
                      have hcz40_0 : w39.cell? ⟨gb154, 0, none⟩ = some (.int .i64 a0_0) := bc_
                      have hcz40_1 : w39.cell? ⟨gb154, 1, none⟩ = some (.int .i64 a0_1) := bc_
                      have hcz40_2 : w39.cell? ⟨gb154, 2, none⟩ = some (.int .i64 a0_2) := bc_
                      have hcz40_3 : w39.cell? ⟨gb154, 3, none⟩ = some (.int .i64 a0_3) := bc_
                      have hcz40_4 : w39.cell? ⟨gb154, 4, none⟩ = some (.int .i64 a0_4) := bc_
                      have hcz40_5 : w39.cell? ⟨gb154, 5, none⟩ = some (.int .i64 a0_5) := bc_
                      have hcz40_6 : w39.cell? ⟨gb154, 6, none⟩ = some (.int .i64 a0_6) := bc_
                      have hcz40_7 : w39.cell? ⟨gb154, 7, none⟩ = some (.slice A0_7 l0_7.length c0_7) := bc_
                      have hfz40_0 := blk_frozen BK154.out 0
                      have hfz40_1 := blk_frozen BK154.out 1
                      have hfz40_2 := blk_frozen BK154.out 2
                      have hfz40_3 := blk_frozen BK154.out 3
                      have hfz40_4 := blk_frozen BK154.out 4
                      have hfz40_5 := blk_frozen BK154.out 5
                      have hfz40_6 := blk_frozen BK154.out 6
                      have hfz40_7 := blk_frozen BK154.out 7
                      try go_wp2_with (first | ((with_reducible refine gate_dst (N := 48) rfl ?_); refine Kd.R_lit Kd.string _ 9 ?hg (N := 48) ?hd (xs := ([] : List ByteArray)) (inner := []) (ok := fun _ => True) (okp := fun _ => True) ?hr ?hp (fun _ hk => hk) trivial (Below.refl _ _) (Nat.le_refl _) (by simp) ?_; (case hd => rfl); (case hg => rfl); (case hr => first | (go_simp; done) | (go_simp; rfl)); (case hp => exact (Reps.none _ _)); intro v168 w41 ho42 hb hg_ hnew_; clear hg_ hnew_; (first | rw [← Ny167.out] at ho42 | (simp only [Int.reduceToNat] at ho42; rw [← Ny167.out] at ho42)); have n0_ := Aside0.mk (Kd.R_below (by (with_reducible repeat (first | apply Kd.R_alloc | apply Kd.R_drewN | apply Kd.R_drew)); exact HO_4.out) hb); have n1_ := Aside0.mk (Kd.R_lower ho42 (below_size bel_)); have n2_ := bb_ (g := gb154) hb; have n3_ := Aside0.mk (below_step bel_ hb); clear HO_4; clear BK154; clear HB; have HO_4 := n0_; have HO169 := n1_; have BK154 := n2_; have HB := n3_; clear n0_ n1_ n2_ n3_; clear hb ho42))
                      go_loopg [6, 7] k1 (fun kq v6 v7 w' => ∃ (x6_2 : List ByteArray) (x7_2 : Int), v7 = .int .i64 x7_2 ∧ Aside0 (spec_ConfigText.l1 kq (((((x3_1 ++ (⟨#[114, 97, 116, 101, 61]⟩ : ByteArray)) ++ t165) ++ (⟨#[47]⟩ : ByteArray)) ++ t166) ++ (⟨#[10]⟩ : ByteArray)) x6_2 x7_2 a0_0 a0_1 a0_2 a0_3 a0_4 a0_5 a0_6 l0_7 = some r) ∧ Aside0 (kq ≤ k1) ∧ Aside0 (Kd.R Kd.string 9 w' w.heap.size (fun _ => True) v6 x6_2) ∧ Aside0 (w'.heap[gb154]? = some (.cells #[.int .i64 a0_0, .int .i64 a0_1, .int .i64 a0_2, .int .i64 a0_3, .int .i64 a0_4, .int .i64 a0_5, .int .i64 a0_6, (.slice A0_7 l0_7.length c0_7)] 29 (0, 0))) ∧ Aside0 (Below w.heap.size w w'))
                      case atStart => exact ⟨(y167), (0), (by first | rfl | (simp; done) | (simp [*]; done)), H', ⟨Nat.le_refl _⟩, ⟨by (with_reducible repeat (first | apply Kd.R_alloc | apply Kd.R_drewN | apply Kd.R_drew)); exact HO169.out⟩, ⟨by (with_reducible repeat (first | refine bN_ _ ?_ | refine bd_ ?_ | refine ba_ _ ?_)); exact BK154.out⟩, ⟨bel_⟩⟩
                      case round =>
                        clear H'
                        try clear c1
                        try clear p1
                        try clear q1
                        try clear hx1
                        try clear c2
                        try clear p2
                        try clear c3
                        try clear p6
                        try clear c10
                        try clear c10b0
                        try clear c12
                        try clear c13
                        try clear c14
                        try clear c15
                        try clear c16
                        try clear p16
                        try clear q16
                        try clear hx16
                        try clear c18
                        try clear c19
                        try clear c25
                        try clear c25b0
                        try clear c25b1
                        try clear c25b2
                        try clear c27
                        try clear c27b0
                        try clear c27b1
                        try clear c27b2
                        try clear c28
                        try clear c28b0
                        try clear c28b1
                        try clear c28b2
                        try clear c30
                        try clear c30b0
                        try clear c30b1
                        try clear c30b2
                        try clear c31
                        try clear c31b0
                        try clear c31b1
                        try clear c31b2
                        try clear c32
                        try clear c32b0
                        try clear c32b1
                        try clear c32b2
                        try clear c33
                        try clear hcz36_0
                        try clear hcz36_1
                        try clear hcz36_2
                        try clear hcz36_3
                        try clear hcz36_4
                        try clear hcz36_5
                        try clear hcz36_6
                        try clear hcz36_7
                        try clear hcz40_0
                        try clear hcz40_1
                        try clear hcz40_2
                        try clear hcz40_3
                        try clear hcz40_4
                        try clear hcz40_5
                        try clear hcz40_6
                        try clear hcz40_7
                        try clear hfz36_0
                        try clear hfz36_1
                        try clear hfz36_2
                        try clear hfz36_3
                        try clear hfz36_4
                        try clear hfz36_5
                        try clear hfz36_6
                        try clear hfz36_7
                        try clear hfz40_0
                        try clear hfz40_1
                        try clear hfz40_2
                        try clear hfz40_3
                        try clear hfz40_4
                        try clear hfz40_5
                        try clear hfz40_6
                        try clear hfz40_7
                        try clear hx162_0
                        try clear hx163_0
                        try clear p162
                        try clear p163
                        try clear q162
                        try clear q163
                        try clear BK154
                        obtain ⟨x6_2, x7_2, rfl, HA, HK2, HO_6, BK154, HB⟩ := hrel
                        cases gk with
                        | zero => exact absurd HA.out (by simp [spec_ConfigText.l1])
                        | succ k2 =>
                          have H := HA.out
                          clear HA
                          simp only [spec_ConfigText.l1] at H
                          by_cases c43 : x7_2 < (l0_7.length : Int)
                          · rw [if_pos c43] at H
                            have c43b0 : decide (x7_2 < (l0_7.length : Int)) = true := decide_eq_true c43
                            clear c43
                            obtain ⟨y170, hy170⟩ : ∃ y_ : List ByteArray, y_ = (([(⟨#[45]⟩ : ByteArray), (⟨#[48]⟩ : ByteArray), (⟨#[43]⟩ : ByteArray)] : List ByteArray)) := ⟨_, rfl⟩
                            replace H : (if 0 ≤ x7_2 then (if 0 ≤ (wrap64 ((rd l0_7 x7_2) + 1)) then (if (wrap64 ((rd l0_7 x7_2) + 1)) < (y170.length : Int) then (if x6_2.length < 8796093022208 then (spec_ConfigText.l1 k2 (((((x3_1 ++ (⟨#[114, 97, 116, 101, 61]⟩ : ByteArray)) ++ t165) ++ (⟨#[47]⟩ : ByteArray)) ++ t166) ++ (⟨#[10]⟩ : ByteArray)) (x6_2 ++ [rdOf ByteArray.empty y170 (wrap64 ((rd l0_7 x7_2) + 1))]) (wrap64 (x7_2 + 1)) a0_0 a0_1 a0_2 a0_3 a0_4 a0_5 a0_6 l0_7) else (none)) else (none)) else (none)) else (none)) = some r := by first | (rw [hy170]; with_reducible exact H) | (have H2_ := (Option.bind_some _ _).symm.trans H; rw [hy170]; with_reducible exact H2_) | (have H2_ := (Option.bind_some _ _).symm.trans H; with_reducible exact H2_) | with_reducible exact H | (rw [hy170]; exact H) | exact H
                            have Ny170 := Aside0.mk hy170
                            clear hy170
                            by_cases c44 : 0 ≤ x7_2
                            · rw [if_pos c44] at H
                              have c44b0 : decide (0 ≤ x7_2) = true := decide_eq_true c44
                              clear c44
                              obtain ⟨ji45, hji45⟩ : ∃ j_ : Int, (wrap64 ((rd l0_7 x7_2) + 1)) = j_ := ⟨_, rfl⟩
                              replace H : (if 0 ≤ (ji45) then (if (ji45) < (y170.length : Int) then (if x6_2.length < 8796093022208 then (spec_ConfigText.l1 k2 (((((x3_1 ++ (⟨#[114, 97, 116, 101, 61]⟩ : ByteArray)) ++ t165) ++ (⟨#[47]⟩ : ByteArray)) ++ t166) ++ (⟨#[10]⟩ : ByteArray)) (x6_2 ++ [rdOf ByteArray.empty y170 (ji45)]) (wrap64 (x7_2 + 1)) a0_0 a0_1 a0_2 a0_3 a0_4 a0_5 a0_6 l0_7) else (none)) else (none)) else (none)) = some r := by first | (rw [hji45] at H; exact H) | (simp only [hji45] at H ⊢; exact H)
                              have hji45w : (IntKind.i64.wrap ((rd l0_7 x7_2) + 1)) = ji45 := (i64_w _).trans hji45
                              by_cases c46 : 0 ≤ (ji45)
                              · rw [if_pos c46] at H
                                have c46b0 : decide (0 ≤ (ji45)) = true := decide_eq_true c46
                                clear c46
                                by_cases c47 : (ji45) < (y170.length : Int)
                                · rw [if_pos c47] at H
                                  have c47b0 : decide ((ji45) < (y170.length : Int)) = true := decide_eq_true c47
                                  clear c47
                                  by_cases c48 : x6_2.length < 8796093022208
                                  · rw [if_pos c48] at H
                                    have LMc48 := Aside0.mk c48
                                    clear c48
                                    obtain ⟨y175, hy175⟩ : ∃ y_ : List ByteArray, y_ = (x6_2 ++ [rdOf ByteArray.empty y170 (ji45)]) := ⟨_, rfl⟩
                                    replace H : (spec_ConfigText.l1 k2 (((((x3_1 ++ (⟨#[114, 97, 116, 101, 61]⟩ : ByteArray)) ++ t165) ++ (⟨#[47]⟩ : ByteArray)) ++ t166) ++ (⟨#[10]⟩ : ByteArray)) y175 (wrap64 (x7_2 + 1)) a0_0 a0_1 a0_2 a0_3 a0_4 a0_5 a0_6 l0_7) = some r := by first | (rw [hy175]; with_reducible exact H) | (have H2_ := (Option.bind_some _ _).symm.trans H; rw [hy175]; with_reducible exact H2_) | (have H2_ := (Option.bind_some _ _).symm.trans H; with_reducible exact H2_) | with_reducible exact H | (rw [hy175]; exact H) | exact H
                                    have Ny175 := Aside0.mk hy175
                                    clear hy175
                                    have H' := Aside0.mk H
                                    clear H
                                    have hcz49_0 : wr.cell? ⟨gb154, 0, none⟩ = some (.int .i64 a0_0) := bc_
                                    have hcz49_1 : wr.cell? ⟨gb154, 1, none⟩ = some (.int .i64 a0_1) := bc_
                                    have hcz49_2 : wr.cell? ⟨gb154, 2, none⟩ = some (.int .i64 a0_2) := bc_
                                    have hcz49_3 : wr.cell? ⟨gb154, 3, none⟩ = some (.int .i64 a0_3) := bc_
                                    have hcz49_4 : wr.cell? ⟨gb154, 4, none⟩ = some (.int .i64 a0_4) := bc_
                                    have hcz49_5 : wr.cell? ⟨gb154, 5, none⟩ = some (.int .i64 a0_5) := bc_
                                    have hcz49_6 : wr.cell? ⟨gb154, 6, none⟩ = some (.int .i64 a0_6) := bc_
                                    have hcz49_7 : wr.cell? ⟨gb154, 7, none⟩ = some (.slice A0_7 l0_7.length c0_7) := bc_
                                    have hfz49_0 := blk_frozen BK154.out 0
                                    have hfz49_1 := blk_frozen BK154.out 1
                                    have hfz49_2 := blk_frozen BK154.out 2
                                    have hfz49_3 := blk_frozen BK154.out 3
                                    have hfz49_4 := blk_frozen BK154.out 4
                                    have hfz49_5 := blk_frozen BK154.out 5
                                    have hfz49_6 := blk_frozen BK154.out 6
                                    have hfz49_7 := blk_frozen BK154.out 7
                                    go_wp2_with (first | ((with_reducible refine gate_dst (N := 57) rfl ?_); refine Kd.R_lit Kd.string _ 9 ?hg (N := 57) ?hd (xs := ([(⟨#[45]⟩ : ByteArray), (⟨#[48]⟩ : ByteArray), (⟨#[43]⟩ : ByteArray)] : List ByteArray)) (inner := [.string (⟨#[45]⟩ : ByteArray), .string (⟨#[48]⟩ : ByteArray), .string (⟨#[43]⟩ : ByteArray)]) (ok := fun _ => True) (okp := fun _ => True) ?hr ?hp (fun _ hk => hk) trivial (Below.refl _ _) (Nat.le_refl _) (by simp) ?_; (case hd => rfl); (case hg => rfl); (case hr => first | (go_simp; done) | (go_simp; rfl)); (case hp => exact (Reps.one (show Kd.M Kd.string _ _ _ (⟨#[45]⟩ : ByteArray) [.string (⟨#[45]⟩ : ByteArray)] from rfl) (Reps.one (show Kd.M Kd.string _ _ _ (⟨#[48]⟩ : ByteArray) [.string (⟨#[48]⟩ : ByteArray)] from rfl) (Reps.one (show Kd.M Kd.string _ _ _ (⟨#[43]⟩ : ByteArray) [.string (⟨#[43]⟩ : ByteArray)] from rfl) (Reps.none _ _))))); intro v171 w50 ho51 hb hg_ hnew_; clear hg_ hnew_; (first | rw [← Ny170.out] at ho51 | (simp only [Int.reduceToNat] at ho51; rw [← Ny170.out] at ho51)); have n0_ := Aside0.mk (Kd.R_elder' (by (with_reducible repeat (first | apply Kd.R_alloc | apply Kd.R_drewN | apply Kd.R_drew)); exact HO_6.out) (Kd.R_base ho51) hb); have n1_ := Aside0.mk (Kd.R_lower (Kd.R_new' ho51 (Kd.R_lt (by (with_reducible repeat (first | apply Kd.R_alloc | apply Kd.R_drewN | apply Kd.R_drew)); exact HO_6.out))) (below_size bel_)); have n2_ := bb_ (g := gb154) hb; have n3_ := Aside0.mk (below_step bel_ hb); clear HO_6; clear BK154; clear HB; have HO_6 := n0_; have HO172 := n1_; have BK154 := n2_; have HB := n3_; clear n0_ n1_ n2_ n3_; clear hb ho51; have hcz52_0 : w50.cell? ⟨gb154, 0, none⟩ = some (.int .i64 a0_0) := bc_; have hcz52_1 : w50.cell? ⟨gb154, 1, none⟩ = some (.int .i64 a0_1) := bc_; have hcz52_2 : w50.cell? ⟨gb154, 2, none⟩ = some (.int .i64 a0_2) := bc_; have hcz52_3 : w50.cell? ⟨gb154, 3, none⟩ = some (.int .i64 a0_3) := bc_; have hcz52_4 : w50.cell? ⟨gb154, 4, none⟩ = some (.int .i64 a0_4) := bc_; have hcz52_5 : w50.cell? ⟨gb154, 5, none⟩ = some (.int .i64 a0_5) := bc_; have hcz52_6 : w50.cell? ⟨gb154, 6, none⟩ = some (.int .i64 a0_6) := bc_; have hcz52_7 : w50.cell? ⟨gb154, 7, none⟩ = some (.slice A0_7 l0_7.length c0_7) := bc_; have hfz52_0 := blk_frozen BK154.out 0; have hfz52_1 := blk_frozen BK154.out 1; have hfz52_2 := blk_frozen BK154.out 2; have hfz52_3 := blk_frozen BK154.out 3; have hfz52_4 := blk_frozen BK154.out 4; have hfz52_5 := blk_frozen BK154.out 5; have hfz52_6 := blk_frozen BK154.out 6; have hfz52_7 := blk_frozen BK154.out 7; have p173 : 0 ≤ (x7_2 : Int) := of_decide_eq_true (by first | (with_reducible assumption) | assumption); have q173 : x7_2 < (l0_7.length : Int) := of_decide_eq_true (by first | (with_reducible assumption) | assumption); obtain ⟨ad173, e173, hx173_0⟩ := Kd.at_int HR0_7.out x7_2 p173 q173; cases e173; replace hx173_0 := (HB.out.cell (World.block_lt_of_cell? w _ hx173_0)).trans hx173_0; replace p173 := eq_true p173; replace q173 := eq_true q173; obtain ⟨Ao53, co53, eo53⟩ := Kd.R_slice HO172.out; subst eo53; have p174 : 0 ≤ ((ji45) : Int) := of_decide_eq_true (by first | (with_reducible assumption) | assumption); have q174 : (ji45) < (y170.length : Int) := of_decide_eq_true (by first | (with_reducible assumption) | assumption); obtain ⟨ad174, e174, hx174_0⟩ := Kd.at_string (Kd.R_reads' HO172.out).2.2 (ji45) p174 q174; cases e174; replace p174 := eq_true p174; replace q174 := eq_true q174) | ((with_reducible refine gate_builtin (b := .append) (xs := #[.tmp 56, .tmp 66]) rfl ?_); at_builtin; refine Kd.R_append Kd.string (w0 := w) w.heap.size rfl (.tmp 56) (.tmp 66) 52 9 (.string ⟨#[]⟩) 16 rfl Tryd.underlying52 info9 rfl (by decide) (by omega) u6 x6_2 (rdOf ByteArray.empty y170 (ji45)) [.string (rdOf ByteArray.empty y170 (ji45))] (fun k_ => some k_ ≠ (.slice (some ad174) y170.length co53 : Value).ownBlock) (fun _ => False) rfl rfl ?aP (fun _ hk => hk.elim) ?aF ?aO ?aB ?aS ?aL ?_; (case aP => exact rfl); (case aB => exact bel_); (case aF => exact (fun k_ hk => Kd.fresh' (Kd.R_lt (by (with_reducible repeat (first | apply Kd.R_alloc | apply Kd.R_drewN | apply Kd.R_drew)); exact HO172.out)) k_ hk)); (case aO => exact (by (with_reducible repeat (first | apply Kd.R_alloc | apply Kd.R_drewN | apply Kd.R_drew)); exact Kd.R_mono HO_6.out (fun _ hk => hk.2))); (case aS => exact (below_size bel_)); (case aL => have := LMc48.out; omega); intro v176 w54 ho hb hg hat; rw [← Ny175.out] at ho; have n0_ := Aside0.mk (blk_grown (g := gb154) (o := .cells #[.int .i64 a0_0, .int .i64 a0_1, .int .i64 a0_2, .int .i64 a0_3, .int .i64 a0_4, .int .i64 a0_5, .int .i64 a0_6, .slice (some ad173) l0_7.length c0_7] 29 (0, 0)) bk_ hg (Kd.R_ne HO_6.out BK154.out (by decide))); have n1_ := Aside0.mk (Kd.R_after (ok := (fun _ => True)) (by (with_reducible repeat (first | apply Kd.R_alloc | apply Kd.R_drewN | apply Kd.R_drew)); exact HO172.out) hg hat); have n2_ := Aside0.mk (hb); have n3_ := Aside0.mk (ho); clear BK154; clear HO172; clear HB; clear HO_6; have BK154 := n0_; have HO172 := n1_; have HB := n2_; have HO177 := n3_; clear n0_ n1_ n2_ n3_; clear ho hb hg hat))
                                    go_roundg k2
                                    case measure => have := HK1.out; have := HK2.out; omega
                                    case rel => exact ⟨(y175), (wrap64 (x7_2 + 1)), (by first | rfl | (simp; done) | (simp [*]; done)), H', ⟨by have := HK1.out; have := HK2.out; omega⟩, ⟨by (with_reducible repeat (first | apply Kd.R_alloc | apply Kd.R_drewN | apply Kd.R_drew)); exact Kd.R_mono HO177.out (fun _ hk => trivial)⟩, ⟨by (with_reducible repeat (first | refine bN_ _ ?_ | refine bd_ ?_ | refine ba_ _ ?_)); exact BK154.out⟩, ⟨bel_⟩⟩
                                  · rw [if_neg c48] at H
                                    exact absurd H (by simp)
                                · rw [if_neg c47] at H
                                  exact absurd H (by simp)
                              · rw [if_neg c46] at H
                                exact absurd H (by simp)
                            · rw [if_neg c44] at H
                              exact absurd H (by simp)
                          · rw [if_neg c43] at H
                            have c43b0 : decide (x7_2 < (l0_7.length : Int)) = false := decide_eq_false c43
                            clear c43
                            by_cases c55 : (((((x3_1 ++ (⟨#[114, 97, 116, 101, 61]⟩ : ByteArray)) ++ t165) ++ (⟨#[47]⟩ : ByteArray)) ++ t166) ++ (⟨#[10]⟩ : ByteArray)).size + 6 ≤ 9223372036854775807
                            · rw [if_pos c55] at H
                              have c55b0 := eq_true c55
                              have c55b1 : decide ((((((x3_1 ++ (⟨#[114, 97, 116, 101, 61]⟩ : ByteArray)) ++ t165) ++ (⟨#[47]⟩ : ByteArray)) ++ t166) ++ (⟨#[10]⟩ : ByteArray)).size + 6 ≤ 9223372036854775807) = true := decide_eq_true c55
                              try have c55b2 : (9223372036854775807 < (((((x3_1 ++ (⟨#[114, 97, 116, 101, 61]⟩ : ByteArray)) ++ t165) ++ (⟨#[47]⟩ : ByteArray)) ++ t166) ++ (⟨#[10]⟩ : ByteArray)).size + 6) = False := eq_false (Nat.not_lt.2 c55)
                              (try (have c55b7 := c55b2; simp only [ByteArray.size_append, bsz_, List.size_toArray, List.length_cons, List.length_nil, Nat.zero_add, Nat.reduceAdd] at c55b7))
                              replace H := Option.bind_eq_some_iff.mp H
                              obtain ⟨t178, A560, H⟩ := H
                              replace H : (if ((((((x3_1 ++ (⟨#[114, 97, 116, 101, 61]⟩ : ByteArray)) ++ t165) ++ (⟨#[47]⟩ : ByteArray)) ++ t166) ++ (⟨#[10]⟩ : ByteArray)) ++ (⟨#[115, 105, 103, 110, 115, 61]⟩ : ByteArray)).size + t178.size ≤ 9223372036854775807 then (if (((((((x3_1 ++ (⟨#[114, 97, 116, 101, 61]⟩ : ByteArray)) ++ t165) ++ (⟨#[47]⟩ : ByteArray)) ++ t166) ++ (⟨#[10]⟩ : ByteArray)) ++ (⟨#[115, 105, 103, 110, 115, 61]⟩ : ByteArray)) ++ t178).size + 1 ≤ 9223372036854775807 then (some ((((((((x3_1 ++ (⟨#[114, 97, 116, 101, 61]⟩ : ByteArray)) ++ t165) ++ (⟨#[47]⟩ : ByteArray)) ++ t166) ++ (⟨#[10]⟩ : ByteArray)) ++ (⟨#[115, 105, 103, 110, 115, 61]⟩ : ByteArray)) ++ t178) ++ (⟨#[10]⟩ : ByteArray))) else (none)) else (none)) = some r := H
                              have A56 := Aside0.mk A560
                              clear A560
                              by_cases c57 : ((((((x3_1 ++ (⟨#[114, 97, 116, 101, 61]⟩ : ByteArray)) ++ t165) ++ (⟨#[47]⟩ : ByteArray)) ++ t166) ++ (⟨#[10]⟩ : ByteArray)) ++ (⟨#[115, 105, 103, 110, 115, 61]⟩ : ByteArray)).size + t178.size ≤ 9223372036854775807
                              · rw [if_pos c57] at H
                                have c57b0 := eq_true c57
                                have c57b1 : decide (((((((x3_1 ++ (⟨#[114, 97, 116, 101, 61]⟩ : ByteArray)) ++ t165) ++ (⟨#[47]⟩ : ByteArray)) ++ t166) ++ (⟨#[10]⟩ : ByteArray)) ++ (⟨#[115, 105, 103, 110, 115, 61]⟩ : ByteArray)).size + t178.size ≤ 9223372036854775807) = true := decide_eq_true c57
                                try have c57b2 : (9223372036854775807 < ((((((x3_1 ++ (⟨#[114, 97, 116, 101, 61]⟩ : ByteArray)) ++ t165) ++ (⟨#[47]⟩ : ByteArray)) ++ t166) ++ (⟨#[10]⟩ : ByteArray)) ++ (⟨#[115, 105, 103, 110, 115, 61]⟩ : ByteArray)).size + t178.size) = False := eq_false (Nat.not_lt.2 c57)
                                (try (have c57b7 := c57b2; simp only [ByteArray.size_append, bsz_, List.size_toArray, List.length_cons, List.length_nil, Nat.zero_add, Nat.reduceAdd] at c57b7))
                                by_cases c58 : (((((((x3_1 ++ (⟨#[114, 97, 116, 101, 61]⟩ : ByteArray)) ++ t165) ++ (⟨#[47]⟩ : ByteArray)) ++ t166) ++ (⟨#[10]⟩ : ByteArray)) ++ (⟨#[115, 105, 103, 110, 115, 61]⟩ : ByteArray)) ++ t178).size + 1 ≤ 9223372036854775807
                                · rw [if_pos c58] at H
                                  have c58b0 := eq_true c58
                                  have c58b1 : decide ((((((((x3_1 ++ (⟨#[114, 97, 116, 101, 61]⟩ : ByteArray)) ++ t165) ++ (⟨#[47]⟩ : ByteArray)) ++ t166) ++ (⟨#[10]⟩ : ByteArray)) ++ (⟨#[115, 105, 103, 110, 115, 61]⟩ : ByteArray)) ++ t178).size + 1 ≤ 9223372036854775807) = true := decide_eq_true c58
                                  try have c58b2 : (9223372036854775807 < (((((((x3_1 ++ (⟨#[114, 97, 116, 101, 61]⟩ : ByteArray)) ++ t165) ++ (⟨#[47]⟩ : ByteArray)) ++ t166) ++ (⟨#[10]⟩ : ByteArray)) ++ (⟨#[115, 105, 103, 110, 115, 61]⟩ : ByteArray)) ++ t178).size + 1) = False := eq_false (Nat.not_lt.2 c58)
                                  (try (have c58b7 := c58b2; simp only [ByteArray.size_append, bsz_, List.size_toArray, List.length_cons, List.length_nil, Nat.zero_add, Nat.reduceAdd] at c58b7))
                                  obtain rfl := Option.some.inj H
                                  have hcz59_0 : wr.cell? ⟨gb154, 0, none⟩ = some (.int .i64 a0_0) := bc_
                                  have hcz59_1 : wr.cell? ⟨gb154, 1, none⟩ = some (.int .i64 a0_1) := bc_
                                  have hcz59_2 : wr.cell? ⟨gb154, 2, none⟩ = some (.int .i64 a0_2) := bc_
                                  have hcz59_3 : wr.cell? ⟨gb154, 3, none⟩ = some (.int .i64 a0_3) := bc_
                                  have hcz59_4 : wr.cell? ⟨gb154, 4, none⟩ = some (.int .i64 a0_4) := bc_
                                  have hcz59_5 : wr.cell? ⟨gb154, 5, none⟩ = some (.int .i64 a0_5) := bc_
                                  have hcz59_6 : wr.cell? ⟨gb154, 6, none⟩ = some (.int .i64 a0_6) := bc_
                                  have hcz59_7 : wr.cell? ⟨gb154, 7, none⟩ = some (.slice A0_7 l0_7.length c0_7) := bc_
                                  have hfz59_0 := blk_frozen BK154.out 0
                                  have hfz59_1 := blk_frozen BK154.out 1
                                  have hfz59_2 := blk_frozen BK154.out 2
                                  have hfz59_3 := blk_frozen BK154.out 3
                                  have hfz59_4 := blk_frozen BK154.out 4
                                  have hfz59_5 := blk_frozen BK154.out 5
                                  have hfz59_6 := blk_frozen BK154.out 6
                                  have hfz59_7 := blk_frozen BK154.out 7
                                  obtain ⟨Ao60, co60, eo60⟩ := Kd.R_slice HO_6.out
                                  subst eo60
                                  go_wp2_with (first | ((with_reducible refine gate_callee (f := 34) rfl ?_); refine goesL_ (some 71) rfl rfl Tryd.func34 (by kernel_rfl) rfl #[.slice Ao60 x6_2.length co60, .string (⟨#[44]⟩ : ByteArray)] rfl mp_ ?_; (with_reducible refine (spec_Joined.calls k2 _ _ x6_2 (⟨#[44]⟩ : ByteArray) t178 _ ?side1 ?side2 A56.out).mono ?_); (case side1 => repeat (first | exact (Kd.R_reads' HO_6.out).2.2 | (with_reducible refine Kd.C_alloc ?_ _) | (with_reducible refine Kd.C_drewN ?_ _) | (with_reducible refine Kd.C_drew ?_))); (case side2 => exact (Kd.R_reads' HO_6.out).2.1); rintro e w61 ⟨rfl, hb⟩; refine ⟨_, rfl, ?_⟩; have n0_ := Aside0.mk (Kd.R_below (by (with_reducible repeat (first | apply Kd.R_alloc | apply Kd.R_drewN | apply Kd.R_drew)); exact HO_6.out) hb); have n1_ := bb_ (g := gb154) hb; have n2_ := Aside0.mk (below_step bel_ hb); clear HO_6; clear BK154; clear HB; have HO_6 := n0_; have BK154 := n1_; have HB := n2_; clear n0_ n1_ n2_; (try clear hb); (try clear hb2); (try clear hk); (try clear hi)))
                                  go_ret
                                  exact ⟨rf_, bel_⟩
                                · rw [if_neg c58] at H
                                  exact absurd H (by simp)
                              · rw [if_neg c57] at H
                                exact absurd H (by simp)
                            · rw [if_neg c55] at H
                              exact absurd H (by simp)
                  · rw [if_neg c31] at H
                    exact absurd H (by simp)
                · rw [if_neg c30] at H
                  exact absurd H (by simp)
              · rw [if_neg c28] at H
                exact absurd H (by simp)
            · rw [if_neg c27] at H
              exact absurd H (by simp)
          · rw [if_neg c25] at H
            exact absurd H (by simp)
  · replace c3 := Bool.eq_false_iff.mpr c3
    subst c3
    have H1 : (some (⟨#[]⟩ : ByteArray)) = some r := by rw [if_neg (show ¬ (false = true) by decide)] at H; exact H
    clear H
    have H := H1
    clear H1
    obtain rfl := Option.some.inj H
    go_enter Tryd.func11, Tryd.ntmps11
    go_wp2_with (first | ((with_reducible refine gate_dst (N := 1) rfl ?_); refine box_event ?hg (N := 1) ?hd (cs := #[.int .i64 a0_0, .int .i64 a0_1, .int .i64 a0_2, .int .i64 a0_3, .int .i64 a0_4, .int .i64 a0_5, .int .i64 a0_6, .slice A0_7 l0_7.length c0_7]) (t := 29) ?hr ?_; (case hd => rfl); (case hg => rfl); (case hr => first | (go_simp; done) | (go_simp; rfl)); intro gb154 hg w62 hbox hb; have n0_ := Aside0.mk (below_step bel_ hb); have n1_ := Aside0.mk (hbox); have n2_ := bs_ (w := w) hg; have n3_ := bs_ (w := w) hg; clear HB; have HB := n0_; have BK154 := n1_; have GW154 := n2_; have GE154 := n3_; clear n0_ n1_ n2_ n3_; clear hb hbox hg; have hcz63_0 : w62.cell? ⟨gb154, 0, none⟩ = some (.int .i64 a0_0) := bc_; have hcz63_1 : w62.cell? ⟨gb154, 1, none⟩ = some (.int .i64 a0_1) := bc_; have hcz63_2 : w62.cell? ⟨gb154, 2, none⟩ = some (.int .i64 a0_2) := bc_; have hcz63_3 : w62.cell? ⟨gb154, 3, none⟩ = some (.int .i64 a0_3) := bc_; have hcz63_4 : w62.cell? ⟨gb154, 4, none⟩ = some (.int .i64 a0_4) := bc_; have hcz63_5 : w62.cell? ⟨gb154, 5, none⟩ = some (.int .i64 a0_5) := bc_; have hcz63_6 : w62.cell? ⟨gb154, 6, none⟩ = some (.int .i64 a0_6) := bc_; have hcz63_7 : w62.cell? ⟨gb154, 7, none⟩ = some (.slice A0_7 l0_7.length c0_7) := bc_; have hfz63_0 := blk_frozen BK154.out 0; have hfz63_1 := blk_frozen BK154.out 1; have hfz63_2 := blk_frozen BK154.out 2; have hfz63_3 := blk_frozen BK154.out 3; have hfz63_4 := blk_frozen BK154.out 4; have hfz63_5 := blk_frozen BK154.out 5; have hfz63_6 := blk_frozen BK154.out 6; have hfz63_7 := blk_frozen BK154.out 7) | ((with_reducible refine gate_callee (f := 30) rfl ?_); refine goesL_ (some 9) rfl rfl Tryd.func30 (by kernel_rfl) rfl #[.agg #[.int .i64 a0_0, .int .i64 a0_1, .int .i64 a0_2, .int .i64 a0_3, .int .i64 a0_4, .int .i64 a0_5, .int .i64 a0_6, .slice A0_7 l0_7.length c0_7]] rfl mp_ ?_; (with_reducible refine (spec_ConfigOk.calls k a0_0 a0_1 a0_2 a0_3 a0_4 a0_5 a0_6 _ _ l0_7 false _ ?side1 ?side2 A2.out).mono ?_); (case side1 => repeat (first | exact (Kd.C_below HR0_7.out HB.out) | (with_reducible refine Kd.C_alloc ?_ _) | (with_reducible refine Kd.C_drewN ?_ _) | (with_reducible refine Kd.C_drew ?_))); (case side2 => exact HC0_7.out); rintro e w64 ⟨rfl, hb⟩; refine ⟨_, rfl, ?_⟩; have n0_ := bb_ (g := gb154) hb; have n1_ := Aside0.mk (below_step bel_ hb); clear BK154; clear HB; have BK154 := n0_; have HB := n1_; clear n0_ n1_; (try clear hb); (try clear hb2); (try clear hk); (try clear hi)))
    go_ret
    exact ⟨rf_, bel_⟩

end Go.Proofs.YtcbiijfiecjcaaaDoor.PFnExactConfigText
