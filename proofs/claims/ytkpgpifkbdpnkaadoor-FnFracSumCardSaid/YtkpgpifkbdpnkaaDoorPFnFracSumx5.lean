/- Contracts of Go functions, each with the Lean function that says what it computes: begun by the print, turned by this session. No condition beyond what each theorem states. -/
import Derived.Test.YtkpgpifkbdpnkaaDoorPFnFracSumx0
import Derived.Test.YtkpgpifkbdpnkaaDoorPFnFracSumx2
namespace Go.Proofs.YtkpgpifkbdpnkaaDoor.PFnFracSum
open Go.RowKit Go.Proofs.YtkpgpifkbdpnkaaDoorVFnFracSum.PrintWords Go.Proofs.YtkpgpifkbdpnkaaDoorVFnFracSum.PrintLast Go.Proofs.YtkpgpifkbdpnkaaDoorVFnFracSum.PrintMore
attribute [local go_sem] max2_int min2_int max_two min_two max_three min_three max_four min_four   -- for this text's walks alone
set_option linter.unusedVariables false
set_option linter.unusedSimpArgs false
/-! ### spec_WideOf: function 60 -/
def spec_WideOf.f (a0 : Int) : Option (Bool × Int × Int) := (spec_l3Abs.f a0).bind fun t151 => (some (decide (a0 < 0), 0, t151))
set_option maxHeartbeats 8000000 in
set_option maxRecDepth 100000 in
theorem spec_WideOf.calls (a0 : Int) (r1 : Bool) (r2 : Int) (r3 : Int) (w : World) (h : spec_WideOf.f a0 = some (r1, r2, r3)) :
  Calls Tryd.prog 60 #[.int .i64 a0] w fun e w' => e = .returned (.agg #[.bool r1, .int .u64 r2, .int .u64 r3]) ∧ Below w.heap.size w w' := by
 have hu28 := Tryd.underlying28
 have HB := Aside0.mk (Below.refl w.heap.size w)
 have H : ((spec_l3Abs.f a0).bind fun t151 => (some (decide (a0 < 0), 0, t151))) = some (r1, r2, r3) := h
 clear h
 replace H := Option.bind_eq_some_iff.mp H
 obtain ⟨t151, A20, H⟩ := H
 replace H : (some (decide (a0 < 0), 0, t151)) = some (r1, r2, r3) := H
 have A2 := Aside0.mk A20
 clear A20
 simp only [Option.some.injEq, Prod.mk.injEq] at H
 obtain ⟨rfl, rfl, rfl⟩ := H
 go_enter Tryd.func60, Tryd.ntmps60
 go_wp2_with (first | ((with_reducible refine gate_dst (N := 2) rfl ?_); refine box_event ?hg (N := 2) ?hd (cs := #[.bool false, .int .u64 0, .int .u64 0]) (t := 28) ?hr ?_; (case hd => rfl); (case hg => rfl); (case hr => first | (go_simp; done) | (go_simp; rfl)); intro gb150 hg w3 hbox hb; have BK150 := Aside0.mk (hbox); have GW150 := bs_ (w := w) hg; have GE150 := bs_ (w := w) hg; replace HB := Aside0.mk (below_step bel_ hb); clear hb hbox hg) | ((with_reducible refine gate_callee (f := 99) rfl ?_); refine goesL_ (some 6) rfl rfl Tryd.func99 (by kernel_rfl) rfl #[.int .i64 a0] rfl mp_ ?_; (with_reducible refine (spec_l3Abs.calls a0 t151 _ A2.out).mono ?_); rintro e w' ⟨rfl, ⟨nd, rfl⟩⟩; refine ⟨_, rfl, ?_⟩; (try (rw [drewN_self w3]; generalize hq_ : World.drewN w3 _ = w3; have n0_ : Aside0 (w3.heap[gb150]? = some (.cells #[.bool false, .int .u64 0, .int .u64 0] 28 (0, 0))) := ⟨by rw [← hq_]; exact bk_⟩; have n1_ : Aside0 (Below w.heap.size w w3) := ⟨by rw [← hq_]; exact bel_⟩; clear BK150 HB hq_; have BK150 := n0_; have HB := n1_; clear n0_ n1_)); obtain ⟨hcz4_0, hcz4_1, hcz4_2, hfz4_0, hfz4_1, hfz4_2⟩ := cf3_ (w := w3) BK150.out))
 refine bodyPost_ret (results_cell_row rfl _ _ gb150 28 #[.bool (decide (a0 < 0)), .int .u64 0, .int .u64 t151] (0, 0) _ rfl (pu_ #[.bool (decide (a0 < 0)), .int .u64 0, .int .u64 0] 2 (h := (pu_ #[.bool (decide (a0 < 0)), .int .u64 0, .int .u64 0] 1 (h := (pu_ #[.bool false, .int .u64 0, .int .u64 0] 0 (h := bk_)))))) Tryd.underlying28 rfl (by kernel_rfl)) rfl ?_
 exact ⟨rf_, bel_⟩
/-! ### spec_l1PickInt: function 72 -/
def spec_l1PickInt.f (s0_0 : List Int) (s0_1 : Int) (s0_2 : Int) (l1 : List Int) : Option (Int × Int × Int) := (spec_l1Below.f s0_0 s0_1 s0_2 (l1.length : Int)).bind fun bt152 => (if 0 ≤ bt152.1 then (if bt152.1 < (l1.length : Int) then (some (rd l1 bt152.1, bt152.2.1, bt152.2.2)) else (none)) else (none))
set_option maxHeartbeats 8000000 in
set_option maxRecDepth 100000 in
theorem spec_l1PickInt.calls (g : Nat) (s0_0 : List Int) (s0_1 : Int) (s0_2 : Int) (A1 : Option Addr) (c1 : Nat) (l1 : List Int) (r1 : Int) (r2 : Int) (r3 : Int) (w0 w : World) (hI : IsS90 w0 w g s0_0 s0_1 s0_2) (hB : Below w0.heap.size w0 w) (hr1 : Kd.C (Kd.int .i64) w A1 l1.length l1) (hc1 : l1.length ≤ c1) (hf1 : ∀ ad, A1 = some ad → 0 < l1.length → ad.block ≠ g) (h : spec_l1PickInt.f s0_0 s0_1 s0_2 l1 = some (r1, r2, r3)) :
  Calls Tryd.prog 72 #[.pointer (some ⟨g, 0, none⟩), .slice A1 l1.length c1] w fun e w' => e = .returned (.int .i64 r1) ∧ IsS90 w0 w' g s0_0 r2 r3 ∧ Below w0.heap.size w0 w' ∧ KeepBut w w' g none := by
 have HR1 := Aside0.mk hr1
 have HC1 := Aside0.mk hc1
 clear hr1 hc1
 have HI0 := Aside0.mk hI
 have HK := Aside0.mk (KeepBut.refl w g none)
 have HL := Aside0.mk hB.size
 clear hI
 have HW0 := Aside0.mk hB.size
 have HB := Aside0.mk hB
 clear hB
 have H : ((spec_l1Below.f s0_0 s0_1 s0_2 (l1.length : Int)).bind fun bt152 => (if 0 ≤ bt152.1 then (if bt152.1 < (l1.length : Int) then (some (rd l1 bt152.1, bt152.2.1, bt152.2.2)) else (none)) else (none))) = some (r1, r2, r3) := h
 clear h
 replace H := Option.bind_eq_some_iff.mp H
 obtain ⟨⟨t152, t153, t154⟩, A30, H⟩ := H
 replace H : (if 0 ≤ t152 then (if t152 < (l1.length : Int) then (some (rd l1 t152, t153, t154)) else (none)) else (none)) = some (r1, r2, r3) := H
 have A3 := Aside0.mk A30
 clear A30
 by_cases c4 : 0 ≤ t152
 ·rw [if_pos c4] at H
  have c4b0 : decide (0 ≤ t152) = true := decide_eq_true c4
  clear c4
  by_cases c5 : t152 < (l1.length : Int)
  ·rw [if_pos c5] at H
   have c5b0 : decide (t152 < (l1.length : Int)) = true := decide_eq_true c5
   clear c5
   simp only [Option.some.injEq, Prod.mk.injEq] at H
   obtain ⟨rfl, rfl, rfl⟩ := H
   go_enter Tryd.func72, Tryd.ntmps72
   go_wp2_with (first | ((with_reducible refine gate_callee (f := 52) rfl ?_); refine goesL_ (some 9) rfl rfl Tryd.func52 (by kernel_rfl) rfl #[.pointer (some ⟨g, 0, none⟩), .int .i64 (l1.length : Int)] rfl mp_ ?_; (with_reducible refine (spec_l1Below.calls g s0_0 s0_1 s0_2 (l1.length : Int) t152 t153 t154 w0 _ ?side1 ?side2 A3.out).mono ?_); (case side1 => exact is_); (case side2 => exact belI_); rintro e w6 ⟨rfl, hi, hb, hk⟩; refine ⟨_, rfl, ?_⟩; replace HB := Aside0.mk (hb); replace HK := Aside0.mk (KeepBut.trans (kw_ (w := w)) hk (.inl rfl)); replace HI0 := Aside0.mk (hi); (try clear hb); (try clear hb2); (try clear hk); (try clear hi); have p155 : 0 ≤ (t152 : Int) := of_decide_eq_true (by first | (with_reducible assumption) | assumption); have q155 : t152 < (l1.length : Int) := of_decide_eq_true (by first | (with_reducible assumption) | assumption); obtain ⟨ad155, e155, hx155_0⟩ := Kd.at_int HR1.out t152 p155 q155; cases e155; replace hx155_0 := keep_cell HK.out hx155_0 (by first | (rw [add_block]; exact hf1 _ rfl (by omega)) | exact hf1 _ rfl (by omega) | exact hf1 ad155 rfl (by omega)); replace p155 := eq_true p155; replace q155 := eq_true q155))
   go_ret
   exact ⟨rf_, is_, belI_, kw_ (w := w)⟩
  ·rw [if_neg c5] at H
   exact absurd H (by simp)
 ·rw [if_neg c4] at H
  exact absurd H (by simp)
/-! ### spec_l1Whole: function 43 -/
def spec_l1Whole.l0 : Nat → Int → Int → List Int → Int → Int → Option (Int × Int × Int)
 | 0, _, _, _, _, _ => none
 | k + 1, x3, x4, x1000, x1001, x1002 => if x4 < 8 then ((spec_l1Byte.f x1000 x1001 x1002).bind fun bt165 => (spec_l1Whole.l0 k (wrap64 ((wrap64 (x3 * 256)) + bt165.1)) (wrap64 (x4 + 1)) x1000 bt165.2.1 bt165.2.2)) else (some (x3, x1001, x1002))
def spec_l1Whole.f (k : Nat) (s0_0 : List Int) (s0_1 : Int) (s0_2 : Int) : Option (Int × Int × Int) := (spec_l1Below.f s0_0 s0_1 s0_2 4).bind fun bt156 => (if bt156.1 = 0 then ((spec_l1PickInt.f s0_0 bt156.2.1 bt156.2.2 (([0, 1, (-1), 9, 10, 999, 1000, 2147483647, (-2147483648), 3037000499, 3037000500, 9223372036854775807, (-9223372036854775807), (-9223372036854775808)] : List Int))).bind fun bt162 => (some (bt162.1, bt162.2.1, bt162.2.2))) else (if bt156.1 = 1 then (spec_l1Whole.l0 k 0 0 s0_0 bt156.2.1 bt156.2.2) else (if bt156.1 = 2 then ((spec_l1Below.f s0_0 bt156.2.1 bt156.2.2 1000000).bind fun bt168 => (some (wrap64 (bt168.1 - 500000), bt168.2.1, bt168.2.2))) else ((spec_l1Below.f s0_0 bt156.2.1 bt156.2.2 41).bind fun bt171 => (some (wrap64 (bt171.1 - 20), bt171.2.1, bt171.2.2))))))
theorem spec_l1Whole.mono_l : ∀ k, (∀ y0 y1 y2 y3 y4, LeO (spec_l1Whole.l0 k y0 y1 y2 y3 y4) (spec_l1Whole.l0 (k + 1) y0 y1 y2 y3 y4))
 | 0 => fun _ _ _ _ _ r h => by simp [spec_l1Whole.l0] at h
 | k + 1 => by
  have ih0 := spec_l1Whole.mono_l k
  ·intro y0 y1 y2 y3 y4
   unfold spec_l1Whole.l0
   repeat' first
   | (with_reducible exact ih0 _ _ _ _ _)
   | (with_reducible exact LeO.refl _)
   | (with_reducible exact LeO.none _)
   | (with_reducible refine LeO.ite ?_ ?_)
   | (with_reducible refine LeO.bind ?_ (fun _ => ?_))
   | exact ih0 _ _ _ _ _
   | exact LeO.none _
   | refine LeO.ite ?_ ?_
   | refine LeO.bind ?_ (fun _ => ?_)
theorem spec_l1Whole.mono : ∀ a0 a1 a2 k, LeO (spec_l1Whole.f k a0 a1 a2) (spec_l1Whole.f (k + 1) a0 a1 a2) := by
 intro a0 a1 a2 k
 have ih0 := spec_l1Whole.mono_l k
 unfold spec_l1Whole.f
 repeat' first
   | (with_reducible exact ih0 _ _ _ _ _)
   | (with_reducible exact LeO.refl _)
   | (with_reducible exact LeO.none _)
   | (with_reducible refine LeO.ite ?_ ?_)
   | (with_reducible refine LeO.bind ?_ (fun _ => ?_))
   | exact ih0 _ _ _ _ _
   | exact LeO.none _
   | refine LeO.ite ?_ ?_
   | refine LeO.bind ?_ (fun _ => ?_)
set_option maxHeartbeats 8000000 in
set_option maxRecDepth 100000 in
theorem spec_l1Whole.calls (k : Nat) (g : Nat) (s0_0 : List Int) (s0_1 : Int) (s0_2 : Int) (r1 : Int) (r2 : Int) (r3 : Int) (w0 w : World) (hI : IsS90 w0 w g s0_0 s0_1 s0_2) (hB : Below w0.heap.size w0 w) (h : spec_l1Whole.f k s0_0 s0_1 s0_2 = some (r1, r2, r3)) :
  Calls Tryd.prog 43 #[.pointer (some ⟨g, 0, none⟩)] w fun e w' => e = .returned (.int .i64 r1) ∧ IsS90 w0 w' g s0_0 r2 r3 ∧ Below w0.heap.size w0 w' ∧ KeepBut w w' g none := by
 have HI0 := Aside0.mk hI
 have HK := Aside0.mk (KeepBut.refl w g none)
 have HL := Aside0.mk hB.size
 clear hI
 have HW0 := Aside0.mk hB.size
 have HB := Aside0.mk hB
 clear hB
 have H : ((spec_l1Below.f s0_0 s0_1 s0_2 4).bind fun bt156 => (if bt156.1 = 0 then ((spec_l1PickInt.f s0_0 bt156.2.1 bt156.2.2 (([0, 1, (-1), 9, 10, 999, 1000, 2147483647, (-2147483648), 3037000499, 3037000500, 9223372036854775807, (-9223372036854775807), (-9223372036854775808)] : List Int))).bind fun bt162 => (some (bt162.1, bt162.2.1, bt162.2.2))) else (if bt156.1 = 1 then (spec_l1Whole.l0 k 0 0 s0_0 bt156.2.1 bt156.2.2) else (if bt156.1 = 2 then ((spec_l1Below.f s0_0 bt156.2.1 bt156.2.2 1000000).bind fun bt168 => (some (wrap64 (bt168.1 - 500000), bt168.2.1, bt168.2.2))) else ((spec_l1Below.f s0_0 bt156.2.1 bt156.2.2 41).bind fun bt171 => (some (wrap64 (bt171.1 - 20), bt171.2.1, bt171.2.2))))))) = some (r1, r2, r3) := h
 clear h
 replace H := Option.bind_eq_some_iff.mp H
 obtain ⟨⟨t156, t157, t158⟩, A20, H⟩ := H
 replace H : (if t156 = 0 then ((spec_l1PickInt.f s0_0 t157 t158 (([0, 1, (-1), 9, 10, 999, 1000, 2147483647, (-2147483648), 3037000499, 3037000500, 9223372036854775807, (-9223372036854775807), (-9223372036854775808)] : List Int))).bind fun bt162 => (some (bt162.1, bt162.2.1, bt162.2.2))) else (if t156 = 1 then (spec_l1Whole.l0 k 0 0 s0_0 t157 t158) else (if t156 = 2 then ((spec_l1Below.f s0_0 t157 t158 1000000).bind fun bt168 => (some (wrap64 (bt168.1 - 500000), bt168.2.1, bt168.2.2))) else ((spec_l1Below.f s0_0 t157 t158 41).bind fun bt171 => (some (wrap64 (bt171.1 - 20), bt171.2.1, bt171.2.2)))))) = some (r1, r2, r3) := H
 have A2 := Aside0.mk A20
 clear A20
 by_cases c3 : t156 = 0
 ·rw [if_pos c3] at H
  have c3b0 : (t156 == 0) = true := beq_iff_eq.mpr c3
  have c3b1 : (t156 != 0) = false := bne_eq_false_iff_eq.mpr c3
  clear c3
  obtain ⟨y159, hy159⟩ : ∃ y_ : List Int, y_ = (([0, 1, (-1), 9, 10, 999, 1000, 2147483647, (-2147483648), 3037000499, 3037000500, 9223372036854775807, (-9223372036854775807), (-9223372036854775808)] : List Int)) := ⟨_, rfl⟩
  replace H : ((spec_l1PickInt.f s0_0 t157 t158 y159).bind fun bt162 => (some (bt162.1, bt162.2.1, bt162.2.2))) = some (r1, r2, r3) := by first | (rw [hy159]; with_reducible exact H) | (have H2_ := (Option.bind_some _ _).symm.trans H; rw [hy159]; with_reducible exact H2_) | (have H2_ := (Option.bind_some _ _).symm.trans H; with_reducible exact H2_) | with_reducible exact H | (rw [hy159]; exact H) | exact H
  have Ny159 := Aside0.mk hy159
  clear hy159
  replace H := Option.bind_eq_some_iff.mp H
  obtain ⟨⟨t162, t163, t164⟩, A40, H⟩ := H
  replace H : (some (t162, t163, t164)) = some (r1, r2, r3) := H
  have A4 := Aside0.mk A40
  clear A40
  simp only [Option.some.injEq, Prod.mk.injEq] at H
  obtain ⟨rfl, rfl, rfl⟩ := H
  go_enter Tryd.func43, Tryd.ntmps43
  go_wp2_with (first | ((with_reducible refine gate_callee (f := 52) rfl ?_); refine goesL_ (some 6) rfl rfl Tryd.func52 (by kernel_rfl) rfl #[.pointer (some ⟨g, 0, none⟩), .int .i64 4] rfl mp_ ?_; (with_reducible refine (spec_l1Below.calls g s0_0 s0_1 s0_2 4 t156 t157 t158 w0 _ ?side1 ?side2 A2.out).mono ?_); (case side1 => exact is_); (case side2 => exact belI_); rintro e w5 ⟨rfl, hi, hb, hk⟩; refine ⟨_, rfl, ?_⟩; replace HB := Aside0.mk (hb); replace HK := Aside0.mk (KeepBut.trans (kw_ (w := w)) hk (.inl rfl)); replace HI0 := Aside0.mk (hi); (try clear hb); (try clear hb2); (try clear hk); (try clear hi)) | ((with_reducible refine gate_dst (N := 10) rfl ?_); refine Kd.R_lit (Kd.int .i64) _ 3 ?hg (N := 10) ?hd (xs := ([0, 1, (-1), 9, 10, 999, 1000, 2147483647, (-2147483648), 3037000499, 3037000500, 9223372036854775807, (-9223372036854775807), (-9223372036854775808)] : List Int)) (inner := [.int .i64 0, .int .i64 1, .int .i64 (-1), .int .i64 9, .int .i64 10, .int .i64 999, .int .i64 1000, .int .i64 2147483647, .int .i64 (-2147483648), .int .i64 3037000499, .int .i64 3037000500, .int .i64 9223372036854775807, .int .i64 (-9223372036854775807), .int .i64 (-9223372036854775808)]) (ok := fun _ => True) (okp := fun _ => True) ?hr ?hp (fun _ hk => hk) trivial (Below.refl _ _) (Nat.le_refl _) (by simp) ?_; (case hd => rfl); (case hg => rfl); (case hr => first | (go_simp; done) | (go_simp; rfl)); (case hp => exact (Reps.one (show Kd.M (Kd.int .i64) _ _ _ 0 [.int .i64 0] from rfl) (Reps.one (show Kd.M (Kd.int .i64) _ _ _ 1 [.int .i64 1] from rfl) (Reps.one (show Kd.M (Kd.int .i64) _ _ _ (-1) [.int .i64 (-1)] from rfl) (Reps.one (show Kd.M (Kd.int .i64) _ _ _ 9 [.int .i64 9] from rfl) (Reps.one (show Kd.M (Kd.int .i64) _ _ _ 10 [.int .i64 10] from rfl) (Reps.one (show Kd.M (Kd.int .i64) _ _ _ 999 [.int .i64 999] from rfl) (Reps.one (show Kd.M (Kd.int .i64) _ _ _ 1000 [.int .i64 1000] from rfl) (Reps.one (show Kd.M (Kd.int .i64) _ _ _ 2147483647 [.int .i64 2147483647] from rfl) (Reps.one (show Kd.M (Kd.int .i64) _ _ _ (-2147483648) [.int .i64 (-2147483648)] from rfl) (Reps.one (show Kd.M (Kd.int .i64) _ _ _ 3037000499 [.int .i64 3037000499] from rfl) (Reps.one (show Kd.M (Kd.int .i64) _ _ _ 3037000500 [.int .i64 3037000500] from rfl) (Reps.one (show Kd.M (Kd.int .i64) _ _ _ 9223372036854775807 [.int .i64 9223372036854775807] from rfl) (Reps.one (show Kd.M (Kd.int .i64) _ _ _ (-9223372036854775807) [.int .i64 (-9223372036854775807)] from rfl) (Reps.one (show Kd.M (Kd.int .i64) _ _ _ (-9223372036854775808) [.int .i64 (-9223372036854775808)] from rfl) (Reps.none _ _)))))))))))))))); intro v160 w6 ho7 hb hg_ hnew_; clear hg_ hnew_; (first | rw [← Ny159.out] at ho7 | (simp only [Int.reduceToNat] at ho7; rw [← Ny159.out] at ho7)); have HO161 := Aside0.mk (Kd.R_lower ho7 (keep_size (w := w) (g := g) (row := none) (kw_ (w := w)))); replace HB := Aside0.mk (below_step (belI_) hb); replace HI0 := Aside0.mk (IsS90.below (is_) hb); replace HK := Aside0.mk (KeepBut.trans (kw_ (w := w)) (KeepBut.of_below hb g none) (.inl rfl)); clear hb ho7; obtain ⟨Ao8, co8, eo8⟩ := Kd.R_slice HO161.out; subst eo8) | ((with_reducible refine gate_callee (f := 72) rfl ?_); refine goesL_ (some 11) rfl rfl Tryd.func72 (by kernel_rfl) rfl #[.pointer (some ⟨g, 0, none⟩), .slice Ao8 y159.length co8] rfl mp_ ?_; (with_reducible refine (spec_l1PickInt.calls g s0_0 t157 t158 _ _ y159 t162 t163 t164 w0 _ ?side1 ?side2 ?side3 ?side4 ?side5 A4.out).mono ?_); (case side1 => exact is_); (case side2 => exact belI_); (case side3 => repeat (first | exact (Kd.R_reads' HO161.out).2.2 | (with_reducible refine Kd.C_alloc ?_ _) | (with_reducible refine Kd.C_drewN ?_ _) | (with_reducible refine Kd.C_drew ?_))); (case side4 => exact (Kd.R_reads' HO161.out).2.1); (case side5 => exact far_slice (IsS90.own_ne HI0.out HO161.out (by decide))); rintro e w9 ⟨rfl, hi, hb, hk⟩; refine ⟨_, rfl, ?_⟩; replace HB := Aside0.mk (hb); replace HO161 := Aside0.mk (Kd.R_mono (Kd.R_keep (IsS90.apart (show IsS90 w0 _ g s0_0 t157 t158 from is_) (by (with_reducible repeat (first | apply Kd.R_alloc | apply Kd.R_drewN | apply Kd.R_drew)); exact HO161.out) (by decide)) hk (fun _ h => h.2)) (fun _ h => h.1)); replace HK := Aside0.mk (KeepBut.trans (kw_ (w := w)) hk (.inl rfl)); replace HI0 := Aside0.mk (hi); (try clear hb); (try clear hb2); (try clear hk); (try clear hi)))
  go_ret
  exact ⟨rf_, is_, belI_, kw_ (w := w)⟩
 ·rw [if_neg c3] at H
  have c3b0 : (t156 == 0) = false := beq_eq_false_iff_ne.mpr c3
  have c3b1 : (t156 != 0) = true := bne_iff_ne.mpr c3
  by_cases c10 : t156 = 1
  ·rw [if_pos c10] at H
   have c10b0 : (t156 == 1) = true := beq_iff_eq.mpr c10
   have c10b1 : (t156 != 1) = false := bne_eq_false_iff_eq.mpr c10
   clear c10
   have H' := Aside0.mk H
   clear H
   go_enter Tryd.func43, Tryd.ntmps43
   go_wp2_with (first | ((with_reducible refine gate_callee (f := 52) rfl ?_); refine goesL_ (some 6) rfl rfl Tryd.func52 (by kernel_rfl) rfl #[.pointer (some ⟨g, 0, none⟩), .int .i64 4] rfl mp_ ?_; (with_reducible refine (spec_l1Below.calls g s0_0 s0_1 s0_2 4 t156 t157 t158 w0 _ ?side1 ?side2 A2.out).mono ?_); (case side1 => exact is_); (case side2 => exact belI_); rintro e w11 ⟨rfl, hi, hb, hk⟩; refine ⟨_, rfl, ?_⟩; replace HB := Aside0.mk (hb); replace HK := Aside0.mk (KeepBut.trans (kw_ (w := w)) hk (.inl rfl)); replace HI0 := Aside0.mk (hi); (try clear hb); (try clear hb2); (try clear hk); (try clear hi)))
   go_loopg [3, 4] k (fun kq v3 v4 w' => ∃ (x3_1 : Int) (x4_1 : Int) (x1001_1 : Int) (x1002_1 : Int), v3 = .int .i64 x3_1 ∧ v4 = .int .i64 x4_1 ∧ Aside0 (spec_l1Whole.l0 kq x3_1 x4_1 s0_0 x1001_1 x1002_1 = some (r1, r2, r3)) ∧ Aside0 (kq ≤ k) ∧ Aside0 (IsS90 w0 w' g s0_0 x1001_1 x1002_1) ∧ Aside0 (KeepBut w w' g none) ∧ Aside0 (Below w0.heap.size w0 w'))
   case atStart => exact ⟨(0), (0), (t157), (t158), (by first | rfl | (simp; done) | (simp [*]; done)), (by first | rfl | (simp; done) | (simp [*]; done)), H', ⟨Nat.le_refl _⟩, ⟨is_⟩, ⟨kw_ (w := w)⟩, ⟨belI_⟩⟩
   case round =>
    clear H'
    try clear c1
    try clear p2
    try clear c3
    try clear c3b0
    try clear c3b1
    try clear c4
    try clear c5
    try clear p6
    try clear c7
    try clear c10
    try clear c10b0
    try clear c10b1
    obtain ⟨x3_1, x4_1, x1001_1, x1002_1, rfl, rfl, HA, HK1, HI0, HK, HB⟩ := hrel
    cases gk with
    | zero => exact absurd HA.out (by simp [spec_l1Whole.l0])
    | succ k1 =>
     have H := HA.out
     clear HA
     simp only [spec_l1Whole.l0] at H
     by_cases c12 : x4_1 < 8
     ·rw [if_pos c12] at H
      have c12b0 : decide (x4_1 < 8) = true := decide_eq_true c12
      clear c12
      replace H := Option.bind_eq_some_iff.mp H
      obtain ⟨⟨t165, t166, t167⟩, A130, H⟩ := H
      replace H : (spec_l1Whole.l0 k1 (wrap64 ((wrap64 (x3_1 * 256)) + t165)) (wrap64 (x4_1 + 1)) s0_0 t166 t167) = some (r1, r2, r3) := H
      have A13 := Aside0.mk A130
      clear A130
      have H' := Aside0.mk H
      clear H
      go_wp2_with (first | ((with_reducible refine gate_callee (f := 85) rfl ?_); refine goesL_ (some 21) rfl rfl Tryd.func85 (by kernel_rfl) rfl #[.pointer (some ⟨g, 0, none⟩)] rfl mp_ ?_; (with_reducible refine (spec_l1Byte.calls g s0_0 x1001_1 x1002_1 t165 t166 t167 w0 _ ?side1 ?side2 A13.out).mono ?_); (case side1 => exact is_); (case side2 => exact belI_); rintro e w14 ⟨rfl, hi, hb, hk⟩; refine ⟨_, rfl, ?_⟩; replace HB := Aside0.mk (hb); replace HK := Aside0.mk (KeepBut.trans (kw_ (w := w)) hk (.inl rfl)); replace HI0 := Aside0.mk (hi); (try clear hb); (try clear hb2); (try clear hk); (try clear hi)))
      go_roundg k1
      case measure => have := HK1.out; omega
      case rel => exact ⟨(wrap64 ((wrap64 (x3_1 * 256)) + t165)), (wrap64 (x4_1 + 1)), (t166), (t167), (by first | rfl | (simp; done) | (simp [*]; done)), (by first | rfl | (simp; done) | (simp [*]; done)), H', ⟨by have := HK1.out; omega⟩, ⟨is_⟩, ⟨kw_ (w := w)⟩, ⟨belI_⟩⟩
     ·rw [if_neg c12] at H
      have c12b0 : decide (x4_1 < 8) = false := decide_eq_false c12
      clear c12
      simp only [Option.some.injEq, Prod.mk.injEq] at H
      obtain ⟨rfl, rfl, rfl⟩ := H
      go_wp2
      go_ret
      exact ⟨rf_, is_, belI_, kw_ (w := w)⟩
  ·rw [if_neg c10] at H
   have c10b0 : (t156 == 1) = false := beq_eq_false_iff_ne.mpr c10
   have c10b1 : (t156 != 1) = true := bne_iff_ne.mpr c10
   by_cases c15 : t156 = 2
   ·rw [if_pos c15] at H
    have c15b0 : (t156 == 2) = true := beq_iff_eq.mpr c15
    have c15b1 : (t156 != 2) = false := bne_eq_false_iff_eq.mpr c15
    clear c15
    replace H := Option.bind_eq_some_iff.mp H
    obtain ⟨⟨t168, t169, t170⟩, A160, H⟩ := H
    replace H : (some (wrap64 (t168 - 500000), t169, t170)) = some (r1, r2, r3) := H
    have A16 := Aside0.mk A160
    clear A160
    simp only [Option.some.injEq, Prod.mk.injEq] at H
    obtain ⟨rfl, rfl, rfl⟩ := H
    go_enter Tryd.func43, Tryd.ntmps43
    go_wp2_with (first | ((with_reducible refine gate_callee (f := 52) rfl ?_); refine goesL_ (some 6) rfl rfl Tryd.func52 (by kernel_rfl) rfl #[.pointer (some ⟨g, 0, none⟩), .int .i64 4] rfl mp_ ?_; (with_reducible refine (spec_l1Below.calls g s0_0 s0_1 s0_2 4 t156 t157 t158 w0 _ ?side1 ?side2 A2.out).mono ?_); (case side1 => exact is_); (case side2 => exact belI_); rintro e w17 ⟨rfl, hi, hb, hk⟩; refine ⟨_, rfl, ?_⟩; replace HB := Aside0.mk (hb); replace HK := Aside0.mk (KeepBut.trans (kw_ (w := w)) hk (.inl rfl)); replace HI0 := Aside0.mk (hi); (try clear hb); (try clear hb2); (try clear hk); (try clear hi)) | ((with_reducible refine gate_callee (f := 52) rfl ?_); refine goesL_ (some 27) rfl rfl Tryd.func52 (by kernel_rfl) rfl #[.pointer (some ⟨g, 0, none⟩), .int .i64 1000000] rfl mp_ ?_; (with_reducible refine (spec_l1Below.calls g s0_0 t157 t158 1000000 t168 t169 t170 w0 _ ?side1 ?side2 A16.out).mono ?_); (case side1 => exact is_); (case side2 => exact belI_); rintro e w18 ⟨rfl, hi, hb, hk⟩; refine ⟨_, rfl, ?_⟩; replace HB := Aside0.mk (hb); replace HK := Aside0.mk (KeepBut.trans (kw_ (w := w)) hk (.inl rfl)); replace HI0 := Aside0.mk (hi); (try clear hb); (try clear hb2); (try clear hk); (try clear hi)))
    go_ret
    exact ⟨rf_, is_, belI_, kw_ (w := w)⟩
   ·rw [if_neg c15] at H
    have c15b0 : (t156 == 2) = false := beq_eq_false_iff_ne.mpr c15
    have c15b1 : (t156 != 2) = true := bne_iff_ne.mpr c15
    replace H := Option.bind_eq_some_iff.mp H
    obtain ⟨⟨t171, t172, t173⟩, A190, H⟩ := H
    replace H : (some (wrap64 (t171 - 20), t172, t173)) = some (r1, r2, r3) := H
    have A19 := Aside0.mk A190
    clear A190
    simp only [Option.some.injEq, Prod.mk.injEq] at H
    obtain ⟨rfl, rfl, rfl⟩ := H
    go_enter Tryd.func43, Tryd.ntmps43
    go_wp2_with (first | ((with_reducible refine gate_callee (f := 52) rfl ?_); refine goesL_ (some 6) rfl rfl Tryd.func52 (by kernel_rfl) rfl #[.pointer (some ⟨g, 0, none⟩), .int .i64 4] rfl mp_ ?_; (with_reducible refine (spec_l1Below.calls g s0_0 s0_1 s0_2 4 t156 t157 t158 w0 _ ?side1 ?side2 A2.out).mono ?_); (case side1 => exact is_); (case side2 => exact belI_); rintro e w20 ⟨rfl, hi, hb, hk⟩; refine ⟨_, rfl, ?_⟩; replace HB := Aside0.mk (hb); replace HK := Aside0.mk (KeepBut.trans (kw_ (w := w)) hk (.inl rfl)); replace HI0 := Aside0.mk (hi); (try clear hb); (try clear hb2); (try clear hk); (try clear hi)) | ((with_reducible refine gate_callee (f := 52) rfl ?_); refine goesL_ (some 30) rfl rfl Tryd.func52 (by kernel_rfl) rfl #[.pointer (some ⟨g, 0, none⟩), .int .i64 41] rfl mp_ ?_; (with_reducible refine (spec_l1Below.calls g s0_0 t157 t158 41 t171 t172 t173 w0 _ ?side1 ?side2 A19.out).mono ?_); (case side1 => exact is_); (case side2 => exact belI_); rintro e w21 ⟨rfl, hi, hb, hk⟩; refine ⟨_, rfl, ?_⟩; replace HB := Aside0.mk (hb); replace HK := Aside0.mk (KeepBut.trans (kw_ (w := w)) hk (.inl rfl)); replace HI0 := Aside0.mk (hi); (try clear hb); (try clear hb2); (try clear hk); (try clear hi)))
    go_ret
    exact ⟨rf_, is_, belI_, kw_ (w := w)⟩
/-! ### spec_l1Once: function 51 -/
def spec_l1Once.f (s0_0 : List Int) (s0_1 : Int) (s0_2 : Int) (a1 : Int) : Option (Bool × Int × Int) := (spec_l1Below.f s0_0 s0_1 s0_2 a1).bind fun bt174 => (some ((bt174.1 == 0), bt174.2.1, bt174.2.2))
set_option maxHeartbeats 8000000 in
set_option maxRecDepth 100000 in
theorem spec_l1Once.calls (g : Nat) (s0_0 : List Int) (s0_1 : Int) (s0_2 : Int) (a1 : Int) (r1 : Bool) (r2 : Int) (r3 : Int) (w0 w : World) (hI : IsS90 w0 w g s0_0 s0_1 s0_2) (hB : Below w0.heap.size w0 w) (h : spec_l1Once.f s0_0 s0_1 s0_2 a1 = some (r1, r2, r3)) :
  Calls Tryd.prog 51 #[.pointer (some ⟨g, 0, none⟩), .int .i64 a1] w fun e w' => e = .returned (.bool r1) ∧ IsS90 w0 w' g s0_0 r2 r3 ∧ Below w0.heap.size w0 w' ∧ KeepBut w w' g none := by
 have HI0 := Aside0.mk hI
 have HK := Aside0.mk (KeepBut.refl w g none)
 have HL := Aside0.mk hB.size
 clear hI
 have HW0 := Aside0.mk hB.size
 have HB := Aside0.mk hB
 clear hB
 have H : ((spec_l1Below.f s0_0 s0_1 s0_2 a1).bind fun bt174 => (some ((bt174.1 == 0), bt174.2.1, bt174.2.2))) = some (r1, r2, r3) := h
 clear h
 replace H := Option.bind_eq_some_iff.mp H
 obtain ⟨⟨t174, t175, t176⟩, A30, H⟩ := H
 replace H : (some ((t174 == 0), t175, t176)) = some (r1, r2, r3) := H
 have A3 := Aside0.mk A30
 clear A30
 simp only [Option.some.injEq, Prod.mk.injEq] at H
 obtain ⟨rfl, rfl, rfl⟩ := H
 go_enter Tryd.func51, Tryd.ntmps51
 go_wp2_with (first | ((with_reducible refine gate_callee (f := 52) rfl ?_); refine goesL_ (some 7) rfl rfl Tryd.func52 (by kernel_rfl) rfl #[.pointer (some ⟨g, 0, none⟩), .int .i64 a1] rfl mp_ ?_; (with_reducible refine (spec_l1Below.calls g s0_0 s0_1 s0_2 a1 t174 t175 t176 w0 _ ?side1 ?side2 A3.out).mono ?_); (case side1 => exact is_); (case side2 => exact belI_); rintro e w4 ⟨rfl, hi, hb, hk⟩; refine ⟨_, rfl, ?_⟩; replace HB := Aside0.mk (hb); replace HK := Aside0.mk (KeepBut.trans (kw_ (w := w)) hk (.inl rfl)); replace HI0 := Aside0.mk (hi); (try clear hb); (try clear hb2); (try clear hk); (try clear hi)))
 go_ret
 exact ⟨rf_, is_, belI_, kw_ (w := w)⟩
/-! ### spec_MulWide: function 94 -/
def spec_MulWide.f (a0 : Int) (a1 : Int) : Option (Bool × Int × Int) := (spec_l3Abs.f a0).bind fun t178 => ((spec_l3Abs.f a1).bind fun t179 => ((spec_l3Product.f t178 t179).bind fun bt180 => (if ((decide (a0 < 0)) != (decide (a1 < 0))) = true then (if a0 = 0 then (some (false, bt180.1, bt180.2)) else (some ((a1 != 0), bt180.1, bt180.2))) else (some (false, bt180.1, bt180.2)))))
set_option maxHeartbeats 8000000 in
set_option maxRecDepth 100000 in
theorem spec_MulWide.calls (a0 : Int) (a1 : Int) (r1 : Bool) (r2 : Int) (r3 : Int) (w : World) (h : spec_MulWide.f a0 a1 = some (r1, r2, r3)) :
  Calls Tryd.prog 94 #[.int .i64 a0, .int .i64 a1] w fun e w' => e = .returned (.agg #[.bool r1, .int .u64 r2, .int .u64 r3]) ∧ Below w.heap.size w w' := by
 have hu28 := Tryd.underlying28
 have HB := Aside0.mk (Below.refl w.heap.size w)
 have H : ((spec_l3Abs.f a0).bind fun t178 => ((spec_l3Abs.f a1).bind fun t179 => ((spec_l3Product.f t178 t179).bind fun bt180 => (if ((decide (a0 < 0)) != (decide (a1 < 0))) = true then (if a0 = 0 then (some (false, bt180.1, bt180.2)) else (some ((a1 != 0), bt180.1, bt180.2))) else (some (false, bt180.1, bt180.2)))))) = some (r1, r2, r3) := h
 clear h
 replace H := Option.bind_eq_some_iff.mp H
 obtain ⟨t178, A30, H⟩ := H
 replace H : ((spec_l3Abs.f a1).bind fun t179 => ((spec_l3Product.f t178 t179).bind fun bt180 => (if ((decide (a0 < 0)) != (decide (a1 < 0))) = true then (if a0 = 0 then (some (false, bt180.1, bt180.2)) else (some ((a1 != 0), bt180.1, bt180.2))) else (some (false, bt180.1, bt180.2))))) = some (r1, r2, r3) := H
 have A3 := Aside0.mk A30
 clear A30
 replace H := Option.bind_eq_some_iff.mp H
 obtain ⟨t179, A40, H⟩ := H
 replace H : ((spec_l3Product.f t178 t179).bind fun bt180 => (if ((decide (a0 < 0)) != (decide (a1 < 0))) = true then (if a0 = 0 then (some (false, bt180.1, bt180.2)) else (some ((a1 != 0), bt180.1, bt180.2))) else (some (false, bt180.1, bt180.2)))) = some (r1, r2, r3) := H
 have A4 := Aside0.mk A40
 clear A40
 replace H := Option.bind_eq_some_iff.mp H
 obtain ⟨⟨t180, t181⟩, A50, H⟩ := H
 replace H : (if ((decide (a0 < 0)) != (decide (a1 < 0))) = true then (if a0 = 0 then (some (false, t180, t181)) else (some ((a1 != 0), t180, t181))) else (some (false, t180, t181))) = some (r1, r2, r3) := H
 have A5 := Aside0.mk A50
 clear A50
 by_cases c6 : ((decide (a0 < 0)) != (decide (a1 < 0))) = true
 ·rw [if_pos c6] at H
  have c6b0 : ((decide (a0 < 0)) != (decide (a1 < 0))) = true := c6
  (try (have c6b1 : decide ((decide (a0 < 0)) = (decide (a1 < 0))) = false := by simpa using c6))
  (try (have c6b2 : ((decide (a0 < 0)) == (decide (a1 < 0))) = false := by simpa using c6))
  (try (have c6b3 : ¬ ((decide (a0 < 0)) = (decide (a1 < 0))) := by simpa using c6))
  clear c6
  by_cases c7 : a0 = 0
  ·rw [if_pos c7] at H
   have c7b0 : (a0 == 0) = true := beq_iff_eq.mpr c7
   have c7b1 : (a0 != 0) = false := bne_eq_false_iff_eq.mpr c7
   clear c7
   simp only [Option.some.injEq, Prod.mk.injEq] at H
   obtain ⟨rfl, rfl, rfl⟩ := H
   go_enter Tryd.func94, Tryd.ntmps94
   go_wp2_with (first | ((with_reducible refine gate_dst (N := 4) rfl ?_); refine box_event ?hg (N := 4) ?hd (cs := #[.bool false, .int .u64 0, .int .u64 0]) (t := 28) ?hr ?_; (case hd => rfl); (case hg => rfl); (case hr => first | (go_simp; done) | (go_simp; rfl)); intro gb177 hg w8 hbox hb; have BK177 := Aside0.mk (hbox); have GW177 := bs_ (w := w) hg; have GE177 := bs_ (w := w) hg; replace HB := Aside0.mk (below_step bel_ hb); clear hb hbox hg) | ((with_reducible refine gate_callee (f := 99) rfl ?_); refine goesL_ (some 9) rfl rfl Tryd.func99 (by kernel_rfl) rfl #[.int .i64 a0] rfl mp_ ?_; (with_reducible refine (spec_l3Abs.calls a0 t178 _ A3.out).mono ?_); rintro e w' ⟨rfl, ⟨nd, rfl⟩⟩; refine ⟨_, rfl, ?_⟩; (try (rw [drewN_self w8]; generalize hq_ : World.drewN w8 _ = w8; have n0_ : Aside0 (w8.heap[gb177]? = some (.cells #[.bool false, .int .u64 0, .int .u64 0] 28 (0, 0))) := ⟨by rw [← hq_]; exact bk_⟩; have n1_ : Aside0 (Below w.heap.size w w8) := ⟨by rw [← hq_]; exact bel_⟩; clear BK177 HB hq_; have BK177 := n0_; have HB := n1_; clear n0_ n1_)); (try (obtain ⟨hcz9_0, hcz9_1, hcz9_2, hfz9_0, hfz9_1, hfz9_2⟩ := cf3_ (w := w8) BK177.out))) | ((with_reducible refine gate_callee (f := 99) rfl ?_); refine goesL_ (some 11) rfl rfl Tryd.func99 (by kernel_rfl) rfl #[.int .i64 a1] rfl mp_ ?_; (with_reducible refine (spec_l3Abs.calls a1 t179 _ A4.out).mono ?_); rintro e w' ⟨rfl, ⟨nd, rfl⟩⟩; refine ⟨_, rfl, ?_⟩; (try (rw [drewN_self w8]; generalize hq_ : World.drewN w8 _ = w8; have n0_ : Aside0 (w8.heap[gb177]? = some (.cells #[.bool false, .int .u64 0, .int .u64 0] 28 (0, 0))) := ⟨by rw [← hq_]; exact bk_⟩; have n1_ : Aside0 (Below w.heap.size w w8) := ⟨by rw [← hq_]; exact bel_⟩; clear BK177 HB hq_; have BK177 := n0_; have HB := n1_; clear n0_ n1_)); (try (obtain ⟨hcz9_0, hcz9_1, hcz9_2, hfz9_0, hfz9_1, hfz9_2⟩ := cf3_ (w := w8) BK177.out))) | ((with_reducible refine gate_callee (f := 100) rfl ?_); refine goesL_ (some 12) rfl rfl Tryd.func100 (by kernel_rfl) rfl #[.int .u64 t178, .int .u64 t179] rfl mp_ ?_; (with_reducible refine (spec_l3Product.calls t178 t179 t180 t181 _ A5.out).mono ?_); rintro e w' ⟨rfl, ⟨nd, rfl⟩⟩; refine ⟨_, rfl, ?_⟩; (try (rw [drewN_self w8]; generalize hq_ : World.drewN w8 _ = w8; have n0_ : Aside0 (w8.heap[gb177]? = some (.cells #[.bool false, .int .u64 0, .int .u64 0] 28 (0, 0))) := ⟨by rw [← hq_]; exact bk_⟩; have n1_ : Aside0 (Below w.heap.size w w8) := ⟨by rw [← hq_]; exact bel_⟩; clear BK177 HB hq_; have BK177 := n0_; have HB := n1_; clear n0_ n1_)); obtain ⟨hcz9_0, hcz9_1, hcz9_2, hfz9_0, hfz9_1, hfz9_2⟩ := cf3_ (w := w8) BK177.out))
   refine bodyPost_ret (results_cell_row rfl _ _ gb177 28 #[.bool false, .int .u64 t180, .int .u64 t181] (0, 0) _ rfl (pu_ #[.bool false, .int .u64 t180, .int .u64 0] 2 (h := (pu_ #[.bool false, .int .u64 0, .int .u64 0] 1 (h := (pu_ #[.bool false, .int .u64 0, .int .u64 0] 0 (h := bk_)))))) Tryd.underlying28 rfl (by kernel_rfl)) rfl ?_
   exact ⟨rf_, bel_⟩
  ·rw [if_neg c7] at H
   have c7b0 : (a0 == 0) = false := beq_eq_false_iff_ne.mpr c7
   have c7b1 : (a0 != 0) = true := bne_iff_ne.mpr c7
   simp only [Option.some.injEq, Prod.mk.injEq] at H
   obtain ⟨rfl, rfl, rfl⟩ := H
   go_enter Tryd.func94, Tryd.ntmps94
   go_wp2_with (first | ((with_reducible refine gate_dst (N := 4) rfl ?_); refine box_event ?hg (N := 4) ?hd (cs := #[.bool false, .int .u64 0, .int .u64 0]) (t := 28) ?hr ?_; (case hd => rfl); (case hg => rfl); (case hr => first | (go_simp; done) | (go_simp; rfl)); intro gb177 hg w10 hbox hb; have BK177 := Aside0.mk (hbox); have GW177 := bs_ (w := w) hg; have GE177 := bs_ (w := w) hg; replace HB := Aside0.mk (below_step bel_ hb); clear hb hbox hg) | ((with_reducible refine gate_callee (f := 99) rfl ?_); refine goesL_ (some 9) rfl rfl Tryd.func99 (by kernel_rfl) rfl #[.int .i64 a0] rfl mp_ ?_; (with_reducible refine (spec_l3Abs.calls a0 t178 _ A3.out).mono ?_); rintro e w' ⟨rfl, ⟨nd, rfl⟩⟩; refine ⟨_, rfl, ?_⟩; (try (rw [drewN_self w10]; generalize hq_ : World.drewN w10 _ = w10; have n0_ : Aside0 (w10.heap[gb177]? = some (.cells #[.bool false, .int .u64 0, .int .u64 0] 28 (0, 0))) := ⟨by rw [← hq_]; exact bk_⟩; have n1_ : Aside0 (Below w.heap.size w w10) := ⟨by rw [← hq_]; exact bel_⟩; clear BK177 HB hq_; have BK177 := n0_; have HB := n1_; clear n0_ n1_)); (try (obtain ⟨hcz11_0, hcz11_1, hcz11_2, hfz11_0, hfz11_1, hfz11_2⟩ := cf3_ (w := w10) BK177.out))) | ((with_reducible refine gate_callee (f := 99) rfl ?_); refine goesL_ (some 11) rfl rfl Tryd.func99 (by kernel_rfl) rfl #[.int .i64 a1] rfl mp_ ?_; (with_reducible refine (spec_l3Abs.calls a1 t179 _ A4.out).mono ?_); rintro e w' ⟨rfl, ⟨nd, rfl⟩⟩; refine ⟨_, rfl, ?_⟩; (try (rw [drewN_self w10]; generalize hq_ : World.drewN w10 _ = w10; have n0_ : Aside0 (w10.heap[gb177]? = some (.cells #[.bool false, .int .u64 0, .int .u64 0] 28 (0, 0))) := ⟨by rw [← hq_]; exact bk_⟩; have n1_ : Aside0 (Below w.heap.size w w10) := ⟨by rw [← hq_]; exact bel_⟩; clear BK177 HB hq_; have BK177 := n0_; have HB := n1_; clear n0_ n1_)); (try (obtain ⟨hcz11_0, hcz11_1, hcz11_2, hfz11_0, hfz11_1, hfz11_2⟩ := cf3_ (w := w10) BK177.out))) | ((with_reducible refine gate_callee (f := 100) rfl ?_); refine goesL_ (some 12) rfl rfl Tryd.func100 (by kernel_rfl) rfl #[.int .u64 t178, .int .u64 t179] rfl mp_ ?_; (with_reducible refine (spec_l3Product.calls t178 t179 t180 t181 _ A5.out).mono ?_); rintro e w' ⟨rfl, ⟨nd, rfl⟩⟩; refine ⟨_, rfl, ?_⟩; (try (rw [drewN_self w10]; generalize hq_ : World.drewN w10 _ = w10; have n0_ : Aside0 (w10.heap[gb177]? = some (.cells #[.bool false, .int .u64 0, .int .u64 0] 28 (0, 0))) := ⟨by rw [← hq_]; exact bk_⟩; have n1_ : Aside0 (Below w.heap.size w w10) := ⟨by rw [← hq_]; exact bel_⟩; clear BK177 HB hq_; have BK177 := n0_; have HB := n1_; clear n0_ n1_)); obtain ⟨hcz11_0, hcz11_1, hcz11_2, hfz11_0, hfz11_1, hfz11_2⟩ := cf3_ (w := w10) BK177.out))
   refine bodyPost_ret (results_cell_row rfl _ _ gb177 28 #[.bool (a1 != 0), .int .u64 t180, .int .u64 t181] (0, 0) _ rfl (pu_ #[.bool (a1 != 0), .int .u64 t180, .int .u64 0] 2 (h := (pu_ #[.bool (a1 != 0), .int .u64 0, .int .u64 0] 1 (h := (pu_ #[.bool false, .int .u64 0, .int .u64 0] 0 (h := bk_)))))) Tryd.underlying28 rfl (by kernel_rfl)) rfl ?_
   exact ⟨rf_, bel_⟩
 ·rw [if_neg c6] at H
  have c6b0 : ((decide (a0 < 0)) != (decide (a1 < 0))) = false := by simpa using c6
  (try (have c6b1 : decide ((decide (a0 < 0)) = (decide (a1 < 0))) = true := by simpa using c6))
  (try (have c6b2 : ((decide (a0 < 0)) == (decide (a1 < 0))) = true := by simpa using c6))
  clear c6
  simp only [Option.some.injEq, Prod.mk.injEq] at H
  obtain ⟨rfl, rfl, rfl⟩ := H
  go_enter Tryd.func94, Tryd.ntmps94
  go_wp2_with (first | ((with_reducible refine gate_dst (N := 4) rfl ?_); refine box_event ?hg (N := 4) ?hd (cs := #[.bool false, .int .u64 0, .int .u64 0]) (t := 28) ?hr ?_; (case hd => rfl); (case hg => rfl); (case hr => first | (go_simp; done) | (go_simp; rfl)); intro gb177 hg w12 hbox hb; have BK177 := Aside0.mk (hbox); have GW177 := bs_ (w := w) hg; have GE177 := bs_ (w := w) hg; replace HB := Aside0.mk (below_step bel_ hb); clear hb hbox hg) | ((with_reducible refine gate_callee (f := 99) rfl ?_); refine goesL_ (some 9) rfl rfl Tryd.func99 (by kernel_rfl) rfl #[.int .i64 a0] rfl mp_ ?_; (with_reducible refine (spec_l3Abs.calls a0 t178 _ A3.out).mono ?_); rintro e w' ⟨rfl, ⟨nd, rfl⟩⟩; refine ⟨_, rfl, ?_⟩; (try (rw [drewN_self w12]; generalize hq_ : World.drewN w12 _ = w12; have n0_ : Aside0 (w12.heap[gb177]? = some (.cells #[.bool false, .int .u64 0, .int .u64 0] 28 (0, 0))) := ⟨by rw [← hq_]; exact bk_⟩; have n1_ : Aside0 (Below w.heap.size w w12) := ⟨by rw [← hq_]; exact bel_⟩; clear BK177 HB hq_; have BK177 := n0_; have HB := n1_; clear n0_ n1_)); (try (obtain ⟨hcz13_0, hcz13_1, hcz13_2, hfz13_0, hfz13_1, hfz13_2⟩ := cf3_ (w := w12) BK177.out))) | ((with_reducible refine gate_callee (f := 99) rfl ?_); refine goesL_ (some 11) rfl rfl Tryd.func99 (by kernel_rfl) rfl #[.int .i64 a1] rfl mp_ ?_; (with_reducible refine (spec_l3Abs.calls a1 t179 _ A4.out).mono ?_); rintro e w' ⟨rfl, ⟨nd, rfl⟩⟩; refine ⟨_, rfl, ?_⟩; (try (rw [drewN_self w12]; generalize hq_ : World.drewN w12 _ = w12; have n0_ : Aside0 (w12.heap[gb177]? = some (.cells #[.bool false, .int .u64 0, .int .u64 0] 28 (0, 0))) := ⟨by rw [← hq_]; exact bk_⟩; have n1_ : Aside0 (Below w.heap.size w w12) := ⟨by rw [← hq_]; exact bel_⟩; clear BK177 HB hq_; have BK177 := n0_; have HB := n1_; clear n0_ n1_)); (try (obtain ⟨hcz13_0, hcz13_1, hcz13_2, hfz13_0, hfz13_1, hfz13_2⟩ := cf3_ (w := w12) BK177.out))) | ((with_reducible refine gate_callee (f := 100) rfl ?_); refine goesL_ (some 12) rfl rfl Tryd.func100 (by kernel_rfl) rfl #[.int .u64 t178, .int .u64 t179] rfl mp_ ?_; (with_reducible refine (spec_l3Product.calls t178 t179 t180 t181 _ A5.out).mono ?_); rintro e w' ⟨rfl, ⟨nd, rfl⟩⟩; refine ⟨_, rfl, ?_⟩; (try (rw [drewN_self w12]; generalize hq_ : World.drewN w12 _ = w12; have n0_ : Aside0 (w12.heap[gb177]? = some (.cells #[.bool false, .int .u64 0, .int .u64 0] 28 (0, 0))) := ⟨by rw [← hq_]; exact bk_⟩; have n1_ : Aside0 (Below w.heap.size w w12) := ⟨by rw [← hq_]; exact bel_⟩; clear BK177 HB hq_; have BK177 := n0_; have HB := n1_; clear n0_ n1_)); obtain ⟨hcz13_0, hcz13_1, hcz13_2, hfz13_0, hfz13_1, hfz13_2⟩ := cf3_ (w := w12) BK177.out))
  refine bodyPost_ret (results_cell_row rfl _ _ gb177 28 #[.bool false, .int .u64 t180, .int .u64 t181] (0, 0) _ rfl (pu_ #[.bool false, .int .u64 t180, .int .u64 0] 2 (h := (pu_ #[.bool false, .int .u64 0, .int .u64 0] 1 (h := (pu_ #[.bool false, .int .u64 0, .int .u64 0] 0 (h := bk_)))))) Tryd.underlying28 rfl (by kernel_rfl)) rfl ?_
  exact ⟨rf_, bel_⟩
/-! ### spec_l3Wide: function 53 -/
def spec_l3Wide.f (k : Nat) (s0_0 : List Int) (s0_1 : Int) (s0_2 : Int) : Option (Bool × Int × Int × Int × Int) := (spec_l1Below.f s0_0 s0_1 s0_2 5).bind fun bt183 => (if bt183.1 = 0 then ((spec_l1Whole.f k s0_0 bt183.2.1 bt183.2.2).bind fun bt186 => ((spec_WideOf.f bt186.1).bind fun bt189 => (some (bt189.1, bt189.2.1, bt189.2.2, bt186.2.1, bt186.2.2)))) else (if bt183.1 = 1 then ((some (([(⟨false, 0, 0⟩ : S28), (⟨false, 0, 1⟩ : S28), (⟨true, 0, 1⟩ : S28), (⟨false, 1, 0⟩ : S28), (⟨false, 9223372036854775807, 18446744073709551615⟩ : S28), (⟨true, 9223372036854775807, 18446744073709551615⟩ : S28), (⟨false, 0, 18446744073709551615⟩ : S28)] : List (S28)) : List (S28))).bind fun y192 => ((spec_l1Below.f s0_0 bt183.2.1 bt183.2.2 7).bind fun bt195 => (if 0 ≤ bt195.1 then (if bt195.1 < (y192.length : Int) then (some ((rd_T28 y192 bt195.1).f0, (rd_T28 y192 bt195.1).f1, (rd_T28 y192 bt195.1).f2, bt195.2.1, bt195.2.2)) else (none)) else (none)))) else ((spec_l1Whole.f k s0_0 bt183.2.1 bt183.2.2).bind fun bt199 => ((spec_l1Whole.f k s0_0 bt199.2.1 bt199.2.2).bind fun bt202 => ((spec_MulWide.f bt199.1 bt202.1).bind fun bt205 => ((spec_l1Once.f s0_0 bt202.2.1 bt202.2.2 10).bind fun bt209 => (if bt209.1 = true then ((spec_l1Once.f s0_0 bt209.2.1 bt209.2.2 10).bind fun bt212 => (if bt212.1 = true then (some (!bt205.1, IntKind.u64.wrap (bt205.2.1 + 9223372036854775808), bt205.2.2, bt212.2.1, bt212.2.2)) else (some (bt205.1, IntKind.u64.wrap (bt205.2.1 + 9223372036854775808), bt205.2.2, bt212.2.1, bt212.2.2)))) else ((spec_l1Once.f s0_0 bt209.2.1 bt209.2.2 10).bind fun bt215 => (if bt215.1 = true then (some (!bt205.1, bt205.2.1, bt205.2.2, bt215.2.1, bt215.2.2)) else (some (bt205.1, bt205.2.1, bt205.2.2, bt215.2.1, bt215.2.2)))))))))))
theorem spec_l3Wide.mono : ∀ a0 a1 a2 k, LeO (spec_l3Wide.f k a0 a1 a2) (spec_l3Wide.f (k + 1) a0 a1 a2) := by
 intro a0 a1 a2 k
 unfold spec_l3Wide.f
 repeat' first
   | (with_reducible exact spec_l1Whole.mono _ _ _ _)
   | (with_reducible exact LeO.refl _)
   | (with_reducible exact LeO.none _)
   | (with_reducible refine LeO.ite ?_ ?_)
   | (with_reducible refine LeO.bind ?_ (fun _ => ?_))
   | exact spec_l1Whole.mono _ _ _ _
   | exact LeO.none _
   | refine LeO.ite ?_ ?_
   | refine LeO.bind ?_ (fun _ => ?_)
set_option maxHeartbeats 8000000 in
set_option maxRecDepth 100000 in
theorem spec_l3Wide.calls (k : Nat) (g : Nat) (s0_0 : List Int) (s0_1 : Int) (s0_2 : Int) (r1 : Bool) (r2 : Int) (r3 : Int) (r4 : Int) (r5 : Int) (w0 w : World) (hI : IsS90 w0 w g s0_0 s0_1 s0_2) (hB : Below w0.heap.size w0 w) (h : spec_l3Wide.f k s0_0 s0_1 s0_2 = some (r1, r2, r3, r4, r5)) :
  Calls Tryd.prog 53 #[.pointer (some ⟨g, 0, none⟩)] w fun e w' => e = .returned (.agg #[.bool r1, .int .u64 r2, .int .u64 r3]) ∧ IsS90 w0 w' g s0_0 r4 r5 ∧ Below w0.heap.size w0 w' ∧ KeepBut w w' g none := by
 have hu28 := Tryd.underlying28
 have HI0 := Aside0.mk hI
 have HK := Aside0.mk (KeepBut.refl w g none)
 have HL := Aside0.mk hB.size
 clear hI
 have HW0 := Aside0.mk hB.size
 have HB := Aside0.mk hB
 clear hB
 have H : ((spec_l1Below.f s0_0 s0_1 s0_2 5).bind fun bt183 => (if bt183.1 = 0 then ((spec_l1Whole.f k s0_0 bt183.2.1 bt183.2.2).bind fun bt186 => ((spec_WideOf.f bt186.1).bind fun bt189 => (some (bt189.1, bt189.2.1, bt189.2.2, bt186.2.1, bt186.2.2)))) else (if bt183.1 = 1 then ((some (([(⟨false, 0, 0⟩ : S28), (⟨false, 0, 1⟩ : S28), (⟨true, 0, 1⟩ : S28), (⟨false, 1, 0⟩ : S28), (⟨false, 9223372036854775807, 18446744073709551615⟩ : S28), (⟨true, 9223372036854775807, 18446744073709551615⟩ : S28), (⟨false, 0, 18446744073709551615⟩ : S28)] : List (S28)) : List (S28))).bind fun y192 => ((spec_l1Below.f s0_0 bt183.2.1 bt183.2.2 7).bind fun bt195 => (if 0 ≤ bt195.1 then (if bt195.1 < (y192.length : Int) then (some ((rd_T28 y192 bt195.1).f0, (rd_T28 y192 bt195.1).f1, (rd_T28 y192 bt195.1).f2, bt195.2.1, bt195.2.2)) else (none)) else (none)))) else ((spec_l1Whole.f k s0_0 bt183.2.1 bt183.2.2).bind fun bt199 => ((spec_l1Whole.f k s0_0 bt199.2.1 bt199.2.2).bind fun bt202 => ((spec_MulWide.f bt199.1 bt202.1).bind fun bt205 => ((spec_l1Once.f s0_0 bt202.2.1 bt202.2.2 10).bind fun bt209 => (if bt209.1 = true then ((spec_l1Once.f s0_0 bt209.2.1 bt209.2.2 10).bind fun bt212 => (if bt212.1 = true then (some (!bt205.1, IntKind.u64.wrap (bt205.2.1 + 9223372036854775808), bt205.2.2, bt212.2.1, bt212.2.2)) else (some (bt205.1, IntKind.u64.wrap (bt205.2.1 + 9223372036854775808), bt205.2.2, bt212.2.1, bt212.2.2)))) else ((spec_l1Once.f s0_0 bt209.2.1 bt209.2.2 10).bind fun bt215 => (if bt215.1 = true then (some (!bt205.1, bt205.2.1, bt205.2.2, bt215.2.1, bt215.2.2)) else (some (bt205.1, bt205.2.1, bt205.2.2, bt215.2.1, bt215.2.2)))))))))))) = some (r1, r2, r3, r4, r5) := h
 clear h
 replace H := Option.bind_eq_some_iff.mp H
 obtain ⟨⟨t183, t184, t185⟩, A20, H⟩ := H
 replace H : (if t183 = 0 then ((spec_l1Whole.f k s0_0 t184 t185).bind fun bt186 => ((spec_WideOf.f bt186.1).bind fun bt189 => (some (bt189.1, bt189.2.1, bt189.2.2, bt186.2.1, bt186.2.2)))) else (if t183 = 1 then ((some (([(⟨false, 0, 0⟩ : S28), (⟨false, 0, 1⟩ : S28), (⟨true, 0, 1⟩ : S28), (⟨false, 1, 0⟩ : S28), (⟨false, 9223372036854775807, 18446744073709551615⟩ : S28), (⟨true, 9223372036854775807, 18446744073709551615⟩ : S28), (⟨false, 0, 18446744073709551615⟩ : S28)] : List (S28)) : List (S28))).bind fun y192 => ((spec_l1Below.f s0_0 t184 t185 7).bind fun bt195 => (if 0 ≤ bt195.1 then (if bt195.1 < (y192.length : Int) then (some ((rd_T28 y192 bt195.1).f0, (rd_T28 y192 bt195.1).f1, (rd_T28 y192 bt195.1).f2, bt195.2.1, bt195.2.2)) else (none)) else (none)))) else ((spec_l1Whole.f k s0_0 t184 t185).bind fun bt199 => ((spec_l1Whole.f k s0_0 bt199.2.1 bt199.2.2).bind fun bt202 => ((spec_MulWide.f bt199.1 bt202.1).bind fun bt205 => ((spec_l1Once.f s0_0 bt202.2.1 bt202.2.2 10).bind fun bt209 => (if bt209.1 = true then ((spec_l1Once.f s0_0 bt209.2.1 bt209.2.2 10).bind fun bt212 => (if bt212.1 = true then (some (!bt205.1, IntKind.u64.wrap (bt205.2.1 + 9223372036854775808), bt205.2.2, bt212.2.1, bt212.2.2)) else (some (bt205.1, IntKind.u64.wrap (bt205.2.1 + 9223372036854775808), bt205.2.2, bt212.2.1, bt212.2.2)))) else ((spec_l1Once.f s0_0 bt209.2.1 bt209.2.2 10).bind fun bt215 => (if bt215.1 = true then (some (!bt205.1, bt205.2.1, bt205.2.2, bt215.2.1, bt215.2.2)) else (some (bt205.1, bt205.2.1, bt205.2.2, bt215.2.1, bt215.2.2))))))))))) = some (r1, r2, r3, r4, r5) := H
 have A2 := Aside0.mk A20
 clear A20
 by_cases c3 : t183 = 0
 ·rw [if_pos c3] at H
  have c3b0 : (t183 == 0) = true := beq_iff_eq.mpr c3
  have c3b1 : (t183 != 0) = false := bne_eq_false_iff_eq.mpr c3
  clear c3
  replace H := Option.bind_eq_some_iff.mp H
  obtain ⟨⟨t186, t187, t188⟩, A40, H⟩ := H
  replace H : ((spec_WideOf.f t186).bind fun bt189 => (some (bt189.1, bt189.2.1, bt189.2.2, t187, t188))) = some (r1, r2, r3, r4, r5) := H
  have A4 := Aside0.mk A40
  clear A40
  replace H := Option.bind_eq_some_iff.mp H
  obtain ⟨⟨t189, t190, t191⟩, A50, H⟩ := H
  replace H : (some (t189, t190, t191, t187, t188)) = some (r1, r2, r3, r4, r5) := H
  have A5 := Aside0.mk A50
  clear A50
  simp only [Option.some.injEq, Prod.mk.injEq] at H
  obtain ⟨rfl, rfl, rfl, rfl, rfl⟩ := H
  go_enter Tryd.func53, Tryd.ntmps53
  go_wp2_with (first | ((with_reducible refine gate_dst (N := 2) rfl ?_); refine box_event ?hg (N := 2) ?hd (cs := #[.bool false, .int .u64 0, .int .u64 0]) (t := 28) ?hr ?_; (case hd => rfl); (case hg => rfl); (case hr => first | (go_simp; done) | (go_simp; rfl)); intro gb182 hg w6 hbox hb; have BK182 := Aside0.mk (hbox); have GW182 := Aside0.mk ((by rw [hg]; exact (keep_size (w := w) (g := g) (row := none) (kw_ (w := w))) : w.heap.size ≤ gb182)); have GE182 := Aside0.mk ((Nat.le_trans HW0.out (by rw [hg]; exact (keep_size (w := w) (g := g) (row := none) (kw_ (w := w))) : w.heap.size ≤ gb182) : w0.heap.size ≤ gb182)); have NB0_182 := Aside0.mk ((by rw [hg]; exact Nat.ne_of_lt (IsS90.lt (show IsS90 w0 _ g s0_0 s0_1 s0_2 from is_)) : g ≠ gb182)); have NB182_0 := Aside0.mk ((by rw [hg]; exact Nat.ne_of_gt (IsS90.lt (show IsS90 w0 _ g s0_0 s0_1 s0_2 from is_)) : gb182 ≠ g)); replace HB := Aside0.mk (below_step (belI_) hb); replace HI0 := Aside0.mk (IsS90.below (is_) hb); replace HK := Aside0.mk (KeepBut.trans (kw_ (w := w)) (KeepBut.of_below hb g none) (.inl rfl)); clear hb hbox hg) | ((with_reducible refine gate_callee (f := 52) rfl ?_); refine goesL_ (some 5) rfl rfl Tryd.func52 (by kernel_rfl) rfl #[.pointer (some ⟨g, 0, none⟩), .int .i64 5] rfl mp_ ?_; (with_reducible refine (spec_l1Below.calls g s0_0 s0_1 s0_2 5 t183 t184 t185 w0 _ ?side1 ?side2 A2.out).mono ?_); (case side1 => exact is_); (case side2 => exact belI_); rintro e w7 ⟨rfl, hi, hb, hk⟩; refine ⟨_, rfl, ?_⟩; replace HB := Aside0.mk (hb); replace BK182 := Aside0.mk (KeepBut.blk hk (g' := gb182) (o := .cells #[.bool false, .int .u64 0, .int .u64 0] 28 (0, 0)) bk_ NB182_0.out (by simp)); replace HK := Aside0.mk (KeepBut.trans (kw_ (w := w)) hk (.inl rfl)); replace HI0 := Aside0.mk (hi); (try clear hb); (try clear hb2); (try clear hk); (try clear hi)) | ((with_reducible refine gate_callee (f := 43) rfl ?_); refine goesL_ (some 9) rfl rfl Tryd.func43 (by kernel_rfl) rfl #[.pointer (some ⟨g, 0, none⟩)] rfl mp_ ?_; (with_reducible refine (spec_l1Whole.calls k g s0_0 t184 t185 t186 t187 t188 w0 _ ?side1 ?side2 A4.out).mono ?_); (case side1 => exact is_); (case side2 => exact belI_); rintro e w8 ⟨rfl, hi, hb, hk⟩; refine ⟨_, rfl, ?_⟩; replace HB := Aside0.mk (hb); replace BK182 := Aside0.mk (KeepBut.blk hk (g' := gb182) (o := .cells #[.bool false, .int .u64 0, .int .u64 0] 28 (0, 0)) bk_ NB182_0.out (by simp)); replace HK := Aside0.mk (KeepBut.trans (kw_ (w := w)) hk (.inl rfl)); replace HI0 := Aside0.mk (hi); (try clear hb); (try clear hb2); (try clear hk); (try clear hi)) | ((with_reducible refine gate_callee (f := 60) rfl ?_); refine goesL_ (some 10) rfl rfl Tryd.func60 (by kernel_rfl) rfl #[.int .i64 t186] rfl mp_ ?_; (with_reducible refine (spec_WideOf.calls t186 t189 t190 t191 _ A5.out).mono ?_); rintro e w9 ⟨rfl, hb⟩; refine ⟨_, rfl, ?_⟩; replace HB := Aside0.mk (below_step (belI_) hb); replace HI0 := Aside0.mk (IsS90.below (is_) hb); replace BK182 := bb_ (g := gb182) hb; replace HK := Aside0.mk (KeepBut.trans (kw_ (w := w)) (KeepBut.of_below hb g none) (.inl rfl)); (try clear hb); (try clear hb2); (try clear hk); (try clear hi); have hnb10 := NB182_0.out; have hnc10 := NB0_182.out; obtain ⟨hcz11_0, hcz11_1, hcz11_2, hfz11_0, hfz11_1, hfz11_2⟩ := cf3_ (w := w9) BK182.out))
  refine bodyPost_ret (results_cell_row rfl _ _ gb182 28 #[.bool t189, .int .u64 t190, .int .u64 t191] (0, 0) _ rfl (pu_ #[.bool t189, .int .u64 t190, .int .u64 0] 2 (h := (pu_ #[.bool t189, .int .u64 0, .int .u64 0] 1 (h := (pu_ #[.bool false, .int .u64 0, .int .u64 0] 0 (h := bk_)))))) Tryd.underlying28 rfl (by kernel_rfl)) rfl ?_
  exact ⟨rf_, is_, belI_, kw_ (w := w)⟩
 ·rw [if_neg c3] at H
  have c3b0 : (t183 == 0) = false := beq_eq_false_iff_ne.mpr c3
  have c3b1 : (t183 != 0) = true := bne_iff_ne.mpr c3
  by_cases c12 : t183 = 1
  ·rw [if_pos c12] at H
   have c12b0 : (t183 == 1) = true := beq_iff_eq.mpr c12
   have c12b1 : (t183 != 1) = false := bne_eq_false_iff_eq.mpr c12
   clear c12
   obtain ⟨y192, hy192⟩ : ∃ y_ : List (S28), y_ = (([(⟨false, 0, 0⟩ : S28), (⟨false, 0, 1⟩ : S28), (⟨true, 0, 1⟩ : S28), (⟨false, 1, 0⟩ : S28), (⟨false, 9223372036854775807, 18446744073709551615⟩ : S28), (⟨true, 9223372036854775807, 18446744073709551615⟩ : S28), (⟨false, 0, 18446744073709551615⟩ : S28)] : List (S28))) := ⟨_, rfl⟩
   replace H : ((spec_l1Below.f s0_0 t184 t185 7).bind fun bt195 => (if 0 ≤ bt195.1 then (if bt195.1 < (y192.length : Int) then (some ((rd_T28 y192 bt195.1).f0, (rd_T28 y192 bt195.1).f1, (rd_T28 y192 bt195.1).f2, bt195.2.1, bt195.2.2)) else (none)) else (none))) = some (r1, r2, r3, r4, r5) := by first | (rw [hy192]; with_reducible exact H) | (have H2_ := (Option.bind_some _ _).symm.trans H; rw [hy192]; with_reducible exact H2_) | (have H2_ := (Option.bind_some _ _).symm.trans H; with_reducible exact H2_) | with_reducible exact H | (rw [hy192]; exact H) | exact H
   have Ny192 := Aside0.mk hy192
   clear hy192
   replace H := Option.bind_eq_some_iff.mp H
   obtain ⟨⟨t195, t196, t197⟩, A130, H⟩ := H
   replace H : (if 0 ≤ t195 then (if t195 < (y192.length : Int) then (some ((rd_T28 y192 t195).f0, (rd_T28 y192 t195).f1, (rd_T28 y192 t195).f2, t196, t197)) else (none)) else (none)) = some (r1, r2, r3, r4, r5) := H
   have A13 := Aside0.mk A130
   clear A130
   by_cases c14 : 0 ≤ t195
   ·rw [if_pos c14] at H
    have c14b0 : decide (0 ≤ t195) = true := decide_eq_true c14
    clear c14
    by_cases c15 : t195 < (y192.length : Int)
    ·rw [if_pos c15] at H
     have c15b0 : decide (t195 < (y192.length : Int)) = true := decide_eq_true c15
     clear c15
     simp only [Option.some.injEq, Prod.mk.injEq] at H
     obtain ⟨rfl, rfl, rfl, rfl, rfl⟩ := H
     go_enter Tryd.func53, Tryd.ntmps53
     go_wp2_with (first | ((with_reducible refine gate_dst (N := 2) rfl ?_); refine box_event ?hg (N := 2) ?hd (cs := #[.bool false, .int .u64 0, .int .u64 0]) (t := 28) ?hr ?_; (case hd => rfl); (case hg => rfl); (case hr => first | (go_simp; done) | (go_simp; rfl)); intro gb182 hg w16 hbox hb; have BK182 := Aside0.mk (hbox); have GW182 := Aside0.mk ((by rw [hg]; exact (keep_size (w := w) (g := g) (row := none) (kw_ (w := w))) : w.heap.size ≤ gb182)); have GE182 := Aside0.mk ((Nat.le_trans HW0.out (by rw [hg]; exact (keep_size (w := w) (g := g) (row := none) (kw_ (w := w))) : w.heap.size ≤ gb182) : w0.heap.size ≤ gb182)); have NB0_182 := Aside0.mk ((by rw [hg]; exact Nat.ne_of_lt (IsS90.lt (show IsS90 w0 _ g s0_0 s0_1 s0_2 from is_)) : g ≠ gb182)); have NB182_0 := Aside0.mk ((by rw [hg]; exact Nat.ne_of_gt (IsS90.lt (show IsS90 w0 _ g s0_0 s0_1 s0_2 from is_)) : gb182 ≠ g)); replace HB := Aside0.mk (below_step (belI_) hb); replace HI0 := Aside0.mk (IsS90.below (is_) hb); replace HK := Aside0.mk (KeepBut.trans (kw_ (w := w)) (KeepBut.of_below hb g none) (.inl rfl)); clear hb hbox hg) | ((with_reducible refine gate_callee (f := 52) rfl ?_); refine goesL_ (some 5) rfl rfl Tryd.func52 (by kernel_rfl) rfl #[.pointer (some ⟨g, 0, none⟩), .int .i64 5] rfl mp_ ?_; (with_reducible refine (spec_l1Below.calls g s0_0 s0_1 s0_2 5 t183 t184 t185 w0 _ ?side1 ?side2 A2.out).mono ?_); (case side1 => exact is_); (case side2 => exact belI_); rintro e w17 ⟨rfl, hi, hb, hk⟩; refine ⟨_, rfl, ?_⟩; replace HB := Aside0.mk (hb); replace BK182 := Aside0.mk (KeepBut.blk hk (g' := gb182) (o := .cells #[.bool false, .int .u64 0, .int .u64 0] 28 (0, 0)) bk_ NB182_0.out (by simp)); replace HK := Aside0.mk (KeepBut.trans (kw_ (w := w)) hk (.inl rfl)); replace HI0 := Aside0.mk (hi); (try clear hb); (try clear hb2); (try clear hk); (try clear hi)) | ((with_reducible refine gate_dst (N := 20) rfl ?_); refine Kd.R_lit k28 _ 28 ?hg (N := 20) ?hd (xs := ([(⟨false, 0, 0⟩ : S28), (⟨false, 0, 1⟩ : S28), (⟨true, 0, 1⟩ : S28), (⟨false, 1, 0⟩ : S28), (⟨false, 9223372036854775807, 18446744073709551615⟩ : S28), (⟨true, 9223372036854775807, 18446744073709551615⟩ : S28), (⟨false, 0, 18446744073709551615⟩ : S28)] : List (S28))) (inner := [.bool false, .int .u64 0, .int .u64 0, .bool false, .int .u64 0, .int .u64 1, .bool true, .int .u64 0, .int .u64 1, .bool false, .int .u64 1, .int .u64 0, .bool false, .int .u64 9223372036854775807, .int .u64 18446744073709551615, .bool true, .int .u64 9223372036854775807, .int .u64 18446744073709551615, .bool false, .int .u64 0, .int .u64 18446744073709551615]) (ok := fun _ => True) (okp := fun _ => True) ?hr ?hp (fun _ hk => hk) trivial (Below.refl _ _) (Nat.le_refl _) (by simp) ?_; (case hd => rfl); (case hg => rfl); (case hr => first | (go_simp; done) | (go_simp; rfl)); (case hp => exact (Reps.c3 (show Kd.M k28 _ _ _ (⟨false, 0, 0⟩ : S28) [.bool false, .int .u64 0, .int .u64 0] from (k28_mkM _ _ _ (⟨false, 0, 0⟩ : S28) )) (Reps.c3 (show Kd.M k28 _ _ _ (⟨false, 0, 1⟩ : S28) [.bool false, .int .u64 0, .int .u64 1] from (k28_mkM _ _ _ (⟨false, 0, 1⟩ : S28) )) (Reps.c3 (show Kd.M k28 _ _ _ (⟨true, 0, 1⟩ : S28) [.bool true, .int .u64 0, .int .u64 1] from (k28_mkM _ _ _ (⟨true, 0, 1⟩ : S28) )) (Reps.c3 (show Kd.M k28 _ _ _ (⟨false, 1, 0⟩ : S28) [.bool false, .int .u64 1, .int .u64 0] from (k28_mkM _ _ _ (⟨false, 1, 0⟩ : S28) )) (Reps.c3 (show Kd.M k28 _ _ _ (⟨false, 9223372036854775807, 18446744073709551615⟩ : S28) [.bool false, .int .u64 9223372036854775807, .int .u64 18446744073709551615] from (k28_mkM _ _ _ (⟨false, 9223372036854775807, 18446744073709551615⟩ : S28) )) (Reps.c3 (show Kd.M k28 _ _ _ (⟨true, 9223372036854775807, 18446744073709551615⟩ : S28) [.bool true, .int .u64 9223372036854775807, .int .u64 18446744073709551615] from (k28_mkM _ _ _ (⟨true, 9223372036854775807, 18446744073709551615⟩ : S28) )) (Reps.c3 (show Kd.M k28 _ _ _ (⟨false, 0, 18446744073709551615⟩ : S28) [.bool false, .int .u64 0, .int .u64 18446744073709551615] from (k28_mkM _ _ _ (⟨false, 0, 18446744073709551615⟩ : S28) )) (Reps.none _ _))))))))); intro v193 w18 ho19 hb hg_ hnew_; clear hg_ hnew_; (first | rw [← Ny192.out] at ho19 | (simp only [Int.reduceToNat] at ho19; rw [← Ny192.out] at ho19)); have HO194 := Aside0.mk (Kd.R_lower (Kd.R_newB ho19 (g := gb182) (o := .cells #[.bool false, .int .u64 0, .int .u64 0] 28 (0, 0)) bk_) (keep_size (w := w) (g := g) (row := none) (kw_ (w := w)))); replace HB := Aside0.mk (below_step (belI_) hb); replace HI0 := Aside0.mk (IsS90.below (is_) hb); replace BK182 := bb_ (g := gb182) hb; replace HK := Aside0.mk (KeepBut.trans (kw_ (w := w)) (KeepBut.of_below hb g none) (.inl rfl)); clear hb ho19) | ((with_reducible refine gate_callee (f := 52) rfl ?_); refine goesL_ (some 22) rfl rfl Tryd.func52 (by kernel_rfl) rfl #[.pointer (some ⟨g, 0, none⟩), .int .i64 7] rfl mp_ ?_; (with_reducible refine (spec_l1Below.calls g s0_0 t184 t185 7 t195 t196 t197 w0 _ ?side1 ?side2 A13.out).mono ?_); (case side1 => exact is_); (case side2 => exact belI_); rintro e w20 ⟨rfl, hi, hb, hk⟩; refine ⟨_, rfl, ?_⟩; replace HB := Aside0.mk (hb); replace BK182 := Aside0.mk (KeepBut.blk hk (g' := gb182) (o := .cells #[.bool false, .int .u64 0, .int .u64 0] 28 (0, 0)) bk_ NB182_0.out (by simp)); replace HO194 := Aside0.mk (Kd.R_mono (Kd.R_keep (IsS90.apart (show IsS90 w0 _ g s0_0 t184 t185 from is_) (by (with_reducible repeat (first | apply Kd.R_alloc | apply Kd.R_drewN | apply Kd.R_drew)); exact HO194.out) (by decide)) hk (fun _ h => h.2)) (fun _ h => h.1)); replace HK := Aside0.mk (KeepBut.trans (kw_ (w := w)) hk (.inl rfl)); replace HI0 := Aside0.mk (hi); (try clear hb); (try clear hb2); (try clear hk); (try clear hi); obtain ⟨Ao21, co21, eo21⟩ := Kd.R_slice HO194.out; subst eo21; have p198 : 0 ≤ (t195 : Int) := of_decide_eq_true (by first | (with_reducible assumption) | assumption); have q198 : t195 < (y192.length : Int) := of_decide_eq_true (by first | (with_reducible assumption) | assumption); obtain ⟨ad198, e198, hx198_0, hx198_1, hx198_2⟩ := at_T28 (Kd.R_reads' HO194.out).2.2 t195 p198 q198; cases e198; replace p198 := eq_true p198; replace q198 := eq_true q198; have hnb22 := NB182_0.out; have hnc22 := NB0_182.out; obtain ⟨hcz23_0, hcz23_1, hcz23_2, hfz23_0, hfz23_1, hfz23_2⟩ := cf3_ (w := w20) BK182.out))
     refine bodyPost_ret (results_cell_row rfl _ _ gb182 28 #[.bool ((rd_T28 y192 t195).f0), .int .u64 ((rd_T28 y192 t195).f1), .int .u64 ((rd_T28 y192 t195).f2)] (0, 0) _ rfl (pu_ #[.bool ((rd_T28 y192 t195).f0), .int .u64 ((rd_T28 y192 t195).f1), .int .u64 0] 2 (h := (pu_ #[.bool ((rd_T28 y192 t195).f0), .int .u64 0, .int .u64 0] 1 (h := (pu_ #[.bool false, .int .u64 0, .int .u64 0] 0 (h := bk_)))))) Tryd.underlying28 rfl (by kernel_rfl)) rfl ?_
     exact ⟨rf_, is_, belI_, kw_ (w := w)⟩
    ·rw [if_neg c15] at H
     exact absurd H (by simp)
   ·rw [if_neg c14] at H
    exact absurd H (by simp)
  ·rw [if_neg c12] at H
   have c12b0 : (t183 == 1) = false := beq_eq_false_iff_ne.mpr c12
   have c12b1 : (t183 != 1) = true := bne_iff_ne.mpr c12
   replace H := Option.bind_eq_some_iff.mp H
   obtain ⟨⟨t199, t200, t201⟩, A240, H⟩ := H
   replace H : ((spec_l1Whole.f k s0_0 t200 t201).bind fun bt202 => ((spec_MulWide.f t199 bt202.1).bind fun bt205 => ((spec_l1Once.f s0_0 bt202.2.1 bt202.2.2 10).bind fun bt209 => (if bt209.1 = true then ((spec_l1Once.f s0_0 bt209.2.1 bt209.2.2 10).bind fun bt212 => (if bt212.1 = true then (some (!bt205.1, IntKind.u64.wrap (bt205.2.1 + 9223372036854775808), bt205.2.2, bt212.2.1, bt212.2.2)) else (some (bt205.1, IntKind.u64.wrap (bt205.2.1 + 9223372036854775808), bt205.2.2, bt212.2.1, bt212.2.2)))) else ((spec_l1Once.f s0_0 bt209.2.1 bt209.2.2 10).bind fun bt215 => (if bt215.1 = true then (some (!bt205.1, bt205.2.1, bt205.2.2, bt215.2.1, bt215.2.2)) else (some (bt205.1, bt205.2.1, bt205.2.2, bt215.2.1, bt215.2.2)))))))) = some (r1, r2, r3, r4, r5) := H
   have A24 := Aside0.mk A240
   clear A240
   replace H := Option.bind_eq_some_iff.mp H
   obtain ⟨⟨t202, t203, t204⟩, A250, H⟩ := H
   replace H : ((spec_MulWide.f t199 t202).bind fun bt205 => ((spec_l1Once.f s0_0 t203 t204 10).bind fun bt209 => (if bt209.1 = true then ((spec_l1Once.f s0_0 bt209.2.1 bt209.2.2 10).bind fun bt212 => (if bt212.1 = true then (some (!bt205.1, IntKind.u64.wrap (bt205.2.1 + 9223372036854775808), bt205.2.2, bt212.2.1, bt212.2.2)) else (some (bt205.1, IntKind.u64.wrap (bt205.2.1 + 9223372036854775808), bt205.2.2, bt212.2.1, bt212.2.2)))) else ((spec_l1Once.f s0_0 bt209.2.1 bt209.2.2 10).bind fun bt215 => (if bt215.1 = true then (some (!bt205.1, bt205.2.1, bt205.2.2, bt215.2.1, bt215.2.2)) else (some (bt205.1, bt205.2.1, bt205.2.2, bt215.2.1, bt215.2.2))))))) = some (r1, r2, r3, r4, r5) := H
   have A25 := Aside0.mk A250
   clear A250
   replace H := Option.bind_eq_some_iff.mp H
   obtain ⟨⟨t205, t206, t207⟩, A260, H⟩ := H
   replace H : ((spec_l1Once.f s0_0 t203 t204 10).bind fun bt209 => (if bt209.1 = true then ((spec_l1Once.f s0_0 bt209.2.1 bt209.2.2 10).bind fun bt212 => (if bt212.1 = true then (some (!t205, IntKind.u64.wrap (t206 + 9223372036854775808), t207, bt212.2.1, bt212.2.2)) else (some (t205, IntKind.u64.wrap (t206 + 9223372036854775808), t207, bt212.2.1, bt212.2.2)))) else ((spec_l1Once.f s0_0 bt209.2.1 bt209.2.2 10).bind fun bt215 => (if bt215.1 = true then (some (!t205, t206, t207, bt215.2.1, bt215.2.2)) else (some (t205, t206, t207, bt215.2.1, bt215.2.2)))))) = some (r1, r2, r3, r4, r5) := H
   have A26 := Aside0.mk A260
   clear A260
   replace H := Option.bind_eq_some_iff.mp H
   obtain ⟨⟨t209, t210, t211⟩, A270, H⟩ := H
   replace H : (if t209 = true then ((spec_l1Once.f s0_0 t210 t211 10).bind fun bt212 => (if bt212.1 = true then (some (!t205, IntKind.u64.wrap (t206 + 9223372036854775808), t207, bt212.2.1, bt212.2.2)) else (some (t205, IntKind.u64.wrap (t206 + 9223372036854775808), t207, bt212.2.1, bt212.2.2)))) else ((spec_l1Once.f s0_0 t210 t211 10).bind fun bt215 => (if bt215.1 = true then (some (!t205, t206, t207, bt215.2.1, bt215.2.2)) else (some (t205, t206, t207, bt215.2.1, bt215.2.2))))) = some (r1, r2, r3, r4, r5) := H
   have A27 := Aside0.mk A270
   clear A270
   by_cases c28 : t209 = true
   ·subst c28
    have H1 : ((spec_l1Once.f s0_0 t210 t211 10).bind fun bt212 => (if bt212.1 = true then (some (!t205, IntKind.u64.wrap (t206 + 9223372036854775808), t207, bt212.2.1, bt212.2.2)) else (some (t205, IntKind.u64.wrap (t206 + 9223372036854775808), t207, bt212.2.1, bt212.2.2)))) = some (r1, r2, r3, r4, r5) := by rw [if_pos rfl] at H; exact H
    clear H
    have H := H1
    clear H1
    replace H := Option.bind_eq_some_iff.mp H
    obtain ⟨⟨t212, t213, t214⟩, A290, H⟩ := H
    replace H : (if t212 = true then (some (!t205, IntKind.u64.wrap (t206 + 9223372036854775808), t207, t213, t214)) else (some (t205, IntKind.u64.wrap (t206 + 9223372036854775808), t207, t213, t214))) = some (r1, r2, r3, r4, r5) := H
    have A29 := Aside0.mk A290
    clear A290
    by_cases c30 : t212 = true
    ·subst c30
     have H1 : (some (!t205, IntKind.u64.wrap (t206 + 9223372036854775808), t207, t213, t214)) = some (r1, r2, r3, r4, r5) := by rw [if_pos rfl] at H; exact H
     clear H
     have H := H1
     clear H1
     simp only [Option.some.injEq, Prod.mk.injEq] at H
     obtain ⟨rfl, rfl, rfl, rfl, rfl⟩ := H
     go_enter Tryd.func53, Tryd.ntmps53
     go_wp2_with (first | ((with_reducible refine gate_dst (N := 2) rfl ?_); refine box_event ?hg (N := 2) ?hd (cs := #[.bool false, .int .u64 0, .int .u64 0]) (t := 28) ?hr ?_; (case hd => rfl); (case hg => rfl); (case hr => first | (go_simp; done) | (go_simp; rfl)); intro gb182 hg w31 hbox hb; have BK182 := Aside0.mk (hbox); have GW182 := Aside0.mk ((by rw [hg]; exact (keep_size (w := w) (g := g) (row := none) (kw_ (w := w))) : w.heap.size ≤ gb182)); have GE182 := Aside0.mk ((Nat.le_trans HW0.out (by rw [hg]; exact (keep_size (w := w) (g := g) (row := none) (kw_ (w := w))) : w.heap.size ≤ gb182) : w0.heap.size ≤ gb182)); have NB0_182 := Aside0.mk ((by rw [hg]; exact Nat.ne_of_lt (IsS90.lt (show IsS90 w0 _ g s0_0 s0_1 s0_2 from is_)) : g ≠ gb182)); have NB182_0 := Aside0.mk ((by rw [hg]; exact Nat.ne_of_gt (IsS90.lt (show IsS90 w0 _ g s0_0 s0_1 s0_2 from is_)) : gb182 ≠ g)); replace HB := Aside0.mk (below_step (belI_) hb); replace HI0 := Aside0.mk (IsS90.below (is_) hb); replace HK := Aside0.mk (KeepBut.trans (kw_ (w := w)) (KeepBut.of_below hb g none) (.inl rfl)); clear hb hbox hg) | ((with_reducible refine gate_callee (f := 52) rfl ?_); refine goesL_ (some 5) rfl rfl Tryd.func52 (by kernel_rfl) rfl #[.pointer (some ⟨g, 0, none⟩), .int .i64 5] rfl mp_ ?_; (with_reducible refine (spec_l1Below.calls g s0_0 s0_1 s0_2 5 t183 t184 t185 w0 _ ?side1 ?side2 A2.out).mono ?_); (case side1 => exact is_); (case side2 => exact belI_); rintro e w32 ⟨rfl, hi, hb, hk⟩; refine ⟨_, rfl, ?_⟩; replace HB := Aside0.mk (hb); replace BK182 := Aside0.mk (KeepBut.blk hk (g' := gb182) (o := .cells #[.bool false, .int .u64 0, .int .u64 0] 28 (0, 0)) bk_ NB182_0.out (by simp)); replace HK := Aside0.mk (KeepBut.trans (kw_ (w := w)) hk (.inl rfl)); replace HI0 := Aside0.mk (hi); (try clear hb); (try clear hb2); (try clear hk); (try clear hi)) | ((with_reducible refine gate_callee (f := 43) rfl ?_); refine goesL_ (some 26) rfl rfl Tryd.func43 (by kernel_rfl) rfl #[.pointer (some ⟨g, 0, none⟩)] rfl mp_ ?_; (with_reducible refine (spec_l1Whole.calls k g s0_0 t184 t185 t199 t200 t201 w0 _ ?side1 ?side2 A24.out).mono ?_); (case side1 => exact is_); (case side2 => exact belI_); rintro e w33 ⟨rfl, hi, hb, hk⟩; refine ⟨_, rfl, ?_⟩; replace HB := Aside0.mk (hb); replace BK182 := Aside0.mk (KeepBut.blk hk (g' := gb182) (o := .cells #[.bool false, .int .u64 0, .int .u64 0] 28 (0, 0)) bk_ NB182_0.out (by simp)); replace HK := Aside0.mk (KeepBut.trans (kw_ (w := w)) hk (.inl rfl)); replace HI0 := Aside0.mk (hi); (try clear hb); (try clear hb2); (try clear hk); (try clear hi)) | ((with_reducible refine gate_callee (f := 43) rfl ?_); refine goesL_ (some 28) rfl rfl Tryd.func43 (by kernel_rfl) rfl #[.pointer (some ⟨g, 0, none⟩)] rfl mp_ ?_; (with_reducible refine (spec_l1Whole.calls k g s0_0 t200 t201 t202 t203 t204 w0 _ ?side1 ?side2 A25.out).mono ?_); (case side1 => exact is_); (case side2 => exact belI_); rintro e w34 ⟨rfl, hi, hb, hk⟩; refine ⟨_, rfl, ?_⟩; replace HB := Aside0.mk (hb); replace BK182 := Aside0.mk (KeepBut.blk hk (g' := gb182) (o := .cells #[.bool false, .int .u64 0, .int .u64 0] 28 (0, 0)) bk_ NB182_0.out (by simp)); replace HK := Aside0.mk (KeepBut.trans (kw_ (w := w)) hk (.inl rfl)); replace HI0 := Aside0.mk (hi); (try clear hb); (try clear hb2); (try clear hk); (try clear hi)) | ((with_reducible refine gate_callee (f := 94) rfl ?_); refine goesL_ (some 29) rfl rfl Tryd.func94 (by kernel_rfl) rfl #[.int .i64 t199, .int .i64 t202] rfl mp_ ?_; (with_reducible refine (spec_MulWide.calls t199 t202 t205 t206 t207 _ A26.out).mono ?_); rintro e w35 ⟨rfl, hb⟩; refine ⟨_, rfl, ?_⟩; replace HB := Aside0.mk (below_step (belI_) hb); replace HI0 := Aside0.mk (IsS90.below (is_) hb); replace BK182 := bb_ (g := gb182) hb; replace HK := Aside0.mk (KeepBut.trans (kw_ (w := w)) (KeepBut.of_below hb g none) (.inl rfl)); (try clear hb); (try clear hb2); (try clear hk); (try clear hi)) | ((with_reducible refine gate_dst (N := 3) rfl ?_); refine box_event ?hg (N := 3) ?hd (cs := #[.bool false, .int .u64 0, .int .u64 0]) (t := 28) ?hr ?_; (case hd => rfl); (case hg => rfl); (case hr => first | (go_simp; done) | (go_simp; rfl)); intro gb208 hg w36 hbox hb; have BK208 := Aside0.mk (hbox); have GW208 := Aside0.mk ((by rw [hg]; exact (keep_size (w := w) (g := g) (row := none) (kw_ (w := w))) : w.heap.size ≤ gb208)); have GE208 := Aside0.mk ((Nat.le_trans HW0.out (by rw [hg]; exact (keep_size (w := w) (g := g) (row := none) (kw_ (w := w))) : w.heap.size ≤ gb208) : w0.heap.size ≤ gb208)); have NB182_208 := nlt_ (g := gb182) hg; have NB208_182 := ngt_ (g := gb182) hg; have NB0_208 := Aside0.mk ((by rw [hg]; exact Nat.ne_of_lt (IsS90.lt (show IsS90 w0 _ g s0_0 t203 t204 from is_)) : g ≠ gb208)); have NB208_0 := Aside0.mk ((by rw [hg]; exact Nat.ne_of_gt (IsS90.lt (show IsS90 w0 _ g s0_0 t203 t204 from is_)) : gb208 ≠ g)); replace HB := Aside0.mk (below_step (belI_) hb); replace HI0 := Aside0.mk (IsS90.below (is_) hb); replace BK182 := bb_ (g := gb182) hb; replace HK := Aside0.mk (KeepBut.trans (kw_ (w := w)) (KeepBut.of_below hb g none) (.inl rfl)); clear hb hbox hg; have hnb37 := NB208_182.out; have hnc37 := NB182_208.out; have hnb38 := NB208_0.out; have hnc38 := NB0_208.out; obtain ⟨hcz39_0, hcz39_1, hcz39_2, hfz39_0, hfz39_1, hfz39_2⟩ := cf3_ (w := w36) BK208.out) | ((with_reducible refine gate_callee (f := 51) rfl ?_); refine goesL_ (some 31) rfl rfl Tryd.func51 (by kernel_rfl) rfl #[.pointer (some ⟨g, 0, none⟩), .int .i64 10] rfl mp_ ?_; (with_reducible refine (spec_l1Once.calls g s0_0 t203 t204 10 true t210 t211 w0 _ ?side1 ?side2 A27.out).mono ?_); (case side1 => exact is_); (case side2 => exact belI_); rintro e w40 ⟨rfl, hi, hb, hk⟩; refine ⟨_, rfl, ?_⟩; replace HB := Aside0.mk (hb); replace BK182 := Aside0.mk (KeepBut.blk hk (g' := gb182) (o := .cells #[.bool false, .int .u64 0, .int .u64 0] 28 (0, 0)) bk_ NB182_0.out (by simp)); replace BK208 := Aside0.mk (KeepBut.blk hk (g' := gb208) (o := .cells #[.bool t205, .int .u64 t206, .int .u64 t207] 28 (0, 0)) (pu_ #[.bool t205, .int .u64 t206, .int .u64 0] 2 (h := (pu_ #[.bool t205, .int .u64 0, .int .u64 0] 1 (h := (pu_ #[.bool false, .int .u64 0, .int .u64 0] 0 (h := bk_)))))) NB208_0.out (by simp)); replace HK := Aside0.mk (KeepBut.trans (kw_ (w := w)) hk (.inl rfl)); replace HI0 := Aside0.mk (hi); (try clear hb); (try clear hb2); (try clear hk); (try clear hi); obtain ⟨hcz41_0, hcz41_1, hcz41_2, hfz41_0, hfz41_1, hfz41_2⟩ := cf3_ (w := w40) BK208.out) | ((with_reducible refine gate_callee (f := 51) rfl ?_); refine goesL_ (some 37) rfl rfl Tryd.func51 (by kernel_rfl) rfl #[.pointer (some ⟨g, 0, none⟩), .int .i64 10] rfl mp_ ?_; (with_reducible refine (spec_l1Once.calls g s0_0 t210 t211 10 true t213 t214 w0 _ ?side1 ?side2 A29.out).mono ?_); (case side1 => exact is_); (case side2 => exact belI_); rintro e w42 ⟨rfl, hi, hb, hk⟩; refine ⟨_, rfl, ?_⟩; replace HB := Aside0.mk (hb); replace BK182 := Aside0.mk (KeepBut.blk hk (g' := gb182) (o := .cells #[.bool false, .int .u64 0, .int .u64 0] 28 (0, 0)) bk_ NB182_0.out (by simp)); replace BK208 := Aside0.mk (KeepBut.blk hk (g' := gb208) (o := .cells #[.bool t205, .int .u64 (IntKind.u64.wrap (t206 + 9223372036854775808)), .int .u64 t207] 28 (0, 0)) (pu_ #[.bool t205, .int .u64 t206, .int .u64 t207] 1 (h := bk_)) NB208_0.out (by simp)); replace HK := Aside0.mk (KeepBut.trans (kw_ (w := w)) hk (.inl rfl)); replace HI0 := Aside0.mk (hi); (try clear hb); (try clear hb2); (try clear hk); (try clear hi); obtain ⟨hcz43_0, hcz43_1, hcz43_2, hfz43_0, hfz43_1, hfz43_2⟩ := cf3_ (w := w42) BK208.out; have hnb44 := NB182_0.out; have hnc44 := NB0_182.out; obtain ⟨hcz45_0, hcz45_1, hcz45_2, hfz45_0, hfz45_1, hfz45_2⟩ := cf3_ (w := w42) BK182.out))
     refine bodyPost_ret (results_cell_row rfl _ _ gb182 28 #[.bool (!t205), .int .u64 (IntKind.u64.wrap (t206 + 9223372036854775808)), .int .u64 t207] (0, 0) _ rfl (pu_ #[.bool (!t205), .int .u64 (IntKind.u64.wrap (t206 + 9223372036854775808)), .int .u64 0] 2 (h := (pu_ #[.bool (!t205), .int .u64 0, .int .u64 0] 1 (h := (pu_ #[.bool false, .int .u64 0, .int .u64 0] 0 (h := bk_)))))) Tryd.underlying28 rfl (by kernel_rfl)) rfl ?_
     exact ⟨rf_, is_, belI_, kw_ (w := w)⟩
    ·replace c30 := Bool.eq_false_iff.mpr c30
     subst c30
     have H1 : (some (t205, IntKind.u64.wrap (t206 + 9223372036854775808), t207, t213, t214)) = some (r1, r2, r3, r4, r5) := by rw [if_neg (show ¬ (false = true) by decide)] at H; exact H
     clear H
     have H := H1
     clear H1
     simp only [Option.some.injEq, Prod.mk.injEq] at H
     obtain ⟨rfl, rfl, rfl, rfl, rfl⟩ := H
     go_enter Tryd.func53, Tryd.ntmps53
     go_wp2_with (first | ((with_reducible refine gate_dst (N := 2) rfl ?_); refine box_event ?hg (N := 2) ?hd (cs := #[.bool false, .int .u64 0, .int .u64 0]) (t := 28) ?hr ?_; (case hd => rfl); (case hg => rfl); (case hr => first | (go_simp; done) | (go_simp; rfl)); intro gb182 hg w46 hbox hb; have BK182 := Aside0.mk (hbox); have GW182 := Aside0.mk ((by rw [hg]; exact (keep_size (w := w) (g := g) (row := none) (kw_ (w := w))) : w.heap.size ≤ gb182)); have GE182 := Aside0.mk ((Nat.le_trans HW0.out (by rw [hg]; exact (keep_size (w := w) (g := g) (row := none) (kw_ (w := w))) : w.heap.size ≤ gb182) : w0.heap.size ≤ gb182)); have NB0_182 := Aside0.mk ((by rw [hg]; exact Nat.ne_of_lt (IsS90.lt (show IsS90 w0 _ g s0_0 s0_1 s0_2 from is_)) : g ≠ gb182)); have NB182_0 := Aside0.mk ((by rw [hg]; exact Nat.ne_of_gt (IsS90.lt (show IsS90 w0 _ g s0_0 s0_1 s0_2 from is_)) : gb182 ≠ g)); replace HB := Aside0.mk (below_step (belI_) hb); replace HI0 := Aside0.mk (IsS90.below (is_) hb); replace HK := Aside0.mk (KeepBut.trans (kw_ (w := w)) (KeepBut.of_below hb g none) (.inl rfl)); clear hb hbox hg) | ((with_reducible refine gate_callee (f := 52) rfl ?_); refine goesL_ (some 5) rfl rfl Tryd.func52 (by kernel_rfl) rfl #[.pointer (some ⟨g, 0, none⟩), .int .i64 5] rfl mp_ ?_; (with_reducible refine (spec_l1Below.calls g s0_0 s0_1 s0_2 5 t183 t184 t185 w0 _ ?side1 ?side2 A2.out).mono ?_); (case side1 => exact is_); (case side2 => exact belI_); rintro e w47 ⟨rfl, hi, hb, hk⟩; refine ⟨_, rfl, ?_⟩; replace HB := Aside0.mk (hb); replace BK182 := Aside0.mk (KeepBut.blk hk (g' := gb182) (o := .cells #[.bool false, .int .u64 0, .int .u64 0] 28 (0, 0)) bk_ NB182_0.out (by simp)); replace HK := Aside0.mk (KeepBut.trans (kw_ (w := w)) hk (.inl rfl)); replace HI0 := Aside0.mk (hi); (try clear hb); (try clear hb2); (try clear hk); (try clear hi)) | ((with_reducible refine gate_callee (f := 43) rfl ?_); refine goesL_ (some 26) rfl rfl Tryd.func43 (by kernel_rfl) rfl #[.pointer (some ⟨g, 0, none⟩)] rfl mp_ ?_; (with_reducible refine (spec_l1Whole.calls k g s0_0 t184 t185 t199 t200 t201 w0 _ ?side1 ?side2 A24.out).mono ?_); (case side1 => exact is_); (case side2 => exact belI_); rintro e w48 ⟨rfl, hi, hb, hk⟩; refine ⟨_, rfl, ?_⟩; replace HB := Aside0.mk (hb); replace BK182 := Aside0.mk (KeepBut.blk hk (g' := gb182) (o := .cells #[.bool false, .int .u64 0, .int .u64 0] 28 (0, 0)) bk_ NB182_0.out (by simp)); replace HK := Aside0.mk (KeepBut.trans (kw_ (w := w)) hk (.inl rfl)); replace HI0 := Aside0.mk (hi); (try clear hb); (try clear hb2); (try clear hk); (try clear hi)) | ((with_reducible refine gate_callee (f := 43) rfl ?_); refine goesL_ (some 28) rfl rfl Tryd.func43 (by kernel_rfl) rfl #[.pointer (some ⟨g, 0, none⟩)] rfl mp_ ?_; (with_reducible refine (spec_l1Whole.calls k g s0_0 t200 t201 t202 t203 t204 w0 _ ?side1 ?side2 A25.out).mono ?_); (case side1 => exact is_); (case side2 => exact belI_); rintro e w49 ⟨rfl, hi, hb, hk⟩; refine ⟨_, rfl, ?_⟩; replace HB := Aside0.mk (hb); replace BK182 := Aside0.mk (KeepBut.blk hk (g' := gb182) (o := .cells #[.bool false, .int .u64 0, .int .u64 0] 28 (0, 0)) bk_ NB182_0.out (by simp)); replace HK := Aside0.mk (KeepBut.trans (kw_ (w := w)) hk (.inl rfl)); replace HI0 := Aside0.mk (hi); (try clear hb); (try clear hb2); (try clear hk); (try clear hi)) | ((with_reducible refine gate_callee (f := 94) rfl ?_); refine goesL_ (some 29) rfl rfl Tryd.func94 (by kernel_rfl) rfl #[.int .i64 t199, .int .i64 t202] rfl mp_ ?_; (with_reducible refine (spec_MulWide.calls t199 t202 t205 t206 t207 _ A26.out).mono ?_); rintro e w50 ⟨rfl, hb⟩; refine ⟨_, rfl, ?_⟩; replace HB := Aside0.mk (below_step (belI_) hb); replace HI0 := Aside0.mk (IsS90.below (is_) hb); replace BK182 := bb_ (g := gb182) hb; replace HK := Aside0.mk (KeepBut.trans (kw_ (w := w)) (KeepBut.of_below hb g none) (.inl rfl)); (try clear hb); (try clear hb2); (try clear hk); (try clear hi)) | ((with_reducible refine gate_dst (N := 3) rfl ?_); refine box_event ?hg (N := 3) ?hd (cs := #[.bool false, .int .u64 0, .int .u64 0]) (t := 28) ?hr ?_; (case hd => rfl); (case hg => rfl); (case hr => first | (go_simp; done) | (go_simp; rfl)); intro gb208 hg w51 hbox hb; have BK208 := Aside0.mk (hbox); have GW208 := Aside0.mk ((by rw [hg]; exact (keep_size (w := w) (g := g) (row := none) (kw_ (w := w))) : w.heap.size ≤ gb208)); have GE208 := Aside0.mk ((Nat.le_trans HW0.out (by rw [hg]; exact (keep_size (w := w) (g := g) (row := none) (kw_ (w := w))) : w.heap.size ≤ gb208) : w0.heap.size ≤ gb208)); have NB182_208 := nlt_ (g := gb182) hg; have NB208_182 := ngt_ (g := gb182) hg; have NB0_208 := Aside0.mk ((by rw [hg]; exact Nat.ne_of_lt (IsS90.lt (show IsS90 w0 _ g s0_0 t203 t204 from is_)) : g ≠ gb208)); have NB208_0 := Aside0.mk ((by rw [hg]; exact Nat.ne_of_gt (IsS90.lt (show IsS90 w0 _ g s0_0 t203 t204 from is_)) : gb208 ≠ g)); replace HB := Aside0.mk (below_step (belI_) hb); replace HI0 := Aside0.mk (IsS90.below (is_) hb); replace BK182 := bb_ (g := gb182) hb; replace HK := Aside0.mk (KeepBut.trans (kw_ (w := w)) (KeepBut.of_below hb g none) (.inl rfl)); clear hb hbox hg; have hnb52 := NB208_182.out; have hnc52 := NB182_208.out; have hnb53 := NB208_0.out; have hnc53 := NB0_208.out; obtain ⟨hcz54_0, hcz54_1, hcz54_2, hfz54_0, hfz54_1, hfz54_2⟩ := cf3_ (w := w51) BK208.out) | ((with_reducible refine gate_callee (f := 51) rfl ?_); refine goesL_ (some 31) rfl rfl Tryd.func51 (by kernel_rfl) rfl #[.pointer (some ⟨g, 0, none⟩), .int .i64 10] rfl mp_ ?_; (with_reducible refine (spec_l1Once.calls g s0_0 t203 t204 10 true t210 t211 w0 _ ?side1 ?side2 A27.out).mono ?_); (case side1 => exact is_); (case side2 => exact belI_); rintro e w55 ⟨rfl, hi, hb, hk⟩; refine ⟨_, rfl, ?_⟩; replace HB := Aside0.mk (hb); replace BK182 := Aside0.mk (KeepBut.blk hk (g' := gb182) (o := .cells #[.bool false, .int .u64 0, .int .u64 0] 28 (0, 0)) bk_ NB182_0.out (by simp)); replace BK208 := Aside0.mk (KeepBut.blk hk (g' := gb208) (o := .cells #[.bool t205, .int .u64 t206, .int .u64 t207] 28 (0, 0)) (pu_ #[.bool t205, .int .u64 t206, .int .u64 0] 2 (h := (pu_ #[.bool t205, .int .u64 0, .int .u64 0] 1 (h := (pu_ #[.bool false, .int .u64 0, .int .u64 0] 0 (h := bk_)))))) NB208_0.out (by simp)); replace HK := Aside0.mk (KeepBut.trans (kw_ (w := w)) hk (.inl rfl)); replace HI0 := Aside0.mk (hi); (try clear hb); (try clear hb2); (try clear hk); (try clear hi); obtain ⟨hcz56_0, hcz56_1, hcz56_2, hfz56_0, hfz56_1, hfz56_2⟩ := cf3_ (w := w55) BK208.out) | ((with_reducible refine gate_callee (f := 51) rfl ?_); refine goesL_ (some 37) rfl rfl Tryd.func51 (by kernel_rfl) rfl #[.pointer (some ⟨g, 0, none⟩), .int .i64 10] rfl mp_ ?_; (with_reducible refine (spec_l1Once.calls g s0_0 t210 t211 10 false t213 t214 w0 _ ?side1 ?side2 A29.out).mono ?_); (case side1 => exact is_); (case side2 => exact belI_); rintro e w57 ⟨rfl, hi, hb, hk⟩; refine ⟨_, rfl, ?_⟩; replace HB := Aside0.mk (hb); replace BK182 := Aside0.mk (KeepBut.blk hk (g' := gb182) (o := .cells #[.bool false, .int .u64 0, .int .u64 0] 28 (0, 0)) bk_ NB182_0.out (by simp)); replace BK208 := Aside0.mk (KeepBut.blk hk (g' := gb208) (o := .cells #[.bool t205, .int .u64 (IntKind.u64.wrap (t206 + 9223372036854775808)), .int .u64 t207] 28 (0, 0)) (pu_ #[.bool t205, .int .u64 t206, .int .u64 t207] 1 (h := bk_)) NB208_0.out (by simp)); replace HK := Aside0.mk (KeepBut.trans (kw_ (w := w)) hk (.inl rfl)); replace HI0 := Aside0.mk (hi); (try clear hb); (try clear hb2); (try clear hk); (try clear hi); obtain ⟨hcz58_0, hcz58_1, hcz58_2, hfz58_0, hfz58_1, hfz58_2⟩ := cf3_ (w := w57) BK208.out; have hnb59 := NB182_0.out; have hnc59 := NB0_182.out; obtain ⟨hcz60_0, hcz60_1, hcz60_2, hfz60_0, hfz60_1, hfz60_2⟩ := cf3_ (w := w57) BK182.out))
     refine bodyPost_ret (results_cell_row rfl _ _ gb182 28 #[.bool t205, .int .u64 (IntKind.u64.wrap (t206 + 9223372036854775808)), .int .u64 t207] (0, 0) _ rfl (pu_ #[.bool t205, .int .u64 (IntKind.u64.wrap (t206 + 9223372036854775808)), .int .u64 0] 2 (h := (pu_ #[.bool t205, .int .u64 0, .int .u64 0] 1 (h := (pu_ #[.bool false, .int .u64 0, .int .u64 0] 0 (h := bk_)))))) Tryd.underlying28 rfl (by kernel_rfl)) rfl ?_
     exact ⟨rf_, is_, belI_, kw_ (w := w)⟩
   ·replace c28 := Bool.eq_false_iff.mpr c28
    subst c28
    have H1 : ((spec_l1Once.f s0_0 t210 t211 10).bind fun bt215 => (if bt215.1 = true then (some (!t205, t206, t207, bt215.2.1, bt215.2.2)) else (some (t205, t206, t207, bt215.2.1, bt215.2.2)))) = some (r1, r2, r3, r4, r5) := by rw [if_neg (show ¬ (false = true) by decide)] at H; exact H
    clear H
    have H := H1
    clear H1
    replace H := Option.bind_eq_some_iff.mp H
    obtain ⟨⟨t215, t216, t217⟩, A610, H⟩ := H
    replace H : (if t215 = true then (some (!t205, t206, t207, t216, t217)) else (some (t205, t206, t207, t216, t217))) = some (r1, r2, r3, r4, r5) := H
    have A61 := Aside0.mk A610
    clear A610
    by_cases c62 : t215 = true
    ·subst c62
     have H1 : (some (!t205, t206, t207, t216, t217)) = some (r1, r2, r3, r4, r5) := by rw [if_pos rfl] at H; exact H
     clear H
     have H := H1
     clear H1
     simp only [Option.some.injEq, Prod.mk.injEq] at H
     obtain ⟨rfl, rfl, rfl, rfl, rfl⟩ := H
     go_enter Tryd.func53, Tryd.ntmps53
     go_wp2_with (first | ((with_reducible refine gate_dst (N := 2) rfl ?_); refine box_event ?hg (N := 2) ?hd (cs := #[.bool false, .int .u64 0, .int .u64 0]) (t := 28) ?hr ?_; (case hd => rfl); (case hg => rfl); (case hr => first | (go_simp; done) | (go_simp; rfl)); intro gb182 hg w63 hbox hb; have BK182 := Aside0.mk (hbox); have GW182 := Aside0.mk ((by rw [hg]; exact (keep_size (w := w) (g := g) (row := none) (kw_ (w := w))) : w.heap.size ≤ gb182)); have GE182 := Aside0.mk ((Nat.le_trans HW0.out (by rw [hg]; exact (keep_size (w := w) (g := g) (row := none) (kw_ (w := w))) : w.heap.size ≤ gb182) : w0.heap.size ≤ gb182)); have NB0_182 := Aside0.mk ((by rw [hg]; exact Nat.ne_of_lt (IsS90.lt (show IsS90 w0 _ g s0_0 s0_1 s0_2 from is_)) : g ≠ gb182)); have NB182_0 := Aside0.mk ((by rw [hg]; exact Nat.ne_of_gt (IsS90.lt (show IsS90 w0 _ g s0_0 s0_1 s0_2 from is_)) : gb182 ≠ g)); replace HB := Aside0.mk (below_step (belI_) hb); replace HI0 := Aside0.mk (IsS90.below (is_) hb); replace HK := Aside0.mk (KeepBut.trans (kw_ (w := w)) (KeepBut.of_below hb g none) (.inl rfl)); clear hb hbox hg) | ((with_reducible refine gate_callee (f := 52) rfl ?_); refine goesL_ (some 5) rfl rfl Tryd.func52 (by kernel_rfl) rfl #[.pointer (some ⟨g, 0, none⟩), .int .i64 5] rfl mp_ ?_; (with_reducible refine (spec_l1Below.calls g s0_0 s0_1 s0_2 5 t183 t184 t185 w0 _ ?side1 ?side2 A2.out).mono ?_); (case side1 => exact is_); (case side2 => exact belI_); rintro e w64 ⟨rfl, hi, hb, hk⟩; refine ⟨_, rfl, ?_⟩; replace HB := Aside0.mk (hb); replace BK182 := Aside0.mk (KeepBut.blk hk (g' := gb182) (o := .cells #[.bool false, .int .u64 0, .int .u64 0] 28 (0, 0)) bk_ NB182_0.out (by simp)); replace HK := Aside0.mk (KeepBut.trans (kw_ (w := w)) hk (.inl rfl)); replace HI0 := Aside0.mk (hi); (try clear hb); (try clear hb2); (try clear hk); (try clear hi)) | ((with_reducible refine gate_callee (f := 43) rfl ?_); refine goesL_ (some 26) rfl rfl Tryd.func43 (by kernel_rfl) rfl #[.pointer (some ⟨g, 0, none⟩)] rfl mp_ ?_; (with_reducible refine (spec_l1Whole.calls k g s0_0 t184 t185 t199 t200 t201 w0 _ ?side1 ?side2 A24.out).mono ?_); (case side1 => exact is_); (case side2 => exact belI_); rintro e w65 ⟨rfl, hi, hb, hk⟩; refine ⟨_, rfl, ?_⟩; replace HB := Aside0.mk (hb); replace BK182 := Aside0.mk (KeepBut.blk hk (g' := gb182) (o := .cells #[.bool false, .int .u64 0, .int .u64 0] 28 (0, 0)) bk_ NB182_0.out (by simp)); replace HK := Aside0.mk (KeepBut.trans (kw_ (w := w)) hk (.inl rfl)); replace HI0 := Aside0.mk (hi); (try clear hb); (try clear hb2); (try clear hk); (try clear hi)) | ((with_reducible refine gate_callee (f := 43) rfl ?_); refine goesL_ (some 28) rfl rfl Tryd.func43 (by kernel_rfl) rfl #[.pointer (some ⟨g, 0, none⟩)] rfl mp_ ?_; (with_reducible refine (spec_l1Whole.calls k g s0_0 t200 t201 t202 t203 t204 w0 _ ?side1 ?side2 A25.out).mono ?_); (case side1 => exact is_); (case side2 => exact belI_); rintro e w66 ⟨rfl, hi, hb, hk⟩; refine ⟨_, rfl, ?_⟩; replace HB := Aside0.mk (hb); replace BK182 := Aside0.mk (KeepBut.blk hk (g' := gb182) (o := .cells #[.bool false, .int .u64 0, .int .u64 0] 28 (0, 0)) bk_ NB182_0.out (by simp)); replace HK := Aside0.mk (KeepBut.trans (kw_ (w := w)) hk (.inl rfl)); replace HI0 := Aside0.mk (hi); (try clear hb); (try clear hb2); (try clear hk); (try clear hi)) | ((with_reducible refine gate_callee (f := 94) rfl ?_); refine goesL_ (some 29) rfl rfl Tryd.func94 (by kernel_rfl) rfl #[.int .i64 t199, .int .i64 t202] rfl mp_ ?_; (with_reducible refine (spec_MulWide.calls t199 t202 t205 t206 t207 _ A26.out).mono ?_); rintro e w67 ⟨rfl, hb⟩; refine ⟨_, rfl, ?_⟩; replace HB := Aside0.mk (below_step (belI_) hb); replace HI0 := Aside0.mk (IsS90.below (is_) hb); replace BK182 := bb_ (g := gb182) hb; replace HK := Aside0.mk (KeepBut.trans (kw_ (w := w)) (KeepBut.of_below hb g none) (.inl rfl)); (try clear hb); (try clear hb2); (try clear hk); (try clear hi)) | ((with_reducible refine gate_dst (N := 3) rfl ?_); refine box_event ?hg (N := 3) ?hd (cs := #[.bool false, .int .u64 0, .int .u64 0]) (t := 28) ?hr ?_; (case hd => rfl); (case hg => rfl); (case hr => first | (go_simp; done) | (go_simp; rfl)); intro gb208 hg w68 hbox hb; have BK208 := Aside0.mk (hbox); have GW208 := Aside0.mk ((by rw [hg]; exact (keep_size (w := w) (g := g) (row := none) (kw_ (w := w))) : w.heap.size ≤ gb208)); have GE208 := Aside0.mk ((Nat.le_trans HW0.out (by rw [hg]; exact (keep_size (w := w) (g := g) (row := none) (kw_ (w := w))) : w.heap.size ≤ gb208) : w0.heap.size ≤ gb208)); have NB182_208 := nlt_ (g := gb182) hg; have NB208_182 := ngt_ (g := gb182) hg; have NB0_208 := Aside0.mk ((by rw [hg]; exact Nat.ne_of_lt (IsS90.lt (show IsS90 w0 _ g s0_0 t203 t204 from is_)) : g ≠ gb208)); have NB208_0 := Aside0.mk ((by rw [hg]; exact Nat.ne_of_gt (IsS90.lt (show IsS90 w0 _ g s0_0 t203 t204 from is_)) : gb208 ≠ g)); replace HB := Aside0.mk (below_step (belI_) hb); replace HI0 := Aside0.mk (IsS90.below (is_) hb); replace BK182 := bb_ (g := gb182) hb; replace HK := Aside0.mk (KeepBut.trans (kw_ (w := w)) (KeepBut.of_below hb g none) (.inl rfl)); clear hb hbox hg; have hnb69 := NB208_182.out; have hnc69 := NB182_208.out; have hnb70 := NB208_0.out; have hnc70 := NB0_208.out; obtain ⟨hcz71_0, hcz71_1, hcz71_2, hfz71_0, hfz71_1, hfz71_2⟩ := cf3_ (w := w68) BK208.out) | ((with_reducible refine gate_callee (f := 51) rfl ?_); refine goesL_ (some 31) rfl rfl Tryd.func51 (by kernel_rfl) rfl #[.pointer (some ⟨g, 0, none⟩), .int .i64 10] rfl mp_ ?_; (with_reducible refine (spec_l1Once.calls g s0_0 t203 t204 10 false t210 t211 w0 _ ?side1 ?side2 A27.out).mono ?_); (case side1 => exact is_); (case side2 => exact belI_); rintro e w72 ⟨rfl, hi, hb, hk⟩; refine ⟨_, rfl, ?_⟩; replace HB := Aside0.mk (hb); replace BK182 := Aside0.mk (KeepBut.blk hk (g' := gb182) (o := .cells #[.bool false, .int .u64 0, .int .u64 0] 28 (0, 0)) bk_ NB182_0.out (by simp)); replace BK208 := Aside0.mk (KeepBut.blk hk (g' := gb208) (o := .cells #[.bool t205, .int .u64 t206, .int .u64 t207] 28 (0, 0)) (pu_ #[.bool t205, .int .u64 t206, .int .u64 0] 2 (h := (pu_ #[.bool t205, .int .u64 0, .int .u64 0] 1 (h := (pu_ #[.bool false, .int .u64 0, .int .u64 0] 0 (h := bk_)))))) NB208_0.out (by simp)); replace HK := Aside0.mk (KeepBut.trans (kw_ (w := w)) hk (.inl rfl)); replace HI0 := Aside0.mk (hi); (try clear hb); (try clear hb2); (try clear hk); (try clear hi)) | ((with_reducible refine gate_callee (f := 51) rfl ?_); refine goesL_ (some 37) rfl rfl Tryd.func51 (by kernel_rfl) rfl #[.pointer (some ⟨g, 0, none⟩), .int .i64 10] rfl mp_ ?_; (with_reducible refine (spec_l1Once.calls g s0_0 t210 t211 10 true t216 t217 w0 _ ?side1 ?side2 A61.out).mono ?_); (case side1 => exact is_); (case side2 => exact belI_); rintro e w73 ⟨rfl, hi, hb, hk⟩; refine ⟨_, rfl, ?_⟩; replace HB := Aside0.mk (hb); replace BK182 := Aside0.mk (KeepBut.blk hk (g' := gb182) (o := .cells #[.bool false, .int .u64 0, .int .u64 0] 28 (0, 0)) bk_ NB182_0.out (by simp)); replace BK208 := Aside0.mk (KeepBut.blk hk (g' := gb208) (o := .cells #[.bool t205, .int .u64 t206, .int .u64 t207] 28 (0, 0)) bk_ NB208_0.out (by simp)); replace HK := Aside0.mk (KeepBut.trans (kw_ (w := w)) hk (.inl rfl)); replace HI0 := Aside0.mk (hi); (try clear hb); (try clear hb2); (try clear hk); (try clear hi); obtain ⟨hcz74_0, hcz74_1, hcz74_2, hfz74_0, hfz74_1, hfz74_2⟩ := cf3_ (w := w73) BK208.out; have hnb75 := NB182_0.out; have hnc75 := NB0_182.out; obtain ⟨hcz76_0, hcz76_1, hcz76_2, hfz76_0, hfz76_1, hfz76_2⟩ := cf3_ (w := w73) BK182.out))
     refine bodyPost_ret (results_cell_row rfl _ _ gb182 28 #[.bool (!t205), .int .u64 t206, .int .u64 t207] (0, 0) _ rfl (pu_ #[.bool (!t205), .int .u64 t206, .int .u64 0] 2 (h := (pu_ #[.bool (!t205), .int .u64 0, .int .u64 0] 1 (h := (pu_ #[.bool false, .int .u64 0, .int .u64 0] 0 (h := bk_)))))) Tryd.underlying28 rfl (by kernel_rfl)) rfl ?_
     exact ⟨rf_, is_, belI_, kw_ (w := w)⟩
    ·replace c62 := Bool.eq_false_iff.mpr c62
     subst c62
     have H1 : (some (t205, t206, t207, t216, t217)) = some (r1, r2, r3, r4, r5) := by rw [if_neg (show ¬ (false = true) by decide)] at H; exact H
     clear H
     have H := H1
     clear H1
     simp only [Option.some.injEq, Prod.mk.injEq] at H
     obtain ⟨rfl, rfl, rfl, rfl, rfl⟩ := H
     go_enter Tryd.func53, Tryd.ntmps53
     go_wp2_with (first | ((with_reducible refine gate_dst (N := 2) rfl ?_); refine box_event ?hg (N := 2) ?hd (cs := #[.bool false, .int .u64 0, .int .u64 0]) (t := 28) ?hr ?_; (case hd => rfl); (case hg => rfl); (case hr => first | (go_simp; done) | (go_simp; rfl)); intro gb182 hg w77 hbox hb; have BK182 := Aside0.mk (hbox); have GW182 := Aside0.mk ((by rw [hg]; exact (keep_size (w := w) (g := g) (row := none) (kw_ (w := w))) : w.heap.size ≤ gb182)); have GE182 := Aside0.mk ((Nat.le_trans HW0.out (by rw [hg]; exact (keep_size (w := w) (g := g) (row := none) (kw_ (w := w))) : w.heap.size ≤ gb182) : w0.heap.size ≤ gb182)); have NB0_182 := Aside0.mk ((by rw [hg]; exact Nat.ne_of_lt (IsS90.lt (show IsS90 w0 _ g s0_0 s0_1 s0_2 from is_)) : g ≠ gb182)); have NB182_0 := Aside0.mk ((by rw [hg]; exact Nat.ne_of_gt (IsS90.lt (show IsS90 w0 _ g s0_0 s0_1 s0_2 from is_)) : gb182 ≠ g)); replace HB := Aside0.mk (below_step (belI_) hb); replace HI0 := Aside0.mk (IsS90.below (is_) hb); replace HK := Aside0.mk (KeepBut.trans (kw_ (w := w)) (KeepBut.of_below hb g none) (.inl rfl)); clear hb hbox hg) | ((with_reducible refine gate_callee (f := 52) rfl ?_); refine goesL_ (some 5) rfl rfl Tryd.func52 (by kernel_rfl) rfl #[.pointer (some ⟨g, 0, none⟩), .int .i64 5] rfl mp_ ?_; (with_reducible refine (spec_l1Below.calls g s0_0 s0_1 s0_2 5 t183 t184 t185 w0 _ ?side1 ?side2 A2.out).mono ?_); (case side1 => exact is_); (case side2 => exact belI_); rintro e w78 ⟨rfl, hi, hb, hk⟩; refine ⟨_, rfl, ?_⟩; replace HB := Aside0.mk (hb); replace BK182 := Aside0.mk (KeepBut.blk hk (g' := gb182) (o := .cells #[.bool false, .int .u64 0, .int .u64 0] 28 (0, 0)) bk_ NB182_0.out (by simp)); replace HK := Aside0.mk (KeepBut.trans (kw_ (w := w)) hk (.inl rfl)); replace HI0 := Aside0.mk (hi); (try clear hb); (try clear hb2); (try clear hk); (try clear hi)) | ((with_reducible refine gate_callee (f := 43) rfl ?_); refine goesL_ (some 26) rfl rfl Tryd.func43 (by kernel_rfl) rfl #[.pointer (some ⟨g, 0, none⟩)] rfl mp_ ?_; (with_reducible refine (spec_l1Whole.calls k g s0_0 t184 t185 t199 t200 t201 w0 _ ?side1 ?side2 A24.out).mono ?_); (case side1 => exact is_); (case side2 => exact belI_); rintro e w79 ⟨rfl, hi, hb, hk⟩; refine ⟨_, rfl, ?_⟩; replace HB := Aside0.mk (hb); replace BK182 := Aside0.mk (KeepBut.blk hk (g' := gb182) (o := .cells #[.bool false, .int .u64 0, .int .u64 0] 28 (0, 0)) bk_ NB182_0.out (by simp)); replace HK := Aside0.mk (KeepBut.trans (kw_ (w := w)) hk (.inl rfl)); replace HI0 := Aside0.mk (hi); (try clear hb); (try clear hb2); (try clear hk); (try clear hi)) | ((with_reducible refine gate_callee (f := 43) rfl ?_); refine goesL_ (some 28) rfl rfl Tryd.func43 (by kernel_rfl) rfl #[.pointer (some ⟨g, 0, none⟩)] rfl mp_ ?_; (with_reducible refine (spec_l1Whole.calls k g s0_0 t200 t201 t202 t203 t204 w0 _ ?side1 ?side2 A25.out).mono ?_); (case side1 => exact is_); (case side2 => exact belI_); rintro e w80 ⟨rfl, hi, hb, hk⟩; refine ⟨_, rfl, ?_⟩; replace HB := Aside0.mk (hb); replace BK182 := Aside0.mk (KeepBut.blk hk (g' := gb182) (o := .cells #[.bool false, .int .u64 0, .int .u64 0] 28 (0, 0)) bk_ NB182_0.out (by simp)); replace HK := Aside0.mk (KeepBut.trans (kw_ (w := w)) hk (.inl rfl)); replace HI0 := Aside0.mk (hi); (try clear hb); (try clear hb2); (try clear hk); (try clear hi)) | ((with_reducible refine gate_callee (f := 94) rfl ?_); refine goesL_ (some 29) rfl rfl Tryd.func94 (by kernel_rfl) rfl #[.int .i64 t199, .int .i64 t202] rfl mp_ ?_; (with_reducible refine (spec_MulWide.calls t199 t202 t205 t206 t207 _ A26.out).mono ?_); rintro e w81 ⟨rfl, hb⟩; refine ⟨_, rfl, ?_⟩; replace HB := Aside0.mk (below_step (belI_) hb); replace HI0 := Aside0.mk (IsS90.below (is_) hb); replace BK182 := bb_ (g := gb182) hb; replace HK := Aside0.mk (KeepBut.trans (kw_ (w := w)) (KeepBut.of_below hb g none) (.inl rfl)); (try clear hb); (try clear hb2); (try clear hk); (try clear hi)) | ((with_reducible refine gate_dst (N := 3) rfl ?_); refine box_event ?hg (N := 3) ?hd (cs := #[.bool false, .int .u64 0, .int .u64 0]) (t := 28) ?hr ?_; (case hd => rfl); (case hg => rfl); (case hr => first | (go_simp; done) | (go_simp; rfl)); intro gb208 hg w82 hbox hb; have BK208 := Aside0.mk (hbox); have GW208 := Aside0.mk ((by rw [hg]; exact (keep_size (w := w) (g := g) (row := none) (kw_ (w := w))) : w.heap.size ≤ gb208)); have GE208 := Aside0.mk ((Nat.le_trans HW0.out (by rw [hg]; exact (keep_size (w := w) (g := g) (row := none) (kw_ (w := w))) : w.heap.size ≤ gb208) : w0.heap.size ≤ gb208)); have NB182_208 := nlt_ (g := gb182) hg; have NB208_182 := ngt_ (g := gb182) hg; have NB0_208 := Aside0.mk ((by rw [hg]; exact Nat.ne_of_lt (IsS90.lt (show IsS90 w0 _ g s0_0 t203 t204 from is_)) : g ≠ gb208)); have NB208_0 := Aside0.mk ((by rw [hg]; exact Nat.ne_of_gt (IsS90.lt (show IsS90 w0 _ g s0_0 t203 t204 from is_)) : gb208 ≠ g)); replace HB := Aside0.mk (below_step (belI_) hb); replace HI0 := Aside0.mk (IsS90.below (is_) hb); replace BK182 := bb_ (g := gb182) hb; replace HK := Aside0.mk (KeepBut.trans (kw_ (w := w)) (KeepBut.of_below hb g none) (.inl rfl)); clear hb hbox hg; have hnb83 := NB208_182.out; have hnc83 := NB182_208.out; have hnb84 := NB208_0.out; have hnc84 := NB0_208.out; obtain ⟨hcz85_0, hcz85_1, hcz85_2, hfz85_0, hfz85_1, hfz85_2⟩ := cf3_ (w := w82) BK208.out) | ((with_reducible refine gate_callee (f := 51) rfl ?_); refine goesL_ (some 31) rfl rfl Tryd.func51 (by kernel_rfl) rfl #[.pointer (some ⟨g, 0, none⟩), .int .i64 10] rfl mp_ ?_; (with_reducible refine (spec_l1Once.calls g s0_0 t203 t204 10 false t210 t211 w0 _ ?side1 ?side2 A27.out).mono ?_); (case side1 => exact is_); (case side2 => exact belI_); rintro e w86 ⟨rfl, hi, hb, hk⟩; refine ⟨_, rfl, ?_⟩; replace HB := Aside0.mk (hb); replace BK182 := Aside0.mk (KeepBut.blk hk (g' := gb182) (o := .cells #[.bool false, .int .u64 0, .int .u64 0] 28 (0, 0)) bk_ NB182_0.out (by simp)); replace BK208 := Aside0.mk (KeepBut.blk hk (g' := gb208) (o := .cells #[.bool t205, .int .u64 t206, .int .u64 t207] 28 (0, 0)) (pu_ #[.bool t205, .int .u64 t206, .int .u64 0] 2 (h := (pu_ #[.bool t205, .int .u64 0, .int .u64 0] 1 (h := (pu_ #[.bool false, .int .u64 0, .int .u64 0] 0 (h := bk_)))))) NB208_0.out (by simp)); replace HK := Aside0.mk (KeepBut.trans (kw_ (w := w)) hk (.inl rfl)); replace HI0 := Aside0.mk (hi); (try clear hb); (try clear hb2); (try clear hk); (try clear hi)) | ((with_reducible refine gate_callee (f := 51) rfl ?_); refine goesL_ (some 37) rfl rfl Tryd.func51 (by kernel_rfl) rfl #[.pointer (some ⟨g, 0, none⟩), .int .i64 10] rfl mp_ ?_; (with_reducible refine (spec_l1Once.calls g s0_0 t210 t211 10 false t216 t217 w0 _ ?side1 ?side2 A61.out).mono ?_); (case side1 => exact is_); (case side2 => exact belI_); rintro e w87 ⟨rfl, hi, hb, hk⟩; refine ⟨_, rfl, ?_⟩; replace HB := Aside0.mk (hb); replace BK182 := Aside0.mk (KeepBut.blk hk (g' := gb182) (o := .cells #[.bool false, .int .u64 0, .int .u64 0] 28 (0, 0)) bk_ NB182_0.out (by simp)); replace BK208 := Aside0.mk (KeepBut.blk hk (g' := gb208) (o := .cells #[.bool t205, .int .u64 t206, .int .u64 t207] 28 (0, 0)) bk_ NB208_0.out (by simp)); replace HK := Aside0.mk (KeepBut.trans (kw_ (w := w)) hk (.inl rfl)); replace HI0 := Aside0.mk (hi); (try clear hb); (try clear hb2); (try clear hk); (try clear hi); obtain ⟨hcz88_0, hcz88_1, hcz88_2, hfz88_0, hfz88_1, hfz88_2⟩ := cf3_ (w := w87) BK208.out; have hnb89 := NB182_0.out; have hnc89 := NB0_182.out; obtain ⟨hcz90_0, hcz90_1, hcz90_2, hfz90_0, hfz90_1, hfz90_2⟩ := cf3_ (w := w87) BK182.out))
     refine bodyPost_ret (results_cell_row rfl _ _ gb182 28 #[.bool t205, .int .u64 t206, .int .u64 t207] (0, 0) _ rfl (pu_ #[.bool t205, .int .u64 t206, .int .u64 0] 2 (h := (pu_ #[.bool t205, .int .u64 0, .int .u64 0] 1 (h := (pu_ #[.bool false, .int .u64 0, .int .u64 0] 0 (h := bk_)))))) Tryd.underlying28 rfl (by kernel_rfl)) rfl ?_
     exact ⟨rf_, is_, belI_, kw_ (w := w)⟩
/-! ### spec_l1In: function 57 -/
def spec_l1In.f (a0 : Int) (a1 : Int) (a2 : Int) : Option (Bool) := if a0 ≥ a1 then (some (decide (a0 ≤ a2))) else (some false)
set_option maxHeartbeats 8000000 in
set_option maxRecDepth 100000 in
theorem spec_l1In.calls (a0 : Int) (a1 : Int) (a2 : Int) (r : Bool) (w : World) (h : spec_l1In.f a0 a1 a2 = some r) :
  Calls Tryd.prog 57 #[.int .i64 a0, .int .i64 a1, .int .i64 a2] w fun e w' => e = .returned (.bool r) ∧ Drawn0 w w' := by
 have H : (if a0 ≥ a1 then (some (decide (a0 ≤ a2))) else (some false)) = some r := h
 clear h
 by_cases c4 : a0 ≥ a1
 ·rw [if_pos c4] at H
  have c4b0 : decide (a1 ≤ a0) = true := decide_eq_true c4
  clear c4
  obtain rfl := Option.some.inj H
  go_enter Tryd.func57, Tryd.ntmps57
  go_wp2
  go_ret
  exact ⟨by first | rfl | (simp; done) | (simp [*]; done), by repeat (first | exact Drawn0.refl _ | apply Drawn0.step)⟩
 ·rw [if_neg c4] at H
  have c4b0 : decide (a1 ≤ a0) = false := decide_eq_false c4
  clear c4
  obtain rfl := Option.some.inj H
  go_enter Tryd.func57, Tryd.ntmps57
  go_wp2
  go_ret
  exact ⟨by first | rfl | (simp; done) | (simp [*]; done), by repeat (first | exact Drawn0.refl _ | apply Drawn0.step)⟩
/-! ### spec_FracOk: function 71 -/
def spec_FracOk.f (a0_0 : Bool) (a0_1 : Int) (a0_2 : Int) (a0_3 : Int) : Option (Bool) := (spec_WideOk.f a0_0 a0_1 a0_2).bind fun t219 => (if t219 = true then ((spec_l1In.f a0_3 1 1000000).bind fun t220 => (some t220)) else (some false))
set_option maxHeartbeats 8000000 in
set_option maxRecDepth 100000 in
theorem spec_FracOk.calls (a0_0 : Bool) (a0_1 : Int) (a0_2 : Int) (a0_3 : Int) (r : Bool) (w : World) (h : spec_FracOk.f a0_0 a0_1 a0_2 a0_3 = some r) :
  Calls Tryd.prog 71 #[.agg #[.bool a0_0, .int .u64 a0_1, .int .u64 a0_2, .int .i64 a0_3]] w fun e w' => e = .returned (.bool r) ∧ Below w.heap.size w w' := by
 have hu43 := Tryd.underlying43
 have hu28 := Tryd.underlying28
 have HB := Aside0.mk (Below.refl w.heap.size w)
 have H : ((spec_WideOk.f a0_0 a0_1 a0_2).bind fun t219 => (if t219 = true then ((spec_l1In.f a0_3 1 1000000).bind fun t220 => (some t220)) else (some false))) = some r := h
 clear h
 replace H := Option.bind_eq_some_iff.mp H
 obtain ⟨t219, A20, H⟩ := H
 replace H : (if t219 = true then ((spec_l1In.f a0_3 1 1000000).bind fun t220 => (some t220)) else (some false)) = some r := H
 have A2 := Aside0.mk A20
 clear A20
 by_cases c3 : t219 = true
 ·subst c3
  have H1 : ((spec_l1In.f a0_3 1 1000000).bind fun t220 => (some t220)) = some r := by rw [if_pos rfl] at H; exact H
  clear H
  have H := H1
  clear H1
  replace H := Option.bind_eq_some_iff.mp H
  obtain ⟨t220, A40, H⟩ := H
  replace H : (some t220) = some r := H
  have A4 := Aside0.mk A40
  clear A40
  obtain rfl := Option.some.inj H
  go_enter Tryd.func71, Tryd.ntmps71
  go_wp2_with (first | ((with_reducible refine gate_dst (N := 1) rfl ?_); refine box_event ?hg (N := 1) ?hd (cs := #[.bool a0_0, .int .u64 a0_1, .int .u64 a0_2, .int .i64 a0_3]) (t := 43) ?hr ?_; (case hd => rfl); (case hg => rfl); (case hr => first | (go_simp; done) | (go_simp; rfl)); intro gb218 hg w5 hbox hb; have BK218 := Aside0.mk (hbox); have GW218 := bs_ (w := w) hg; have GE218 := bs_ (w := w) hg; replace HB := Aside0.mk (below_step bel_ hb); clear hb hbox hg; obtain ⟨hcz6_0, hcz6_1, hcz6_2, hcz6_3, hfz6_0, hfz6_1, hfz6_2, hfz6_3⟩ := cf4_ (w := w5) BK218.out) | ((with_reducible refine gate_callee (f := 24) rfl ?_); refine goesL_ (some 5) rfl rfl Tryd.func24 (by kernel_rfl) rfl #[.agg #[.bool a0_0, .int .u64 a0_1, .int .u64 a0_2]] rfl mp_ ?_; (with_reducible refine (spec_WideOk.calls a0_0 a0_1 a0_2 true _ A2.out).mono ?_); rintro e w7 ⟨rfl, hb⟩; refine ⟨_, rfl, ?_⟩; replace HB := Aside0.mk (below_step bel_ hb); replace BK218 := bb_ (g := gb218) hb; (try clear hb); (try clear hb2); (try clear hk); (try clear hi); obtain ⟨hcz8_0, hcz8_1, hcz8_2, hcz8_3, hfz8_0, hfz8_1, hfz8_2, hfz8_3⟩ := cf4_ (w := w7) BK218.out) | (go_at_call 57; (with_reducible refine (spec_l1In.calls a0_3 1 1000000 t220 _ A4.out).mono ?_); rintro e w' ⟨rfl, ⟨nd, rfl⟩⟩))
  go_ret
  exact ⟨rf_, bel_⟩
 ·replace c3 := Bool.eq_false_iff.mpr c3
  subst c3
  have H1 : (some false) = some r := by rw [if_neg (show ¬ (false = true) by decide)] at H; exact H
  clear H
  have H := H1
  clear H1
  obtain rfl := Option.some.inj H
  go_enter Tryd.func71, Tryd.ntmps71
  go_wp2_with (first | ((with_reducible refine gate_dst (N := 1) rfl ?_); refine box_event ?hg (N := 1) ?hd (cs := #[.bool a0_0, .int .u64 a0_1, .int .u64 a0_2, .int .i64 a0_3]) (t := 43) ?hr ?_; (case hd => rfl); (case hg => rfl); (case hr => first | (go_simp; done) | (go_simp; rfl)); intro gb218 hg w9 hbox hb; have BK218 := Aside0.mk (hbox); have GW218 := bs_ (w := w) hg; have GE218 := bs_ (w := w) hg; replace HB := Aside0.mk (below_step bel_ hb); clear hb hbox hg; obtain ⟨hcz10_0, hcz10_1, hcz10_2, hcz10_3, hfz10_0, hfz10_1, hfz10_2, hfz10_3⟩ := cf4_ (w := w9) BK218.out) | ((with_reducible refine gate_callee (f := 24) rfl ?_); refine goesL_ (some 5) rfl rfl Tryd.func24 (by kernel_rfl) rfl #[.agg #[.bool a0_0, .int .u64 a0_1, .int .u64 a0_2]] rfl mp_ ?_; (with_reducible refine (spec_WideOk.calls a0_0 a0_1 a0_2 false _ A2.out).mono ?_); rintro e w11 ⟨rfl, hb⟩; refine ⟨_, rfl, ?_⟩; replace HB := Aside0.mk (below_step bel_ hb); replace BK218 := bb_ (g := gb218) hb; (try clear hb); (try clear hb2); (try clear hk); (try clear hi)))
  go_ret
  exact ⟨rf_, bel_⟩
/-! ### spec_SquareOver: function 111 -/
def spec_SquareOver.f (a0 : Int) (a1 : Int) : Option (Bool × Int × Int × Int × Bool) := (spec_MulWide.f a0 a0).bind fun bt222 => ((spec_FracOk.f bt222.1 bt222.2.1 bt222.2.2 a1).bind fun t226 => (if t226 = true then (some (bt222.1, bt222.2.1, bt222.2.2, a1, true)) else (some (false, 0, 0, 0, false))))
set_option maxHeartbeats 8000000 in
set_option maxRecDepth 100000 in
theorem spec_SquareOver.calls (a0 : Int) (a1 : Int) (r1 : Bool) (r2 : Int) (r3 : Int) (r4 : Int) (r5 : Bool) (w : World) (h : spec_SquareOver.f a0 a1 = some (r1, r2, r3, r4, r5)) :
  Calls Tryd.prog 111 #[.int .i64 a0, .int .i64 a1] w fun e w' => e = .returned (.tuple #[.agg #[.bool r1, .int .u64 r2, .int .u64 r3, .int .i64 r4], .bool r5]) ∧ Below w.heap.size w w' := by
 have hu43 := Tryd.underlying43
 have HB := Aside0.mk (Below.refl w.heap.size w)
 have H : ((spec_MulWide.f a0 a0).bind fun bt222 => ((spec_FracOk.f bt222.1 bt222.2.1 bt222.2.2 a1).bind fun t226 => (if t226 = true then (some (bt222.1, bt222.2.1, bt222.2.2, a1, true)) else (some (false, 0, 0, 0, false))))) = some (r1, r2, r3, r4, r5) := h
 clear h
 replace H := Option.bind_eq_some_iff.mp H
 obtain ⟨⟨t222, t223, t224⟩, A30, H⟩ := H
 replace H : ((spec_FracOk.f t222 t223 t224 a1).bind fun t226 => (if t226 = true then (some (t222, t223, t224, a1, true)) else (some (false, 0, 0, 0, false)))) = some (r1, r2, r3, r4, r5) := H
 have A3 := Aside0.mk A30
 clear A30
 replace H := Option.bind_eq_some_iff.mp H
 obtain ⟨t226, A40, H⟩ := H
 replace H : (if t226 = true then (some (t222, t223, t224, a1, true)) else (some (false, 0, 0, 0, false))) = some (r1, r2, r3, r4, r5) := H
 have A4 := Aside0.mk A40
 clear A40
 by_cases c5 : t226 = true
 ·subst c5
  have H1 : (some (t222, t223, t224, a1, true)) = some (r1, r2, r3, r4, r5) := by rw [if_pos rfl] at H; exact H
  clear H
  have H := H1
  clear H1
  simp only [Option.some.injEq, Prod.mk.injEq] at H
  obtain ⟨rfl, rfl, rfl, rfl, rfl⟩ := H
  go_enter Tryd.func111, Tryd.ntmps111
  go_wp2_with (first | ((with_reducible refine gate_dst (N := 4) rfl ?_); refine box_event ?hg (N := 4) ?hd (cs := #[.bool false, .int .u64 0, .int .u64 0, .int .i64 0]) (t := 43) ?hr ?_; (case hd => rfl); (case hg => rfl); (case hr => first | (go_simp; done) | (go_simp; rfl)); intro gb221 hg w6 hbox hb; have BK221 := Aside0.mk (hbox); have GW221 := bs_ (w := w) hg; have GE221 := bs_ (w := w) hg; replace HB := Aside0.mk (below_step bel_ hb); clear hb hbox hg) | ((with_reducible refine gate_callee (f := 94) rfl ?_); refine goesL_ (some 9) rfl rfl Tryd.func94 (by kernel_rfl) rfl #[.int .i64 a0, .int .i64 a0] rfl mp_ ?_; (with_reducible refine (spec_MulWide.calls a0 a0 t222 t223 t224 _ A3.out).mono ?_); rintro e w7 ⟨rfl, hb⟩; refine ⟨_, rfl, ?_⟩; replace HB := Aside0.mk (below_step bel_ hb); replace BK221 := bb_ (g := gb221) hb; (try clear hb); (try clear hb2); (try clear hk); (try clear hi)) | ((with_reducible refine gate_dst (N := 6) rfl ?_); refine box_event ?hg (N := 6) ?hd (cs := #[.bool false, .int .u64 0, .int .u64 0, .int .i64 0]) (t := 43) ?hr ?_; (case hd => rfl); (case hg => rfl); (case hr => first | (go_simp; done) | (go_simp; rfl)); intro gb225 hg w8 hbox hb; have BK225 := Aside0.mk (hbox); have GW225 := bs_ (w := w) hg; have GE225 := bs_ (w := w) hg; have NB221_225 := nlt_ (g := gb221) hg; have NB225_221 := ngt_ (g := gb221) hg; replace HB := Aside0.mk (below_step bel_ hb); replace BK221 := bb_ (g := gb221) hb; clear hb hbox hg; have hnb9 := NB225_221.out; have hnc9 := NB221_225.out; obtain ⟨hcz10_0, hcz10_1, hcz10_2, hcz10_3, hfz10_0, hfz10_1, hfz10_2, hfz10_3⟩ := cf4_ (w := w8) BK225.out) | ((with_reducible refine gate_callee (f := 71) rfl ?_); refine goesL_ (some 13) rfl rfl Tryd.func71 (by kernel_rfl) rfl #[.agg #[.bool t222, .int .u64 t223, .int .u64 t224, .int .i64 a1]] rfl mp_ ?_; (with_reducible refine (spec_FracOk.calls t222 t223 t224 a1 true _ A4.out).mono ?_); rintro e w11 ⟨rfl, hb⟩; refine ⟨_, rfl, ?_⟩; replace HB := Aside0.mk (below_step bel_ hb); replace BK221 := Aside0.mk (blk_below (g := gb221) (o := .cells #[.bool false, .int .u64 0, .int .u64 0, .int .i64 0] 43 (0, 0)) bk_ hb); replace BK225 := Aside0.mk (blk_below (g := gb225) (o := .cells #[.bool t222, .int .u64 t223, .int .u64 t224, .int .i64 a1] 43 (0, 0)) (pu_ #[.bool t222, .int .u64 t223, .int .u64 t224, .int .i64 0] 3 (h := (pu_ #[.bool t222, .int .u64 t223, .int .u64 0, .int .i64 0] 2 (h := (pu_ #[.bool t222, .int .u64 0, .int .u64 0, .int .i64 0] 1 (h := (pu_ #[.bool false, .int .u64 0, .int .u64 0, .int .i64 0] 0 (h := bk_)))))))) hb); (try clear hb); (try clear hb2); (try clear hk); (try clear hi); obtain ⟨hcz12_0, hcz12_1, hcz12_2, hcz12_3, hfz12_0, hfz12_1, hfz12_2, hfz12_3⟩ := cf4_ (w := w11) BK225.out; obtain ⟨hcz13_0, hcz13_1, hcz13_2, hcz13_3, hfz13_0, hfz13_1, hfz13_2, hfz13_3⟩ := cf4_ (w := w11) BK221.out))
  refine bodyPost_ret (results_ct rfl _ _ gb221 43 #[.bool t222, .int .u64 t223, .int .u64 t224, .int .i64 a1] (0, 0) _ rfl (pu_ #[.bool t222, .int .u64 t223, .int .u64 t224, .int .i64 0] 3 (h := (pu_ #[.bool t222, .int .u64 t223, .int .u64 0, .int .i64 0] 2 (h := (pu_ #[.bool t222, .int .u64 0, .int .u64 0, .int .i64 0] 1 (h := (pu_ #[.bool false, .int .u64 0, .int .u64 0, .int .i64 0] 0 (h := bk_)))))))) Tryd.underlying43 rfl (by kernel_rfl)) rfl ?_
  exact ⟨rf_, bel_⟩
 ·replace c5 := Bool.eq_false_iff.mpr c5
  subst c5
  have H1 : (some (false, 0, 0, 0, false)) = some (r1, r2, r3, r4, r5) := by rw [if_neg (show ¬ (false = true) by decide)] at H; exact H
  clear H
  have H := H1
  clear H1
  simp only [Option.some.injEq, Prod.mk.injEq] at H
  obtain ⟨rfl, rfl, rfl, rfl, rfl⟩ := H
  go_enter Tryd.func111, Tryd.ntmps111
  go_wp2_with (first | ((with_reducible refine gate_dst (N := 4) rfl ?_); refine box_event ?hg (N := 4) ?hd (cs := #[.bool false, .int .u64 0, .int .u64 0, .int .i64 0]) (t := 43) ?hr ?_; (case hd => rfl); (case hg => rfl); (case hr => first | (go_simp; done) | (go_simp; rfl)); intro gb221 hg w14 hbox hb; have BK221 := Aside0.mk (hbox); have GW221 := bs_ (w := w) hg; have GE221 := bs_ (w := w) hg; replace HB := Aside0.mk (below_step bel_ hb); clear hb hbox hg) | ((with_reducible refine gate_callee (f := 94) rfl ?_); refine goesL_ (some 9) rfl rfl Tryd.func94 (by kernel_rfl) rfl #[.int .i64 a0, .int .i64 a0] rfl mp_ ?_; (with_reducible refine (spec_MulWide.calls a0 a0 t222 t223 t224 _ A3.out).mono ?_); rintro e w15 ⟨rfl, hb⟩; refine ⟨_, rfl, ?_⟩; replace HB := Aside0.mk (below_step bel_ hb); replace BK221 := bb_ (g := gb221) hb; (try clear hb); (try clear hb2); (try clear hk); (try clear hi)) | ((with_reducible refine gate_dst (N := 6) rfl ?_); refine box_event ?hg (N := 6) ?hd (cs := #[.bool false, .int .u64 0, .int .u64 0, .int .i64 0]) (t := 43) ?hr ?_; (case hd => rfl); (case hg => rfl); (case hr => first | (go_simp; done) | (go_simp; rfl)); intro gb225 hg w16 hbox hb; have BK225 := Aside0.mk (hbox); have GW225 := bs_ (w := w) hg; have GE225 := bs_ (w := w) hg; have NB221_225 := nlt_ (g := gb221) hg; have NB225_221 := ngt_ (g := gb221) hg; replace HB := Aside0.mk (below_step bel_ hb); replace BK221 := bb_ (g := gb221) hb; clear hb hbox hg; have hnb17 := NB225_221.out; have hnc17 := NB221_225.out; obtain ⟨hcz18_0, hcz18_1, hcz18_2, hcz18_3, hfz18_0, hfz18_1, hfz18_2, hfz18_3⟩ := cf4_ (w := w16) BK225.out) | ((with_reducible refine gate_callee (f := 71) rfl ?_); refine goesL_ (some 13) rfl rfl Tryd.func71 (by kernel_rfl) rfl #[.agg #[.bool t222, .int .u64 t223, .int .u64 t224, .int .i64 a1]] rfl mp_ ?_; (with_reducible refine (spec_FracOk.calls t222 t223 t224 a1 false _ A4.out).mono ?_); rintro e w19 ⟨rfl, hb⟩; refine ⟨_, rfl, ?_⟩; replace HB := Aside0.mk (below_step bel_ hb); replace BK221 := Aside0.mk (blk_below (g := gb221) (o := .cells #[.bool false, .int .u64 0, .int .u64 0, .int .i64 0] 43 (0, 0)) bk_ hb); replace BK225 := Aside0.mk (blk_below (g := gb225) (o := .cells #[.bool t222, .int .u64 t223, .int .u64 t224, .int .i64 a1] 43 (0, 0)) (pu_ #[.bool t222, .int .u64 t223, .int .u64 t224, .int .i64 0] 3 (h := (pu_ #[.bool t222, .int .u64 t223, .int .u64 0, .int .i64 0] 2 (h := (pu_ #[.bool t222, .int .u64 0, .int .u64 0, .int .i64 0] 1 (h := (pu_ #[.bool false, .int .u64 0, .int .u64 0, .int .i64 0] 0 (h := bk_)))))))) hb); (try clear hb); (try clear hb2); (try clear hk); (try clear hi); obtain ⟨hcz20_0, hcz20_1, hcz20_2, hcz20_3, hfz20_0, hfz20_1, hfz20_2, hfz20_3⟩ := cf4_ (w := w19) BK221.out))
  refine bodyPost_ret (results_ct rfl _ _ gb221 43 #[.bool false, .int .u64 0, .int .u64 0, .int .i64 0] (0, 0) _ rfl (pu_ #[.bool false, .int .u64 0, .int .u64 0, .int .i64 0] 3 (h := (pu_ #[.bool false, .int .u64 0, .int .u64 0, .int .i64 0] 2 (h := (pu_ #[.bool false, .int .u64 0, .int .u64 0, .int .i64 0] 1 (h := (pu_ #[.bool false, .int .u64 0, .int .u64 0, .int .i64 0] 0 (h := bk_)))))))) Tryd.underlying43 rfl (by kernel_rfl)) rfl ?_
  exact ⟨rf_, bel_⟩
end Go.Proofs.YtkpgpifkbdpnkaaDoor.PFnFracSum
