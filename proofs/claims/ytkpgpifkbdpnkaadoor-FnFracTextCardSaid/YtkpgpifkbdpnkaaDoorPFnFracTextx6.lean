/- Contracts of Go functions, each with the Lean function that says what it computes: begun by the print, turned by this session. No condition beyond what each theorem states. -/
import Derived.Test.YtkpgpifkbdpnkaaDoorPFnFracTextx0
import Derived.Test.YtkpgpifkbdpnkaaDoorPFnFracTextx3
import Derived.Test.YtkpgpifkbdpnkaaDoorPFnFracTextx5
namespace Go.Proofs.YtkpgpifkbdpnkaaDoor.PFnFracText
open Go.RowKit Go.Proofs.YtkpgpifkbdpnkaaDoorVFnFracText.PrintWords Go.Proofs.YtkpgpifkbdpnkaaDoorVFnFracText.PrintLast Go.Proofs.YtkpgpifkbdpnkaaDoorVFnFracText.PrintMore
attribute [local go_sem] max2_int min2_int max_two min_two max_three min_three max_four min_four   -- for this text's walks alone
set_option linter.unusedVariables false
set_option linter.unusedSimpArgs false

/-! ### impl_ReadWide: function 21 -/
mutual
def impl_ReadWide.j0 : Nat → ByteArray → ByteArray → Bool → Bool → Bool → Int → Int → Option (Bool × Int × Int × Bool)
  | 0, _, _, _, _, _, _, _ => none
  | k + 1, x0, x4, x5, x22, x234000, x234001, x234002 => if x22 = true then (some (x234000, x234001, x234002, false)) else (impl_ReadWide.l0 k x0 x4 x5 (x4.size : Int) 0 x234000 x234001 x234002)
def impl_ReadWide.l0 : Nat → ByteArray → ByteArray → Bool → Int → Int → Bool → Int → Int → Option (Bool × Int × Int × Bool)
  | 0, _, _, _, _, _, _, _, _ => none
  | k + 1, x0, x4, x5, x25, x26, x234000, x234001, x234002 => if x26 < x25 then (if 0 ≤ x26 then (if x26 < (x4.size : Int) then ((impl_TenTimes.f k x234000 x234001 x234002 (wrap64 ((wrap64 (bt x4 x26)) - 48))).bind fun bt234 => (if bt234.2.2.2 = true then (impl_ReadWide.l0 k x0 x4 x5 x25 (wrap64 (x26 + 1)) bt234.1 bt234.2.1 bt234.2.2.1) else (some (false, 0, 0, false)))) else (none)) else (none)) else (if x5 = true then ((impl_NegWide.f x234000 x234001 x234002).bind fun bt239 => ((impl_WideText.f k bt239.1 bt239.2.1 bt239.2.2).bind fun t242 => (if t242.toList = x0.toList then (some (bt239.1, bt239.2.1, bt239.2.2, true)) else (some (false, 0, 0, false))))) else ((impl_WideText.f k x234000 x234001 x234002).bind fun t243 => (if t243.toList = x0.toList then (some (x234000, x234001, x234002, true)) else (some (false, 0, 0, false)))))
end
def impl_ReadWide.f (k : Nat) (a0 : ByteArray) : Option (Bool × Int × Int × Bool) := (strings_CutPrefix.f a0 (⟨#[45]⟩ : ByteArray)).bind fun bt231 => (if bt231.1.toList = ([] : List UInt8) then (impl_ReadWide.j0 k a0 bt231.1 bt231.2 true false 0 0) else (impl_ReadWide.j0 k a0 bt231.1 bt231.2 (decide ((bt231.1.size : Int) > 40)) false 0 0))
theorem impl_ReadWide.mono_l : ∀ k, (∀ y0 y1 y2 y3 y4 y5 y6, LeO (impl_ReadWide.j0 k y0 y1 y2 y3 y4 y5 y6) (impl_ReadWide.j0 (k + 1) y0 y1 y2 y3 y4 y5 y6)) ∧ (∀ y0 y1 y2 y3 y4 y5 y6 y7, LeO (impl_ReadWide.l0 k y0 y1 y2 y3 y4 y5 y6 y7) (impl_ReadWide.l0 (k + 1) y0 y1 y2 y3 y4 y5 y6 y7))
  | 0 => ⟨fun _ _ _ _ _ _ _ r h => by simp [impl_ReadWide.j0] at h, fun _ _ _ _ _ _ _ _ r h => by simp [impl_ReadWide.l0] at h⟩
  | k + 1 => by
    obtain ⟨ih0, ih1⟩ := impl_ReadWide.mono_l k
    refine ⟨?_, ?_⟩
    · intro y0 y1 y2 y3 y4 y5 y6
      unfold impl_ReadWide.j0
      repeat' first
      | (with_reducible exact ih0 _ _ _ _ _ _ _)
      | (with_reducible exact ih1 _ _ _ _ _ _ _ _)
      | (with_reducible exact impl_TenTimes.mono _ _ _ _ _)
      | (with_reducible exact impl_WideText.mono _ _ _ _)
      | (with_reducible exact LeO.refl _)
      | (with_reducible exact LeO.none _)
      | (with_reducible refine LeO.ite ?_ ?_)
      | (with_reducible refine LeO.bind ?_ (fun _ => ?_))
      | exact ih0 _ _ _ _ _ _ _
      | exact ih1 _ _ _ _ _ _ _ _
      | exact impl_TenTimes.mono _ _ _ _ _
      | exact impl_WideText.mono _ _ _ _
      | exact LeO.none _
      | refine LeO.ite ?_ ?_
      | refine LeO.bind ?_ (fun _ => ?_)
    · intro y0 y1 y2 y3 y4 y5 y6 y7
      unfold impl_ReadWide.l0
      repeat' first
      | (with_reducible exact ih0 _ _ _ _ _ _ _)
      | (with_reducible exact ih1 _ _ _ _ _ _ _ _)
      | (with_reducible exact impl_TenTimes.mono _ _ _ _ _)
      | (with_reducible exact impl_WideText.mono _ _ _ _)
      | (with_reducible exact LeO.refl _)
      | (with_reducible exact LeO.none _)
      | (with_reducible refine LeO.ite ?_ ?_)
      | (with_reducible refine LeO.bind ?_ (fun _ => ?_))
      | exact ih0 _ _ _ _ _ _ _
      | exact ih1 _ _ _ _ _ _ _ _
      | exact impl_TenTimes.mono _ _ _ _ _
      | exact impl_WideText.mono _ _ _ _
      | exact LeO.none _
      | refine LeO.ite ?_ ?_
      | refine LeO.bind ?_ (fun _ => ?_)
theorem impl_ReadWide.mono : ∀ a0 k, LeO (impl_ReadWide.f k a0) (impl_ReadWide.f (k + 1) a0) := by
  intro a0 k
  obtain ⟨ih0, ih1⟩ := impl_ReadWide.mono_l k
  unfold impl_ReadWide.f
  repeat' first
      | (with_reducible exact ih0 _ _ _ _ _ _ _)
      | (with_reducible exact ih1 _ _ _ _ _ _ _ _)
      | (with_reducible exact impl_TenTimes.mono _ _ _ _ _)
      | (with_reducible exact impl_WideText.mono _ _ _ _)
      | (with_reducible exact LeO.refl _)
      | (with_reducible exact LeO.none _)
      | (with_reducible refine LeO.ite ?_ ?_)
      | (with_reducible refine LeO.bind ?_ (fun _ => ?_))
      | exact ih0 _ _ _ _ _ _ _
      | exact ih1 _ _ _ _ _ _ _ _
      | exact impl_TenTimes.mono _ _ _ _ _
      | exact impl_WideText.mono _ _ _ _
      | exact LeO.none _
      | refine LeO.ite ?_ ?_
      | refine LeO.bind ?_ (fun _ => ?_)
def impl_ReadWide.T8 : Bool × List (List Nat × List Nat) := (true, [([], []), ([], []), ([], []), ([1, 2], [1, 2]), ([3], [3]), ([4], [4]), ([0, 5], [0, 5]), ([6], [6]), ([7], [7]), ([7], [7]), ([], []), ([10, 8, 6, 0, 1, 2, 3, 4, 5, 6, 7, 8, 10], [8, 10]), ([9, 11, 0, 1, 2, 3, 4, 5, 6, 7, 8, 9, 10, 11], [9])])
def impl_ReadWide.B8 : List Nat := [0, 0, 0, 6, 14, 30, 63, 127, 255, 255, 0, 1535, 4095]
theorem impl_ReadWide.tab8 : rtab .any (opsOf Tryd.f21 8) = impl_ReadWide.T8 := by kernel_rfl
theorem impl_ReadWide.bits8 : waitsOk impl_ReadWide.T8.2 impl_ReadWide.B8 = true := by kernel_rfl
set_option maxHeartbeats 8000000 in
set_option maxRecDepth 100000 in
theorem impl_ReadWide.calls (k : Nat) (a0 : ByteArray) (r1 : Bool) (r2 : Int) (r3 : Int) (r4 : Bool) (w : World) (h : impl_ReadWide.f k a0 = some (r1, r2, r3, r4)) (hl : Laid w) :
    Calls Tryd.prog 21 #[.string a0] w fun e w' => e = .returned (.tuple #[.agg #[.bool r1, .int .u64 r2, .int .u64 r3], .bool r4]) ∧ Below w.heap.size w w' := by
  have hu28 := Tryd.underlying28
  have HB := Aside0.mk (Below.refl w.heap.size w)
  have H : ((strings_CutPrefix.f a0 (⟨#[45]⟩ : ByteArray)).bind fun bt231 => (if bt231.1.toList = ([] : List UInt8) then (impl_ReadWide.j0 k a0 bt231.1 bt231.2 true false 0 0) else (impl_ReadWide.j0 k a0 bt231.1 bt231.2 (decide ((bt231.1.size : Int) > 40)) false 0 0))) = some (r1, r2, r3, r4) := h
  clear h
  replace H := Option.bind_eq_some_iff.mp H
  obtain ⟨⟨t231, t232⟩, A20, H⟩ := H
  replace H : (if t231.toList = ([] : List UInt8) then (impl_ReadWide.j0 k a0 t231 t232 true false 0 0) else (impl_ReadWide.j0 k a0 t231 t232 (decide ((t231.size : Int) > 40)) false 0 0)) = some (r1, r2, r3, r4) := H
  have A2 := Aside0.mk A20
  clear A20
  have HC3 := Aside0.mk H
  clear H
  go_enter Tryd.func21, Tryd.ntmps21
  go_upto_region 3 with (first | ((with_reducible refine gate_dst (N := 2) rfl ?_); (try (refine gate_guard (by rfl) ?_; dsimp only)); refine box_event ?hg (N := 2) ?hd (cs := #[.bool false, .int .u64 0, .int .u64 0]) (t := 28) ?hr ?_; (case hd => rfl); (case hg => rfl); (case hr => first | (go_simp; done) | (go_simp; rfl)); intro gb230 hg w4 hbox hb; have n0_ := Aside0.mk (below_step bel_ hb); have n1_ := Aside0.mk (hbox); have n2_ := bs_ (w := w) hg; have n3_ := bs_ (w := w) hg; clear HB; have HB := n0_; have BK230 := n1_; have GW230 := n2_; have GE230 := n3_; clear n0_ n1_ n2_ n3_; clear hb hbox hg) | ((with_reducible refine gate_callee (f := 63) rfl ?_); refine goesL_ (some 12) rfl rfl Tryd.func63 (by kernel_rfl) rfl #[.string a0, .string (⟨#[45]⟩ : ByteArray)] rfl mp_ ?_; (with_reducible refine (strings_CutPrefix.calls a0 (⟨#[45]⟩ : ByteArray) t231 t232 _ A2.out).mono ?_); rintro e w' ⟨rfl, ⟨nd, rfl⟩⟩; refine ⟨_, rfl, ?_⟩; (try (rw [drewN_self w4]; generalize hq_ : World.drewN w4 _ = w4; have n0_ : Aside0 (w4.heap[gb230]? = some (.cells #[.bool false, .int .u64 0, .int .u64 0] 28 (0, 0))) := ⟨by rw [← hq_]; exact bk_⟩; have n1_ : Aside0 (Below w.heap.size w w4) := ⟨by rw [← hq_]; exact bel_⟩; clear BK230 HB hq_; have BK230 := n0_; have HB := n1_; clear n0_ n1_))) | ((with_reducible refine gate_dst (N := 6) rfl ?_); (try (refine gate_guard (by rfl) ?_; dsimp only)); refine box_event ?hg (N := 6) ?hd (cs := #[.bool false, .int .u64 0, .int .u64 0]) (t := 28) ?hr ?_; (case hd => rfl); (case hg => rfl); (case hr => first | (go_simp; done) | (go_simp; rfl)); intro gb233 hg w5 hbox hb; have n0_ := bb_ (g := gb230) hb; have n1_ := Aside0.mk (below_step bel_ hb); have n2_ := Aside0.mk (hbox); have n3_ := bs_ (w := w) hg; have n4_ := bs_ (w := w) hg; have n5_ := nlt_ (g := gb230) hg; have n6_ := ngt_ (g := gb230) hg; clear BK230; clear HB; have BK230 := n0_; have HB := n1_; have BK233 := n2_; have GW233 := n3_; have GE233 := n4_; have NB230_233 := n5_; have NB233_230 := n6_; clear n0_ n1_ n2_ n3_ n4_ n5_ n6_; clear hb hbox hg; have hnb6 := NB233_230.out; have hnc6 := NB230_233.out; obtain ⟨hcz7_0, hcz7_1, hcz7_2, hfz7_0, hfz7_1, hfz7_2⟩ := cf3_ (w := w5) BK233.out))
  (try simp only [Act.put, la_, lb_, lc_])
  go_cut [22] (fun v22 wc => ∃ (kq : Nat) (x22_2 : Bool), v22 = .bool x22_2 ∧ Aside0 (impl_ReadWide.j0 kq a0 t231 t232 x22_2 false 0 0 = some (r1, r2, r3, r4)) ∧ Aside0 (kq ≤ k) ∧ Aside0 (wc.heap[gb230]? = some (.cells #[.bool false, .int .u64 0, .int .u64 0] 28 (0, 0))) ∧ Aside0 (wc.heap[gb233]? = some (.cells #[.bool false, .int .u64 0, .int .u64 0] 28 (0, 0))) ∧ Aside0 (Below w.heap.size w wc))
  case first =>
    have H := HC3.out
    clear HC3
    by_cases c8 : t231.toList = ([] : List UInt8)
    · rw [if_pos c8] at H
      have c8b0 : (t231.toList == ([] : List UInt8)) = true := beq_iff_eq.mpr c8
      have c8b1 : (t231.toList != ([] : List UInt8)) = false := bne_eq_false_iff_eq.mpr c8
      clear c8
      (first | rw [c8b0] | (simp only [i64_w, i32_w]; rw [c8b0]) | skip)
      have H' := Aside0.mk H
      clear H
      go_wp2
      go_meet
      case rel => exact ⟨_, (true), (by first | rfl | (simp; done) | (simp [*]; done)), H', ⟨by first | omega | exact Nat.le_refl _⟩, ⟨by (with_reducible repeat (first | refine bN_ _ ?_ | refine bd_ ?_ | refine ba_ _ ?_)); refine blk_far ?_ NB230_233.out _; (with_reducible repeat (first | refine bN_ _ ?_ | refine bd_ ?_ | refine ba_ _ ?_)); refine blk_far ?_ NB230_233.out _; (with_reducible repeat (first | refine bN_ _ ?_ | refine bd_ ?_ | refine ba_ _ ?_)); refine blk_far ?_ NB230_233.out _; (with_reducible repeat (first | refine bN_ _ ?_ | refine bd_ ?_ | refine ba_ _ ?_)); exact BK230.out⟩, ⟨by (with_reducible repeat (first | refine bN_ _ ?_ | refine bd_ ?_ | refine ba_ _ ?_)); refine blk_put (cs := #[.bool false, .int .u64 0, .int .u64 0]) ?_ 2 _ rfl; (with_reducible repeat (first | refine bN_ _ ?_ | refine bd_ ?_ | refine ba_ _ ?_)); refine blk_put (cs := #[.bool false, .int .u64 0, .int .u64 0]) ?_ 1 _ rfl; (with_reducible repeat (first | refine bN_ _ ?_ | refine bd_ ?_ | refine ba_ _ ?_)); refine blk_put (cs := #[.bool false, .int .u64 0, .int .u64 0]) ?_ 0 _ rfl; (with_reducible repeat (first | refine bN_ _ ?_ | refine bd_ ?_ | refine ba_ _ ?_)); exact BK233.out⟩, ⟨bel_⟩⟩
    · rw [if_neg c8] at H
      have c8b0 : (t231.toList == ([] : List UInt8)) = false := beq_eq_false_iff_ne.mpr c8
      have c8b1 : (t231.toList != ([] : List UInt8)) = true := bne_iff_ne.mpr c8
      (first | rw [c8b0] | (simp only [i64_w, i32_w]; rw [c8b0]) | skip)
      have H' := Aside0.mk H
      clear H
      go_wp2
      go_meet
      case rel => exact ⟨_, (decide ((t231.size : Int) > 40)), (by first | rfl | (simp; done) | (simp [*]; done)), H', ⟨by first | omega | exact Nat.le_refl _⟩, ⟨by (with_reducible repeat (first | refine bN_ _ ?_ | refine bd_ ?_ | refine ba_ _ ?_)); refine blk_far ?_ NB230_233.out _; (with_reducible repeat (first | refine bN_ _ ?_ | refine bd_ ?_ | refine ba_ _ ?_)); refine blk_far ?_ NB230_233.out _; (with_reducible repeat (first | refine bN_ _ ?_ | refine bd_ ?_ | refine ba_ _ ?_)); refine blk_far ?_ NB230_233.out _; (with_reducible repeat (first | refine bN_ _ ?_ | refine bd_ ?_ | refine ba_ _ ?_)); exact BK230.out⟩, ⟨by (with_reducible repeat (first | refine bN_ _ ?_ | refine bd_ ?_ | refine ba_ _ ?_)); refine blk_put (cs := #[.bool false, .int .u64 0, .int .u64 0]) ?_ 2 _ rfl; (with_reducible repeat (first | refine bN_ _ ?_ | refine bd_ ?_ | refine ba_ _ ?_)); refine blk_put (cs := #[.bool false, .int .u64 0, .int .u64 0]) ?_ 1 _ rfl; (with_reducible repeat (first | refine bN_ _ ?_ | refine bd_ ?_ | refine ba_ _ ?_)); refine blk_put (cs := #[.bool false, .int .u64 0, .int .u64 0]) ?_ 0 _ rfl; (with_reducible repeat (first | refine bN_ _ ?_ | refine bd_ ?_ | refine ba_ _ ?_)); exact BK233.out⟩, ⟨bel_⟩⟩
  case rest =>
    clear HC3
    try clear c2
    try clear p2
    try clear c6
    try clear c8
    try clear c8b0
    try clear c8b1
    try clear hcz7_0
    try clear hcz7_1
    try clear hcz7_2
    try clear hfz7_0
    try clear hfz7_1
    try clear hfz7_2
    obtain ⟨kq, x22_2, rfl, HA, HJ2, BK230, BK233, HB⟩ := hcut
    cases kq with
    | zero => exact absurd HA.out (by simp [impl_ReadWide.j0])
    | succ kj2 =>
      have H := HA.out
      clear HA
      simp only [impl_ReadWide.j0] at H
      by_cases c9 : x22_2 = true
      · subst c9
        have H1 : (some (false, 0, 0, false)) = some (r1, r2, r3, r4) := by rw [if_pos rfl] at H; exact H
        clear H
        have H := H1
        clear H1
        simp only [Option.some.injEq, Prod.mk.injEq] at H
        obtain ⟨rfl, rfl, rfl, rfl⟩ := H
        have hnb10 := NB233_230.out
        have hnc10 := NB230_233.out
        obtain ⟨hcz11_0, hcz11_1, hcz11_2, hfz11_0, hfz11_1, hfz11_2⟩ := cf3_ (w := wc) BK233.out
        obtain ⟨hcz12_0, hcz12_1, hcz12_2, hfz12_0, hfz12_1, hfz12_2⟩ := cf3_ (w := wc) BK230.out
        go_wp2
        refine bodyPost_ret (results_ct rfl _ _ gb230 28 #[.bool false, .int .u64 0, .int .u64 0] (0, 0) _ rfl (pu_ #[.bool false, .int .u64 0, .int .u64 0] 2 (h := (pu_ #[.bool false, .int .u64 0, .int .u64 0] 1 (h := (pu_ #[.bool false, .int .u64 0, .int .u64 0] 0 (h := bk_)))))) Tryd.underlying28 rfl (by kernel_rfl)) rfl ?_
        exact ⟨rf_, bel_⟩
      · replace c9 := Bool.eq_false_iff.mpr c9
        subst c9
        have H1 : (impl_ReadWide.l0 kj2 a0 t231 t232 (t231.size : Int) 0 false 0 0) = some (r1, r2, r3, r4) := by rw [if_neg (show ¬ (false = true) by decide)] at H; exact H
        clear H
        have H := H1
        clear H1
        have H' := Aside0.mk H
        clear H
        go_wp2
        go_loopg [26] kj2 (fun kq v26 w' => ∃ (x26_2 : Int) (x231000_2 : Bool) (x231001_2 : Int) (x231002_2 : Int) (x234000_2 : Bool) (x234001_2 : Int) (x234002_2 : Int), v26 = .int .i64 x26_2 ∧ Aside0 (impl_ReadWide.l0 kq a0 t231 t232 (t231.size : Int) x26_2 x234000_2 x234001_2 x234002_2 = some (r1, r2, r3, r4)) ∧ Aside0 (kq ≤ kj2) ∧ Aside0 (w'.heap[gb230]? = some (.cells #[.bool x231000_2, .int .u64 x231001_2, .int .u64 x231002_2] 28 (0, 0))) ∧ Aside0 (w'.heap[gb233]? = some (.cells #[.bool x234000_2, .int .u64 x234001_2, .int .u64 x234002_2] 28 (0, 0))) ∧ Aside0 (Below w.heap.size w w'))
        case atStart => exact ⟨(0), (false), (0), (0), (false), (0), (0), (by first | rfl | (simp; done) | (simp [*]; done)), H', ⟨Nat.le_refl _⟩, ⟨by (with_reducible repeat (first | refine bN_ _ ?_ | refine bd_ ?_ | refine ba_ _ ?_)); exact BK230.out⟩, ⟨by (with_reducible repeat (first | refine bN_ _ ?_ | refine bd_ ?_ | refine ba_ _ ?_)); exact BK233.out⟩, ⟨bel_⟩⟩
        case round =>
          clear H'
          try clear c1
          try clear c2
          try clear p2
          try clear c6
          try clear c8
          try clear c8b0
          try clear c8b1
          try clear c9
          try clear c10
          try clear hcz11_0
          try clear hcz11_1
          try clear hcz11_2
          try clear hcz12_0
          try clear hcz12_1
          try clear hcz12_2
          try clear hcz7_0
          try clear hcz7_1
          try clear hcz7_2
          try clear hfz11_0
          try clear hfz11_1
          try clear hfz11_2
          try clear hfz12_0
          try clear hfz12_1
          try clear hfz12_2
          try clear hfz7_0
          try clear hfz7_1
          try clear hfz7_2
          try clear p2
          try clear BK230
          try clear BK233
          obtain ⟨x26_2, x231000_2, x231001_2, x231002_2, x234000_2, x234001_2, x234002_2, rfl, HA, HK2, BK230, BK233, HB⟩ := hrel
          cases gk with
          | zero => exact absurd HA.out (by simp [impl_ReadWide.l0])
          | succ k2 =>
            have H := HA.out
            clear HA
            simp only [impl_ReadWide.l0] at H
            by_cases c13 : x26_2 < (t231.size : Int)
            · rw [if_pos c13] at H
              have c13b0 : decide (x26_2 < (t231.size : Int)) = true := decide_eq_true c13
              clear c13
              by_cases c14 : 0 ≤ x26_2
              · rw [if_pos c14] at H
                have c14b0 : decide (0 ≤ x26_2) = true := decide_eq_true c14
                clear c14
                by_cases c15 : x26_2 < (t231.size : Int)
                · rw [if_pos c15] at H
                  have c15b0 : decide (x26_2 < (t231.size : Int)) = true := decide_eq_true c15
                  clear c15
                  replace H := Option.bind_eq_some_iff.mp H
                  obtain ⟨⟨t234, t235, t236, t237⟩, A170, H⟩ := H
                  replace H : (if t237 = true then (impl_ReadWide.l0 k2 a0 t231 t232 (t231.size : Int) (wrap64 (x26_2 + 1)) t234 t235 t236) else (some (false, 0, 0, false))) = some (r1, r2, r3, r4) := H
                  have A17 := Aside0.mk A170
                  clear A170
                  by_cases c18 : t237 = true
                  · subst c18
                    have H1 : (impl_ReadWide.l0 k2 a0 t231 t232 (t231.size : Int) (wrap64 (x26_2 + 1)) t234 t235 t236) = some (r1, r2, r3, r4) := by rw [if_pos rfl] at H; exact H
                    clear H
                    have H := H1
                    clear H1
                    have H' := Aside0.mk H
                    clear H
                    try go_wp2
                    have n0_ := Aside0.mk (blk_drew BK230.out)
                    have n1_ := Aside0.mk (blk_drew BK233.out)
                    have n2_ := Aside0.mk (below_drew1 HB.out)
                    clear BK230
                    clear BK233
                    clear HB
                    have BK230 := n0_
                    have BK233 := n1_
                    have HB := n2_
                    clear n0_ n1_ n2_
                    have p16 : 0 ≤ (x26_2 : Int) := of_decide_eq_true (by first | (with_reducible assumption) | assumption)
                    have q16 : x26_2 < (t231.size : Int) := of_decide_eq_true (by first | (with_reducible assumption) | assumption)
                    have hx16 := bt_at t231 x26_2
                    replace p16 := eq_true p16
                    replace q16 := eq_true q16
                    refine start_ (n := 13) (S := fun w' => w'.cell? ⟨gb233, 0, none⟩ = some (.bool x234000_2) ∧ w'.cell? ⟨gb233, 1, none⟩ = some (.int .u64 x234001_2) ∧ w'.cell? ⟨gb233, 2, none⟩ = some (.int .u64 x234002_2)) (ds := []) #[false, false, false, false, false, false, false, false, false, false, false, false, false] (by kernel_rfl) rfl rfl ⟨bc_, bc_, bc_⟩ (fun hHeld => ?_); refine with_tabW impl_ReadWide.tab8 impl_ReadWide.bits8 (fun HT_ HW_ => ?_)
                    generalize wr.drew = w19 at BK230 BK233 HB hHeld ⊢
                    refine pure_ (i := 1) (N := some 31) (v := ?_) (a' := ?_) #[false, true, false, false, false, false, false, false, false, false, false, false, false] rfl rfl (any_of HT_.out (by kernel_rfl)) (fun _ _ _ h => h) (Or.inl ⟨by rfl, ?_⟩) ?_ ?_
                    rotate_left
                    · intro w'
                      go_simp
                      with_reducible rfl
                    rotate_left
                    · simp only [Act.put, la_, lb_, lc_, i64_w, i32_w]
                      rfl
                    refine pure_ (i := 2) (N := some 32) (v := ?_) (a' := ?_) #[false, true, true, false, false, false, false, false, false, false, false, false, false] rfl rfl (any_of HT_.out (by kernel_rfl)) (fun _ _ _ h => h) (Or.inl ⟨by rfl, ?_⟩) ?_ ?_
                    rotate_left
                    · intro w'
                      go_simp
                      with_reducible rfl
                    rotate_left
                    · simp only [Act.put, la_, lb_, lc_, i64_w, i32_w]
                      rfl
                    refine take_ (i := 0) (N := some 30) (v := ?_) (a' := ?_) #[true, true, true, false, false, false, false, false, false, false, false, false, false] rfl rfl (take_ofW HT_.out HW_.out (by kernel_rfl)) (fun _ _ _ h => h) (Or.inl ⟨by rfl, ?_⟩) hHeld ?_ ?_
                    rotate_left
                    · rintro w' ⟨s0, s1, s2⟩
                      go_simp
                      with_reducible rfl
                    rotate_left
                    · simp only [Act.put, la_, lb_, lc_, i64_w, i32_w]
                      rfl
                    refine take_ (i := 3) (N := some 33) (v := ?_) (a' := ?_) #[true, true, true, true, false, false, false, false, false, false, false, false, false] rfl rfl (take_ofW HT_.out HW_.out (by kernel_rfl)) (fun _ _ _ h => h) (Or.inl ⟨by rfl, ?_⟩) hHeld ?_ ?_
                    rotate_left
                    · rintro w' ⟨s0, s1, s2⟩
                      go_simp
                      with_reducible rfl
                    rotate_left
                    · simp only [Act.put, la_, lb_, lc_, i64_w, i32_w]
                      rfl
                    refine pure_ (i := 4) (N := some 34) (v := ?_) (a' := ?_) #[true, true, true, true, true, false, false, false, false, false, false, false, false] rfl rfl (any_of HT_.out (by kernel_rfl)) (fun _ _ _ h => h) (Or.inl ⟨by rfl, ?_⟩) ?_ ?_
                    rotate_left
                    · intro w'
                      go_simp
                      with_reducible rfl
                    rotate_left
                    · simp only [Act.put, la_, lb_, lc_, i64_w, i32_w]
                      rfl
                    refine pure_ (i := 5) (N := some 35) (v := ?_) (a' := ?_) #[true, true, true, true, true, true, false, false, false, false, false, false, false] rfl rfl (any_of HT_.out (by kernel_rfl)) (fun _ _ _ h => h) (Or.inl ⟨by rfl, ?_⟩) ?_ ?_
                    rotate_left
                    · intro w'
                      go_simp
                      with_reducible rfl
                    rotate_left
                    · simp only [Act.put, la_, lb_, lc_, i64_w, i32_w]
                      rfl
                    refine join_ (σ := Nat) 2 #[true, true, true, true, true, true, true, true, true, true, true, false, false] (fun s_ => [(36, .tuple #[.agg #[.bool t234, .int .u64 t235, .int .u64 t236], .bool true]), (8, .pointer (some ⟨s_, 0, none⟩)), (29, .tuple #[.agg #[.bool t234, .int .u64 t235, .int .u64 t236], .bool true]), (37, .agg #[.bool t234, .int .u64 t235, .int .u64 t236]), (38, .bool true)]) (fun s_ w' => (w'.cell? ⟨gb233, 0, none⟩ = some (.bool x234000_2) ∧ w'.cell? ⟨gb233, 1, none⟩ = some (.int .u64 x234001_2) ∧ w'.cell? ⟨gb233, 2, none⟩ = some (.int .u64 x234002_2)) ∧ (w'.heap[gb230]? = some (.cells #[.bool x231000_2, .int .u64 x231001_2, .int .u64 x231002_2] 28 (0, 0))) ∧ (w'.heap[gb233]? = some (.cells #[.bool x234000_2, .int .u64 x234001_2, .int .u64 x234002_2] 28 (0, 0))) ∧ (w'.heap[s_]? = some (.cells #[.bool false, .int .u64 0, .int .u64 0] 28 (0, 0))) ∧ (w.heap.size ≤ s_) ∧ (w.heap.size ≤ s_) ∧ (gb230 ≠ s_) ∧ (s_ ≠ gb230) ∧ (gb233 ≠ s_) ∧ (s_ ≠ gb233) ∧ (Below w.heap.size w w')) ?_ ?_
                    rotate_left
                    · intro hCont
                      refine two_ (i := 6) (j := 10) (Ni := some 36) (Nj := some 8) #[true, true, true, true, true, true, true, false, false, false, false, false, false] #[true, true, true, true, true, true, false, false, false, false, true, false, false] rfl rfl rfl rfl (two_of HT_.out (by kernel_rfl)) (by decide) (by decide) (fun K hK => ?_) (fun K hK => ?_)
                      · skip
                        refine goes_ Tryd.func15 (by kernel_rfl) rfl #[.agg #[.bool x234000_2, .int .u64 x234001_2, .int .u64 x234002_2], .int .i64 (wrap64 ((wrap64 (bt t231 x26_2)) - 48))] (by rfl) rfl rfl mp_ ?_
                        with_reducible refine (impl_TenTimes.calls k2 x234000_2 x234001_2 x234002_2 (wrap64 ((wrap64 (bt t231 x26_2)) - 48)) t234 t235 t236 true _ A17.out).mono ?_
                        rintro e w20 ⟨rfl, hb⟩
                        refine ⟨_, rfl, ?_⟩
                        have n0_ := bb_ (g := gb230) hb
                        have n1_ := bb_ (g := gb233) hb
                        have n2_ := Aside0.mk (below_step bel_ hb)
                        clear BK230
                        clear BK233
                        clear HB
                        have BK230 := n0_
                        have BK233 := n1_
                        have HB := n2_
                        clear n0_ n1_ n2_
                        (try clear hb)
                        (try clear hb2)
                        (try clear hk)
                        (try clear hi)
                        refine hK.out _ _ ⟨bc_, bc_, bc_⟩ (fun hHeld => ?_)
                        clear hK K
                        refine norm_ (a' := ?_) ?_ ?_
                        rotate_left
                        · show Act.put _ (some 36) _ = _
                          simp only [Act.put, la_, lb_, lc_, i64_w, i32_w]
                          rfl
                        refine pure_ (i := 7) (N := some 29) (v := ?_) (a' := ?_) #[true, true, true, true, true, true, true, true, false, false, false, false, false] rfl rfl (any_of HT_.out (by kernel_rfl)) (fun _ _ _ h => h) (Or.inl ⟨by rfl, ?_⟩) ?_ ?_
                        rotate_left
                        · intro w'
                          go_simp
                          with_reducible rfl
                        rotate_left
                        · simp only [Act.put, la_, lb_, lc_, i64_w, i32_w]
                          rfl
                        refine pure_ (i := 8) (N := some 37) (v := ?_) (a' := ?_) #[true, true, true, true, true, true, true, true, true, false, false, false, false] rfl rfl (any_of HT_.out (by kernel_rfl)) (fun _ _ _ h => h) (Or.inl ⟨by rfl, ?_⟩) ?_ ?_
                        rotate_left
                        · intro w'
                          go_simp
                          with_reducible rfl
                        rotate_left
                        · simp only [Act.put, la_, lb_, lc_, i64_w, i32_w]
                          rfl
                        refine pure_ (i := 9) (N := some 38) (v := ?_) (a' := ?_) #[true, true, true, true, true, true, true, true, true, true, false, false, false] rfl rfl (any_of HT_.out (by kernel_rfl)) (fun _ _ _ h => h) (Or.inl ⟨by rfl, ?_⟩) ?_ ?_
                        rotate_left
                        · intro w'
                          go_simp
                          with_reducible rfl
                        rotate_left
                        · simp only [Act.put, la_, lb_, lc_, i64_w, i32_w]
                          rfl
                        refine one_ (i := 10) (N := some 8) #[true, true, true, true, true, true, true, true, true, true, true, false, false] rfl rfl (one_of HT_.out (by kernel_rfl)) (by decide) (fun K hK => ?_)
                        refine box_step ?hg (N := 8) ?hd (cs := #[.bool false, .int .u64 0, .int .u64 0]) (t := 28) ?hr ?_; (case hd => rfl); (case hg => rfl); (case hr => first | (go_simp; done) | (go_simp; rfl))
                        intro gb238 hg w21 hbox hb
                        have n0_ := bb_ (g := gb230) hb
                        have n1_ := bb_ (g := gb233) hb
                        have n2_ := Aside0.mk (below_step bel_ hb)
                        have n3_ := Aside0.mk (hbox)
                        have n4_ := bs_ (w := w) hg
                        have n5_ := bs_ (w := w) hg
                        have n6_ := nlt_ (g := gb230) hg
                        have n7_ := ngt_ (g := gb230) hg
                        have n8_ := nlt_ (g := gb233) hg
                        have n9_ := ngt_ (g := gb233) hg
                        clear BK230
                        clear BK233
                        clear HB
                        have BK230 := n0_
                        have BK233 := n1_
                        have HB := n2_
                        have BK238 := n3_
                        have GW238 := n4_
                        have GE238 := n5_
                        have NB230_238 := n6_
                        have NB238_230 := n7_
                        have NB233_238 := n8_
                        have NB238_233 := n9_
                        clear n0_ n1_ n2_ n3_ n4_ n5_ n6_ n7_ n8_ n9_
                        clear hb hbox hg
                        refine hK.out _ _ ⟨bc_, bc_, bc_⟩ (fun hHeld => ?_)
                        clear hK K
                        refine norm_ (a' := ?_) ?_ ?_
                        rotate_left
                        · show Act.put _ (some 8) _ = _
                          simp only [Act.put, la_, lb_, lc_, i64_w, i32_w]
                          rfl
                        exact norm_ (by simp only [putAll, Act.put, la_, lb_, lc_]) (hCont (gb238) _ ⟨hHeld, bk_, bk_, bk_, GW238.out, GE238.out, NB230_238.out, NB238_230.out, NB233_238.out, NB238_233.out, bel_⟩)
                      · skip
                        refine box_step ?hg (N := 8) ?hd (cs := #[.bool false, .int .u64 0, .int .u64 0]) (t := 28) ?hr ?_; (case hd => rfl); (case hg => rfl); (case hr => first | (go_simp; done) | (go_simp; rfl))
                        intro gb238 hg w20 hbox hb
                        have n0_ := bb_ (g := gb230) hb
                        have n1_ := bb_ (g := gb233) hb
                        have n2_ := Aside0.mk (below_step bel_ hb)
                        have n3_ := Aside0.mk (hbox)
                        have n4_ := bs_ (w := w) hg
                        have n5_ := bs_ (w := w) hg
                        have n6_ := nlt_ (g := gb230) hg
                        have n7_ := ngt_ (g := gb230) hg
                        have n8_ := nlt_ (g := gb233) hg
                        have n9_ := ngt_ (g := gb233) hg
                        clear BK230
                        clear BK233
                        clear HB
                        have BK230 := n0_
                        have BK233 := n1_
                        have HB := n2_
                        have BK238 := n3_
                        have GW238 := n4_
                        have GE238 := n5_
                        have NB230_238 := n6_
                        have NB238_230 := n7_
                        have NB233_238 := n8_
                        have NB238_233 := n9_
                        clear n0_ n1_ n2_ n3_ n4_ n5_ n6_ n7_ n8_ n9_
                        clear hb hbox hg
                        refine hK.out _ _ ⟨bc_, bc_, bc_⟩ (fun hHeld => ?_)
                        clear hK K
                        refine norm_ (a' := ?_) ?_ ?_
                        rotate_left
                        · show Act.put _ (some 8) _ = _
                          simp only [Act.put, la_, lb_, lc_, i64_w, i32_w]
                          rfl
                        refine one_ (i := 6) (N := some 36) #[true, true, true, true, true, true, true, false, false, false, true, false, false] rfl rfl (one_of HT_.out (by kernel_rfl)) (by decide) (fun K hK => ?_)
                        refine goes_ Tryd.func15 (by kernel_rfl) rfl #[.agg #[.bool x234000_2, .int .u64 x234001_2, .int .u64 x234002_2], .int .i64 (wrap64 ((wrap64 (bt t231 x26_2)) - 48))] (by rfl) rfl rfl mp_ ?_
                        with_reducible refine (impl_TenTimes.calls k2 x234000_2 x234001_2 x234002_2 (wrap64 ((wrap64 (bt t231 x26_2)) - 48)) t234 t235 t236 true _ A17.out).mono ?_
                        rintro e w21 ⟨rfl, hb⟩
                        refine ⟨_, rfl, ?_⟩
                        have n0_ := bb_ (g := gb230) hb
                        have n1_ := bb_ (g := gb233) hb
                        have n2_ := bb_ (g := gb238) hb
                        have n3_ := Aside0.mk (below_step bel_ hb)
                        clear BK230
                        clear BK233
                        clear BK238
                        clear HB
                        have BK230 := n0_
                        have BK233 := n1_
                        have BK238 := n2_
                        have HB := n3_
                        clear n0_ n1_ n2_ n3_
                        (try clear hb)
                        (try clear hb2)
                        (try clear hk)
                        (try clear hi)
                        refine hK.out _ _ ⟨bc_, bc_, bc_⟩ (fun hHeld => ?_)
                        clear hK K
                        refine norm_ (a' := ?_) ?_ ?_
                        rotate_left
                        · show Act.put _ (some 36) _ = _
                          simp only [Act.put, la_, lb_, lc_, i64_w, i32_w]
                          rfl
                        refine pure_ (i := 7) (N := some 29) (v := ?_) (a' := ?_) #[true, true, true, true, true, true, true, true, false, false, true, false, false] rfl rfl (any_of HT_.out (by kernel_rfl)) (fun _ _ _ h => h) (Or.inl ⟨by rfl, ?_⟩) ?_ ?_
                        rotate_left
                        · intro w'
                          go_simp
                          with_reducible rfl
                        rotate_left
                        · simp only [Act.put, la_, lb_, lc_, i64_w, i32_w]
                          rfl
                        refine pure_ (i := 8) (N := some 37) (v := ?_) (a' := ?_) #[true, true, true, true, true, true, true, true, true, false, true, false, false] rfl rfl (any_of HT_.out (by kernel_rfl)) (fun _ _ _ h => h) (Or.inl ⟨by rfl, ?_⟩) ?_ ?_
                        rotate_left
                        · intro w'
                          go_simp
                          with_reducible rfl
                        rotate_left
                        · simp only [Act.put, la_, lb_, lc_, i64_w, i32_w]
                          rfl
                        refine pure_ (i := 9) (N := some 38) (v := ?_) (a' := ?_) #[true, true, true, true, true, true, true, true, true, true, true, false, false] rfl rfl (any_of HT_.out (by kernel_rfl)) (fun _ _ _ h => h) (Or.inl ⟨by rfl, ?_⟩) ?_ ?_
                        rotate_left
                        · intro w'
                          go_simp
                          with_reducible rfl
                        rotate_left
                        · simp only [Act.put, la_, lb_, lc_, i64_w, i32_w]
                          rfl
                        exact norm_ (by simp only [putAll, Act.put, la_, lb_, lc_]) (hCont (gb238) _ ⟨hHeld, bk_, bk_, bk_, GW238.out, GE238.out, NB230_238.out, NB238_230.out, NB233_238.out, NB238_233.out, bel_⟩)
                    rintro gb238 w22 ⟨hS_, h0_, h1_, h2_, h3_, h4_, h5_, h6_, h7_, h8_, h9_⟩
                    have n0_ : Aside0 (w22.heap[gb230]? = some (.cells #[.bool x231000_2, .int .u64 x231001_2, .int .u64 x231002_2] 28 (0, 0))) := ⟨h0_⟩
                    have n1_ : Aside0 (w22.heap[gb233]? = some (.cells #[.bool x234000_2, .int .u64 x234001_2, .int .u64 x234002_2] 28 (0, 0))) := ⟨h1_⟩
                    have n2_ : Aside0 (w22.heap[gb238]? = some (.cells #[.bool false, .int .u64 0, .int .u64 0] 28 (0, 0))) := ⟨h2_⟩
                    have n3_ : Aside0 (w.heap.size ≤ gb238) := ⟨h3_⟩
                    have n4_ : Aside0 (w.heap.size ≤ gb238) := ⟨h4_⟩
                    have n5_ : Aside0 (gb230 ≠ gb238) := ⟨h5_⟩
                    have n6_ : Aside0 (gb238 ≠ gb230) := ⟨h6_⟩
                    have n7_ : Aside0 (gb233 ≠ gb238) := ⟨h7_⟩
                    have n8_ : Aside0 (gb238 ≠ gb233) := ⟨h8_⟩
                    have n9_ : Aside0 (Below w.heap.size w w22) := ⟨h9_⟩
                    clear BK230
                    clear BK233
                    clear HB
                    clear h0_ h1_ h2_ h3_ h4_ h5_ h6_ h7_ h8_ h9_
                    have BK230 := n0_
                    have BK233 := n1_
                    have BK238 := n2_
                    have GW238 := n3_
                    have GE238 := n4_
                    have NB230_238 := n5_
                    have NB238_230 := n6_
                    have NB233_238 := n7_
                    have NB238_233 := n8_
                    have HB := n9_
                    clear n0_ n1_ n2_ n3_ n4_ n5_ n6_ n7_ n8_ n9_
                    have hHeld : w22.cell? ⟨gb233, 0, none⟩ = some (.bool x234000_2) ∧ w22.cell? ⟨gb233, 1, none⟩ = some (.int .u64 x234001_2) ∧ w22.cell? ⟨gb233, 2, none⟩ = some (.int .u64 x234002_2) := hS_
                    refine norm_ (a' := ?_) ?_ ?_
                    rotate_left
                    · simp only [putAll, Act.put, la_, lb_, lc_]
                      rfl
                    refine one_ (i := 11) (N := none) #[true, true, true, true, true, true, true, true, true, true, true, true, false] rfl rfl (one_of HT_.out (by kernel_rfl)) (by decide) (fun K hK => ?_)
                    have hs23 : w22.cell? ⟨gb238, 0, none⟩ = some (.bool false) := (blk_cell BK238.out 0).trans rfl
                    have hfs23 := blk_frozen BK238.out 0
                    have hns23_0 := NB230_238.out
                    have hns23_1 := NB233_238.out
                    have hms23_0 := NB238_230.out
                    have hms23_1 := NB238_233.out
                    have hs24 : w22.cell? ⟨gb238, 1, none⟩ = some (.int .u64 0) := (blk_cell BK238.out 1).trans rfl
                    have hfs24 := blk_frozen BK238.out 1
                    have hns24_0 := NB230_238.out
                    have hns24_1 := NB233_238.out
                    have hms24_0 := NB238_230.out
                    have hms24_1 := NB238_233.out
                    have hs25 : w22.cell? ⟨gb238, 2, none⟩ = some (.int .u64 0) := (blk_cell BK238.out 2).trans rfl
                    have hfs25 := blk_frozen BK238.out 2
                    have hns25_0 := NB230_238.out
                    have hns25_1 := NB233_238.out
                    have hms25_0 := NB238_230.out
                    have hms25_1 := NB238_233.out
                    refine skip_ (w1 := ?_) ?_ ?_ ?_ ?_
                    rotate_left
                    · rfl
                    · rfl
                    · go_simp
                      rfl
                    refine hK.out _ _ ⟨(cfar_ hHeld.1), (cfar_ hHeld.2.1), (cfar_ hHeld.2.2)⟩ (fun hHeld => ?_)
                    clear hK K
                    refine pure_ (i := 12) (N := some 9) (v := ?_) (a' := ?_) #[true, true, true, true, true, true, true, true, true, true, true, true, true] rfl rfl (any_of HT_.out (by kernel_rfl)) (fun _ _ _ h => h) (Or.inl ⟨by rfl, ?_⟩) ?_ ?_
                    rotate_left
                    · intro w'
                      go_simp
                      with_reducible rfl
                    rotate_left
                    · simp only [Act.put, la_, lb_, lc_, i64_w, i32_w]
                      rfl
                    refine done_ (done_of HT_.out (by kernel_rfl)) ?_
                    have hnb26 := NB238_230.out
                    have hnc26 := NB230_238.out
                    have hnb27 := NB238_233.out
                    have hnc27 := NB233_238.out
                    obtain ⟨hcz28_0, hcz28_1, hcz28_2, hfz28_0, hfz28_1, hfz28_2⟩ := cf3_ (w := w22) BK238.out
                    have hnb29 := NB233_230.out
                    have hnc29 := NB230_233.out
                    obtain ⟨hcz30_0, hcz30_1, hcz30_2, hfz30_0, hfz30_1, hfz30_2⟩ := cf3_ (w := w22) BK233.out
                    try go_wp2
                    go_roundg k2
                    case measure => have := HJ2.out; have := HK2.out; omega
                    case rel => exact ⟨(wrap64 (x26_2 + 1)), (x231000_2), (x231001_2), (x231002_2), (t234), (t235), (t236), (by first | rfl | (simp; done) | (simp [*]; done)), H', ⟨by have := HJ2.out; have := HK2.out; omega⟩, ⟨by (with_reducible repeat (first | refine bN_ _ ?_ | refine bd_ ?_ | refine ba_ _ ?_)); refine blk_far ?_ NB230_233.out _; (with_reducible repeat (first | refine bN_ _ ?_ | refine bd_ ?_ | refine ba_ _ ?_)); refine blk_far ?_ NB230_233.out _; (with_reducible repeat (first | refine bN_ _ ?_ | refine bd_ ?_ | refine ba_ _ ?_)); refine blk_far ?_ NB230_233.out _; (with_reducible repeat (first | refine bN_ _ ?_ | refine bd_ ?_ | refine ba_ _ ?_)); refine blk_far ?_ NB230_238.out _; (with_reducible repeat (first | refine bN_ _ ?_ | refine bd_ ?_ | refine ba_ _ ?_)); refine blk_far ?_ NB230_238.out _; (with_reducible repeat (first | refine bN_ _ ?_ | refine bd_ ?_ | refine ba_ _ ?_)); refine blk_far ?_ NB230_238.out _; (with_reducible repeat (first | refine bN_ _ ?_ | refine bd_ ?_ | refine ba_ _ ?_)); exact BK230.out⟩, ⟨by (with_reducible repeat (first | refine bN_ _ ?_ | refine bd_ ?_ | refine ba_ _ ?_)); refine blk_put (cs := #[.bool t234, .int .u64 t235, .int .u64 x234002_2]) ?_ 2 _ rfl; (with_reducible repeat (first | refine bN_ _ ?_ | refine bd_ ?_ | refine ba_ _ ?_)); refine blk_put (cs := #[.bool t234, .int .u64 x234001_2, .int .u64 x234002_2]) ?_ 1 _ rfl; (with_reducible repeat (first | refine bN_ _ ?_ | refine bd_ ?_ | refine ba_ _ ?_)); refine blk_put (cs := #[.bool x234000_2, .int .u64 x234001_2, .int .u64 x234002_2]) ?_ 0 _ rfl; (with_reducible repeat (first | refine bN_ _ ?_ | refine bd_ ?_ | refine ba_ _ ?_)); refine blk_far ?_ NB233_238.out _; (with_reducible repeat (first | refine bN_ _ ?_ | refine bd_ ?_ | refine ba_ _ ?_)); refine blk_far ?_ NB233_238.out _; (with_reducible repeat (first | refine bN_ _ ?_ | refine bd_ ?_ | refine ba_ _ ?_)); refine blk_far ?_ NB233_238.out _; (with_reducible repeat (first | refine bN_ _ ?_ | refine bd_ ?_ | refine ba_ _ ?_)); exact BK233.out⟩, ⟨bel_⟩⟩
                  · replace c18 := Bool.eq_false_iff.mpr c18
                    subst c18
                    have H1 : (some (false, 0, 0, false)) = some (r1, r2, r3, r4) := by rw [if_neg (show ¬ (false = true) by decide)] at H; exact H
                    clear H
                    have H := H1
                    clear H1
                    simp only [Option.some.injEq, Prod.mk.injEq] at H
                    obtain ⟨rfl, rfl, rfl, rfl⟩ := H
                    try go_wp2
                    have n0_ := Aside0.mk (blk_drew BK230.out)
                    have n1_ := Aside0.mk (blk_drew BK233.out)
                    have n2_ := Aside0.mk (below_drew1 HB.out)
                    clear BK230
                    clear BK233
                    clear HB
                    have BK230 := n0_
                    have BK233 := n1_
                    have HB := n2_
                    clear n0_ n1_ n2_
                    have p16 : 0 ≤ (x26_2 : Int) := of_decide_eq_true (by first | (with_reducible assumption) | assumption)
                    have q16 : x26_2 < (t231.size : Int) := of_decide_eq_true (by first | (with_reducible assumption) | assumption)
                    have hx16 := bt_at t231 x26_2
                    replace p16 := eq_true p16
                    replace q16 := eq_true q16
                    refine start_ (n := 13) (S := fun w' => w'.cell? ⟨gb233, 0, none⟩ = some (.bool x234000_2) ∧ w'.cell? ⟨gb233, 1, none⟩ = some (.int .u64 x234001_2) ∧ w'.cell? ⟨gb233, 2, none⟩ = some (.int .u64 x234002_2)) (ds := []) #[false, false, false, false, false, false, false, false, false, false, false, false, false] (by kernel_rfl) rfl rfl ⟨bc_, bc_, bc_⟩ (fun hHeld => ?_); refine with_tabW impl_ReadWide.tab8 impl_ReadWide.bits8 (fun HT_ HW_ => ?_)
                    generalize wr.drew = w31 at BK230 BK233 HB hHeld ⊢
                    refine pure_ (i := 1) (N := some 31) (v := ?_) (a' := ?_) #[false, true, false, false, false, false, false, false, false, false, false, false, false] rfl rfl (any_of HT_.out (by kernel_rfl)) (fun _ _ _ h => h) (Or.inl ⟨by rfl, ?_⟩) ?_ ?_
                    rotate_left
                    · intro w'
                      go_simp
                      with_reducible rfl
                    rotate_left
                    · simp only [Act.put, la_, lb_, lc_, i64_w, i32_w]
                      rfl
                    refine pure_ (i := 2) (N := some 32) (v := ?_) (a' := ?_) #[false, true, true, false, false, false, false, false, false, false, false, false, false] rfl rfl (any_of HT_.out (by kernel_rfl)) (fun _ _ _ h => h) (Or.inl ⟨by rfl, ?_⟩) ?_ ?_
                    rotate_left
                    · intro w'
                      go_simp
                      with_reducible rfl
                    rotate_left
                    · simp only [Act.put, la_, lb_, lc_, i64_w, i32_w]
                      rfl
                    refine take_ (i := 0) (N := some 30) (v := ?_) (a' := ?_) #[true, true, true, false, false, false, false, false, false, false, false, false, false] rfl rfl (take_ofW HT_.out HW_.out (by kernel_rfl)) (fun _ _ _ h => h) (Or.inl ⟨by rfl, ?_⟩) hHeld ?_ ?_
                    rotate_left
                    · rintro w' ⟨s0, s1, s2⟩
                      go_simp
                      with_reducible rfl
                    rotate_left
                    · simp only [Act.put, la_, lb_, lc_, i64_w, i32_w]
                      rfl
                    refine take_ (i := 3) (N := some 33) (v := ?_) (a' := ?_) #[true, true, true, true, false, false, false, false, false, false, false, false, false] rfl rfl (take_ofW HT_.out HW_.out (by kernel_rfl)) (fun _ _ _ h => h) (Or.inl ⟨by rfl, ?_⟩) hHeld ?_ ?_
                    rotate_left
                    · rintro w' ⟨s0, s1, s2⟩
                      go_simp
                      with_reducible rfl
                    rotate_left
                    · simp only [Act.put, la_, lb_, lc_, i64_w, i32_w]
                      rfl
                    refine pure_ (i := 4) (N := some 34) (v := ?_) (a' := ?_) #[true, true, true, true, true, false, false, false, false, false, false, false, false] rfl rfl (any_of HT_.out (by kernel_rfl)) (fun _ _ _ h => h) (Or.inl ⟨by rfl, ?_⟩) ?_ ?_
                    rotate_left
                    · intro w'
                      go_simp
                      with_reducible rfl
                    rotate_left
                    · simp only [Act.put, la_, lb_, lc_, i64_w, i32_w]
                      rfl
                    refine pure_ (i := 5) (N := some 35) (v := ?_) (a' := ?_) #[true, true, true, true, true, true, false, false, false, false, false, false, false] rfl rfl (any_of HT_.out (by kernel_rfl)) (fun _ _ _ h => h) (Or.inl ⟨by rfl, ?_⟩) ?_ ?_
                    rotate_left
                    · intro w'
                      go_simp
                      with_reducible rfl
                    rotate_left
                    · simp only [Act.put, la_, lb_, lc_, i64_w, i32_w]
                      rfl
                    refine join_ (σ := Nat) 2 #[true, true, true, true, true, true, true, true, true, true, true, false, false] (fun s_ => [(36, .tuple #[.agg #[.bool t234, .int .u64 t235, .int .u64 t236], .bool false]), (8, .pointer (some ⟨s_, 0, none⟩)), (29, .tuple #[.agg #[.bool t234, .int .u64 t235, .int .u64 t236], .bool false]), (37, .agg #[.bool t234, .int .u64 t235, .int .u64 t236]), (38, .bool false)]) (fun s_ w' => (w'.cell? ⟨gb233, 0, none⟩ = some (.bool x234000_2) ∧ w'.cell? ⟨gb233, 1, none⟩ = some (.int .u64 x234001_2) ∧ w'.cell? ⟨gb233, 2, none⟩ = some (.int .u64 x234002_2)) ∧ (w'.heap[gb230]? = some (.cells #[.bool x231000_2, .int .u64 x231001_2, .int .u64 x231002_2] 28 (0, 0))) ∧ (w'.heap[gb233]? = some (.cells #[.bool x234000_2, .int .u64 x234001_2, .int .u64 x234002_2] 28 (0, 0))) ∧ (w'.heap[s_]? = some (.cells #[.bool false, .int .u64 0, .int .u64 0] 28 (0, 0))) ∧ (w.heap.size ≤ s_) ∧ (w.heap.size ≤ s_) ∧ (gb230 ≠ s_) ∧ (s_ ≠ gb230) ∧ (gb233 ≠ s_) ∧ (s_ ≠ gb233) ∧ (Below w.heap.size w w')) ?_ ?_
                    rotate_left
                    · intro hCont
                      refine two_ (i := 6) (j := 10) (Ni := some 36) (Nj := some 8) #[true, true, true, true, true, true, true, false, false, false, false, false, false] #[true, true, true, true, true, true, false, false, false, false, true, false, false] rfl rfl rfl rfl (two_of HT_.out (by kernel_rfl)) (by decide) (by decide) (fun K hK => ?_) (fun K hK => ?_)
                      · skip
                        refine goes_ Tryd.func15 (by kernel_rfl) rfl #[.agg #[.bool x234000_2, .int .u64 x234001_2, .int .u64 x234002_2], .int .i64 (wrap64 ((wrap64 (bt t231 x26_2)) - 48))] (by rfl) rfl rfl mp_ ?_
                        with_reducible refine (impl_TenTimes.calls k2 x234000_2 x234001_2 x234002_2 (wrap64 ((wrap64 (bt t231 x26_2)) - 48)) t234 t235 t236 false _ A17.out).mono ?_
                        rintro e w32 ⟨rfl, hb⟩
                        refine ⟨_, rfl, ?_⟩
                        have n0_ := bb_ (g := gb230) hb
                        have n1_ := bb_ (g := gb233) hb
                        have n2_ := Aside0.mk (below_step bel_ hb)
                        clear BK230
                        clear BK233
                        clear HB
                        have BK230 := n0_
                        have BK233 := n1_
                        have HB := n2_
                        clear n0_ n1_ n2_
                        (try clear hb)
                        (try clear hb2)
                        (try clear hk)
                        (try clear hi)
                        refine hK.out _ _ ⟨bc_, bc_, bc_⟩ (fun hHeld => ?_)
                        clear hK K
                        refine norm_ (a' := ?_) ?_ ?_
                        rotate_left
                        · show Act.put _ (some 36) _ = _
                          simp only [Act.put, la_, lb_, lc_, i64_w, i32_w]
                          rfl
                        refine pure_ (i := 7) (N := some 29) (v := ?_) (a' := ?_) #[true, true, true, true, true, true, true, true, false, false, false, false, false] rfl rfl (any_of HT_.out (by kernel_rfl)) (fun _ _ _ h => h) (Or.inl ⟨by rfl, ?_⟩) ?_ ?_
                        rotate_left
                        · intro w'
                          go_simp
                          with_reducible rfl
                        rotate_left
                        · simp only [Act.put, la_, lb_, lc_, i64_w, i32_w]
                          rfl
                        refine pure_ (i := 8) (N := some 37) (v := ?_) (a' := ?_) #[true, true, true, true, true, true, true, true, true, false, false, false, false] rfl rfl (any_of HT_.out (by kernel_rfl)) (fun _ _ _ h => h) (Or.inl ⟨by rfl, ?_⟩) ?_ ?_
                        rotate_left
                        · intro w'
                          go_simp
                          with_reducible rfl
                        rotate_left
                        · simp only [Act.put, la_, lb_, lc_, i64_w, i32_w]
                          rfl
                        refine pure_ (i := 9) (N := some 38) (v := ?_) (a' := ?_) #[true, true, true, true, true, true, true, true, true, true, false, false, false] rfl rfl (any_of HT_.out (by kernel_rfl)) (fun _ _ _ h => h) (Or.inl ⟨by rfl, ?_⟩) ?_ ?_
                        rotate_left
                        · intro w'
                          go_simp
                          with_reducible rfl
                        rotate_left
                        · simp only [Act.put, la_, lb_, lc_, i64_w, i32_w]
                          rfl
                        refine one_ (i := 10) (N := some 8) #[true, true, true, true, true, true, true, true, true, true, true, false, false] rfl rfl (one_of HT_.out (by kernel_rfl)) (by decide) (fun K hK => ?_)
                        refine box_step ?hg (N := 8) ?hd (cs := #[.bool false, .int .u64 0, .int .u64 0]) (t := 28) ?hr ?_; (case hd => rfl); (case hg => rfl); (case hr => first | (go_simp; done) | (go_simp; rfl))
                        intro gb238 hg w33 hbox hb
                        have n0_ := bb_ (g := gb230) hb
                        have n1_ := bb_ (g := gb233) hb
                        have n2_ := Aside0.mk (below_step bel_ hb)
                        have n3_ := Aside0.mk (hbox)
                        have n4_ := bs_ (w := w) hg
                        have n5_ := bs_ (w := w) hg
                        have n6_ := nlt_ (g := gb230) hg
                        have n7_ := ngt_ (g := gb230) hg
                        have n8_ := nlt_ (g := gb233) hg
                        have n9_ := ngt_ (g := gb233) hg
                        clear BK230
                        clear BK233
                        clear HB
                        have BK230 := n0_
                        have BK233 := n1_
                        have HB := n2_
                        have BK238 := n3_
                        have GW238 := n4_
                        have GE238 := n5_
                        have NB230_238 := n6_
                        have NB238_230 := n7_
                        have NB233_238 := n8_
                        have NB238_233 := n9_
                        clear n0_ n1_ n2_ n3_ n4_ n5_ n6_ n7_ n8_ n9_
                        clear hb hbox hg
                        refine hK.out _ _ ⟨bc_, bc_, bc_⟩ (fun hHeld => ?_)
                        clear hK K
                        refine norm_ (a' := ?_) ?_ ?_
                        rotate_left
                        · show Act.put _ (some 8) _ = _
                          simp only [Act.put, la_, lb_, lc_, i64_w, i32_w]
                          rfl
                        exact norm_ (by simp only [putAll, Act.put, la_, lb_, lc_]) (hCont (gb238) _ ⟨hHeld, bk_, bk_, bk_, GW238.out, GE238.out, NB230_238.out, NB238_230.out, NB233_238.out, NB238_233.out, bel_⟩)
                      · skip
                        refine box_step ?hg (N := 8) ?hd (cs := #[.bool false, .int .u64 0, .int .u64 0]) (t := 28) ?hr ?_; (case hd => rfl); (case hg => rfl); (case hr => first | (go_simp; done) | (go_simp; rfl))
                        intro gb238 hg w32 hbox hb
                        have n0_ := bb_ (g := gb230) hb
                        have n1_ := bb_ (g := gb233) hb
                        have n2_ := Aside0.mk (below_step bel_ hb)
                        have n3_ := Aside0.mk (hbox)
                        have n4_ := bs_ (w := w) hg
                        have n5_ := bs_ (w := w) hg
                        have n6_ := nlt_ (g := gb230) hg
                        have n7_ := ngt_ (g := gb230) hg
                        have n8_ := nlt_ (g := gb233) hg
                        have n9_ := ngt_ (g := gb233) hg
                        clear BK230
                        clear BK233
                        clear HB
                        have BK230 := n0_
                        have BK233 := n1_
                        have HB := n2_
                        have BK238 := n3_
                        have GW238 := n4_
                        have GE238 := n5_
                        have NB230_238 := n6_
                        have NB238_230 := n7_
                        have NB233_238 := n8_
                        have NB238_233 := n9_
                        clear n0_ n1_ n2_ n3_ n4_ n5_ n6_ n7_ n8_ n9_
                        clear hb hbox hg
                        refine hK.out _ _ ⟨bc_, bc_, bc_⟩ (fun hHeld => ?_)
                        clear hK K
                        refine norm_ (a' := ?_) ?_ ?_
                        rotate_left
                        · show Act.put _ (some 8) _ = _
                          simp only [Act.put, la_, lb_, lc_, i64_w, i32_w]
                          rfl
                        refine one_ (i := 6) (N := some 36) #[true, true, true, true, true, true, true, false, false, false, true, false, false] rfl rfl (one_of HT_.out (by kernel_rfl)) (by decide) (fun K hK => ?_)
                        refine goes_ Tryd.func15 (by kernel_rfl) rfl #[.agg #[.bool x234000_2, .int .u64 x234001_2, .int .u64 x234002_2], .int .i64 (wrap64 ((wrap64 (bt t231 x26_2)) - 48))] (by rfl) rfl rfl mp_ ?_
                        with_reducible refine (impl_TenTimes.calls k2 x234000_2 x234001_2 x234002_2 (wrap64 ((wrap64 (bt t231 x26_2)) - 48)) t234 t235 t236 false _ A17.out).mono ?_
                        rintro e w33 ⟨rfl, hb⟩
                        refine ⟨_, rfl, ?_⟩
                        have n0_ := bb_ (g := gb230) hb
                        have n1_ := bb_ (g := gb233) hb
                        have n2_ := bb_ (g := gb238) hb
                        have n3_ := Aside0.mk (below_step bel_ hb)
                        clear BK230
                        clear BK233
                        clear BK238
                        clear HB
                        have BK230 := n0_
                        have BK233 := n1_
                        have BK238 := n2_
                        have HB := n3_
                        clear n0_ n1_ n2_ n3_
                        (try clear hb)
                        (try clear hb2)
                        (try clear hk)
                        (try clear hi)
                        refine hK.out _ _ ⟨bc_, bc_, bc_⟩ (fun hHeld => ?_)
                        clear hK K
                        refine norm_ (a' := ?_) ?_ ?_
                        rotate_left
                        · show Act.put _ (some 36) _ = _
                          simp only [Act.put, la_, lb_, lc_, i64_w, i32_w]
                          rfl
                        refine pure_ (i := 7) (N := some 29) (v := ?_) (a' := ?_) #[true, true, true, true, true, true, true, true, false, false, true, false, false] rfl rfl (any_of HT_.out (by kernel_rfl)) (fun _ _ _ h => h) (Or.inl ⟨by rfl, ?_⟩) ?_ ?_
                        rotate_left
                        · intro w'
                          go_simp
                          with_reducible rfl
                        rotate_left
                        · simp only [Act.put, la_, lb_, lc_, i64_w, i32_w]
                          rfl
                        refine pure_ (i := 8) (N := some 37) (v := ?_) (a' := ?_) #[true, true, true, true, true, true, true, true, true, false, true, false, false] rfl rfl (any_of HT_.out (by kernel_rfl)) (fun _ _ _ h => h) (Or.inl ⟨by rfl, ?_⟩) ?_ ?_
                        rotate_left
                        · intro w'
                          go_simp
                          with_reducible rfl
                        rotate_left
                        · simp only [Act.put, la_, lb_, lc_, i64_w, i32_w]
                          rfl
                        refine pure_ (i := 9) (N := some 38) (v := ?_) (a' := ?_) #[true, true, true, true, true, true, true, true, true, true, true, false, false] rfl rfl (any_of HT_.out (by kernel_rfl)) (fun _ _ _ h => h) (Or.inl ⟨by rfl, ?_⟩) ?_ ?_
                        rotate_left
                        · intro w'
                          go_simp
                          with_reducible rfl
                        rotate_left
                        · simp only [Act.put, la_, lb_, lc_, i64_w, i32_w]
                          rfl
                        exact norm_ (by simp only [putAll, Act.put, la_, lb_, lc_]) (hCont (gb238) _ ⟨hHeld, bk_, bk_, bk_, GW238.out, GE238.out, NB230_238.out, NB238_230.out, NB233_238.out, NB238_233.out, bel_⟩)
                    rintro gb238 w34 ⟨hS_, h0_, h1_, h2_, h3_, h4_, h5_, h6_, h7_, h8_, h9_⟩
                    have n0_ : Aside0 (w34.heap[gb230]? = some (.cells #[.bool x231000_2, .int .u64 x231001_2, .int .u64 x231002_2] 28 (0, 0))) := ⟨h0_⟩
                    have n1_ : Aside0 (w34.heap[gb233]? = some (.cells #[.bool x234000_2, .int .u64 x234001_2, .int .u64 x234002_2] 28 (0, 0))) := ⟨h1_⟩
                    have n2_ : Aside0 (w34.heap[gb238]? = some (.cells #[.bool false, .int .u64 0, .int .u64 0] 28 (0, 0))) := ⟨h2_⟩
                    have n3_ : Aside0 (w.heap.size ≤ gb238) := ⟨h3_⟩
                    have n4_ : Aside0 (w.heap.size ≤ gb238) := ⟨h4_⟩
                    have n5_ : Aside0 (gb230 ≠ gb238) := ⟨h5_⟩
                    have n6_ : Aside0 (gb238 ≠ gb230) := ⟨h6_⟩
                    have n7_ : Aside0 (gb233 ≠ gb238) := ⟨h7_⟩
                    have n8_ : Aside0 (gb238 ≠ gb233) := ⟨h8_⟩
                    have n9_ : Aside0 (Below w.heap.size w w34) := ⟨h9_⟩
                    clear BK230
                    clear BK233
                    clear HB
                    clear h0_ h1_ h2_ h3_ h4_ h5_ h6_ h7_ h8_ h9_
                    have BK230 := n0_
                    have BK233 := n1_
                    have BK238 := n2_
                    have GW238 := n3_
                    have GE238 := n4_
                    have NB230_238 := n5_
                    have NB238_230 := n6_
                    have NB233_238 := n7_
                    have NB238_233 := n8_
                    have HB := n9_
                    clear n0_ n1_ n2_ n3_ n4_ n5_ n6_ n7_ n8_ n9_
                    have hHeld : w34.cell? ⟨gb233, 0, none⟩ = some (.bool x234000_2) ∧ w34.cell? ⟨gb233, 1, none⟩ = some (.int .u64 x234001_2) ∧ w34.cell? ⟨gb233, 2, none⟩ = some (.int .u64 x234002_2) := hS_
                    refine norm_ (a' := ?_) ?_ ?_
                    rotate_left
                    · simp only [putAll, Act.put, la_, lb_, lc_]
                      rfl
                    refine one_ (i := 11) (N := none) #[true, true, true, true, true, true, true, true, true, true, true, true, false] rfl rfl (one_of HT_.out (by kernel_rfl)) (by decide) (fun K hK => ?_)
                    have hs35 : w34.cell? ⟨gb238, 0, none⟩ = some (.bool false) := (blk_cell BK238.out 0).trans rfl
                    have hfs35 := blk_frozen BK238.out 0
                    have hns35_0 := NB230_238.out
                    have hns35_1 := NB233_238.out
                    have hms35_0 := NB238_230.out
                    have hms35_1 := NB238_233.out
                    have hs36 : w34.cell? ⟨gb238, 1, none⟩ = some (.int .u64 0) := (blk_cell BK238.out 1).trans rfl
                    have hfs36 := blk_frozen BK238.out 1
                    have hns36_0 := NB230_238.out
                    have hns36_1 := NB233_238.out
                    have hms36_0 := NB238_230.out
                    have hms36_1 := NB238_233.out
                    have hs37 : w34.cell? ⟨gb238, 2, none⟩ = some (.int .u64 0) := (blk_cell BK238.out 2).trans rfl
                    have hfs37 := blk_frozen BK238.out 2
                    have hns37_0 := NB230_238.out
                    have hns37_1 := NB233_238.out
                    have hms37_0 := NB238_230.out
                    have hms37_1 := NB238_233.out
                    refine skip_ (w1 := ?_) ?_ ?_ ?_ ?_
                    rotate_left
                    · rfl
                    · rfl
                    · go_simp
                      rfl
                    refine hK.out _ _ ⟨(cfar_ hHeld.1), (cfar_ hHeld.2.1), (cfar_ hHeld.2.2)⟩ (fun hHeld => ?_)
                    clear hK K
                    refine pure_ (i := 12) (N := some 9) (v := ?_) (a' := ?_) #[true, true, true, true, true, true, true, true, true, true, true, true, true] rfl rfl (any_of HT_.out (by kernel_rfl)) (fun _ _ _ h => h) (Or.inl ⟨by rfl, ?_⟩) ?_ ?_
                    rotate_left
                    · intro w'
                      go_simp
                      with_reducible rfl
                    rotate_left
                    · simp only [Act.put, la_, lb_, lc_, i64_w, i32_w]
                      rfl
                    refine done_ (done_of HT_.out (by kernel_rfl)) ?_
                    have hnb38 := NB230_233.out
                    have hnc38 := NB233_230.out
                    have hnb39 := NB230_238.out
                    have hnc39 := NB238_230.out
                    obtain ⟨hcz40_0, hcz40_1, hcz40_2, hfz40_0, hfz40_1, hfz40_2⟩ := cf3_ (w := w34) BK230.out
                    try go_wp2
                    refine bodyPost_ret (results_ct rfl _ _ gb230 28 #[.bool false, .int .u64 0, .int .u64 0] (0, 0) _ rfl (pu_ #[.bool false, .int .u64 0, .int .u64 x231002_2] 2 (h := (pu_ #[.bool false, .int .u64 x231001_2, .int .u64 x231002_2] 1 (h := (pu_ #[.bool x231000_2, .int .u64 x231001_2, .int .u64 x231002_2] 0 (h := bk_)))))) Tryd.underlying28 rfl (by kernel_rfl)) rfl ?_
                    exact ⟨rf_, bel_⟩
                · rw [if_neg c15] at H
                  exact absurd H (by simp)
              · rw [if_neg c14] at H
                exact absurd H (by simp)
            · rw [if_neg c13] at H
              have c13b0 : decide (x26_2 < (t231.size : Int)) = false := decide_eq_false c13
              clear c13
              by_cases c41 : t232 = true
              · subst c41
                have H1 : ((impl_NegWide.f x234000_2 x234001_2 x234002_2).bind fun bt239 => ((impl_WideText.f k2 bt239.1 bt239.2.1 bt239.2.2).bind fun t242 => (if t242.toList = a0.toList then (some (bt239.1, bt239.2.1, bt239.2.2, true)) else (some (false, 0, 0, false))))) = some (r1, r2, r3, r4) := by rw [if_pos rfl] at H; exact H
                clear H
                have H := H1
                clear H1
                replace H := Option.bind_eq_some_iff.mp H
                obtain ⟨⟨t239, t240, t241⟩, A420, H⟩ := H
                replace H : ((impl_WideText.f k2 t239 t240 t241).bind fun t242 => (if t242.toList = a0.toList then (some (t239, t240, t241, true)) else (some (false, 0, 0, false)))) = some (r1, r2, r3, r4) := H
                have A42 := Aside0.mk A420
                clear A420
                replace H := Option.bind_eq_some_iff.mp H
                obtain ⟨t242, A430, H⟩ := H
                replace H : (if t242.toList = a0.toList then (some (t239, t240, t241, true)) else (some (false, 0, 0, false))) = some (r1, r2, r3, r4) := H
                have A43 := Aside0.mk A430
                clear A430
                by_cases c44 : t242.toList = a0.toList
                · rw [if_pos c44] at H
                  have c44b0 : (t242.toList == a0.toList) = true := beq_iff_eq.mpr c44
                  have c44b1 : (t242.toList != a0.toList) = false := bne_eq_false_iff_eq.mpr c44
                  clear c44
                  simp only [Option.some.injEq, Prod.mk.injEq] at H
                  obtain ⟨rfl, rfl, rfl, rfl⟩ := H
                  have hnb45 := NB233_230.out
                  have hnc45 := NB230_233.out
                  obtain ⟨hcz46_0, hcz46_1, hcz46_2, hfz46_0, hfz46_1, hfz46_2⟩ := cf3_ (w := wr) BK233.out
                  go_wp2_with (first | ((with_reducible refine gate_callee (f := 64) rfl ?_); refine goesL_ (some 46) rfl rfl Tryd.func64 (by kernel_rfl) rfl #[.agg #[.bool x234000_2, .int .u64 x234001_2, .int .u64 x234002_2]] rfl mp_ ?_; (with_reducible refine (impl_NegWide.calls x234000_2 x234001_2 x234002_2 t239 t240 t241 _ A42.out).mono ?_); rintro e w47 ⟨rfl, hb⟩; refine ⟨_, rfl, ?_⟩; have n0_ := bb_ (g := gb230) hb; have n1_ := bb_ (g := gb233) hb; have n2_ := Aside0.mk (below_step bel_ hb); clear BK230; clear BK233; clear HB; have BK230 := n0_; have BK233 := n1_; have HB := n2_; clear n0_ n1_ n2_; (try clear hb); (try clear hb2); (try clear hk); (try clear hi); obtain ⟨hcz48_0, hcz48_1, hcz48_2, hfz48_0, hfz48_1, hfz48_2⟩ := cf3_ (w := w47) BK233.out) | ((with_reducible refine gate_callee (f := 11) rfl ?_); refine goesL_ (some 48) rfl rfl Tryd.func11 (by kernel_rfl) rfl #[.agg #[.bool t239, .int .u64 t240, .int .u64 t241]] rfl mp_ ?_; (with_reducible refine (impl_WideText.calls k2 t239 t240 t241 t242 _ A43.out (laid_ hl)).mono ?_); rintro e w49 ⟨rfl, hb⟩; refine ⟨_, rfl, ?_⟩; have n0_ := Aside0.mk (blk_below (g := gb230) (o := .cells #[.bool x231000_2, .int .u64 x231001_2, .int .u64 x231002_2] 28 (0, 0)) bk_ hb); have n1_ := Aside0.mk (blk_below (g := gb233) (o := .cells #[.bool t239, .int .u64 t240, .int .u64 t241] 28 (0, 0)) (pu_ #[.bool t239, .int .u64 t240, .int .u64 x234002_2] 2 (h := (pu_ #[.bool t239, .int .u64 x234001_2, .int .u64 x234002_2] 1 (h := (pu_ #[.bool x234000_2, .int .u64 x234001_2, .int .u64 x234002_2] 0 (h := bk_)))))) hb); have n2_ := Aside0.mk (below_step bel_ hb); clear BK230; clear BK233; clear HB; have BK230 := n0_; have BK233 := n1_; have HB := n2_; clear n0_ n1_ n2_; (try clear hb); (try clear hb2); (try clear hk); (try clear hi); obtain ⟨hcz50_0, hcz50_1, hcz50_2, hfz50_0, hfz50_1, hfz50_2⟩ := cf3_ (w := w49) BK233.out; obtain ⟨hcz51_0, hcz51_1, hcz51_2, hfz51_0, hfz51_1, hfz51_2⟩ := cf3_ (w := w49) BK230.out))
                  refine bodyPost_ret (results_ct rfl _ _ gb230 28 #[.bool t239, .int .u64 t240, .int .u64 t241] (0, 0) _ rfl (pu_ #[.bool t239, .int .u64 t240, .int .u64 x231002_2] 2 (h := (pu_ #[.bool t239, .int .u64 x231001_2, .int .u64 x231002_2] 1 (h := (pu_ #[.bool x231000_2, .int .u64 x231001_2, .int .u64 x231002_2] 0 (h := bk_)))))) Tryd.underlying28 rfl (by kernel_rfl)) rfl ?_
                  exact ⟨rf_, bel_⟩
                · rw [if_neg c44] at H
                  have c44b0 : (t242.toList == a0.toList) = false := beq_eq_false_iff_ne.mpr c44
                  have c44b1 : (t242.toList != a0.toList) = true := bne_iff_ne.mpr c44
                  simp only [Option.some.injEq, Prod.mk.injEq] at H
                  obtain ⟨rfl, rfl, rfl, rfl⟩ := H
                  have hnb52 := NB233_230.out
                  have hnc52 := NB230_233.out
                  obtain ⟨hcz53_0, hcz53_1, hcz53_2, hfz53_0, hfz53_1, hfz53_2⟩ := cf3_ (w := wr) BK233.out
                  go_wp2_with (first | ((with_reducible refine gate_callee (f := 64) rfl ?_); refine goesL_ (some 46) rfl rfl Tryd.func64 (by kernel_rfl) rfl #[.agg #[.bool x234000_2, .int .u64 x234001_2, .int .u64 x234002_2]] rfl mp_ ?_; (with_reducible refine (impl_NegWide.calls x234000_2 x234001_2 x234002_2 t239 t240 t241 _ A42.out).mono ?_); rintro e w54 ⟨rfl, hb⟩; refine ⟨_, rfl, ?_⟩; have n0_ := bb_ (g := gb230) hb; have n1_ := bb_ (g := gb233) hb; have n2_ := Aside0.mk (below_step bel_ hb); clear BK230; clear BK233; clear HB; have BK230 := n0_; have BK233 := n1_; have HB := n2_; clear n0_ n1_ n2_; (try clear hb); (try clear hb2); (try clear hk); (try clear hi); obtain ⟨hcz55_0, hcz55_1, hcz55_2, hfz55_0, hfz55_1, hfz55_2⟩ := cf3_ (w := w54) BK233.out) | ((with_reducible refine gate_callee (f := 11) rfl ?_); refine goesL_ (some 48) rfl rfl Tryd.func11 (by kernel_rfl) rfl #[.agg #[.bool t239, .int .u64 t240, .int .u64 t241]] rfl mp_ ?_; (with_reducible refine (impl_WideText.calls k2 t239 t240 t241 t242 _ A43.out (laid_ hl)).mono ?_); rintro e w56 ⟨rfl, hb⟩; refine ⟨_, rfl, ?_⟩; have n0_ := Aside0.mk (blk_below (g := gb230) (o := .cells #[.bool x231000_2, .int .u64 x231001_2, .int .u64 x231002_2] 28 (0, 0)) bk_ hb); have n1_ := Aside0.mk (blk_below (g := gb233) (o := .cells #[.bool t239, .int .u64 t240, .int .u64 t241] 28 (0, 0)) (pu_ #[.bool t239, .int .u64 t240, .int .u64 x234002_2] 2 (h := (pu_ #[.bool t239, .int .u64 x234001_2, .int .u64 x234002_2] 1 (h := (pu_ #[.bool x234000_2, .int .u64 x234001_2, .int .u64 x234002_2] 0 (h := bk_)))))) hb); have n2_ := Aside0.mk (below_step bel_ hb); clear BK230; clear BK233; clear HB; have BK230 := n0_; have BK233 := n1_; have HB := n2_; clear n0_ n1_ n2_; (try clear hb); (try clear hb2); (try clear hk); (try clear hi); obtain ⟨hcz57_0, hcz57_1, hcz57_2, hfz57_0, hfz57_1, hfz57_2⟩ := cf3_ (w := w56) BK230.out))
                  refine bodyPost_ret (results_ct rfl _ _ gb230 28 #[.bool false, .int .u64 0, .int .u64 0] (0, 0) _ rfl (pu_ #[.bool false, .int .u64 0, .int .u64 x231002_2] 2 (h := (pu_ #[.bool false, .int .u64 x231001_2, .int .u64 x231002_2] 1 (h := (pu_ #[.bool x231000_2, .int .u64 x231001_2, .int .u64 x231002_2] 0 (h := bk_)))))) Tryd.underlying28 rfl (by kernel_rfl)) rfl ?_
                  exact ⟨rf_, bel_⟩
              · replace c41 := Bool.eq_false_iff.mpr c41
                subst c41
                have H1 : ((impl_WideText.f k2 x234000_2 x234001_2 x234002_2).bind fun t243 => (if t243.toList = a0.toList then (some (x234000_2, x234001_2, x234002_2, true)) else (some (false, 0, 0, false)))) = some (r1, r2, r3, r4) := by rw [if_neg (show ¬ (false = true) by decide)] at H; exact H
                clear H
                have H := H1
                clear H1
                replace H := Option.bind_eq_some_iff.mp H
                obtain ⟨t243, A580, H⟩ := H
                replace H : (if t243.toList = a0.toList then (some (x234000_2, x234001_2, x234002_2, true)) else (some (false, 0, 0, false))) = some (r1, r2, r3, r4) := H
                have A58 := Aside0.mk A580
                clear A580
                by_cases c59 : t243.toList = a0.toList
                · rw [if_pos c59] at H
                  have c59b0 : (t243.toList == a0.toList) = true := beq_iff_eq.mpr c59
                  have c59b1 : (t243.toList != a0.toList) = false := bne_eq_false_iff_eq.mpr c59
                  clear c59
                  simp only [Option.some.injEq, Prod.mk.injEq] at H
                  obtain ⟨rfl, rfl, rfl, rfl⟩ := H
                  have hnb60 := NB233_230.out
                  have hnc60 := NB230_233.out
                  obtain ⟨hcz61_0, hcz61_1, hcz61_2, hfz61_0, hfz61_1, hfz61_2⟩ := cf3_ (w := wr) BK233.out
                  go_wp2_with (first | ((with_reducible refine gate_callee (f := 11) rfl ?_); refine goesL_ (some 48) rfl rfl Tryd.func11 (by kernel_rfl) rfl #[.agg #[.bool x234000_2, .int .u64 x234001_2, .int .u64 x234002_2]] rfl mp_ ?_; (with_reducible refine (impl_WideText.calls k2 x234000_2 x234001_2 x234002_2 t243 _ A58.out (laid_ hl)).mono ?_); rintro e w62 ⟨rfl, hb⟩; refine ⟨_, rfl, ?_⟩; have n0_ := bb_ (g := gb230) hb; have n1_ := bb_ (g := gb233) hb; have n2_ := Aside0.mk (below_step bel_ hb); clear BK230; clear BK233; clear HB; have BK230 := n0_; have BK233 := n1_; have HB := n2_; clear n0_ n1_ n2_; (try clear hb); (try clear hb2); (try clear hk); (try clear hi); obtain ⟨hcz63_0, hcz63_1, hcz63_2, hfz63_0, hfz63_1, hfz63_2⟩ := cf3_ (w := w62) BK233.out; obtain ⟨hcz64_0, hcz64_1, hcz64_2, hfz64_0, hfz64_1, hfz64_2⟩ := cf3_ (w := w62) BK230.out))
                  refine bodyPost_ret (results_ct rfl _ _ gb230 28 #[.bool x234000_2, .int .u64 x234001_2, .int .u64 x234002_2] (0, 0) _ rfl (pu_ #[.bool x234000_2, .int .u64 x234001_2, .int .u64 x231002_2] 2 (h := (pu_ #[.bool x234000_2, .int .u64 x231001_2, .int .u64 x231002_2] 1 (h := (pu_ #[.bool x231000_2, .int .u64 x231001_2, .int .u64 x231002_2] 0 (h := bk_)))))) Tryd.underlying28 rfl (by kernel_rfl)) rfl ?_
                  exact ⟨rf_, bel_⟩
                · rw [if_neg c59] at H
                  have c59b0 : (t243.toList == a0.toList) = false := beq_eq_false_iff_ne.mpr c59
                  have c59b1 : (t243.toList != a0.toList) = true := bne_iff_ne.mpr c59
                  simp only [Option.some.injEq, Prod.mk.injEq] at H
                  obtain ⟨rfl, rfl, rfl, rfl⟩ := H
                  have hnb65 := NB233_230.out
                  have hnc65 := NB230_233.out
                  obtain ⟨hcz66_0, hcz66_1, hcz66_2, hfz66_0, hfz66_1, hfz66_2⟩ := cf3_ (w := wr) BK233.out
                  go_wp2_with (first | ((with_reducible refine gate_callee (f := 11) rfl ?_); refine goesL_ (some 48) rfl rfl Tryd.func11 (by kernel_rfl) rfl #[.agg #[.bool x234000_2, .int .u64 x234001_2, .int .u64 x234002_2]] rfl mp_ ?_; (with_reducible refine (impl_WideText.calls k2 x234000_2 x234001_2 x234002_2 t243 _ A58.out (laid_ hl)).mono ?_); rintro e w67 ⟨rfl, hb⟩; refine ⟨_, rfl, ?_⟩; have n0_ := bb_ (g := gb230) hb; have n1_ := bb_ (g := gb233) hb; have n2_ := Aside0.mk (below_step bel_ hb); clear BK230; clear BK233; clear HB; have BK230 := n0_; have BK233 := n1_; have HB := n2_; clear n0_ n1_ n2_; (try clear hb); (try clear hb2); (try clear hk); (try clear hi); obtain ⟨hcz68_0, hcz68_1, hcz68_2, hfz68_0, hfz68_1, hfz68_2⟩ := cf3_ (w := w67) BK230.out))
                  refine bodyPost_ret (results_ct rfl _ _ gb230 28 #[.bool false, .int .u64 0, .int .u64 0] (0, 0) _ rfl (pu_ #[.bool false, .int .u64 0, .int .u64 x231002_2] 2 (h := (pu_ #[.bool false, .int .u64 x231001_2, .int .u64 x231002_2] 1 (h := (pu_ #[.bool x231000_2, .int .u64 x231001_2, .int .u64 x231002_2] 0 (h := bk_)))))) Tryd.underlying28 rfl (by kernel_rfl)) rfl ?_
                  exact ⟨rf_, bel_⟩

end Go.Proofs.YtkpgpifkbdpnkaaDoor.PFnFracText
