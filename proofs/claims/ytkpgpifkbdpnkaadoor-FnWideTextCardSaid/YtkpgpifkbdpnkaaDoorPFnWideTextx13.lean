/- Contracts of Go functions, each with the Lean function that says what it computes: begun by the print, turned by this session. No condition beyond what each theorem states. -/
import Derived.Test.YtkpgpifkbdpnkaaDoorPFnWideTextx0
import Derived.Test.YtkpgpifkbdpnkaaDoorPFnWideTextx9
import Derived.Test.YtkpgpifkbdpnkaaDoorPFnWideTextx12
namespace Go.Proofs.YtkpgpifkbdpnkaaDoor.PFnWideText
open Go.RowKit Go.Proofs.YtkpgpifkbdpnkaaDoorVFnWideText.PrintWords Go.Proofs.YtkpgpifkbdpnkaaDoorVFnWideText.PrintLast Go.Proofs.YtkpgpifkbdpnkaaDoorVFnWideText.PrintMore
attribute [local go_sem] max2_int min2_int max_two min_two max_three min_three max_four min_four   -- for this text's walks alone
set_option linter.unusedVariables false
set_option linter.unusedSimpArgs false

/-! ### spec_ReadWide: function 23 -/
mutual
def spec_ReadWide.j0 : Nat → ByteArray → Bool → Option (Bool × Int × Int × Bool)
  | 0, _, _ => none
  | k + 1, x0, x16 => if x16 = true then (some (false, 0, 0, false)) else (if 0 < (x0.size : Int) then (if (bt x0 0) = 45 then (spec_ReadWide.j1 k x0 1) else (spec_ReadWide.j1 k x0 0)) else (none))
def spec_ReadWide.j1 : Nat → ByteArray → Int → Option (Bool × Int × Int × Bool)
  | 0, _, _ => none
  | k + 1, x0, x4 => spec_ReadWide.l0 k x0 x4 x4 false 0 0
def spec_ReadWide.l0 : Nat → ByteArray → Int → Int → Bool → Int → Int → Option (Bool × Int × Int × Bool)
  | 0, _, _, _, _, _, _ => none
  | k + 1, x0, x4, x6, x452000, x452001, x452002 => if x6 < (x0.size : Int) then (if 0 ≤ x6 then ((spec_TenTimes.f k x452000 x452001 x452002 (wrap64 ((wrap64 (bt x0 x6)) - 48))).bind fun bt452 => (if bt452.2.2.2 = true then (spec_ReadWide.l0 k x0 x4 (wrap64 (x6 + 1)) bt452.1 bt452.2.1 bt452.2.2.1) else (some (false, 0, 0, false)))) else (none)) else (if x4 = 1 then ((spec_NegWide.f x452000 x452001 x452002).bind fun bt457 => ((spec_WideText.f k bt457.1 bt457.2.1 bt457.2.2).bind fun t460 => (if t460.toList = x0.toList then (some (bt457.1, bt457.2.1, bt457.2.2, true)) else (some (false, 0, 0, false))))) else ((spec_WideText.f k x452000 x452001 x452002).bind fun t461 => (if t461.toList = x0.toList then (some (x452000, x452001, x452002, true)) else (some (false, 0, 0, false)))))
end
def spec_ReadWide.f (k : Nat) (a0 : ByteArray) : Option (Bool × Int × Int × Bool) := if (a0.size : Int) < 1 then (spec_ReadWide.j0 k a0 true) else (spec_ReadWide.j0 k a0 (decide ((a0.size : Int) > 40)))
theorem spec_ReadWide.mono_l : ∀ k, (∀ y0 y1, LeO (spec_ReadWide.j0 k y0 y1) (spec_ReadWide.j0 (k + 1) y0 y1)) ∧ (∀ y0 y1, LeO (spec_ReadWide.j1 k y0 y1) (spec_ReadWide.j1 (k + 1) y0 y1)) ∧ (∀ y0 y1 y2 y3 y4 y5, LeO (spec_ReadWide.l0 k y0 y1 y2 y3 y4 y5) (spec_ReadWide.l0 (k + 1) y0 y1 y2 y3 y4 y5))
  | 0 => ⟨fun _ _ r h => by simp [spec_ReadWide.j0] at h, fun _ _ r h => by simp [spec_ReadWide.j1] at h, fun _ _ _ _ _ _ r h => by simp [spec_ReadWide.l0] at h⟩
  | k + 1 => by
    obtain ⟨ih0, ih1, ih2⟩ := spec_ReadWide.mono_l k
    refine ⟨?_, ?_, ?_⟩
    · intro y0 y1
      unfold spec_ReadWide.j0
      repeat' first
      | (with_reducible exact ih0 _ _)
      | (with_reducible exact ih1 _ _)
      | (with_reducible exact ih2 _ _ _ _ _ _)
      | (with_reducible exact spec_TenTimes.mono _ _ _ _ _)
      | (with_reducible exact spec_WideText.mono _ _ _ _)
      | (with_reducible exact LeO.refl _)
      | (with_reducible exact LeO.none _)
      | (with_reducible refine LeO.ite ?_ ?_)
      | (with_reducible refine LeO.bind ?_ (fun _ => ?_))
      | exact ih0 _ _
      | exact ih1 _ _
      | exact ih2 _ _ _ _ _ _
      | exact spec_TenTimes.mono _ _ _ _ _
      | exact spec_WideText.mono _ _ _ _
      | exact LeO.none _
      | refine LeO.ite ?_ ?_
      | refine LeO.bind ?_ (fun _ => ?_)
    · intro y0 y1
      unfold spec_ReadWide.j1
      repeat' first
      | (with_reducible exact ih0 _ _)
      | (with_reducible exact ih1 _ _)
      | (with_reducible exact ih2 _ _ _ _ _ _)
      | (with_reducible exact spec_TenTimes.mono _ _ _ _ _)
      | (with_reducible exact spec_WideText.mono _ _ _ _)
      | (with_reducible exact LeO.refl _)
      | (with_reducible exact LeO.none _)
      | (with_reducible refine LeO.ite ?_ ?_)
      | (with_reducible refine LeO.bind ?_ (fun _ => ?_))
      | exact ih0 _ _
      | exact ih1 _ _
      | exact ih2 _ _ _ _ _ _
      | exact spec_TenTimes.mono _ _ _ _ _
      | exact spec_WideText.mono _ _ _ _
      | exact LeO.none _
      | refine LeO.ite ?_ ?_
      | refine LeO.bind ?_ (fun _ => ?_)
    · intro y0 y1 y2 y3 y4 y5
      unfold spec_ReadWide.l0
      repeat' first
      | (with_reducible exact ih0 _ _)
      | (with_reducible exact ih1 _ _)
      | (with_reducible exact ih2 _ _ _ _ _ _)
      | (with_reducible exact spec_TenTimes.mono _ _ _ _ _)
      | (with_reducible exact spec_WideText.mono _ _ _ _)
      | (with_reducible exact LeO.refl _)
      | (with_reducible exact LeO.none _)
      | (with_reducible refine LeO.ite ?_ ?_)
      | (with_reducible refine LeO.bind ?_ (fun _ => ?_))
      | exact ih0 _ _
      | exact ih1 _ _
      | exact ih2 _ _ _ _ _ _
      | exact spec_TenTimes.mono _ _ _ _ _
      | exact spec_WideText.mono _ _ _ _
      | exact LeO.none _
      | refine LeO.ite ?_ ?_
      | refine LeO.bind ?_ (fun _ => ?_)
theorem spec_ReadWide.mono : ∀ a0 k, LeO (spec_ReadWide.f k a0) (spec_ReadWide.f (k + 1) a0) := by
  intro a0 k
  obtain ⟨ih0, ih1, ih2⟩ := spec_ReadWide.mono_l k
  unfold spec_ReadWide.f
  repeat' first
      | (with_reducible exact ih0 _ _)
      | (with_reducible exact ih1 _ _)
      | (with_reducible exact ih2 _ _ _ _ _ _)
      | (with_reducible exact spec_TenTimes.mono _ _ _ _ _)
      | (with_reducible exact spec_WideText.mono _ _ _ _)
      | (with_reducible exact LeO.refl _)
      | (with_reducible exact LeO.none _)
      | (with_reducible refine LeO.ite ?_ ?_)
      | (with_reducible refine LeO.bind ?_ (fun _ => ?_))
      | exact ih0 _ _
      | exact ih1 _ _
      | exact ih2 _ _ _ _ _ _
      | exact spec_TenTimes.mono _ _ _ _ _
      | exact spec_WideText.mono _ _ _ _
      | exact LeO.none _
      | refine LeO.ite ?_ ?_
      | refine LeO.bind ?_ (fun _ => ?_)
def spec_ReadWide.T10 : Bool × List (List Nat × List Nat) := (true, [([], []), ([], []), ([], []), ([1, 2], [1, 2]), ([3], [3]), ([4], [4]), ([0, 5], [0, 5]), ([6], [6]), ([7], [7]), ([7], [7]), ([], []), ([10, 8, 6, 0, 1, 2, 3, 4, 5, 6, 7, 8, 10], [8, 10]), ([9, 11, 0, 1, 2, 3, 4, 5, 6, 7, 8, 9, 10, 11], [9])])
def spec_ReadWide.B10 : List Nat := [0, 0, 0, 6, 14, 30, 63, 127, 255, 255, 0, 1535, 4095]
theorem spec_ReadWide.tab10 : rtab .any (opsOf Tryd.f23 10) = spec_ReadWide.T10 := by kernel_rfl
theorem spec_ReadWide.bits10 : waitsOk spec_ReadWide.T10.2 spec_ReadWide.B10 = true := by kernel_rfl
set_option maxHeartbeats 8000000 in
set_option maxRecDepth 100000 in
theorem spec_ReadWide.calls (k : Nat) (a0 : ByteArray) (r1 : Bool) (r2 : Int) (r3 : Int) (r4 : Bool) (w : World) (h : spec_ReadWide.f k a0 = some (r1, r2, r3, r4)) :
    Calls Tryd.prog 23 #[.string a0] w fun e w' => e = .returned (.tuple #[.agg #[.bool r1, .int .u64 r2, .int .u64 r3], .bool r4]) ∧ Below w.heap.size w w' := by
  have hu28 := Tryd.underlying28
  have HB := Aside0.mk (Below.refl w.heap.size w)
  have H : (if (a0.size : Int) < 1 then (spec_ReadWide.j0 k a0 true) else (spec_ReadWide.j0 k a0 (decide ((a0.size : Int) > 40)))) = some (r1, r2, r3, r4) := h
  clear h
  have HC2 := Aside0.mk H
  clear H
  go_enter Tryd.func23, Tryd.ntmps23
  go_upto_region 1 with (first | ((with_reducible refine gate_dst (N := 2) rfl ?_); (try (refine gate_guard (by rfl) ?_; dsimp only)); refine box_event ?hg (N := 2) ?hd (cs := #[.bool false, .int .u64 0, .int .u64 0]) (t := 28) ?hr ?_; (case hd => rfl); (case hg => rfl); (case hr => first | (go_simp; done) | (go_simp; rfl)); intro gb450 hg w3 hbox hb; have n0_ := Aside0.mk (below_step bel_ hb); have n1_ := Aside0.mk (hbox); have n2_ := bs_ (w := w) hg; have n3_ := bs_ (w := w) hg; clear HB; have HB := n0_; have BK450 := n1_; have GW450 := n2_; have GE450 := n3_; clear n0_ n1_ n2_ n3_; clear hb hbox hg))
  (try simp only [Act.put, la_, lb_, lc_])
  go_cut [16] (fun v16 wc => ∃ (kq : Nat) (x16_1 : Bool), v16 = .bool x16_1 ∧ Aside0 (spec_ReadWide.j0 kq a0 x16_1 = some (r1, r2, r3, r4)) ∧ Aside0 (kq ≤ k) ∧ Aside0 (wc.heap[gb450]? = some (.cells #[.bool false, .int .u64 0, .int .u64 0] 28 (0, 0))) ∧ Aside0 (Below w.heap.size w wc))
  case first =>
    have H := HC2.out
    clear HC2
    by_cases c4 : (a0.size : Int) < 1
    · rw [if_pos c4] at H
      have c4b0 : decide ((a0.size : Int) < 1) = true := decide_eq_true c4
      have c4b1 : decide (a0.size < 1) = true := decide_eq_true (by omega)
      clear c4
      (first | rw [c4b0] | (simp only [i64_w, i32_w]; rw [c4b0]) | skip)
      have H' := Aside0.mk H
      clear H
      go_wp2
      go_meet
      case rel => exact ⟨_, (true), (by first | rfl | (simp; done) | (simp [*]; done)), H', ⟨by first | omega | exact Nat.le_refl _⟩, ⟨by (with_reducible repeat (first | refine bN_ _ ?_ | refine bd_ ?_ | refine ba_ _ ?_)); exact BK450.out⟩, ⟨bel_⟩⟩
    · rw [if_neg c4] at H
      have c4b0 : decide ((a0.size : Int) < 1) = false := decide_eq_false c4
      have c4b1 : decide (a0.size < 1) = false := decide_eq_false (by omega)
      clear c4
      (first | rw [c4b0] | (simp only [i64_w, i32_w]; rw [c4b0]) | skip)
      have H' := Aside0.mk H
      clear H
      go_wp2
      go_meet
      case rel => exact ⟨_, (decide ((a0.size : Int) > 40)), (by first | rfl | (simp; done) | (simp [*]; done)), H', ⟨by first | omega | exact Nat.le_refl _⟩, ⟨by (with_reducible repeat (first | refine bN_ _ ?_ | refine bd_ ?_ | refine ba_ _ ?_)); exact BK450.out⟩, ⟨bel_⟩⟩
  case rest =>
    clear HC2
    try clear c2
    try clear p2
    try clear c4
    try clear c4b0
    try clear c4b1
    obtain ⟨kq, x16_1, rfl, HA, HJ1, BK450, HB⟩ := hcut
    cases kq with
    | zero => exact absurd HA.out (by simp [spec_ReadWide.j0])
    | succ kj1 =>
      have H := HA.out
      clear HA
      simp only [spec_ReadWide.j0] at H
      by_cases c5 : x16_1 = true
      · subst c5
        have H1 : (some (false, 0, 0, false)) = some (r1, r2, r3, r4) := by rw [if_pos rfl] at H; exact H
        clear H
        have H := H1
        clear H1
        simp only [Option.some.injEq, Prod.mk.injEq] at H
        obtain ⟨rfl, rfl, rfl, rfl⟩ := H
        obtain ⟨hcz6_0, hcz6_1, hcz6_2, hfz6_0, hfz6_1, hfz6_2⟩ := cf3_ (w := wc) BK450.out
        go_wp2
        refine bodyPost_ret (results_ct rfl _ _ gb450 28 #[.bool false, .int .u64 0, .int .u64 0] (0, 0) _ rfl (pu_ #[.bool false, .int .u64 0, .int .u64 0] 2 (h := (pu_ #[.bool false, .int .u64 0, .int .u64 0] 1 (h := (pu_ #[.bool false, .int .u64 0, .int .u64 0] 0 (h := bk_)))))) Tryd.underlying28 rfl (by kernel_rfl)) rfl ?_
        exact ⟨rf_, bel_⟩
      · replace c5 := Bool.eq_false_iff.mpr c5
        subst c5
        have H1 : (if 0 < (a0.size : Int) then (if (bt a0 0) = 45 then (spec_ReadWide.j1 kj1 a0 1) else (spec_ReadWide.j1 kj1 a0 0)) else (none)) = some (r1, r2, r3, r4) := by rw [if_neg (show ¬ (false = true) by decide)] at H; exact H
        clear H
        have H := H1
        clear H1
        by_cases c7 : 0 < (a0.size : Int)
        · rw [if_pos c7] at H
          have c7b0 : decide (0 < (a0.size : Int)) = true := decide_eq_true c7
          have c7b1 : decide (0 < a0.size) = true := decide_eq_true (by omega)
          clear c7
          have HC9 := Aside0.mk H
          clear H
          have p8 : 0 ≤ (0 : Int) := (by omega)
          have q8 : 0 < a0.size := (by have : (0 : Int) < (a0.size : Int) := of_decide_eq_true (by first | (with_reducible assumption) | assumption); omega)
          have hx8 : ∀ h : 0 < a0.size, ((a0[0]'h).toNat : Int) = bt a0 0 := bt_at a0 0
          clear p8
          have qi8 : (0 < (a0.size : Int)) = True := eq_true (of_decide_eq_true (by first | (with_reducible assumption) | assumption))
          replace q8 := eq_true q8
          go_upto_if 20 with (fail)
          go_cut [4] (fun v4 wc => ∃ (kq : Nat) (x4_8 : Int), v4 = .int .i64 x4_8 ∧ Aside0 (spec_ReadWide.j1 kq a0 x4_8 = some (r1, r2, r3, r4)) ∧ Aside0 (kq ≤ kj1) ∧ Aside0 (wc.heap[gb450]? = some (.cells #[.bool false, .int .u64 0, .int .u64 0] 28 (0, 0))) ∧ Aside0 (Below w.heap.size w wc))
          case first =>
            have H := HC9.out
            clear HC9
            by_cases c10 : (bt a0 0) = 45
            · rw [if_pos c10] at H
              have c10b0 : ((bt a0 0) == 45) = true := beq_iff_eq.mpr c10
              have c10b1 : ((bt a0 0) != 45) = false := bne_eq_false_iff_eq.mpr c10
              clear c10
              (first | rw [c10b0] | (simp only [i64_w, i32_w]; rw [c10b0]) | skip)
              have H' := Aside0.mk H
              clear H
              go_wp2
              go_meet
              case rel => exact ⟨_, (1), (by first | rfl | (simp; done) | (simp [*]; done)), H', ⟨by have := HJ1.out; first | omega | exact Nat.le_refl _⟩, ⟨by (with_reducible repeat (first | refine bN_ _ ?_ | refine bd_ ?_ | refine ba_ _ ?_)); exact BK450.out⟩, ⟨bel_⟩⟩
            · rw [if_neg c10] at H
              have c10b0 : ((bt a0 0) == 45) = false := beq_eq_false_iff_ne.mpr c10
              have c10b1 : ((bt a0 0) != 45) = true := bne_iff_ne.mpr c10
              (first | rw [c10b0] | (simp only [i64_w, i32_w]; rw [c10b0]) | skip)
              have H' := Aside0.mk H
              clear H
              go_wp2
              go_meet
              case rel => exact ⟨_, (0), (by first | rfl | (simp; done) | (simp [*]; done)), H', ⟨by have := HJ1.out; first | omega | exact Nat.le_refl _⟩, ⟨by (with_reducible repeat (first | refine bN_ _ ?_ | refine bd_ ?_ | refine ba_ _ ?_)); exact BK450.out⟩, ⟨bel_⟩⟩
          case rest =>
            clear HC9
            try clear c1
            try clear c2
            try clear p2
            try clear c4
            try clear c4b0
            try clear c4b1
            try clear c5
            try clear c7
            try clear c7b0
            try clear c7b1
            try clear p8
            try clear q8
            try clear hx8
            try clear qi8
            try clear c10
            try clear c10b0
            try clear c10b1
            try clear hcz6_0
            try clear hcz6_1
            try clear hcz6_2
            try clear hfz6_0
            try clear hfz6_1
            try clear hfz6_2
            try clear p2
            try clear p8
            try clear q8
            obtain ⟨kq, x4_8, rfl, HA, HJ8, BK450, HB⟩ := hcut
            cases kq with
            | zero => exact absurd HA.out (by simp [spec_ReadWide.j1])
            | succ kj8 =>
              have H := HA.out
              clear HA
              simp only [spec_ReadWide.j1] at H
              have H' := Aside0.mk H
              clear H
              go_wp2_with (first | ((with_reducible refine gate_dst (N := 5) rfl ?_); (try (refine gate_guard (by rfl) ?_; dsimp only)); refine box_event ?hg (N := 5) ?hd (cs := #[.bool false, .int .u64 0, .int .u64 0]) (t := 28) ?hr ?_; (case hd => rfl); (case hg => rfl); (case hr => first | (go_simp; done) | (go_simp; rfl)); intro gb451 hg w11 hbox hb; have n0_ := bb_ (g := gb450) hb; have n1_ := Aside0.mk (below_step bel_ hb); have n2_ := Aside0.mk (hbox); have n3_ := bs_ (w := w) hg; have n4_ := bs_ (w := w) hg; have n5_ := nlt_ (g := gb450) hg; have n6_ := ngt_ (g := gb450) hg; clear BK450; clear HB; have BK450 := n0_; have HB := n1_; have BK451 := n2_; have GW451 := n3_; have GE451 := n4_; have NB450_451 := n5_; have NB451_450 := n6_; clear n0_ n1_ n2_ n3_ n4_ n5_ n6_; clear hb hbox hg; have hnb12 := NB451_450.out; have hnc12 := NB450_451.out; obtain ⟨hcz13_0, hcz13_1, hcz13_2, hfz13_0, hfz13_1, hfz13_2⟩ := cf3_ (w := w11) BK451.out))
              go_loopg [6] kj8 (fun kq v6 w' => ∃ (x6_3 : Int) (x451000_3 : Bool) (x451001_3 : Int) (x451002_3 : Int) (x452000_3 : Bool) (x452001_3 : Int) (x452002_3 : Int), v6 = .int .i64 x6_3 ∧ Aside0 (spec_ReadWide.l0 kq a0 x4_8 x6_3 x452000_3 x452001_3 x452002_3 = some (r1, r2, r3, r4)) ∧ Aside0 (kq ≤ kj8) ∧ Aside0 (w'.heap[gb450]? = some (.cells #[.bool x451000_3, .int .u64 x451001_3, .int .u64 x451002_3] 28 (0, 0))) ∧ Aside0 (w'.heap[gb451]? = some (.cells #[.bool x452000_3, .int .u64 x452001_3, .int .u64 x452002_3] 28 (0, 0))) ∧ Aside0 (Below w.heap.size w w'))
              case atStart => exact ⟨(x4_8), (false), (0), (0), (false), (0), (0), (by first | rfl | (simp; done) | (simp [*]; done)), H', ⟨Nat.le_refl _⟩, ⟨by (with_reducible repeat (first | refine bN_ _ ?_ | refine bd_ ?_ | refine ba_ _ ?_)); refine blk_far ?_ NB450_451.out _; (with_reducible repeat (first | refine bN_ _ ?_ | refine bd_ ?_ | refine ba_ _ ?_)); refine blk_far ?_ NB450_451.out _; (with_reducible repeat (first | refine bN_ _ ?_ | refine bd_ ?_ | refine ba_ _ ?_)); refine blk_far ?_ NB450_451.out _; (with_reducible repeat (first | refine bN_ _ ?_ | refine bd_ ?_ | refine ba_ _ ?_)); exact BK450.out⟩, ⟨by (with_reducible repeat (first | refine bN_ _ ?_ | refine bd_ ?_ | refine ba_ _ ?_)); refine blk_put (cs := #[.bool false, .int .u64 0, .int .u64 0]) ?_ 2 _ rfl; (with_reducible repeat (first | refine bN_ _ ?_ | refine bd_ ?_ | refine ba_ _ ?_)); refine blk_put (cs := #[.bool false, .int .u64 0, .int .u64 0]) ?_ 1 _ rfl; (with_reducible repeat (first | refine bN_ _ ?_ | refine bd_ ?_ | refine ba_ _ ?_)); refine blk_put (cs := #[.bool false, .int .u64 0, .int .u64 0]) ?_ 0 _ rfl; (with_reducible repeat (first | refine bN_ _ ?_ | refine bd_ ?_ | refine ba_ _ ?_)); exact BK451.out⟩, ⟨bel_⟩⟩
              case round =>
                clear H'
                try clear c1
                try clear c2
                try clear p2
                try clear c4
                try clear c4b0
                try clear c4b1
                try clear c5
                try clear c7
                try clear c7b0
                try clear c7b1
                try clear p8
                try clear q8
                try clear hx8
                try clear qi8
                try clear c10
                try clear c10b0
                try clear c10b1
                try clear c12
                try clear hcz13_0
                try clear hcz13_1
                try clear hcz13_2
                try clear hcz6_0
                try clear hcz6_1
                try clear hcz6_2
                try clear hfz13_0
                try clear hfz13_1
                try clear hfz13_2
                try clear hfz6_0
                try clear hfz6_1
                try clear hfz6_2
                try clear p2
                try clear p8
                try clear q8
                try clear BK450
                try clear BK451
                obtain ⟨x6_3, x451000_3, x451001_3, x451002_3, x452000_3, x452001_3, x452002_3, rfl, HA, HK3, BK450, BK451, HB⟩ := hrel
                cases gk with
                | zero => exact absurd HA.out (by simp [spec_ReadWide.l0])
                | succ k3 =>
                  have H := HA.out
                  clear HA
                  simp only [spec_ReadWide.l0] at H
                  by_cases c14 : x6_3 < (a0.size : Int)
                  · rw [if_pos c14] at H
                    have c14b0 : decide (x6_3 < (a0.size : Int)) = true := decide_eq_true c14
                    clear c14
                    by_cases c15 : 0 ≤ x6_3
                    · rw [if_pos c15] at H
                      have c15b0 : decide (0 ≤ x6_3) = true := decide_eq_true c15
                      clear c15
                      replace H := Option.bind_eq_some_iff.mp H
                      obtain ⟨⟨t452, t453, t454, t455⟩, A170, H⟩ := H
                      replace H : (if t455 = true then (spec_ReadWide.l0 k3 a0 x4_8 (wrap64 (x6_3 + 1)) t452 t453 t454) else (some (false, 0, 0, false))) = some (r1, r2, r3, r4) := H
                      have A17 := Aside0.mk A170
                      clear A170
                      by_cases c18 : t455 = true
                      · subst c18
                        have H1 : (spec_ReadWide.l0 k3 a0 x4_8 (wrap64 (x6_3 + 1)) t452 t453 t454) = some (r1, r2, r3, r4) := by rw [if_pos rfl] at H; exact H
                        clear H
                        have H := H1
                        clear H1
                        have H' := Aside0.mk H
                        clear H
                        try go_wp2
                        have n0_ := Aside0.mk (blk_drew BK450.out)
                        have n1_ := Aside0.mk (blk_drew BK451.out)
                        have n2_ := Aside0.mk (below_drew1 HB.out)
                        clear BK450
                        clear BK451
                        clear HB
                        have BK450 := n0_
                        have BK451 := n1_
                        have HB := n2_
                        clear n0_ n1_ n2_
                        have p16 : 0 ≤ (x6_3 : Int) := of_decide_eq_true (by first | (with_reducible assumption) | assumption)
                        have q16 : x6_3 < (a0.size : Int) := of_decide_eq_true (by first | (with_reducible assumption) | assumption)
                        have hx16 := bt_at a0 x6_3
                        replace p16 := eq_true p16
                        replace q16 := eq_true q16
                        refine start_ (n := 13) (S := fun w' => w'.cell? ⟨gb451, 0, none⟩ = some (.bool x452000_3) ∧ w'.cell? ⟨gb451, 1, none⟩ = some (.int .u64 x452001_3) ∧ w'.cell? ⟨gb451, 2, none⟩ = some (.int .u64 x452002_3)) (ds := []) #[false, false, false, false, false, false, false, false, false, false, false, false, false] (by kernel_rfl) rfl rfl ⟨bc_, bc_, bc_⟩ (fun hHeld => ?_); refine with_tabW spec_ReadWide.tab10 spec_ReadWide.bits10 (fun HT_ HW_ => ?_)
                        generalize wr.drew = w19 at BK450 BK451 HB hHeld ⊢
                        refine pure_ (i := 1) (N := some 31) (v := ?_) (a' := ?_) #[false, true, false, false, false, false, false, false, false, false, false, false, false] rfl rfl (any_of HT_.out (by kernel_rfl)) (fun _ _ _ h => h) (Or.inl ⟨by rfl, ?_⟩) ?_ ?_
                        rotate_left
                        · intro w'
                          go_simp
                          with_reducible rfl
                        rotate_left
                        · simp only [Act.put, la_, lb_, lc_, i64_w, i32_w]
                          rfl
                        refine pure_ (i := 2) (N := some 32) (v := ?_) (a' := ?_) #[false, true, true, false, false, false, false, false, false, false, false, false, false] rfl rfl (any_of HT_.out (by kernel_rfl)) (fun _ _ _ h => h) (Or.inl ⟨by rfl, ?_⟩) ?_ ?_
                        rotate_left
                        · intro w'
                          go_simp
                          with_reducible rfl
                        rotate_left
                        · simp only [Act.put, la_, lb_, lc_, i64_w, i32_w]
                          rfl
                        refine take_ (i := 0) (N := some 30) (v := ?_) (a' := ?_) #[true, true, true, false, false, false, false, false, false, false, false, false, false] rfl rfl (take_ofW HT_.out HW_.out (by kernel_rfl)) (fun _ _ _ h => h) (Or.inl ⟨by rfl, ?_⟩) hHeld ?_ ?_
                        rotate_left
                        · rintro w' ⟨s0, s1, s2⟩
                          go_simp
                          with_reducible rfl
                        rotate_left
                        · simp only [Act.put, la_, lb_, lc_, i64_w, i32_w]
                          rfl
                        refine take_ (i := 3) (N := some 33) (v := ?_) (a' := ?_) #[true, true, true, true, false, false, false, false, false, false, false, false, false] rfl rfl (take_ofW HT_.out HW_.out (by kernel_rfl)) (fun _ _ _ h => h) (Or.inl ⟨by rfl, ?_⟩) hHeld ?_ ?_
                        rotate_left
                        · rintro w' ⟨s0, s1, s2⟩
                          go_simp
                          with_reducible rfl
                        rotate_left
                        · simp only [Act.put, la_, lb_, lc_, i64_w, i32_w]
                          rfl
                        refine pure_ (i := 4) (N := some 34) (v := ?_) (a' := ?_) #[true, true, true, true, true, false, false, false, false, false, false, false, false] rfl rfl (any_of HT_.out (by kernel_rfl)) (fun _ _ _ h => h) (Or.inl ⟨by rfl, ?_⟩) ?_ ?_
                        rotate_left
                        · intro w'
                          go_simp
                          with_reducible rfl
                        rotate_left
                        · simp only [Act.put, la_, lb_, lc_, i64_w, i32_w]
                          rfl
                        refine pure_ (i := 5) (N := some 35) (v := ?_) (a' := ?_) #[true, true, true, true, true, true, false, false, false, false, false, false, false] rfl rfl (any_of HT_.out (by kernel_rfl)) (fun _ _ _ h => h) (Or.inl ⟨by rfl, ?_⟩) ?_ ?_
                        rotate_left
                        · intro w'
                          go_simp
                          with_reducible rfl
                        rotate_left
                        · simp only [Act.put, la_, lb_, lc_, i64_w, i32_w]
                          rfl
                        refine join_ (σ := Nat) 2 #[true, true, true, true, true, true, true, true, true, true, true, false, false] (fun s_ => [(36, .tuple #[.agg #[.bool t452, .int .u64 t453, .int .u64 t454], .bool true]), (7, .pointer (some ⟨s_, 0, none⟩)), (29, .tuple #[.agg #[.bool t452, .int .u64 t453, .int .u64 t454], .bool true]), (37, .agg #[.bool t452, .int .u64 t453, .int .u64 t454]), (38, .bool true)]) (fun s_ w' => (w'.cell? ⟨gb451, 0, none⟩ = some (.bool x452000_3) ∧ w'.cell? ⟨gb451, 1, none⟩ = some (.int .u64 x452001_3) ∧ w'.cell? ⟨gb451, 2, none⟩ = some (.int .u64 x452002_3)) ∧ (w'.heap[gb450]? = some (.cells #[.bool x451000_3, .int .u64 x451001_3, .int .u64 x451002_3] 28 (0, 0))) ∧ (w'.heap[gb451]? = some (.cells #[.bool x452000_3, .int .u64 x452001_3, .int .u64 x452002_3] 28 (0, 0))) ∧ (w'.heap[s_]? = some (.cells #[.bool false, .int .u64 0, .int .u64 0] 28 (0, 0))) ∧ (w.heap.size ≤ s_) ∧ (w.heap.size ≤ s_) ∧ (gb450 ≠ s_) ∧ (s_ ≠ gb450) ∧ (gb451 ≠ s_) ∧ (s_ ≠ gb451) ∧ (Below w.heap.size w w')) ?_ ?_
                        rotate_left
                        · intro hCont
                          refine two_ (i := 6) (j := 10) (Ni := some 36) (Nj := some 7) #[true, true, true, true, true, true, true, false, false, false, false, false, false] #[true, true, true, true, true, true, false, false, false, false, true, false, false] rfl rfl rfl rfl (two_of HT_.out (by kernel_rfl)) (by decide) (by decide) (fun K hK => ?_) (fun K hK => ?_)
                          · skip
                            refine goes_ Tryd.func16 (by kernel_rfl) rfl #[.agg #[.bool x452000_3, .int .u64 x452001_3, .int .u64 x452002_3], .int .i64 (wrap64 ((wrap64 (bt a0 x6_3)) - 48))] (by rfl) rfl rfl mp_ ?_
                            with_reducible refine (spec_TenTimes.calls k3 x452000_3 x452001_3 x452002_3 (wrap64 ((wrap64 (bt a0 x6_3)) - 48)) t452 t453 t454 true _ A17.out).mono ?_
                            rintro e w20 ⟨rfl, hb⟩
                            refine ⟨_, rfl, ?_⟩
                            have n0_ := bb_ (g := gb450) hb
                            have n1_ := bb_ (g := gb451) hb
                            have n2_ := Aside0.mk (below_step bel_ hb)
                            clear BK450
                            clear BK451
                            clear HB
                            have BK450 := n0_
                            have BK451 := n1_
                            have HB := n2_
                            clear n0_ n1_ n2_
                            (try clear hb)
                            (try clear hb2)
                            (try clear hk)
                            (try clear hi)
                            refine hK.out _ _ ⟨bc_, bc_, bc_⟩ (fun hHeld => ?_)
                            clear hK K
                            refine norm_ (a' := ?_) ?_ ?_
                            rotate_left
                            · show Act.put _ (some 36) _ = _
                              simp only [Act.put, la_, lb_, lc_, i64_w, i32_w]
                              rfl
                            refine pure_ (i := 7) (N := some 29) (v := ?_) (a' := ?_) #[true, true, true, true, true, true, true, true, false, false, false, false, false] rfl rfl (any_of HT_.out (by kernel_rfl)) (fun _ _ _ h => h) (Or.inl ⟨by rfl, ?_⟩) ?_ ?_
                            rotate_left
                            · intro w'
                              go_simp
                              with_reducible rfl
                            rotate_left
                            · simp only [Act.put, la_, lb_, lc_, i64_w, i32_w]
                              rfl
                            refine pure_ (i := 8) (N := some 37) (v := ?_) (a' := ?_) #[true, true, true, true, true, true, true, true, true, false, false, false, false] rfl rfl (any_of HT_.out (by kernel_rfl)) (fun _ _ _ h => h) (Or.inl ⟨by rfl, ?_⟩) ?_ ?_
                            rotate_left
                            · intro w'
                              go_simp
                              with_reducible rfl
                            rotate_left
                            · simp only [Act.put, la_, lb_, lc_, i64_w, i32_w]
                              rfl
                            refine pure_ (i := 9) (N := some 38) (v := ?_) (a' := ?_) #[true, true, true, true, true, true, true, true, true, true, false, false, false] rfl rfl (any_of HT_.out (by kernel_rfl)) (fun _ _ _ h => h) (Or.inl ⟨by rfl, ?_⟩) ?_ ?_
                            rotate_left
                            · intro w'
                              go_simp
                              with_reducible rfl
                            rotate_left
                            · simp only [Act.put, la_, lb_, lc_, i64_w, i32_w]
                              rfl
                            refine one_ (i := 10) (N := some 7) #[true, true, true, true, true, true, true, true, true, true, true, false, false] rfl rfl (one_of HT_.out (by kernel_rfl)) (by decide) (fun K hK => ?_)
                            refine box_step ?hg (N := 7) ?hd (cs := #[.bool false, .int .u64 0, .int .u64 0]) (t := 28) ?hr ?_; (case hd => rfl); (case hg => rfl); (case hr => first | (go_simp; done) | (go_simp; rfl))
                            intro gb456 hg w21 hbox hb
                            have n0_ := bb_ (g := gb450) hb
                            have n1_ := bb_ (g := gb451) hb
                            have n2_ := Aside0.mk (below_step bel_ hb)
                            have n3_ := Aside0.mk (hbox)
                            have n4_ := bs_ (w := w) hg
                            have n5_ := bs_ (w := w) hg
                            have n6_ := nlt_ (g := gb450) hg
                            have n7_ := ngt_ (g := gb450) hg
                            have n8_ := nlt_ (g := gb451) hg
                            have n9_ := ngt_ (g := gb451) hg
                            clear BK450
                            clear BK451
                            clear HB
                            have BK450 := n0_
                            have BK451 := n1_
                            have HB := n2_
                            have BK456 := n3_
                            have GW456 := n4_
                            have GE456 := n5_
                            have NB450_456 := n6_
                            have NB456_450 := n7_
                            have NB451_456 := n8_
                            have NB456_451 := n9_
                            clear n0_ n1_ n2_ n3_ n4_ n5_ n6_ n7_ n8_ n9_
                            clear hb hbox hg
                            refine hK.out _ _ ⟨bc_, bc_, bc_⟩ (fun hHeld => ?_)
                            clear hK K
                            refine norm_ (a' := ?_) ?_ ?_
                            rotate_left
                            · show Act.put _ (some 7) _ = _
                              simp only [Act.put, la_, lb_, lc_, i64_w, i32_w]
                              rfl
                            exact norm_ (by simp only [putAll, Act.put, la_, lb_, lc_]) (hCont (gb456) _ ⟨hHeld, bk_, bk_, bk_, GW456.out, GE456.out, NB450_456.out, NB456_450.out, NB451_456.out, NB456_451.out, bel_⟩)
                          · skip
                            refine box_step ?hg (N := 7) ?hd (cs := #[.bool false, .int .u64 0, .int .u64 0]) (t := 28) ?hr ?_; (case hd => rfl); (case hg => rfl); (case hr => first | (go_simp; done) | (go_simp; rfl))
                            intro gb456 hg w20 hbox hb
                            have n0_ := bb_ (g := gb450) hb
                            have n1_ := bb_ (g := gb451) hb
                            have n2_ := Aside0.mk (below_step bel_ hb)
                            have n3_ := Aside0.mk (hbox)
                            have n4_ := bs_ (w := w) hg
                            have n5_ := bs_ (w := w) hg
                            have n6_ := nlt_ (g := gb450) hg
                            have n7_ := ngt_ (g := gb450) hg
                            have n8_ := nlt_ (g := gb451) hg
                            have n9_ := ngt_ (g := gb451) hg
                            clear BK450
                            clear BK451
                            clear HB
                            have BK450 := n0_
                            have BK451 := n1_
                            have HB := n2_
                            have BK456 := n3_
                            have GW456 := n4_
                            have GE456 := n5_
                            have NB450_456 := n6_
                            have NB456_450 := n7_
                            have NB451_456 := n8_
                            have NB456_451 := n9_
                            clear n0_ n1_ n2_ n3_ n4_ n5_ n6_ n7_ n8_ n9_
                            clear hb hbox hg
                            refine hK.out _ _ ⟨bc_, bc_, bc_⟩ (fun hHeld => ?_)
                            clear hK K
                            refine norm_ (a' := ?_) ?_ ?_
                            rotate_left
                            · show Act.put _ (some 7) _ = _
                              simp only [Act.put, la_, lb_, lc_, i64_w, i32_w]
                              rfl
                            refine one_ (i := 6) (N := some 36) #[true, true, true, true, true, true, true, false, false, false, true, false, false] rfl rfl (one_of HT_.out (by kernel_rfl)) (by decide) (fun K hK => ?_)
                            refine goes_ Tryd.func16 (by kernel_rfl) rfl #[.agg #[.bool x452000_3, .int .u64 x452001_3, .int .u64 x452002_3], .int .i64 (wrap64 ((wrap64 (bt a0 x6_3)) - 48))] (by rfl) rfl rfl mp_ ?_
                            with_reducible refine (spec_TenTimes.calls k3 x452000_3 x452001_3 x452002_3 (wrap64 ((wrap64 (bt a0 x6_3)) - 48)) t452 t453 t454 true _ A17.out).mono ?_
                            rintro e w21 ⟨rfl, hb⟩
                            refine ⟨_, rfl, ?_⟩
                            have n0_ := bb_ (g := gb450) hb
                            have n1_ := bb_ (g := gb451) hb
                            have n2_ := bb_ (g := gb456) hb
                            have n3_ := Aside0.mk (below_step bel_ hb)
                            clear BK450
                            clear BK451
                            clear BK456
                            clear HB
                            have BK450 := n0_
                            have BK451 := n1_
                            have BK456 := n2_
                            have HB := n3_
                            clear n0_ n1_ n2_ n3_
                            (try clear hb)
                            (try clear hb2)
                            (try clear hk)
                            (try clear hi)
                            refine hK.out _ _ ⟨bc_, bc_, bc_⟩ (fun hHeld => ?_)
                            clear hK K
                            refine norm_ (a' := ?_) ?_ ?_
                            rotate_left
                            · show Act.put _ (some 36) _ = _
                              simp only [Act.put, la_, lb_, lc_, i64_w, i32_w]
                              rfl
                            refine pure_ (i := 7) (N := some 29) (v := ?_) (a' := ?_) #[true, true, true, true, true, true, true, true, false, false, true, false, false] rfl rfl (any_of HT_.out (by kernel_rfl)) (fun _ _ _ h => h) (Or.inl ⟨by rfl, ?_⟩) ?_ ?_
                            rotate_left
                            · intro w'
                              go_simp
                              with_reducible rfl
                            rotate_left
                            · simp only [Act.put, la_, lb_, lc_, i64_w, i32_w]
                              rfl
                            refine pure_ (i := 8) (N := some 37) (v := ?_) (a' := ?_) #[true, true, true, true, true, true, true, true, true, false, true, false, false] rfl rfl (any_of HT_.out (by kernel_rfl)) (fun _ _ _ h => h) (Or.inl ⟨by rfl, ?_⟩) ?_ ?_
                            rotate_left
                            · intro w'
                              go_simp
                              with_reducible rfl
                            rotate_left
                            · simp only [Act.put, la_, lb_, lc_, i64_w, i32_w]
                              rfl
                            refine pure_ (i := 9) (N := some 38) (v := ?_) (a' := ?_) #[true, true, true, true, true, true, true, true, true, true, true, false, false] rfl rfl (any_of HT_.out (by kernel_rfl)) (fun _ _ _ h => h) (Or.inl ⟨by rfl, ?_⟩) ?_ ?_
                            rotate_left
                            · intro w'
                              go_simp
                              with_reducible rfl
                            rotate_left
                            · simp only [Act.put, la_, lb_, lc_, i64_w, i32_w]
                              rfl
                            exact norm_ (by simp only [putAll, Act.put, la_, lb_, lc_]) (hCont (gb456) _ ⟨hHeld, bk_, bk_, bk_, GW456.out, GE456.out, NB450_456.out, NB456_450.out, NB451_456.out, NB456_451.out, bel_⟩)
                        rintro gb456 w22 ⟨hS_, h0_, h1_, h2_, h3_, h4_, h5_, h6_, h7_, h8_, h9_⟩
                        have n0_ : Aside0 (w22.heap[gb450]? = some (.cells #[.bool x451000_3, .int .u64 x451001_3, .int .u64 x451002_3] 28 (0, 0))) := ⟨h0_⟩
                        have n1_ : Aside0 (w22.heap[gb451]? = some (.cells #[.bool x452000_3, .int .u64 x452001_3, .int .u64 x452002_3] 28 (0, 0))) := ⟨h1_⟩
                        have n2_ : Aside0 (w22.heap[gb456]? = some (.cells #[.bool false, .int .u64 0, .int .u64 0] 28 (0, 0))) := ⟨h2_⟩
                        have n3_ : Aside0 (w.heap.size ≤ gb456) := ⟨h3_⟩
                        have n4_ : Aside0 (w.heap.size ≤ gb456) := ⟨h4_⟩
                        have n5_ : Aside0 (gb450 ≠ gb456) := ⟨h5_⟩
                        have n6_ : Aside0 (gb456 ≠ gb450) := ⟨h6_⟩
                        have n7_ : Aside0 (gb451 ≠ gb456) := ⟨h7_⟩
                        have n8_ : Aside0 (gb456 ≠ gb451) := ⟨h8_⟩
                        have n9_ : Aside0 (Below w.heap.size w w22) := ⟨h9_⟩
                        clear BK450
                        clear BK451
                        clear HB
                        clear h0_ h1_ h2_ h3_ h4_ h5_ h6_ h7_ h8_ h9_
                        have BK450 := n0_
                        have BK451 := n1_
                        have BK456 := n2_
                        have GW456 := n3_
                        have GE456 := n4_
                        have NB450_456 := n5_
                        have NB456_450 := n6_
                        have NB451_456 := n7_
                        have NB456_451 := n8_
                        have HB := n9_
                        clear n0_ n1_ n2_ n3_ n4_ n5_ n6_ n7_ n8_ n9_
                        have hHeld : w22.cell? ⟨gb451, 0, none⟩ = some (.bool x452000_3) ∧ w22.cell? ⟨gb451, 1, none⟩ = some (.int .u64 x452001_3) ∧ w22.cell? ⟨gb451, 2, none⟩ = some (.int .u64 x452002_3) := hS_
                        refine norm_ (a' := ?_) ?_ ?_
                        rotate_left
                        · simp only [putAll, Act.put, la_, lb_, lc_]
                          rfl
                        refine one_ (i := 11) (N := none) #[true, true, true, true, true, true, true, true, true, true, true, true, false] rfl rfl (one_of HT_.out (by kernel_rfl)) (by decide) (fun K hK => ?_)
                        have hs23 : w22.cell? ⟨gb456, 0, none⟩ = some (.bool false) := (blk_cell BK456.out 0).trans rfl
                        have hfs23 := blk_frozen BK456.out 0
                        have hns23_0 := NB450_456.out
                        have hns23_1 := NB451_456.out
                        have hms23_0 := NB456_450.out
                        have hms23_1 := NB456_451.out
                        have hs24 : w22.cell? ⟨gb456, 1, none⟩ = some (.int .u64 0) := (blk_cell BK456.out 1).trans rfl
                        have hfs24 := blk_frozen BK456.out 1
                        have hns24_0 := NB450_456.out
                        have hns24_1 := NB451_456.out
                        have hms24_0 := NB456_450.out
                        have hms24_1 := NB456_451.out
                        have hs25 : w22.cell? ⟨gb456, 2, none⟩ = some (.int .u64 0) := (blk_cell BK456.out 2).trans rfl
                        have hfs25 := blk_frozen BK456.out 2
                        have hns25_0 := NB450_456.out
                        have hns25_1 := NB451_456.out
                        have hms25_0 := NB456_450.out
                        have hms25_1 := NB456_451.out
                        refine skip_ (w1 := ?_) ?_ ?_ ?_ ?_
                        rotate_left
                        · rfl
                        · rfl
                        · go_simp
                          rfl
                        refine hK.out _ _ ⟨(cfar_ hHeld.1), (cfar_ hHeld.2.1), (cfar_ hHeld.2.2)⟩ (fun hHeld => ?_)
                        clear hK K
                        refine pure_ (i := 12) (N := some 8) (v := ?_) (a' := ?_) #[true, true, true, true, true, true, true, true, true, true, true, true, true] rfl rfl (any_of HT_.out (by kernel_rfl)) (fun _ _ _ h => h) (Or.inl ⟨by rfl, ?_⟩) ?_ ?_
                        rotate_left
                        · intro w'
                          go_simp
                          with_reducible rfl
                        rotate_left
                        · simp only [Act.put, la_, lb_, lc_, i64_w, i32_w]
                          rfl
                        refine done_ (done_of HT_.out (by kernel_rfl)) ?_
                        have hnb26 := NB456_450.out
                        have hnc26 := NB450_456.out
                        have hnb27 := NB456_451.out
                        have hnc27 := NB451_456.out
                        obtain ⟨hcz28_0, hcz28_1, hcz28_2, hfz28_0, hfz28_1, hfz28_2⟩ := cf3_ (w := w22) BK456.out
                        have hnb29 := NB451_450.out
                        have hnc29 := NB450_451.out
                        obtain ⟨hcz30_0, hcz30_1, hcz30_2, hfz30_0, hfz30_1, hfz30_2⟩ := cf3_ (w := w22) BK451.out
                        try go_wp2
                        go_roundg k3
                        case measure => have := HJ1.out; have := HJ8.out; have := HK3.out; omega
                        case rel => exact ⟨(wrap64 (x6_3 + 1)), (x451000_3), (x451001_3), (x451002_3), (t452), (t453), (t454), (by first | rfl | (simp; done) | (simp [*]; done)), H', ⟨by have := HJ1.out; have := HJ8.out; have := HK3.out; omega⟩, ⟨by (with_reducible repeat (first | refine bN_ _ ?_ | refine bd_ ?_ | refine ba_ _ ?_)); refine blk_far ?_ NB450_451.out _; (with_reducible repeat (first | refine bN_ _ ?_ | refine bd_ ?_ | refine ba_ _ ?_)); refine blk_far ?_ NB450_451.out _; (with_reducible repeat (first | refine bN_ _ ?_ | refine bd_ ?_ | refine ba_ _ ?_)); refine blk_far ?_ NB450_451.out _; (with_reducible repeat (first | refine bN_ _ ?_ | refine bd_ ?_ | refine ba_ _ ?_)); refine blk_far ?_ NB450_456.out _; (with_reducible repeat (first | refine bN_ _ ?_ | refine bd_ ?_ | refine ba_ _ ?_)); refine blk_far ?_ NB450_456.out _; (with_reducible repeat (first | refine bN_ _ ?_ | refine bd_ ?_ | refine ba_ _ ?_)); refine blk_far ?_ NB450_456.out _; (with_reducible repeat (first | refine bN_ _ ?_ | refine bd_ ?_ | refine ba_ _ ?_)); exact BK450.out⟩, ⟨by (with_reducible repeat (first | refine bN_ _ ?_ | refine bd_ ?_ | refine ba_ _ ?_)); refine blk_put (cs := #[.bool t452, .int .u64 t453, .int .u64 x452002_3]) ?_ 2 _ rfl; (with_reducible repeat (first | refine bN_ _ ?_ | refine bd_ ?_ | refine ba_ _ ?_)); refine blk_put (cs := #[.bool t452, .int .u64 x452001_3, .int .u64 x452002_3]) ?_ 1 _ rfl; (with_reducible repeat (first | refine bN_ _ ?_ | refine bd_ ?_ | refine ba_ _ ?_)); refine blk_put (cs := #[.bool x452000_3, .int .u64 x452001_3, .int .u64 x452002_3]) ?_ 0 _ rfl; (with_reducible repeat (first | refine bN_ _ ?_ | refine bd_ ?_ | refine ba_ _ ?_)); refine blk_far ?_ NB451_456.out _; (with_reducible repeat (first | refine bN_ _ ?_ | refine bd_ ?_ | refine ba_ _ ?_)); refine blk_far ?_ NB451_456.out _; (with_reducible repeat (first | refine bN_ _ ?_ | refine bd_ ?_ | refine ba_ _ ?_)); refine blk_far ?_ NB451_456.out _; (with_reducible repeat (first | refine bN_ _ ?_ | refine bd_ ?_ | refine ba_ _ ?_)); exact BK451.out⟩, ⟨bel_⟩⟩
                      · replace c18 := Bool.eq_false_iff.mpr c18
                        subst c18
                        have H1 : (some (false, 0, 0, false)) = some (r1, r2, r3, r4) := by rw [if_neg (show ¬ (false = true) by decide)] at H; exact H
                        clear H
                        have H := H1
                        clear H1
                        simp only [Option.some.injEq, Prod.mk.injEq] at H
                        obtain ⟨rfl, rfl, rfl, rfl⟩ := H
                        try go_wp2
                        have n0_ := Aside0.mk (blk_drew BK450.out)
                        have n1_ := Aside0.mk (blk_drew BK451.out)
                        have n2_ := Aside0.mk (below_drew1 HB.out)
                        clear BK450
                        clear BK451
                        clear HB
                        have BK450 := n0_
                        have BK451 := n1_
                        have HB := n2_
                        clear n0_ n1_ n2_
                        have p16 : 0 ≤ (x6_3 : Int) := of_decide_eq_true (by first | (with_reducible assumption) | assumption)
                        have q16 : x6_3 < (a0.size : Int) := of_decide_eq_true (by first | (with_reducible assumption) | assumption)
                        have hx16 := bt_at a0 x6_3
                        replace p16 := eq_true p16
                        replace q16 := eq_true q16
                        refine start_ (n := 13) (S := fun w' => w'.cell? ⟨gb451, 0, none⟩ = some (.bool x452000_3) ∧ w'.cell? ⟨gb451, 1, none⟩ = some (.int .u64 x452001_3) ∧ w'.cell? ⟨gb451, 2, none⟩ = some (.int .u64 x452002_3)) (ds := []) #[false, false, false, false, false, false, false, false, false, false, false, false, false] (by kernel_rfl) rfl rfl ⟨bc_, bc_, bc_⟩ (fun hHeld => ?_); refine with_tabW spec_ReadWide.tab10 spec_ReadWide.bits10 (fun HT_ HW_ => ?_)
                        generalize wr.drew = w31 at BK450 BK451 HB hHeld ⊢
                        refine pure_ (i := 1) (N := some 31) (v := ?_) (a' := ?_) #[false, true, false, false, false, false, false, false, false, false, false, false, false] rfl rfl (any_of HT_.out (by kernel_rfl)) (fun _ _ _ h => h) (Or.inl ⟨by rfl, ?_⟩) ?_ ?_
                        rotate_left
                        · intro w'
                          go_simp
                          with_reducible rfl
                        rotate_left
                        · simp only [Act.put, la_, lb_, lc_, i64_w, i32_w]
                          rfl
                        refine pure_ (i := 2) (N := some 32) (v := ?_) (a' := ?_) #[false, true, true, false, false, false, false, false, false, false, false, false, false] rfl rfl (any_of HT_.out (by kernel_rfl)) (fun _ _ _ h => h) (Or.inl ⟨by rfl, ?_⟩) ?_ ?_
                        rotate_left
                        · intro w'
                          go_simp
                          with_reducible rfl
                        rotate_left
                        · simp only [Act.put, la_, lb_, lc_, i64_w, i32_w]
                          rfl
                        refine take_ (i := 0) (N := some 30) (v := ?_) (a' := ?_) #[true, true, true, false, false, false, false, false, false, false, false, false, false] rfl rfl (take_ofW HT_.out HW_.out (by kernel_rfl)) (fun _ _ _ h => h) (Or.inl ⟨by rfl, ?_⟩) hHeld ?_ ?_
                        rotate_left
                        · rintro w' ⟨s0, s1, s2⟩
                          go_simp
                          with_reducible rfl
                        rotate_left
                        · simp only [Act.put, la_, lb_, lc_, i64_w, i32_w]
                          rfl
                        refine take_ (i := 3) (N := some 33) (v := ?_) (a' := ?_) #[true, true, true, true, false, false, false, false, false, false, false, false, false] rfl rfl (take_ofW HT_.out HW_.out (by kernel_rfl)) (fun _ _ _ h => h) (Or.inl ⟨by rfl, ?_⟩) hHeld ?_ ?_
                        rotate_left
                        · rintro w' ⟨s0, s1, s2⟩
                          go_simp
                          with_reducible rfl
                        rotate_left
                        · simp only [Act.put, la_, lb_, lc_, i64_w, i32_w]
                          rfl
                        refine pure_ (i := 4) (N := some 34) (v := ?_) (a' := ?_) #[true, true, true, true, true, false, false, false, false, false, false, false, false] rfl rfl (any_of HT_.out (by kernel_rfl)) (fun _ _ _ h => h) (Or.inl ⟨by rfl, ?_⟩) ?_ ?_
                        rotate_left
                        · intro w'
                          go_simp
                          with_reducible rfl
                        rotate_left
                        · simp only [Act.put, la_, lb_, lc_, i64_w, i32_w]
                          rfl
                        refine pure_ (i := 5) (N := some 35) (v := ?_) (a' := ?_) #[true, true, true, true, true, true, false, false, false, false, false, false, false] rfl rfl (any_of HT_.out (by kernel_rfl)) (fun _ _ _ h => h) (Or.inl ⟨by rfl, ?_⟩) ?_ ?_
                        rotate_left
                        · intro w'
                          go_simp
                          with_reducible rfl
                        rotate_left
                        · simp only [Act.put, la_, lb_, lc_, i64_w, i32_w]
                          rfl
                        refine join_ (σ := Nat) 2 #[true, true, true, true, true, true, true, true, true, true, true, false, false] (fun s_ => [(36, .tuple #[.agg #[.bool t452, .int .u64 t453, .int .u64 t454], .bool false]), (7, .pointer (some ⟨s_, 0, none⟩)), (29, .tuple #[.agg #[.bool t452, .int .u64 t453, .int .u64 t454], .bool false]), (37, .agg #[.bool t452, .int .u64 t453, .int .u64 t454]), (38, .bool false)]) (fun s_ w' => (w'.cell? ⟨gb451, 0, none⟩ = some (.bool x452000_3) ∧ w'.cell? ⟨gb451, 1, none⟩ = some (.int .u64 x452001_3) ∧ w'.cell? ⟨gb451, 2, none⟩ = some (.int .u64 x452002_3)) ∧ (w'.heap[gb450]? = some (.cells #[.bool x451000_3, .int .u64 x451001_3, .int .u64 x451002_3] 28 (0, 0))) ∧ (w'.heap[gb451]? = some (.cells #[.bool x452000_3, .int .u64 x452001_3, .int .u64 x452002_3] 28 (0, 0))) ∧ (w'.heap[s_]? = some (.cells #[.bool false, .int .u64 0, .int .u64 0] 28 (0, 0))) ∧ (w.heap.size ≤ s_) ∧ (w.heap.size ≤ s_) ∧ (gb450 ≠ s_) ∧ (s_ ≠ gb450) ∧ (gb451 ≠ s_) ∧ (s_ ≠ gb451) ∧ (Below w.heap.size w w')) ?_ ?_
                        rotate_left
                        · intro hCont
                          refine two_ (i := 6) (j := 10) (Ni := some 36) (Nj := some 7) #[true, true, true, true, true, true, true, false, false, false, false, false, false] #[true, true, true, true, true, true, false, false, false, false, true, false, false] rfl rfl rfl rfl (two_of HT_.out (by kernel_rfl)) (by decide) (by decide) (fun K hK => ?_) (fun K hK => ?_)
                          · skip
                            refine goes_ Tryd.func16 (by kernel_rfl) rfl #[.agg #[.bool x452000_3, .int .u64 x452001_3, .int .u64 x452002_3], .int .i64 (wrap64 ((wrap64 (bt a0 x6_3)) - 48))] (by rfl) rfl rfl mp_ ?_
                            with_reducible refine (spec_TenTimes.calls k3 x452000_3 x452001_3 x452002_3 (wrap64 ((wrap64 (bt a0 x6_3)) - 48)) t452 t453 t454 false _ A17.out).mono ?_
                            rintro e w32 ⟨rfl, hb⟩
                            refine ⟨_, rfl, ?_⟩
                            have n0_ := bb_ (g := gb450) hb
                            have n1_ := bb_ (g := gb451) hb
                            have n2_ := Aside0.mk (below_step bel_ hb)
                            clear BK450
                            clear BK451
                            clear HB
                            have BK450 := n0_
                            have BK451 := n1_
                            have HB := n2_
                            clear n0_ n1_ n2_
                            (try clear hb)
                            (try clear hb2)
                            (try clear hk)
                            (try clear hi)
                            refine hK.out _ _ ⟨bc_, bc_, bc_⟩ (fun hHeld => ?_)
                            clear hK K
                            refine norm_ (a' := ?_) ?_ ?_
                            rotate_left
                            · show Act.put _ (some 36) _ = _
                              simp only [Act.put, la_, lb_, lc_, i64_w, i32_w]
                              rfl
                            refine pure_ (i := 7) (N := some 29) (v := ?_) (a' := ?_) #[true, true, true, true, true, true, true, true, false, false, false, false, false] rfl rfl (any_of HT_.out (by kernel_rfl)) (fun _ _ _ h => h) (Or.inl ⟨by rfl, ?_⟩) ?_ ?_
                            rotate_left
                            · intro w'
                              go_simp
                              with_reducible rfl
                            rotate_left
                            · simp only [Act.put, la_, lb_, lc_, i64_w, i32_w]
                              rfl
                            refine pure_ (i := 8) (N := some 37) (v := ?_) (a' := ?_) #[true, true, true, true, true, true, true, true, true, false, false, false, false] rfl rfl (any_of HT_.out (by kernel_rfl)) (fun _ _ _ h => h) (Or.inl ⟨by rfl, ?_⟩) ?_ ?_
                            rotate_left
                            · intro w'
                              go_simp
                              with_reducible rfl
                            rotate_left
                            · simp only [Act.put, la_, lb_, lc_, i64_w, i32_w]
                              rfl
                            refine pure_ (i := 9) (N := some 38) (v := ?_) (a' := ?_) #[true, true, true, true, true, true, true, true, true, true, false, false, false] rfl rfl (any_of HT_.out (by kernel_rfl)) (fun _ _ _ h => h) (Or.inl ⟨by rfl, ?_⟩) ?_ ?_
                            rotate_left
                            · intro w'
                              go_simp
                              with_reducible rfl
                            rotate_left
                            · simp only [Act.put, la_, lb_, lc_, i64_w, i32_w]
                              rfl
                            refine one_ (i := 10) (N := some 7) #[true, true, true, true, true, true, true, true, true, true, true, false, false] rfl rfl (one_of HT_.out (by kernel_rfl)) (by decide) (fun K hK => ?_)
                            refine box_step ?hg (N := 7) ?hd (cs := #[.bool false, .int .u64 0, .int .u64 0]) (t := 28) ?hr ?_; (case hd => rfl); (case hg => rfl); (case hr => first | (go_simp; done) | (go_simp; rfl))
                            intro gb456 hg w33 hbox hb
                            have n0_ := bb_ (g := gb450) hb
                            have n1_ := bb_ (g := gb451) hb
                            have n2_ := Aside0.mk (below_step bel_ hb)
                            have n3_ := Aside0.mk (hbox)
                            have n4_ := bs_ (w := w) hg
                            have n5_ := bs_ (w := w) hg
                            have n6_ := nlt_ (g := gb450) hg
                            have n7_ := ngt_ (g := gb450) hg
                            have n8_ := nlt_ (g := gb451) hg
                            have n9_ := ngt_ (g := gb451) hg
                            clear BK450
                            clear BK451
                            clear HB
                            have BK450 := n0_
                            have BK451 := n1_
                            have HB := n2_
                            have BK456 := n3_
                            have GW456 := n4_
                            have GE456 := n5_
                            have NB450_456 := n6_
                            have NB456_450 := n7_
                            have NB451_456 := n8_
                            have NB456_451 := n9_
                            clear n0_ n1_ n2_ n3_ n4_ n5_ n6_ n7_ n8_ n9_
                            clear hb hbox hg
                            refine hK.out _ _ ⟨bc_, bc_, bc_⟩ (fun hHeld => ?_)
                            clear hK K
                            refine norm_ (a' := ?_) ?_ ?_
                            rotate_left
                            · show Act.put _ (some 7) _ = _
                              simp only [Act.put, la_, lb_, lc_, i64_w, i32_w]
                              rfl
                            exact norm_ (by simp only [putAll, Act.put, la_, lb_, lc_]) (hCont (gb456) _ ⟨hHeld, bk_, bk_, bk_, GW456.out, GE456.out, NB450_456.out, NB456_450.out, NB451_456.out, NB456_451.out, bel_⟩)
                          · skip
                            refine box_step ?hg (N := 7) ?hd (cs := #[.bool false, .int .u64 0, .int .u64 0]) (t := 28) ?hr ?_; (case hd => rfl); (case hg => rfl); (case hr => first | (go_simp; done) | (go_simp; rfl))
                            intro gb456 hg w32 hbox hb
                            have n0_ := bb_ (g := gb450) hb
                            have n1_ := bb_ (g := gb451) hb
                            have n2_ := Aside0.mk (below_step bel_ hb)
                            have n3_ := Aside0.mk (hbox)
                            have n4_ := bs_ (w := w) hg
                            have n5_ := bs_ (w := w) hg
                            have n6_ := nlt_ (g := gb450) hg
                            have n7_ := ngt_ (g := gb450) hg
                            have n8_ := nlt_ (g := gb451) hg
                            have n9_ := ngt_ (g := gb451) hg
                            clear BK450
                            clear BK451
                            clear HB
                            have BK450 := n0_
                            have BK451 := n1_
                            have HB := n2_
                            have BK456 := n3_
                            have GW456 := n4_
                            have GE456 := n5_
                            have NB450_456 := n6_
                            have NB456_450 := n7_
                            have NB451_456 := n8_
                            have NB456_451 := n9_
                            clear n0_ n1_ n2_ n3_ n4_ n5_ n6_ n7_ n8_ n9_
                            clear hb hbox hg
                            refine hK.out _ _ ⟨bc_, bc_, bc_⟩ (fun hHeld => ?_)
                            clear hK K
                            refine norm_ (a' := ?_) ?_ ?_
                            rotate_left
                            · show Act.put _ (some 7) _ = _
                              simp only [Act.put, la_, lb_, lc_, i64_w, i32_w]
                              rfl
                            refine one_ (i := 6) (N := some 36) #[true, true, true, true, true, true, true, false, false, false, true, false, false] rfl rfl (one_of HT_.out (by kernel_rfl)) (by decide) (fun K hK => ?_)
                            refine goes_ Tryd.func16 (by kernel_rfl) rfl #[.agg #[.bool x452000_3, .int .u64 x452001_3, .int .u64 x452002_3], .int .i64 (wrap64 ((wrap64 (bt a0 x6_3)) - 48))] (by rfl) rfl rfl mp_ ?_
                            with_reducible refine (spec_TenTimes.calls k3 x452000_3 x452001_3 x452002_3 (wrap64 ((wrap64 (bt a0 x6_3)) - 48)) t452 t453 t454 false _ A17.out).mono ?_
                            rintro e w33 ⟨rfl, hb⟩
                            refine ⟨_, rfl, ?_⟩
                            have n0_ := bb_ (g := gb450) hb
                            have n1_ := bb_ (g := gb451) hb
                            have n2_ := bb_ (g := gb456) hb
                            have n3_ := Aside0.mk (below_step bel_ hb)
                            clear BK450
                            clear BK451
                            clear BK456
                            clear HB
                            have BK450 := n0_
                            have BK451 := n1_
                            have BK456 := n2_
                            have HB := n3_
                            clear n0_ n1_ n2_ n3_
                            (try clear hb)
                            (try clear hb2)
                            (try clear hk)
                            (try clear hi)
                            refine hK.out _ _ ⟨bc_, bc_, bc_⟩ (fun hHeld => ?_)
                            clear hK K
                            refine norm_ (a' := ?_) ?_ ?_
                            rotate_left
                            · show Act.put _ (some 36) _ = _
                              simp only [Act.put, la_, lb_, lc_, i64_w, i32_w]
                              rfl
                            refine pure_ (i := 7) (N := some 29) (v := ?_) (a' := ?_) #[true, true, true, true, true, true, true, true, false, false, true, false, false] rfl rfl (any_of HT_.out (by kernel_rfl)) (fun _ _ _ h => h) (Or.inl ⟨by rfl, ?_⟩) ?_ ?_
                            rotate_left
                            · intro w'
                              go_simp
                              with_reducible rfl
                            rotate_left
                            · simp only [Act.put, la_, lb_, lc_, i64_w, i32_w]
                              rfl
                            refine pure_ (i := 8) (N := some 37) (v := ?_) (a' := ?_) #[true, true, true, true, true, true, true, true, true, false, true, false, false] rfl rfl (any_of HT_.out (by kernel_rfl)) (fun _ _ _ h => h) (Or.inl ⟨by rfl, ?_⟩) ?_ ?_
                            rotate_left
                            · intro w'
                              go_simp
                              with_reducible rfl
                            rotate_left
                            · simp only [Act.put, la_, lb_, lc_, i64_w, i32_w]
                              rfl
                            refine pure_ (i := 9) (N := some 38) (v := ?_) (a' := ?_) #[true, true, true, true, true, true, true, true, true, true, true, false, false] rfl rfl (any_of HT_.out (by kernel_rfl)) (fun _ _ _ h => h) (Or.inl ⟨by rfl, ?_⟩) ?_ ?_
                            rotate_left
                            · intro w'
                              go_simp
                              with_reducible rfl
                            rotate_left
                            · simp only [Act.put, la_, lb_, lc_, i64_w, i32_w]
                              rfl
                            exact norm_ (by simp only [putAll, Act.put, la_, lb_, lc_]) (hCont (gb456) _ ⟨hHeld, bk_, bk_, bk_, GW456.out, GE456.out, NB450_456.out, NB456_450.out, NB451_456.out, NB456_451.out, bel_⟩)
                        rintro gb456 w34 ⟨hS_, h0_, h1_, h2_, h3_, h4_, h5_, h6_, h7_, h8_, h9_⟩
                        have n0_ : Aside0 (w34.heap[gb450]? = some (.cells #[.bool x451000_3, .int .u64 x451001_3, .int .u64 x451002_3] 28 (0, 0))) := ⟨h0_⟩
                        have n1_ : Aside0 (w34.heap[gb451]? = some (.cells #[.bool x452000_3, .int .u64 x452001_3, .int .u64 x452002_3] 28 (0, 0))) := ⟨h1_⟩
                        have n2_ : Aside0 (w34.heap[gb456]? = some (.cells #[.bool false, .int .u64 0, .int .u64 0] 28 (0, 0))) := ⟨h2_⟩
                        have n3_ : Aside0 (w.heap.size ≤ gb456) := ⟨h3_⟩
                        have n4_ : Aside0 (w.heap.size ≤ gb456) := ⟨h4_⟩
                        have n5_ : Aside0 (gb450 ≠ gb456) := ⟨h5_⟩
                        have n6_ : Aside0 (gb456 ≠ gb450) := ⟨h6_⟩
                        have n7_ : Aside0 (gb451 ≠ gb456) := ⟨h7_⟩
                        have n8_ : Aside0 (gb456 ≠ gb451) := ⟨h8_⟩
                        have n9_ : Aside0 (Below w.heap.size w w34) := ⟨h9_⟩
                        clear BK450
                        clear BK451
                        clear HB
                        clear h0_ h1_ h2_ h3_ h4_ h5_ h6_ h7_ h8_ h9_
                        have BK450 := n0_
                        have BK451 := n1_
                        have BK456 := n2_
                        have GW456 := n3_
                        have GE456 := n4_
                        have NB450_456 := n5_
                        have NB456_450 := n6_
                        have NB451_456 := n7_
                        have NB456_451 := n8_
                        have HB := n9_
                        clear n0_ n1_ n2_ n3_ n4_ n5_ n6_ n7_ n8_ n9_
                        have hHeld : w34.cell? ⟨gb451, 0, none⟩ = some (.bool x452000_3) ∧ w34.cell? ⟨gb451, 1, none⟩ = some (.int .u64 x452001_3) ∧ w34.cell? ⟨gb451, 2, none⟩ = some (.int .u64 x452002_3) := hS_
                        refine norm_ (a' := ?_) ?_ ?_
                        rotate_left
                        · simp only [putAll, Act.put, la_, lb_, lc_]
                          rfl
                        refine one_ (i := 11) (N := none) #[true, true, true, true, true, true, true, true, true, true, true, true, false] rfl rfl (one_of HT_.out (by kernel_rfl)) (by decide) (fun K hK => ?_)
                        have hs35 : w34.cell? ⟨gb456, 0, none⟩ = some (.bool false) := (blk_cell BK456.out 0).trans rfl
                        have hfs35 := blk_frozen BK456.out 0
                        have hns35_0 := NB450_456.out
                        have hns35_1 := NB451_456.out
                        have hms35_0 := NB456_450.out
                        have hms35_1 := NB456_451.out
                        have hs36 : w34.cell? ⟨gb456, 1, none⟩ = some (.int .u64 0) := (blk_cell BK456.out 1).trans rfl
                        have hfs36 := blk_frozen BK456.out 1
                        have hns36_0 := NB450_456.out
                        have hns36_1 := NB451_456.out
                        have hms36_0 := NB456_450.out
                        have hms36_1 := NB456_451.out
                        have hs37 : w34.cell? ⟨gb456, 2, none⟩ = some (.int .u64 0) := (blk_cell BK456.out 2).trans rfl
                        have hfs37 := blk_frozen BK456.out 2
                        have hns37_0 := NB450_456.out
                        have hns37_1 := NB451_456.out
                        have hms37_0 := NB456_450.out
                        have hms37_1 := NB456_451.out
                        refine skip_ (w1 := ?_) ?_ ?_ ?_ ?_
                        rotate_left
                        · rfl
                        · rfl
                        · go_simp
                          rfl
                        refine hK.out _ _ ⟨(cfar_ hHeld.1), (cfar_ hHeld.2.1), (cfar_ hHeld.2.2)⟩ (fun hHeld => ?_)
                        clear hK K
                        refine pure_ (i := 12) (N := some 8) (v := ?_) (a' := ?_) #[true, true, true, true, true, true, true, true, true, true, true, true, true] rfl rfl (any_of HT_.out (by kernel_rfl)) (fun _ _ _ h => h) (Or.inl ⟨by rfl, ?_⟩) ?_ ?_
                        rotate_left
                        · intro w'
                          go_simp
                          with_reducible rfl
                        rotate_left
                        · simp only [Act.put, la_, lb_, lc_, i64_w, i32_w]
                          rfl
                        refine done_ (done_of HT_.out (by kernel_rfl)) ?_
                        have hnb38 := NB450_451.out
                        have hnc38 := NB451_450.out
                        have hnb39 := NB450_456.out
                        have hnc39 := NB456_450.out
                        obtain ⟨hcz40_0, hcz40_1, hcz40_2, hfz40_0, hfz40_1, hfz40_2⟩ := cf3_ (w := w34) BK450.out
                        try go_wp2
                        refine bodyPost_ret (results_ct rfl _ _ gb450 28 #[.bool false, .int .u64 0, .int .u64 0] (0, 0) _ rfl (pu_ #[.bool false, .int .u64 0, .int .u64 x451002_3] 2 (h := (pu_ #[.bool false, .int .u64 x451001_3, .int .u64 x451002_3] 1 (h := (pu_ #[.bool x451000_3, .int .u64 x451001_3, .int .u64 x451002_3] 0 (h := bk_)))))) Tryd.underlying28 rfl (by kernel_rfl)) rfl ?_
                        exact ⟨rf_, bel_⟩
                    · rw [if_neg c15] at H
                      exact absurd H (by simp)
                  · rw [if_neg c14] at H
                    have c14b0 : decide (x6_3 < (a0.size : Int)) = false := decide_eq_false c14
                    clear c14
                    by_cases c41 : x4_8 = 1
                    · rw [if_pos c41] at H
                      have c41b0 : (x4_8 == 1) = true := beq_iff_eq.mpr c41
                      have c41b1 : (x4_8 != 1) = false := bne_eq_false_iff_eq.mpr c41
                      clear c41
                      replace H := Option.bind_eq_some_iff.mp H
                      obtain ⟨⟨t457, t458, t459⟩, A420, H⟩ := H
                      replace H : ((spec_WideText.f k3 t457 t458 t459).bind fun t460 => (if t460.toList = a0.toList then (some (t457, t458, t459, true)) else (some (false, 0, 0, false)))) = some (r1, r2, r3, r4) := H
                      have A42 := Aside0.mk A420
                      clear A420
                      replace H := Option.bind_eq_some_iff.mp H
                      obtain ⟨t460, A430, H⟩ := H
                      replace H : (if t460.toList = a0.toList then (some (t457, t458, t459, true)) else (some (false, 0, 0, false))) = some (r1, r2, r3, r4) := H
                      have A43 := Aside0.mk A430
                      clear A430
                      by_cases c44 : t460.toList = a0.toList
                      · rw [if_pos c44] at H
                        have c44b0 : (t460.toList == a0.toList) = true := beq_iff_eq.mpr c44
                        have c44b1 : (t460.toList != a0.toList) = false := bne_eq_false_iff_eq.mpr c44
                        clear c44
                        simp only [Option.some.injEq, Prod.mk.injEq] at H
                        obtain ⟨rfl, rfl, rfl, rfl⟩ := H
                        have hnb45 := NB451_450.out
                        have hnc45 := NB450_451.out
                        obtain ⟨hcz46_0, hcz46_1, hcz46_2, hfz46_0, hfz46_1, hfz46_2⟩ := cf3_ (w := wr) BK451.out
                        go_wp2_with (first | ((with_reducible refine gate_callee (f := 66) rfl ?_); refine goesL_ (some 46) rfl rfl Tryd.func66 (by kernel_rfl) rfl #[.agg #[.bool x452000_3, .int .u64 x452001_3, .int .u64 x452002_3]] rfl mp_ ?_; (with_reducible refine (spec_NegWide.calls x452000_3 x452001_3 x452002_3 t457 t458 t459 _ A42.out).mono ?_); rintro e w47 ⟨rfl, hb⟩; refine ⟨_, rfl, ?_⟩; have n0_ := bb_ (g := gb450) hb; have n1_ := bb_ (g := gb451) hb; have n2_ := Aside0.mk (below_step bel_ hb); clear BK450; clear BK451; clear HB; have BK450 := n0_; have BK451 := n1_; have HB := n2_; clear n0_ n1_ n2_; (try clear hb); (try clear hb2); (try clear hk); (try clear hi); obtain ⟨hcz48_0, hcz48_1, hcz48_2, hfz48_0, hfz48_1, hfz48_2⟩ := cf3_ (w := w47) BK451.out) | ((with_reducible refine gate_callee (f := 17) rfl ?_); refine goesL_ (some 48) rfl rfl Tryd.func17 (by kernel_rfl) rfl #[.agg #[.bool t457, .int .u64 t458, .int .u64 t459]] rfl mp_ ?_; (with_reducible refine (spec_WideText.calls k3 t457 t458 t459 t460 _ A43.out).mono ?_); rintro e w49 ⟨rfl, hb⟩; refine ⟨_, rfl, ?_⟩; have n0_ := Aside0.mk (blk_below (g := gb450) (o := .cells #[.bool x451000_3, .int .u64 x451001_3, .int .u64 x451002_3] 28 (0, 0)) bk_ hb); have n1_ := Aside0.mk (blk_below (g := gb451) (o := .cells #[.bool t457, .int .u64 t458, .int .u64 t459] 28 (0, 0)) (pu_ #[.bool t457, .int .u64 t458, .int .u64 x452002_3] 2 (h := (pu_ #[.bool t457, .int .u64 x452001_3, .int .u64 x452002_3] 1 (h := (pu_ #[.bool x452000_3, .int .u64 x452001_3, .int .u64 x452002_3] 0 (h := bk_)))))) hb); have n2_ := Aside0.mk (below_step bel_ hb); clear BK450; clear BK451; clear HB; have BK450 := n0_; have BK451 := n1_; have HB := n2_; clear n0_ n1_ n2_; (try clear hb); (try clear hb2); (try clear hk); (try clear hi); obtain ⟨hcz50_0, hcz50_1, hcz50_2, hfz50_0, hfz50_1, hfz50_2⟩ := cf3_ (w := w49) BK451.out; obtain ⟨hcz51_0, hcz51_1, hcz51_2, hfz51_0, hfz51_1, hfz51_2⟩ := cf3_ (w := w49) BK450.out))
                        refine bodyPost_ret (results_ct rfl _ _ gb450 28 #[.bool t457, .int .u64 t458, .int .u64 t459] (0, 0) _ rfl (pu_ #[.bool t457, .int .u64 t458, .int .u64 x451002_3] 2 (h := (pu_ #[.bool t457, .int .u64 x451001_3, .int .u64 x451002_3] 1 (h := (pu_ #[.bool x451000_3, .int .u64 x451001_3, .int .u64 x451002_3] 0 (h := bk_)))))) Tryd.underlying28 rfl (by kernel_rfl)) rfl ?_
                        exact ⟨rf_, bel_⟩
                      · rw [if_neg c44] at H
                        have c44b0 : (t460.toList == a0.toList) = false := beq_eq_false_iff_ne.mpr c44
                        have c44b1 : (t460.toList != a0.toList) = true := bne_iff_ne.mpr c44
                        simp only [Option.some.injEq, Prod.mk.injEq] at H
                        obtain ⟨rfl, rfl, rfl, rfl⟩ := H
                        have hnb52 := NB451_450.out
                        have hnc52 := NB450_451.out
                        obtain ⟨hcz53_0, hcz53_1, hcz53_2, hfz53_0, hfz53_1, hfz53_2⟩ := cf3_ (w := wr) BK451.out
                        go_wp2_with (first | ((with_reducible refine gate_callee (f := 66) rfl ?_); refine goesL_ (some 46) rfl rfl Tryd.func66 (by kernel_rfl) rfl #[.agg #[.bool x452000_3, .int .u64 x452001_3, .int .u64 x452002_3]] rfl mp_ ?_; (with_reducible refine (spec_NegWide.calls x452000_3 x452001_3 x452002_3 t457 t458 t459 _ A42.out).mono ?_); rintro e w54 ⟨rfl, hb⟩; refine ⟨_, rfl, ?_⟩; have n0_ := bb_ (g := gb450) hb; have n1_ := bb_ (g := gb451) hb; have n2_ := Aside0.mk (below_step bel_ hb); clear BK450; clear BK451; clear HB; have BK450 := n0_; have BK451 := n1_; have HB := n2_; clear n0_ n1_ n2_; (try clear hb); (try clear hb2); (try clear hk); (try clear hi); obtain ⟨hcz55_0, hcz55_1, hcz55_2, hfz55_0, hfz55_1, hfz55_2⟩ := cf3_ (w := w54) BK451.out) | ((with_reducible refine gate_callee (f := 17) rfl ?_); refine goesL_ (some 48) rfl rfl Tryd.func17 (by kernel_rfl) rfl #[.agg #[.bool t457, .int .u64 t458, .int .u64 t459]] rfl mp_ ?_; (with_reducible refine (spec_WideText.calls k3 t457 t458 t459 t460 _ A43.out).mono ?_); rintro e w56 ⟨rfl, hb⟩; refine ⟨_, rfl, ?_⟩; have n0_ := Aside0.mk (blk_below (g := gb450) (o := .cells #[.bool x451000_3, .int .u64 x451001_3, .int .u64 x451002_3] 28 (0, 0)) bk_ hb); have n1_ := Aside0.mk (blk_below (g := gb451) (o := .cells #[.bool t457, .int .u64 t458, .int .u64 t459] 28 (0, 0)) (pu_ #[.bool t457, .int .u64 t458, .int .u64 x452002_3] 2 (h := (pu_ #[.bool t457, .int .u64 x452001_3, .int .u64 x452002_3] 1 (h := (pu_ #[.bool x452000_3, .int .u64 x452001_3, .int .u64 x452002_3] 0 (h := bk_)))))) hb); have n2_ := Aside0.mk (below_step bel_ hb); clear BK450; clear BK451; clear HB; have BK450 := n0_; have BK451 := n1_; have HB := n2_; clear n0_ n1_ n2_; (try clear hb); (try clear hb2); (try clear hk); (try clear hi); obtain ⟨hcz57_0, hcz57_1, hcz57_2, hfz57_0, hfz57_1, hfz57_2⟩ := cf3_ (w := w56) BK450.out))
                        refine bodyPost_ret (results_ct rfl _ _ gb450 28 #[.bool false, .int .u64 0, .int .u64 0] (0, 0) _ rfl (pu_ #[.bool false, .int .u64 0, .int .u64 x451002_3] 2 (h := (pu_ #[.bool false, .int .u64 x451001_3, .int .u64 x451002_3] 1 (h := (pu_ #[.bool x451000_3, .int .u64 x451001_3, .int .u64 x451002_3] 0 (h := bk_)))))) Tryd.underlying28 rfl (by kernel_rfl)) rfl ?_
                        exact ⟨rf_, bel_⟩
                    · rw [if_neg c41] at H
                      have c41b0 : (x4_8 == 1) = false := beq_eq_false_iff_ne.mpr c41
                      have c41b1 : (x4_8 != 1) = true := bne_iff_ne.mpr c41
                      replace H := Option.bind_eq_some_iff.mp H
                      obtain ⟨t461, A580, H⟩ := H
                      replace H : (if t461.toList = a0.toList then (some (x452000_3, x452001_3, x452002_3, true)) else (some (false, 0, 0, false))) = some (r1, r2, r3, r4) := H
                      have A58 := Aside0.mk A580
                      clear A580
                      by_cases c59 : t461.toList = a0.toList
                      · rw [if_pos c59] at H
                        have c59b0 : (t461.toList == a0.toList) = true := beq_iff_eq.mpr c59
                        have c59b1 : (t461.toList != a0.toList) = false := bne_eq_false_iff_eq.mpr c59
                        clear c59
                        simp only [Option.some.injEq, Prod.mk.injEq] at H
                        obtain ⟨rfl, rfl, rfl, rfl⟩ := H
                        have hnb60 := NB451_450.out
                        have hnc60 := NB450_451.out
                        obtain ⟨hcz61_0, hcz61_1, hcz61_2, hfz61_0, hfz61_1, hfz61_2⟩ := cf3_ (w := wr) BK451.out
                        go_wp2_with (first | ((with_reducible refine gate_callee (f := 17) rfl ?_); refine goesL_ (some 48) rfl rfl Tryd.func17 (by kernel_rfl) rfl #[.agg #[.bool x452000_3, .int .u64 x452001_3, .int .u64 x452002_3]] rfl mp_ ?_; (with_reducible refine (spec_WideText.calls k3 x452000_3 x452001_3 x452002_3 t461 _ A58.out).mono ?_); rintro e w62 ⟨rfl, hb⟩; refine ⟨_, rfl, ?_⟩; have n0_ := bb_ (g := gb450) hb; have n1_ := bb_ (g := gb451) hb; have n2_ := Aside0.mk (below_step bel_ hb); clear BK450; clear BK451; clear HB; have BK450 := n0_; have BK451 := n1_; have HB := n2_; clear n0_ n1_ n2_; (try clear hb); (try clear hb2); (try clear hk); (try clear hi); obtain ⟨hcz63_0, hcz63_1, hcz63_2, hfz63_0, hfz63_1, hfz63_2⟩ := cf3_ (w := w62) BK451.out; obtain ⟨hcz64_0, hcz64_1, hcz64_2, hfz64_0, hfz64_1, hfz64_2⟩ := cf3_ (w := w62) BK450.out))
                        refine bodyPost_ret (results_ct rfl _ _ gb450 28 #[.bool x452000_3, .int .u64 x452001_3, .int .u64 x452002_3] (0, 0) _ rfl (pu_ #[.bool x452000_3, .int .u64 x452001_3, .int .u64 x451002_3] 2 (h := (pu_ #[.bool x452000_3, .int .u64 x451001_3, .int .u64 x451002_3] 1 (h := (pu_ #[.bool x451000_3, .int .u64 x451001_3, .int .u64 x451002_3] 0 (h := bk_)))))) Tryd.underlying28 rfl (by kernel_rfl)) rfl ?_
                        exact ⟨rf_, bel_⟩
                      · rw [if_neg c59] at H
                        have c59b0 : (t461.toList == a0.toList) = false := beq_eq_false_iff_ne.mpr c59
                        have c59b1 : (t461.toList != a0.toList) = true := bne_iff_ne.mpr c59
                        simp only [Option.some.injEq, Prod.mk.injEq] at H
                        obtain ⟨rfl, rfl, rfl, rfl⟩ := H
                        have hnb65 := NB451_450.out
                        have hnc65 := NB450_451.out
                        obtain ⟨hcz66_0, hcz66_1, hcz66_2, hfz66_0, hfz66_1, hfz66_2⟩ := cf3_ (w := wr) BK451.out
                        go_wp2_with (first | ((with_reducible refine gate_callee (f := 17) rfl ?_); refine goesL_ (some 48) rfl rfl Tryd.func17 (by kernel_rfl) rfl #[.agg #[.bool x452000_3, .int .u64 x452001_3, .int .u64 x452002_3]] rfl mp_ ?_; (with_reducible refine (spec_WideText.calls k3 x452000_3 x452001_3 x452002_3 t461 _ A58.out).mono ?_); rintro e w67 ⟨rfl, hb⟩; refine ⟨_, rfl, ?_⟩; have n0_ := bb_ (g := gb450) hb; have n1_ := bb_ (g := gb451) hb; have n2_ := Aside0.mk (below_step bel_ hb); clear BK450; clear BK451; clear HB; have BK450 := n0_; have BK451 := n1_; have HB := n2_; clear n0_ n1_ n2_; (try clear hb); (try clear hb2); (try clear hk); (try clear hi); obtain ⟨hcz68_0, hcz68_1, hcz68_2, hfz68_0, hfz68_1, hfz68_2⟩ := cf3_ (w := w67) BK450.out))
                        refine bodyPost_ret (results_ct rfl _ _ gb450 28 #[.bool false, .int .u64 0, .int .u64 0] (0, 0) _ rfl (pu_ #[.bool false, .int .u64 0, .int .u64 x451002_3] 2 (h := (pu_ #[.bool false, .int .u64 x451001_3, .int .u64 x451002_3] 1 (h := (pu_ #[.bool x451000_3, .int .u64 x451001_3, .int .u64 x451002_3] 0 (h := bk_)))))) Tryd.underlying28 rfl (by kernel_rfl)) rfl ?_
                        exact ⟨rf_, bel_⟩
        · rw [if_neg c7] at H
          exact absurd H (by simp)

end Go.Proofs.YtkpgpifkbdpnkaaDoor.PFnWideText
