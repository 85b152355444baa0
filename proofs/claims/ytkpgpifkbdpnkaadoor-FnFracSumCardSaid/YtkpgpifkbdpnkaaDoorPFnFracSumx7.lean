/- Contracts of Go functions, each with the Lean function that says what it computes: begun by the print, turned by this session. No condition beyond what each theorem states. -/
import Derived.Test.YtkpgpifkbdpnkaaDoorPFnFracSumx0
import Derived.Test.YtkpgpifkbdpnkaaDoorPFnFracSumx2
import Derived.Test.YtkpgpifkbdpnkaaDoorPFnFracSumx4
import Derived.Test.YtkpgpifkbdpnkaaDoorPFnFracSumx5
import Derived.Test.YtkpgpifkbdpnkaaDoorPFnFracSumx6
namespace Go.Proofs.YtkpgpifkbdpnkaaDoor.PFnFracSum
open Go.RowKit Go.Proofs.YtkpgpifkbdpnkaaDoorVFnFracSum.PrintWords Go.Proofs.YtkpgpifkbdpnkaaDoorVFnFracSum.PrintLast Go.Proofs.YtkpgpifkbdpnkaaDoorVFnFracSum.PrintMore
attribute [local go_sem] max2_int min2_int max_two min_two max_three min_three max_four min_four   -- for this text's walks alone
set_option linter.unusedVariables false
set_option linter.unusedSimpArgs false
/-! ### spec_l5Two: function 67 -/
def spec_l5Two.f (k : Nat) (l0 : List Int) : Option (Bool × Int × Int × Int × Bool × Int × Int × Int) := (spec_l1New.f k l0).bind fun bt256 => ((spec_l5Frac.f k bt256.1 bt256.2.1 bt256.2.2).bind fun bt260 => ((spec_l1Below.f bt256.1 bt260.2.2.2.2.1 bt260.2.2.2.2.2 4).bind fun bt267 => (if bt267.1 = 0 then ((spec_ScaleWide.f bt260.1 bt260.2.1 bt260.2.2.1 3).bind fun bt270 => (if bt270.2.2.2 = true then (if bt260.2.2.2.1 < 1000 then (some (bt260.1, bt260.2.1, bt260.2.2.1, bt260.2.2.2.1, bt270.1, bt270.2.1, bt270.2.2.1, wrap64 (3 * bt260.2.2.2.1))) else ((spec_l5Frac.f k bt256.1 bt267.2.1 bt267.2.2).bind fun bt275 => (some (bt260.1, bt260.2.1, bt260.2.2.1, bt260.2.2.2.1, bt275.1, bt275.2.1, bt275.2.2.1, bt275.2.2.2.1)))) else ((spec_l5Frac.f k bt256.1 bt267.2.1 bt267.2.2).bind fun bt281 => (some (bt260.1, bt260.2.1, bt260.2.2.1, bt260.2.2.2.1, bt281.1, bt281.2.1, bt281.2.2.1, bt281.2.2.2.1))))) else (if bt267.1 = 1 then ((spec_WideOf.f 1).bind fun bt287 => ((spec_AddWide.f k bt260.1 bt260.2.1 bt260.2.2.1 bt287.1 bt287.2.1 bt287.2.2).bind fun bt290 => (if bt290.2.2.2 = true then (some (bt260.1, bt260.2.1, bt260.2.2.1, bt260.2.2.2.1, bt290.1, bt290.2.1, bt290.2.2.1, bt260.2.2.2.1)) else ((spec_l5Frac.f k bt256.1 bt267.2.1 bt267.2.2).bind fun bt295 => (some (bt260.1, bt260.2.1, bt260.2.2.1, bt260.2.2.2.1, bt295.1, bt295.2.1, bt295.2.2.1, bt295.2.2.2.1)))))) else ((spec_l5Frac.f k bt256.1 bt267.2.1 bt267.2.2).bind fun bt301 => (some (bt260.1, bt260.2.1, bt260.2.2.1, bt260.2.2.2.1, bt301.1, bt301.2.1, bt301.2.2.1, bt301.2.2.2.1)))))))
theorem spec_l5Two.mono : ∀ a0 k, LeO (spec_l5Two.f k a0) (spec_l5Two.f (k + 1) a0) := by
 intro a0 k
 unfold spec_l5Two.f
 repeat' first
   | (with_reducible exact spec_AddWide.mono _ _ _ _ _ _ _)
   | (with_reducible exact spec_l1New.mono _ _)
   | (with_reducible exact spec_l5Frac.mono _ _ _ _)
   | (with_reducible exact LeO.refl _)
   | (with_reducible exact LeO.none _)
   | (with_reducible refine LeO.ite ?_ ?_)
   | (with_reducible refine LeO.bind ?_ (fun _ => ?_))
   | exact spec_AddWide.mono _ _ _ _ _ _ _
   | exact spec_l1New.mono _ _
   | exact spec_l5Frac.mono _ _ _ _
   | exact LeO.none _
   | refine LeO.ite ?_ ?_
   | refine LeO.bind ?_ (fun _ => ?_)
def spec_l5Two.T7 : Bool × List (List Nat × List Nat) := (true, [([], []), ([], []), ([], []), ([2], [2]), ([3], [3]), ([1, 4], [1, 4]), ([0, 0], [0]), ([5, 6, 0, 1, 2, 3, 4, 5, 6], [5])])
def spec_l5Two.B7 : List Nat := [0, 0, 0, 4, 12, 30, 1, 127]
theorem spec_l5Two.tab7 : rtab .any (opsOf Tryd.f67 7) = spec_l5Two.T7 := by kernel_rfl
theorem spec_l5Two.bits7 : waitsOk spec_l5Two.T7.2 spec_l5Two.B7 = true := by kernel_rfl
def spec_l5Two.T9 : Bool × List (List Nat × List Nat) := (true, [([], []), ([0], [0]), ([], []), ([1, 2, 2], [1, 2]), ([3], [3]), ([4], [4]), ([4], [4]), ([], []), ([7, 5, 3, 0, 1, 2, 3, 4, 5, 7], [5, 7]), ([6, 8, 0, 1, 2, 3, 4, 5, 6, 7, 8], [6])])
def spec_l5Two.B9 : List Nat := [0, 1, 0, 7, 15, 31, 31, 0, 191, 511]
theorem spec_l5Two.tab9 : rtab .any (opsOf Tryd.f67 9) = spec_l5Two.T9 := by kernel_rfl
theorem spec_l5Two.bits9 : waitsOk spec_l5Two.T9.2 spec_l5Two.B9 = true := by kernel_rfl
set_option maxHeartbeats 8000000 in
set_option maxRecDepth 100000 in
theorem spec_l5Two.calls (k : Nat) (A0 : Option Addr) (c0 : Nat) (l0 : List Int) (r1 : Bool) (r2 : Int) (r3 : Int) (r4 : Int) (r5 : Bool) (r6 : Int) (r7 : Int) (r8 : Int) (w : World) (hr0 : Kd.C (Kd.int .u8) w A0 l0.length l0) (hc0 : l0.length ≤ c0) (h : spec_l5Two.f k l0 = some (r1, r2, r3, r4, r5, r6, r7, r8)) :
  Calls Tryd.prog 67 #[.slice A0 l0.length c0] w fun e w' => e = .returned (.tuple #[.agg #[.bool r1, .int .u64 r2, .int .u64 r3, .int .i64 r4], .agg #[.bool r5, .int .u64 r6, .int .u64 r7, .int .i64 r8]]) ∧ Below w.heap.size w w' := by
 have hu43 := Tryd.underlying43
 have hu28 := Tryd.underlying28
 have HR0 := Aside0.mk hr0
 have HC0 := Aside0.mk hc0
 clear hr0 hc0
 have HB := Aside0.mk (Below.refl w.heap.size w)
 have H : ((spec_l1New.f k l0).bind fun bt256 => ((spec_l5Frac.f k bt256.1 bt256.2.1 bt256.2.2).bind fun bt260 => ((spec_l1Below.f bt256.1 bt260.2.2.2.2.1 bt260.2.2.2.2.2 4).bind fun bt267 => (if bt267.1 = 0 then ((spec_ScaleWide.f bt260.1 bt260.2.1 bt260.2.2.1 3).bind fun bt270 => (if bt270.2.2.2 = true then (if bt260.2.2.2.1 < 1000 then (some (bt260.1, bt260.2.1, bt260.2.2.1, bt260.2.2.2.1, bt270.1, bt270.2.1, bt270.2.2.1, wrap64 (3 * bt260.2.2.2.1))) else ((spec_l5Frac.f k bt256.1 bt267.2.1 bt267.2.2).bind fun bt275 => (some (bt260.1, bt260.2.1, bt260.2.2.1, bt260.2.2.2.1, bt275.1, bt275.2.1, bt275.2.2.1, bt275.2.2.2.1)))) else ((spec_l5Frac.f k bt256.1 bt267.2.1 bt267.2.2).bind fun bt281 => (some (bt260.1, bt260.2.1, bt260.2.2.1, bt260.2.2.2.1, bt281.1, bt281.2.1, bt281.2.2.1, bt281.2.2.2.1))))) else (if bt267.1 = 1 then ((spec_WideOf.f 1).bind fun bt287 => ((spec_AddWide.f k bt260.1 bt260.2.1 bt260.2.2.1 bt287.1 bt287.2.1 bt287.2.2).bind fun bt290 => (if bt290.2.2.2 = true then (some (bt260.1, bt260.2.1, bt260.2.2.1, bt260.2.2.2.1, bt290.1, bt290.2.1, bt290.2.2.1, bt260.2.2.2.1)) else ((spec_l5Frac.f k bt256.1 bt267.2.1 bt267.2.2).bind fun bt295 => (some (bt260.1, bt260.2.1, bt260.2.2.1, bt260.2.2.2.1, bt295.1, bt295.2.1, bt295.2.2.1, bt295.2.2.2.1)))))) else ((spec_l5Frac.f k bt256.1 bt267.2.1 bt267.2.2).bind fun bt301 => (some (bt260.1, bt260.2.1, bt260.2.2.1, bt260.2.2.2.1, bt301.1, bt301.2.1, bt301.2.2.1, bt301.2.2.2.1)))))))) = some (r1, r2, r3, r4, r5, r6, r7, r8) := h
 clear h
 replace H := Option.bind_eq_some_iff.mp H
 obtain ⟨⟨t256, t257, t258⟩, A20, H⟩ := H
 replace H : ((spec_l5Frac.f k t256 t257 t258).bind fun bt260 => ((spec_l1Below.f t256 bt260.2.2.2.2.1 bt260.2.2.2.2.2 4).bind fun bt267 => (if bt267.1 = 0 then ((spec_ScaleWide.f bt260.1 bt260.2.1 bt260.2.2.1 3).bind fun bt270 => (if bt270.2.2.2 = true then (if bt260.2.2.2.1 < 1000 then (some (bt260.1, bt260.2.1, bt260.2.2.1, bt260.2.2.2.1, bt270.1, bt270.2.1, bt270.2.2.1, wrap64 (3 * bt260.2.2.2.1))) else ((spec_l5Frac.f k t256 bt267.2.1 bt267.2.2).bind fun bt275 => (some (bt260.1, bt260.2.1, bt260.2.2.1, bt260.2.2.2.1, bt275.1, bt275.2.1, bt275.2.2.1, bt275.2.2.2.1)))) else ((spec_l5Frac.f k t256 bt267.2.1 bt267.2.2).bind fun bt281 => (some (bt260.1, bt260.2.1, bt260.2.2.1, bt260.2.2.2.1, bt281.1, bt281.2.1, bt281.2.2.1, bt281.2.2.2.1))))) else (if bt267.1 = 1 then ((spec_WideOf.f 1).bind fun bt287 => ((spec_AddWide.f k bt260.1 bt260.2.1 bt260.2.2.1 bt287.1 bt287.2.1 bt287.2.2).bind fun bt290 => (if bt290.2.2.2 = true then (some (bt260.1, bt260.2.1, bt260.2.2.1, bt260.2.2.2.1, bt290.1, bt290.2.1, bt290.2.2.1, bt260.2.2.2.1)) else ((spec_l5Frac.f k t256 bt267.2.1 bt267.2.2).bind fun bt295 => (some (bt260.1, bt260.2.1, bt260.2.2.1, bt260.2.2.2.1, bt295.1, bt295.2.1, bt295.2.2.1, bt295.2.2.2.1)))))) else ((spec_l5Frac.f k t256 bt267.2.1 bt267.2.2).bind fun bt301 => (some (bt260.1, bt260.2.1, bt260.2.2.1, bt260.2.2.2.1, bt301.1, bt301.2.1, bt301.2.2.1, bt301.2.2.2.1))))))) = some (r1, r2, r3, r4, r5, r6, r7, r8) := H
 have A2 := Aside0.mk A20
 clear A20
 replace H := Option.bind_eq_some_iff.mp H
 obtain ⟨⟨t260, t261, t262, t263, t264, t265⟩, A30, H⟩ := H
 replace H : ((spec_l1Below.f t256 t264 t265 4).bind fun bt267 => (if bt267.1 = 0 then ((spec_ScaleWide.f t260 t261 t262 3).bind fun bt270 => (if bt270.2.2.2 = true then (if t263 < 1000 then (some (t260, t261, t262, t263, bt270.1, bt270.2.1, bt270.2.2.1, wrap64 (3 * t263))) else ((spec_l5Frac.f k t256 bt267.2.1 bt267.2.2).bind fun bt275 => (some (t260, t261, t262, t263, bt275.1, bt275.2.1, bt275.2.2.1, bt275.2.2.2.1)))) else ((spec_l5Frac.f k t256 bt267.2.1 bt267.2.2).bind fun bt281 => (some (t260, t261, t262, t263, bt281.1, bt281.2.1, bt281.2.2.1, bt281.2.2.2.1))))) else (if bt267.1 = 1 then ((spec_WideOf.f 1).bind fun bt287 => ((spec_AddWide.f k t260 t261 t262 bt287.1 bt287.2.1 bt287.2.2).bind fun bt290 => (if bt290.2.2.2 = true then (some (t260, t261, t262, t263, bt290.1, bt290.2.1, bt290.2.2.1, t263)) else ((spec_l5Frac.f k t256 bt267.2.1 bt267.2.2).bind fun bt295 => (some (t260, t261, t262, t263, bt295.1, bt295.2.1, bt295.2.2.1, bt295.2.2.2.1)))))) else ((spec_l5Frac.f k t256 bt267.2.1 bt267.2.2).bind fun bt301 => (some (t260, t261, t262, t263, bt301.1, bt301.2.1, bt301.2.2.1, bt301.2.2.2.1)))))) = some (r1, r2, r3, r4, r5, r6, r7, r8) := H
 have A3 := Aside0.mk A30
 clear A30
 replace H := Option.bind_eq_some_iff.mp H
 obtain ⟨⟨t267, t268, t269⟩, A40, H⟩ := H
 replace H : (if t267 = 0 then ((spec_ScaleWide.f t260 t261 t262 3).bind fun bt270 => (if bt270.2.2.2 = true then (if t263 < 1000 then (some (t260, t261, t262, t263, bt270.1, bt270.2.1, bt270.2.2.1, wrap64 (3 * t263))) else ((spec_l5Frac.f k t256 t268 t269).bind fun bt275 => (some (t260, t261, t262, t263, bt275.1, bt275.2.1, bt275.2.2.1, bt275.2.2.2.1)))) else ((spec_l5Frac.f k t256 t268 t269).bind fun bt281 => (some (t260, t261, t262, t263, bt281.1, bt281.2.1, bt281.2.2.1, bt281.2.2.2.1))))) else (if t267 = 1 then ((spec_WideOf.f 1).bind fun bt287 => ((spec_AddWide.f k t260 t261 t262 bt287.1 bt287.2.1 bt287.2.2).bind fun bt290 => (if bt290.2.2.2 = true then (some (t260, t261, t262, t263, bt290.1, bt290.2.1, bt290.2.2.1, t263)) else ((spec_l5Frac.f k t256 t268 t269).bind fun bt295 => (some (t260, t261, t262, t263, bt295.1, bt295.2.1, bt295.2.2.1, bt295.2.2.2.1)))))) else ((spec_l5Frac.f k t256 t268 t269).bind fun bt301 => (some (t260, t261, t262, t263, bt301.1, bt301.2.1, bt301.2.2.1, bt301.2.2.2.1))))) = some (r1, r2, r3, r4, r5, r6, r7, r8) := H
 have A4 := Aside0.mk A40
 clear A40
 by_cases c5 : t267 = 0
 ·rw [if_pos c5] at H
  have c5b0 : (t267 == 0) = true := beq_iff_eq.mpr c5
  have c5b1 : (t267 != 0) = false := bne_eq_false_iff_eq.mpr c5
  clear c5
  replace H := Option.bind_eq_some_iff.mp H
  obtain ⟨⟨t270, t271, t272, t273⟩, A60, H⟩ := H
  replace H : (if t273 = true then (if t263 < 1000 then (some (t260, t261, t262, t263, t270, t271, t272, wrap64 (3 * t263))) else ((spec_l5Frac.f k t256 t268 t269).bind fun bt275 => (some (t260, t261, t262, t263, bt275.1, bt275.2.1, bt275.2.2.1, bt275.2.2.2.1)))) else ((spec_l5Frac.f k t256 t268 t269).bind fun bt281 => (some (t260, t261, t262, t263, bt281.1, bt281.2.1, bt281.2.2.1, bt281.2.2.2.1)))) = some (r1, r2, r3, r4, r5, r6, r7, r8) := H
  have A6 := Aside0.mk A60
  clear A60
  by_cases c7 : t273 = true
  ·subst c7
   have H1 : (if t263 < 1000 then (some (t260, t261, t262, t263, t270, t271, t272, wrap64 (3 * t263))) else ((spec_l5Frac.f k t256 t268 t269).bind fun bt275 => (some (t260, t261, t262, t263, bt275.1, bt275.2.1, bt275.2.2.1, bt275.2.2.2.1)))) = some (r1, r2, r3, r4, r5, r6, r7, r8) := by rw [if_pos rfl] at H; exact H
   clear H
   have H := H1
   clear H1
   by_cases c8 : t263 < 1000
   ·rw [if_pos c8] at H
    have c8b0 : decide (t263 < 1000) = true := decide_eq_true c8
    clear c8
    simp only [Option.some.injEq, Prod.mk.injEq] at H
    obtain ⟨rfl, rfl, rfl, rfl, rfl, rfl, rfl, rfl⟩ := H
    go_enter Tryd.func67, Tryd.ntmps67
    try go_wp2_with (first | ((with_reducible refine gate_dst (N := 2) rfl ?_); refine box_event ?hg (N := 2) ?hd (cs := #[.bool false, .int .u64 0, .int .u64 0, .int .i64 0]) (t := 43) ?hr ?_; (case hd => rfl); (case hg => rfl); (case hr => first | (go_simp; done) | (go_simp; rfl)); intro gb254 hg w9 hbox hb; have BK254 := Aside0.mk (hbox); have GW254 := bs_ (w := w) hg; have GE254 := bs_ (w := w) hg; replace HB := Aside0.mk (below_step bel_ hb); clear hb hbox hg) | ((with_reducible refine gate_dst (N := 3) rfl ?_); refine box_event ?hg (N := 3) ?hd (cs := #[.bool false, .int .u64 0, .int .u64 0, .int .i64 0]) (t := 43) ?hr ?_; (case hd => rfl); (case hg => rfl); (case hr => first | (go_simp; done) | (go_simp; rfl)); intro gb255 hg w10 hbox hb; have BK255 := Aside0.mk (hbox); have GW255 := bs_ (w := w) hg; have GE255 := bs_ (w := w) hg; have NB254_255 := nlt_ (g := gb254) hg; have NB255_254 := ngt_ (g := gb254) hg; replace HB := Aside0.mk (below_step bel_ hb); replace BK254 := bb_ (g := gb254) hb; clear hb hbox hg) | ((with_reducible refine gate_callee (f := 44) rfl ?_); refine goesL_ (some 11) rfl rfl Tryd.func44 (by kernel_rfl) rfl #[.slice A0 l0.length c0] rfl mp_ ?_; (with_reducible refine (spec_l1New.calls k _ _ l0 t256 t257 t258 w _ ?side1 ?side2 ?side3 A2.out).mono ?_); (case side1 => exact bel_); (case side2 => exact HR0.out); (case side3 => exact HC0.out); rintro e w11 ⟨g259, rfl, hi, hb, hb2⟩; refine ⟨_, rfl, ?_⟩; have HI259 := Aside0.mk (hi); have NB259_254 := Aside0.mk (IsS90.ne_blk hi (blk_below (g := gb254) (o := .cells #[.bool false, .int .u64 0, .int .u64 0, .int .i64 0] 43 (0, 0)) bk_ hb2) (by decide)); have NB254_259 := Aside0.mk (Ne.symm (IsS90.ne_blk hi (blk_below (g := gb254) (o := .cells #[.bool false, .int .u64 0, .int .u64 0, .int .i64 0] 43 (0, 0)) bk_ hb2) (by decide))); have NB259_255 := Aside0.mk (IsS90.ne_blk hi (blk_below (g := gb255) (o := .cells #[.bool false, .int .u64 0, .int .u64 0, .int .i64 0] 43 (0, 0)) bk_ hb2) (by decide)); have NB255_259 := Aside0.mk (Ne.symm (IsS90.ne_blk hi (blk_below (g := gb255) (o := .cells #[.bool false, .int .u64 0, .int .u64 0, .int .i64 0] 43 (0, 0)) bk_ hb2) (by decide))); replace HB := Aside0.mk (hb); replace BK254 := Aside0.mk (blk_below (g := gb254) (o := .cells #[.bool false, .int .u64 0, .int .u64 0, .int .i64 0] 43 (0, 0)) bk_ hb2); replace BK255 := Aside0.mk (blk_below (g := gb255) (o := .cells #[.bool false, .int .u64 0, .int .u64 0, .int .i64 0] 43 (0, 0)) bk_ hb2); (try clear hb); (try clear hb2); (try clear hk); (try clear hi)) | ((with_reducible refine gate_callee (f := 83) rfl ?_); refine goesL_ (some 13) rfl rfl Tryd.func83 (by kernel_rfl) rfl #[.pointer (some ⟨g259, 0, none⟩)] rfl mp_ ?_; (with_reducible refine (spec_l5Frac.calls k g259 t256 t257 t258 t260 t261 t262 t263 t264 t265 w _ ?side1 ?side2 A3.out).mono ?_); (case side1 => exact is_); (case side2 => exact belI_); rintro e w12 ⟨rfl, hi, hb, hk⟩; refine ⟨_, rfl, ?_⟩; replace HB := Aside0.mk (hb); replace BK254 := Aside0.mk (KeepBut.blk hk (g' := gb254) (o := .cells #[.bool false, .int .u64 0, .int .u64 0, .int .i64 0] 43 (0, 0)) bk_ NB254_259.out (by simp)); replace BK255 := Aside0.mk (KeepBut.blk hk (g' := gb255) (o := .cells #[.bool false, .int .u64 0, .int .u64 0, .int .i64 0] 43 (0, 0)) bk_ NB255_259.out (by simp)); replace HI259 := Aside0.mk (hi); (try clear hb); (try clear hb2); (try clear hk); (try clear hi)) | ((with_reducible refine gate_dst (N := 5) rfl ?_); refine box_event ?hg (N := 5) ?hd (cs := #[.bool false, .int .u64 0, .int .u64 0, .int .i64 0]) (t := 43) ?hr ?_; (case hd => rfl); (case hg => rfl); (case hr => first | (go_simp; done) | (go_simp; rfl)); intro gb266 hg w13 hbox hb; have BK266 := Aside0.mk (hbox); have GW266 := Aside0.mk ((by rw [hg]; exact (below_size (belI_)) : w.heap.size ≤ gb266)); have GE266 := Aside0.mk ((by rw [hg]; exact (below_size (belI_)) : w.heap.size ≤ gb266)); have NB254_266 := nlt_ (g := gb254) hg; have NB266_254 := ngt_ (g := gb254) hg; have NB255_266 := nlt_ (g := gb255) hg; have NB266_255 := ngt_ (g := gb255) hg; have NB259_266 := Aside0.mk ((by rw [hg]; exact Nat.ne_of_lt (IsS90.lt (show IsS90 w _ g259 t256 t264 t265 from is_)) : g259 ≠ gb266)); have NB266_259 := Aside0.mk ((by rw [hg]; exact Nat.ne_of_gt (IsS90.lt (show IsS90 w _ g259 t256 t264 t265 from is_)) : gb266 ≠ g259)); replace HB := Aside0.mk (below_step (belI_) hb); replace BK254 := bb_ (g := gb254) hb; replace BK255 := bb_ (g := gb255) hb; replace HI259 := Aside0.mk (IsS90.below (is_) hb); clear hb hbox hg; have hnb14 := NB266_254.out; have hnc14 := NB254_266.out; have hnb15 := NB266_255.out; have hnc15 := NB255_266.out; have hnb16 := NB266_259.out; have hnc16 := NB259_266.out; obtain ⟨hcz17_0, hcz17_1, hcz17_2, hcz17_3, hfz17_0, hfz17_1, hfz17_2, hfz17_3⟩ := cf4_ (w := w13) BK266.out) | ((with_reducible refine gate_callee (f := 52) rfl ?_); refine goesL_ (some 15) rfl rfl Tryd.func52 (by kernel_rfl) rfl #[.pointer (some ⟨g259, 0, none⟩), .int .i64 4] rfl mp_ ?_; (with_reducible refine (spec_l1Below.calls g259 t256 t264 t265 4 t267 t268 t269 w _ ?side1 ?side2 A4.out).mono ?_); (case side1 => exact is_); (case side2 => exact belI_); rintro e w18 ⟨rfl, hi, hb, hk⟩; refine ⟨_, rfl, ?_⟩; replace HB := Aside0.mk (hb); replace BK254 := Aside0.mk (KeepBut.blk hk (g' := gb254) (o := .cells #[.bool false, .int .u64 0, .int .u64 0, .int .i64 0] 43 (0, 0)) bk_ NB254_259.out (by simp)); replace BK255 := Aside0.mk (KeepBut.blk hk (g' := gb255) (o := .cells #[.bool false, .int .u64 0, .int .u64 0, .int .i64 0] 43 (0, 0)) bk_ NB255_259.out (by simp)); replace BK266 := Aside0.mk (KeepBut.blk hk (g' := gb266) (o := .cells #[.bool t260, .int .u64 t261, .int .u64 t262, .int .i64 t263] 43 (0, 0)) (pu_ #[.bool t260, .int .u64 t261, .int .u64 t262, .int .i64 0] 3 (h := (pu_ #[.bool t260, .int .u64 t261, .int .u64 0, .int .i64 0] 2 (h := (pu_ #[.bool t260, .int .u64 0, .int .u64 0, .int .i64 0] 1 (h := (pu_ #[.bool false, .int .u64 0, .int .u64 0, .int .i64 0] 0 (h := bk_)))))))) NB266_259.out (by simp)); replace HI259 := Aside0.mk (hi); (try clear hb); (try clear hb2); (try clear hk); (try clear hi); obtain ⟨hcz19_0, hcz19_1, hcz19_2, hcz19_3, hfz19_0, hfz19_1, hfz19_2, hfz19_3⟩ := cf4_ (w := w18) BK266.out) | ((with_reducible refine gate_callee (f := 58) rfl ?_); refine goesL_ (some 21) rfl rfl Tryd.func58 (by kernel_rfl) rfl #[.agg #[.bool t260, .int .u64 t261, .int .u64 t262], .int .i64 3] rfl mp_ ?_; (with_reducible refine (spec_ScaleWide.calls t260 t261 t262 3 t270 t271 t272 true _ A6.out).mono ?_); rintro e w20 ⟨rfl, hb⟩; refine ⟨_, rfl, ?_⟩; replace HB := Aside0.mk (below_step (belI_) hb); replace BK254 := bb_ (g := gb254) hb; replace BK255 := bb_ (g := gb255) hb; replace HI259 := Aside0.mk (IsS90.below (is_) hb); replace BK266 := bb_ (g := gb266) hb; (try clear hb); (try clear hb2); (try clear hk); (try clear hi)) | ((with_reducible refine gate_dst (N := 6) rfl ?_); refine box_event ?hg (N := 6) ?hd (cs := #[.bool false, .int .u64 0, .int .u64 0]) (t := 28) ?hr ?_; (case hd => rfl); (case hg => rfl); (case hr => first | (go_simp; done) | (go_simp; rfl)); intro gb274 hg w21 hbox hb; have BK274 := Aside0.mk (hbox); have GW274 := Aside0.mk ((by rw [hg]; exact (below_size (belI_)) : w.heap.size ≤ gb274)); have GE274 := Aside0.mk ((by rw [hg]; exact (below_size (belI_)) : w.heap.size ≤ gb274)); have NB254_274 := nlt_ (g := gb254) hg; have NB274_254 := ngt_ (g := gb254) hg; have NB255_274 := nlt_ (g := gb255) hg; have NB274_255 := ngt_ (g := gb255) hg; have NB266_274 := nlt_ (g := gb266) hg; have NB274_266 := ngt_ (g := gb266) hg; have NB259_274 := Aside0.mk ((by rw [hg]; exact Nat.ne_of_lt (IsS90.lt (show IsS90 w _ g259 t256 t268 t269 from is_)) : g259 ≠ gb274)); have NB274_259 := Aside0.mk ((by rw [hg]; exact Nat.ne_of_gt (IsS90.lt (show IsS90 w _ g259 t256 t268 t269 from is_)) : gb274 ≠ g259)); replace HB := Aside0.mk (below_step (belI_) hb); replace BK254 := bb_ (g := gb254) hb; replace BK255 := bb_ (g := gb255) hb; replace HI259 := Aside0.mk (IsS90.below (is_) hb); replace BK266 := bb_ (g := gb266) hb; clear hb hbox hg; have hnb22 := NB274_254.out; have hnc22 := NB254_274.out; have hnb23 := NB274_255.out; have hnc23 := NB255_274.out; have hnb24 := NB274_266.out; have hnc24 := NB266_274.out; have hnb25 := NB274_259.out; have hnc25 := NB259_274.out; obtain ⟨hcz26_0, hcz26_1, hcz26_2, hfz26_0, hfz26_1, hfz26_2⟩ := cf3_ (w := w21) BK274.out; obtain ⟨hcz27_0, hcz27_1, hcz27_2, hcz27_3, hfz27_0, hfz27_1, hfz27_2, hfz27_3⟩ := cf4_ (w := w21) BK266.out))
    have n0_ : Aside0 ((((w21.setCell ⟨gb274, 0, none⟩ (.bool t270)).setCell ⟨gb274, 1, none⟩ (.int .u64 t271)).setCell ⟨gb274, 2, none⟩ (.int .u64 t272)).heap[gb254]? = some (.cells #[.bool false, .int .u64 0, .int .u64 0, .int .i64 0] 43 (0, 0))) := ⟨by (with_reducible repeat (first | refine bN_ _ ?_ | refine bd_ ?_ | refine ba_ _ ?_)); refine blk_far ?_ NB254_274.out _; (with_reducible repeat (first | refine bN_ _ ?_ | refine bd_ ?_ | refine ba_ _ ?_)); refine blk_far ?_ NB254_274.out _; (with_reducible repeat (first | refine bN_ _ ?_ | refine bd_ ?_ | refine ba_ _ ?_)); refine blk_far ?_ NB254_274.out _; (with_reducible repeat (first | refine bN_ _ ?_ | refine bd_ ?_ | refine ba_ _ ?_)); exact BK254.out⟩
    have n1_ : Aside0 ((((w21.setCell ⟨gb274, 0, none⟩ (.bool t270)).setCell ⟨gb274, 1, none⟩ (.int .u64 t271)).setCell ⟨gb274, 2, none⟩ (.int .u64 t272)).heap[gb255]? = some (.cells #[.bool false, .int .u64 0, .int .u64 0, .int .i64 0] 43 (0, 0))) := ⟨by (with_reducible repeat (first | refine bN_ _ ?_ | refine bd_ ?_ | refine ba_ _ ?_)); refine blk_far ?_ NB255_274.out _; (with_reducible repeat (first | refine bN_ _ ?_ | refine bd_ ?_ | refine ba_ _ ?_)); refine blk_far ?_ NB255_274.out _; (with_reducible repeat (first | refine bN_ _ ?_ | refine bd_ ?_ | refine ba_ _ ?_)); refine blk_far ?_ NB255_274.out _; (with_reducible repeat (first | refine bN_ _ ?_ | refine bd_ ?_ | refine ba_ _ ?_)); exact BK255.out⟩
    have n2_ : Aside0 ((((w21.setCell ⟨gb274, 0, none⟩ (.bool t270)).setCell ⟨gb274, 1, none⟩ (.int .u64 t271)).setCell ⟨gb274, 2, none⟩ (.int .u64 t272)).heap[gb266]? = some (.cells #[.bool t260, .int .u64 t261, .int .u64 t262, .int .i64 t263] 43 (0, 0))) := ⟨by (with_reducible repeat (first | refine bN_ _ ?_ | refine bd_ ?_ | refine ba_ _ ?_)); refine blk_far ?_ NB266_274.out _; (with_reducible repeat (first | refine bN_ _ ?_ | refine bd_ ?_ | refine ba_ _ ?_)); refine blk_far ?_ NB266_274.out _; (with_reducible repeat (first | refine bN_ _ ?_ | refine bd_ ?_ | refine ba_ _ ?_)); refine blk_far ?_ NB266_274.out _; (with_reducible repeat (first | refine bN_ _ ?_ | refine bd_ ?_ | refine ba_ _ ?_)); exact BK266.out⟩
    have n3_ : Aside0 ((((w21.setCell ⟨gb274, 0, none⟩ (.bool t270)).setCell ⟨gb274, 1, none⟩ (.int .u64 t271)).setCell ⟨gb274, 2, none⟩ (.int .u64 t272)).heap[gb274]? = some (.cells #[.bool t270, .int .u64 t271, .int .u64 t272] 28 (0, 0))) := ⟨by (with_reducible repeat (first | refine bN_ _ ?_ | refine bd_ ?_ | refine ba_ _ ?_)); refine blk_put (cs := #[.bool t270, .int .u64 t271, .int .u64 0]) ?_ 2 _ rfl; (with_reducible repeat (first | refine bN_ _ ?_ | refine bd_ ?_ | refine ba_ _ ?_)); refine blk_put (cs := #[.bool t270, .int .u64 0, .int .u64 0]) ?_ 1 _ rfl; (with_reducible repeat (first | refine bN_ _ ?_ | refine bd_ ?_ | refine ba_ _ ?_)); refine blk_put (cs := #[.bool false, .int .u64 0, .int .u64 0]) ?_ 0 _ rfl; (with_reducible repeat (first | refine bN_ _ ?_ | refine bd_ ?_ | refine ba_ _ ?_)); exact BK274.out⟩
    have n4_ : Aside0 (IsS90 w (((w21.setCell ⟨gb274, 0, none⟩ (.bool t270)).setCell ⟨gb274, 1, none⟩ (.int .u64 t271)).setCell ⟨gb274, 2, none⟩ (.int .u64 t272)) g259 t256 t268 t269) := ⟨is_⟩
    have n5_ : Aside0 (Below w.heap.size w (((w21.setCell ⟨gb274, 0, none⟩ (.bool t270)).setCell ⟨gb274, 1, none⟩ (.int .u64 t271)).setCell ⟨gb274, 2, none⟩ (.int .u64 t272))) := ⟨belI_⟩
    (try clear BK254)
    (try clear BK255)
    (try clear BK266)
    (try clear BK274)
    (try clear HI259)
    (try clear HB)
    generalize (((w21.setCell ⟨gb274, 0, none⟩ (.bool t270)).setCell ⟨gb274, 1, none⟩ (.int .u64 t271)).setCell ⟨gb274, 2, none⟩ (.int .u64 t272)) = w28 at n0_ n1_ n2_ n3_ n4_ n5_ ⊢
    have BK254 := n0_
    have BK255 := n1_
    have BK266 := n2_
    have BK274 := n3_
    have HI259 := n4_
    have HB := n5_
    clear n0_ n1_ n2_ n3_ n4_ n5_
    replace HB := Aside0.mk (below_drew1 HB.out)
    replace BK254 := Aside0.mk (blk_drew BK254.out)
    replace BK255 := Aside0.mk (blk_drew BK255.out)
    replace BK266 := Aside0.mk (blk_drew BK266.out)
    replace BK274 := Aside0.mk (blk_drew BK274.out)
    replace HI259 := Aside0.mk (IsS90.drew HI259.out)
    refine start_ (n := 8) (S := fun w' => w'.cell? ⟨gb266, 0, none⟩ = some (.bool t260) ∧ w'.cell? ⟨gb266, 1, none⟩ = some (.int .u64 t261) ∧ w'.cell? ⟨gb266, 2, none⟩ = some (.int .u64 t262) ∧ w'.cell? ⟨gb266, 3, none⟩ = some (.int .i64 t263) ∧ w'.cell? ⟨gb274, 0, none⟩ = some (.bool t270) ∧ w'.cell? ⟨gb274, 1, none⟩ = some (.int .u64 t271) ∧ w'.cell? ⟨gb274, 2, none⟩ = some (.int .u64 t272)) (ds := []) #[false, false, false, false, false, false, false, false] (by kernel_rfl) rfl rfl ⟨bc_, bc_, bc_, bc_, bc_, bc_, bc_⟩ (fun hHeld => ?_); refine with_tabW spec_l5Two.tab7 spec_l5Two.bits7 (fun HT_ HW_ => ?_)
    generalize w28.drew = w29 at BK254 BK255 BK266 BK274 HI259 HB hHeld ⊢
    refine pure_ (i := 2) (N := some 32) (v := ?_) (a' := ?_) #[false, false, true, false, false, false, false, false] rfl rfl (any_of HT_.out (by kernel_rfl)) (fun _ _ _ h => h) (Or.inl ⟨by rfl, ?_⟩) ?_ ?_
    rotate_left
    ·intro w'
     go_simp
     with_reducible rfl
    rotate_left
    ·simp only [Act.put, la_, lb_, lc_, i64_w, i32_w]
     rfl
    refine take_ (i := 0) (N := some 30) (v := ?_) (a' := ?_) #[true, false, true, false, false, false, false, false] rfl rfl (take_ofW HT_.out HW_.out (by kernel_rfl)) (fun _ _ _ h => h) (Or.inl ⟨by rfl, ?_⟩) hHeld ?_ ?_
    rotate_left
    ·rintro w' ⟨s0, s1, s2, s3, s4, s5, s6⟩
     go_simp
     with_reducible rfl
    rotate_left
    ·simp only [Act.put, la_, lb_, lc_, i64_w, i32_w]
     rfl
    refine take_ (i := 1) (N := some 31) (v := ?_) (a' := ?_) #[true, true, true, false, false, false, false, false] rfl rfl (take_ofW HT_.out HW_.out (by kernel_rfl)) (fun _ _ _ h => h) (Or.inl ⟨by rfl, ?_⟩) hHeld ?_ ?_
    rotate_left
    ·rintro w' ⟨s0, s1, s2, s3, s4, s5, s6⟩
     go_simp
     with_reducible rfl
    rotate_left
    ·simp only [Act.put, la_, lb_, lc_, i64_w, i32_w]
     rfl
    refine take_ (i := 3) (N := some 33) (v := ?_) (a' := ?_) #[true, true, true, true, false, false, false, false] rfl rfl (take_ofW HT_.out HW_.out (by kernel_rfl)) (fun _ _ _ h => h) (Or.inl ⟨by rfl, ?_⟩) hHeld ?_ ?_
    rotate_left
    ·rintro w' ⟨s0, s1, s2, s3, s4, s5, s6⟩
     go_simp
     with_reducible rfl
    rotate_left
    ·simp only [Act.put, la_, lb_, lc_, i64_w, i32_w]
     rfl
    refine pure_ (i := 4) (N := some 34) (v := ?_) (a' := ?_) #[true, true, true, true, true, false, false, false] rfl rfl (any_of HT_.out (by kernel_rfl)) (fun _ _ _ h => h) (Or.inl ⟨by rfl, ?_⟩) ?_ ?_
    rotate_left
    ·intro w'
     go_simp
     with_reducible rfl
    rotate_left
    ·simp only [Act.put, la_, lb_, lc_, i64_w, i32_w]
     rfl
    refine pure_ (i := 5) (N := some 35) (v := ?_) (a' := ?_) #[true, true, true, true, true, true, false, false] rfl rfl (any_of HT_.out (by kernel_rfl)) (fun _ _ _ h => h) (Or.inl ⟨by rfl, ?_⟩) ?_ ?_
    rotate_left
    ·intro w'
     go_simp
     with_reducible rfl
    rotate_left
    ·simp only [Act.put, la_, lb_, lc_, i64_w, i32_w]
     rfl
    refine one_ (i := 6) (N := none) #[true, true, true, true, true, true, true, false] rfl rfl (one_of HT_.out (by kernel_rfl)) (by decide) (fun K hK => ?_)
    have hs30 : w29.cell? ⟨gb254, 0, none⟩ = some (.bool false) := (blk_cell BK254.out 0).trans rfl
    have hfs30 := blk_frozen BK254.out 0
    have hns30_1 := NB255_254.out
    have hns30_2 := NB266_254.out
    have hns30_3 := NB274_254.out
    have hms30_1 := NB254_255.out
    have hms30_2 := NB254_266.out
    have hms30_3 := NB254_274.out
    have hs31 : w29.cell? ⟨gb254, 1, none⟩ = some (.int .u64 0) := (blk_cell BK254.out 1).trans rfl
    have hfs31 := blk_frozen BK254.out 1
    have hns31_1 := NB255_254.out
    have hns31_2 := NB266_254.out
    have hns31_3 := NB274_254.out
    have hms31_1 := NB254_255.out
    have hms31_2 := NB254_266.out
    have hms31_3 := NB254_274.out
    have hs32 : w29.cell? ⟨gb254, 2, none⟩ = some (.int .u64 0) := (blk_cell BK254.out 2).trans rfl
    have hfs32 := blk_frozen BK254.out 2
    have hns32_1 := NB255_254.out
    have hns32_2 := NB266_254.out
    have hns32_3 := NB274_254.out
    have hms32_1 := NB254_255.out
    have hms32_2 := NB254_266.out
    have hms32_3 := NB254_274.out
    have hs33 : w29.cell? ⟨gb254, 3, none⟩ = some (.int .i64 0) := (blk_cell BK254.out 3).trans rfl
    have hfs33 := blk_frozen BK254.out 3
    have hns33_1 := NB255_254.out
    have hns33_2 := NB266_254.out
    have hns33_3 := NB274_254.out
    have hms33_1 := NB254_255.out
    have hms33_2 := NB254_266.out
    have hms33_3 := NB254_274.out
    refine skip_ (w1 := ?_) ?_ ?_ ?_ ?_
    rotate_left
    ·rfl
    ·rfl
    ·go_simp
     rfl
    refine hK.out _ _ ⟨(cfar_ hHeld.1), (cfar_ hHeld.2.1), (cfar_ hHeld.2.2.1), (cfar_ hHeld.2.2.2.1), (cfar_ hHeld.2.2.2.2.1), (cfar_ hHeld.2.2.2.2.2.1), (cfar_ hHeld.2.2.2.2.2.2)⟩ (fun hHeld => ?_)
    clear hK K
    refine one_ (i := 7) (N := none) #[true, true, true, true, true, true, true, true] rfl rfl (one_of HT_.out (by kernel_rfl)) (by decide) (fun K hK => ?_)
    have hs34 : w29.cell? ⟨gb255, 0, none⟩ = some (.bool false) := (blk_cell BK255.out 0).trans rfl
    have hfs34 := blk_frozen BK255.out 0
    have hns34_0 := NB254_255.out
    have hns34_2 := NB266_255.out
    have hns34_3 := NB274_255.out
    have hms34_0 := NB255_254.out
    have hms34_2 := NB255_266.out
    have hms34_3 := NB255_274.out
    have hs35 : w29.cell? ⟨gb255, 1, none⟩ = some (.int .u64 0) := (blk_cell BK255.out 1).trans rfl
    have hfs35 := blk_frozen BK255.out 1
    have hns35_0 := NB254_255.out
    have hns35_2 := NB266_255.out
    have hns35_3 := NB274_255.out
    have hms35_0 := NB255_254.out
    have hms35_2 := NB255_266.out
    have hms35_3 := NB255_274.out
    have hs36 : w29.cell? ⟨gb255, 2, none⟩ = some (.int .u64 0) := (blk_cell BK255.out 2).trans rfl
    have hfs36 := blk_frozen BK255.out 2
    have hns36_0 := NB254_255.out
    have hns36_2 := NB266_255.out
    have hns36_3 := NB274_255.out
    have hms36_0 := NB255_254.out
    have hms36_2 := NB255_266.out
    have hms36_3 := NB255_274.out
    have hs37 : w29.cell? ⟨gb255, 3, none⟩ = some (.int .i64 0) := (blk_cell BK255.out 3).trans rfl
    have hfs37 := blk_frozen BK255.out 3
    have hns37_0 := NB254_255.out
    have hns37_2 := NB266_255.out
    have hns37_3 := NB274_255.out
    have hms37_0 := NB255_254.out
    have hms37_2 := NB255_266.out
    have hms37_3 := NB255_274.out
    refine skip_ (w1 := ?_) ?_ ?_ ?_ ?_
    rotate_left
    ·rfl
    ·rfl
    ·go_simp
     rfl
    refine hK.out _ _ ⟨(cfar_ hHeld.1), (cfar_ hHeld.2.1), (cfar_ hHeld.2.2.1), (cfar_ hHeld.2.2.2.1), (cfar_ hHeld.2.2.2.2.1), (cfar_ hHeld.2.2.2.2.2.1), (cfar_ hHeld.2.2.2.2.2.2)⟩ (fun hHeld => ?_)
    clear hK K
    refine done_ (done_of HT_.out (by kernel_rfl)) ?_
    try go_wp2
    refine bodyPost_ret (results_cc rfl _ _ gb254 gb255 43 43 #[.bool t260, .int .u64 t261, .int .u64 t262, .int .i64 t263] #[.bool t270, .int .u64 t271, .int .u64 t272, .int .i64 (wrap64 (3 * t263))] (0, 0) (0, 0) _ _ rfl (pu_ #[.bool t260, .int .u64 t261, .int .u64 t262, .int .i64 0] 3 (h := (pu_ #[.bool t260, .int .u64 t261, .int .u64 0, .int .i64 0] 2 (h := (pu_ #[.bool t260, .int .u64 0, .int .u64 0, .int .i64 0] 1 (h := (pu_ #[.bool false, .int .u64 0, .int .u64 0, .int .i64 0] 0 (h := bk_)))))))) Tryd.underlying43 rfl (by kernel_rfl) rfl (pu_ #[.bool t270, .int .u64 t271, .int .u64 t272, .int .i64 0] 3 (h := (pu_ #[.bool t270, .int .u64 t271, .int .u64 0, .int .i64 0] 2 (h := (pu_ #[.bool t270, .int .u64 0, .int .u64 0, .int .i64 0] 1 (h := (pu_ #[.bool false, .int .u64 0, .int .u64 0, .int .i64 0] 0 (h := bk_)))))))) Tryd.underlying43 rfl (by kernel_rfl)) rfl ?_
    exact ⟨rf_, belI_⟩
   ·rw [if_neg c8] at H
    have c8b0 : decide (t263 < 1000) = false := decide_eq_false c8
    clear c8
    replace H := Option.bind_eq_some_iff.mp H
    obtain ⟨⟨t275, t276, t277, t278, t279, t280⟩, A380, H⟩ := H
    replace H : (some (t260, t261, t262, t263, t275, t276, t277, t278)) = some (r1, r2, r3, r4, r5, r6, r7, r8) := H
    have A38 := Aside0.mk A380
    clear A380
    simp only [Option.some.injEq, Prod.mk.injEq] at H
    obtain ⟨rfl, rfl, rfl, rfl, rfl, rfl, rfl, rfl⟩ := H
    go_enter Tryd.func67, Tryd.ntmps67
    try go_wp2_with (first | ((with_reducible refine gate_dst (N := 2) rfl ?_); refine box_event ?hg (N := 2) ?hd (cs := #[.bool false, .int .u64 0, .int .u64 0, .int .i64 0]) (t := 43) ?hr ?_; (case hd => rfl); (case hg => rfl); (case hr => first | (go_simp; done) | (go_simp; rfl)); intro gb254 hg w39 hbox hb; have BK254 := Aside0.mk (hbox); have GW254 := bs_ (w := w) hg; have GE254 := bs_ (w := w) hg; replace HB := Aside0.mk (below_step bel_ hb); clear hb hbox hg) | ((with_reducible refine gate_dst (N := 3) rfl ?_); refine box_event ?hg (N := 3) ?hd (cs := #[.bool false, .int .u64 0, .int .u64 0, .int .i64 0]) (t := 43) ?hr ?_; (case hd => rfl); (case hg => rfl); (case hr => first | (go_simp; done) | (go_simp; rfl)); intro gb255 hg w40 hbox hb; have BK255 := Aside0.mk (hbox); have GW255 := bs_ (w := w) hg; have GE255 := bs_ (w := w) hg; have NB254_255 := nlt_ (g := gb254) hg; have NB255_254 := ngt_ (g := gb254) hg; replace HB := Aside0.mk (below_step bel_ hb); replace BK254 := bb_ (g := gb254) hb; clear hb hbox hg) | ((with_reducible refine gate_callee (f := 44) rfl ?_); refine goesL_ (some 11) rfl rfl Tryd.func44 (by kernel_rfl) rfl #[.slice A0 l0.length c0] rfl mp_ ?_; (with_reducible refine (spec_l1New.calls k _ _ l0 t256 t257 t258 w _ ?side1 ?side2 ?side3 A2.out).mono ?_); (case side1 => exact bel_); (case side2 => exact HR0.out); (case side3 => exact HC0.out); rintro e w41 ⟨g259, rfl, hi, hb, hb2⟩; refine ⟨_, rfl, ?_⟩; have HI259 := Aside0.mk (hi); have NB259_254 := Aside0.mk (IsS90.ne_blk hi (blk_below (g := gb254) (o := .cells #[.bool false, .int .u64 0, .int .u64 0, .int .i64 0] 43 (0, 0)) bk_ hb2) (by decide)); have NB254_259 := Aside0.mk (Ne.symm (IsS90.ne_blk hi (blk_below (g := gb254) (o := .cells #[.bool false, .int .u64 0, .int .u64 0, .int .i64 0] 43 (0, 0)) bk_ hb2) (by decide))); have NB259_255 := Aside0.mk (IsS90.ne_blk hi (blk_below (g := gb255) (o := .cells #[.bool false, .int .u64 0, .int .u64 0, .int .i64 0] 43 (0, 0)) bk_ hb2) (by decide)); have NB255_259 := Aside0.mk (Ne.symm (IsS90.ne_blk hi (blk_below (g := gb255) (o := .cells #[.bool false, .int .u64 0, .int .u64 0, .int .i64 0] 43 (0, 0)) bk_ hb2) (by decide))); replace HB := Aside0.mk (hb); replace BK254 := Aside0.mk (blk_below (g := gb254) (o := .cells #[.bool false, .int .u64 0, .int .u64 0, .int .i64 0] 43 (0, 0)) bk_ hb2); replace BK255 := Aside0.mk (blk_below (g := gb255) (o := .cells #[.bool false, .int .u64 0, .int .u64 0, .int .i64 0] 43 (0, 0)) bk_ hb2); (try clear hb); (try clear hb2); (try clear hk); (try clear hi)) | ((with_reducible refine gate_callee (f := 83) rfl ?_); refine goesL_ (some 13) rfl rfl Tryd.func83 (by kernel_rfl) rfl #[.pointer (some ⟨g259, 0, none⟩)] rfl mp_ ?_; (with_reducible refine (spec_l5Frac.calls k g259 t256 t257 t258 t260 t261 t262 t263 t264 t265 w _ ?side1 ?side2 A3.out).mono ?_); (case side1 => exact is_); (case side2 => exact belI_); rintro e w42 ⟨rfl, hi, hb, hk⟩; refine ⟨_, rfl, ?_⟩; replace HB := Aside0.mk (hb); replace BK254 := Aside0.mk (KeepBut.blk hk (g' := gb254) (o := .cells #[.bool false, .int .u64 0, .int .u64 0, .int .i64 0] 43 (0, 0)) bk_ NB254_259.out (by simp)); replace BK255 := Aside0.mk (KeepBut.blk hk (g' := gb255) (o := .cells #[.bool false, .int .u64 0, .int .u64 0, .int .i64 0] 43 (0, 0)) bk_ NB255_259.out (by simp)); replace HI259 := Aside0.mk (hi); (try clear hb); (try clear hb2); (try clear hk); (try clear hi)) | ((with_reducible refine gate_dst (N := 5) rfl ?_); refine box_event ?hg (N := 5) ?hd (cs := #[.bool false, .int .u64 0, .int .u64 0, .int .i64 0]) (t := 43) ?hr ?_; (case hd => rfl); (case hg => rfl); (case hr => first | (go_simp; done) | (go_simp; rfl)); intro gb266 hg w43 hbox hb; have BK266 := Aside0.mk (hbox); have GW266 := Aside0.mk ((by rw [hg]; exact (below_size (belI_)) : w.heap.size ≤ gb266)); have GE266 := Aside0.mk ((by rw [hg]; exact (below_size (belI_)) : w.heap.size ≤ gb266)); have NB254_266 := nlt_ (g := gb254) hg; have NB266_254 := ngt_ (g := gb254) hg; have NB255_266 := nlt_ (g := gb255) hg; have NB266_255 := ngt_ (g := gb255) hg; have NB259_266 := Aside0.mk ((by rw [hg]; exact Nat.ne_of_lt (IsS90.lt (show IsS90 w _ g259 t256 t264 t265 from is_)) : g259 ≠ gb266)); have NB266_259 := Aside0.mk ((by rw [hg]; exact Nat.ne_of_gt (IsS90.lt (show IsS90 w _ g259 t256 t264 t265 from is_)) : gb266 ≠ g259)); replace HB := Aside0.mk (below_step (belI_) hb); replace BK254 := bb_ (g := gb254) hb; replace BK255 := bb_ (g := gb255) hb; replace HI259 := Aside0.mk (IsS90.below (is_) hb); clear hb hbox hg; have hnb44 := NB266_254.out; have hnc44 := NB254_266.out; have hnb45 := NB266_255.out; have hnc45 := NB255_266.out; have hnb46 := NB266_259.out; have hnc46 := NB259_266.out; obtain ⟨hcz47_0, hcz47_1, hcz47_2, hcz47_3, hfz47_0, hfz47_1, hfz47_2, hfz47_3⟩ := cf4_ (w := w43) BK266.out) | ((with_reducible refine gate_callee (f := 52) rfl ?_); refine goesL_ (some 15) rfl rfl Tryd.func52 (by kernel_rfl) rfl #[.pointer (some ⟨g259, 0, none⟩), .int .i64 4] rfl mp_ ?_; (with_reducible refine (spec_l1Below.calls g259 t256 t264 t265 4 t267 t268 t269 w _ ?side1 ?side2 A4.out).mono ?_); (case side1 => exact is_); (case side2 => exact belI_); rintro e w48 ⟨rfl, hi, hb, hk⟩; refine ⟨_, rfl, ?_⟩; replace HB := Aside0.mk (hb); replace BK254 := Aside0.mk (KeepBut.blk hk (g' := gb254) (o := .cells #[.bool false, .int .u64 0, .int .u64 0, .int .i64 0] 43 (0, 0)) bk_ NB254_259.out (by simp)); replace BK255 := Aside0.mk (KeepBut.blk hk (g' := gb255) (o := .cells #[.bool false, .int .u64 0, .int .u64 0, .int .i64 0] 43 (0, 0)) bk_ NB255_259.out (by simp)); replace BK266 := Aside0.mk (KeepBut.blk hk (g' := gb266) (o := .cells #[.bool t260, .int .u64 t261, .int .u64 t262, .int .i64 t263] 43 (0, 0)) (pu_ #[.bool t260, .int .u64 t261, .int .u64 t262, .int .i64 0] 3 (h := (pu_ #[.bool t260, .int .u64 t261, .int .u64 0, .int .i64 0] 2 (h := (pu_ #[.bool t260, .int .u64 0, .int .u64 0, .int .i64 0] 1 (h := (pu_ #[.bool false, .int .u64 0, .int .u64 0, .int .i64 0] 0 (h := bk_)))))))) NB266_259.out (by simp)); replace HI259 := Aside0.mk (hi); (try clear hb); (try clear hb2); (try clear hk); (try clear hi); obtain ⟨hcz49_0, hcz49_1, hcz49_2, hcz49_3, hfz49_0, hfz49_1, hfz49_2, hfz49_3⟩ := cf4_ (w := w48) BK266.out) | ((with_reducible refine gate_callee (f := 58) rfl ?_); refine goesL_ (some 21) rfl rfl Tryd.func58 (by kernel_rfl) rfl #[.agg #[.bool t260, .int .u64 t261, .int .u64 t262], .int .i64 3] rfl mp_ ?_; (with_reducible refine (spec_ScaleWide.calls t260 t261 t262 3 t270 t271 t272 true _ A6.out).mono ?_); rintro e w50 ⟨rfl, hb⟩; refine ⟨_, rfl, ?_⟩; replace HB := Aside0.mk (below_step (belI_) hb); replace BK254 := bb_ (g := gb254) hb; replace BK255 := bb_ (g := gb255) hb; replace HI259 := Aside0.mk (IsS90.below (is_) hb); replace BK266 := bb_ (g := gb266) hb; (try clear hb); (try clear hb2); (try clear hk); (try clear hi)) | ((with_reducible refine gate_dst (N := 6) rfl ?_); refine box_event ?hg (N := 6) ?hd (cs := #[.bool false, .int .u64 0, .int .u64 0]) (t := 28) ?hr ?_; (case hd => rfl); (case hg => rfl); (case hr => first | (go_simp; done) | (go_simp; rfl)); intro gb274 hg w51 hbox hb; have BK274 := Aside0.mk (hbox); have GW274 := Aside0.mk ((by rw [hg]; exact (below_size (belI_)) : w.heap.size ≤ gb274)); have GE274 := Aside0.mk ((by rw [hg]; exact (below_size (belI_)) : w.heap.size ≤ gb274)); have NB254_274 := nlt_ (g := gb254) hg; have NB274_254 := ngt_ (g := gb254) hg; have NB255_274 := nlt_ (g := gb255) hg; have NB274_255 := ngt_ (g := gb255) hg; have NB266_274 := nlt_ (g := gb266) hg; have NB274_266 := ngt_ (g := gb266) hg; have NB259_274 := Aside0.mk ((by rw [hg]; exact Nat.ne_of_lt (IsS90.lt (show IsS90 w _ g259 t256 t268 t269 from is_)) : g259 ≠ gb274)); have NB274_259 := Aside0.mk ((by rw [hg]; exact Nat.ne_of_gt (IsS90.lt (show IsS90 w _ g259 t256 t268 t269 from is_)) : gb274 ≠ g259)); replace HB := Aside0.mk (below_step (belI_) hb); replace BK254 := bb_ (g := gb254) hb; replace BK255 := bb_ (g := gb255) hb; replace HI259 := Aside0.mk (IsS90.below (is_) hb); replace BK266 := bb_ (g := gb266) hb; clear hb hbox hg; have hnb52 := NB274_254.out; have hnc52 := NB254_274.out; have hnb53 := NB274_255.out; have hnc53 := NB255_274.out; have hnb54 := NB274_266.out; have hnc54 := NB266_274.out; have hnb55 := NB274_259.out; have hnc55 := NB259_274.out; obtain ⟨hcz56_0, hcz56_1, hcz56_2, hfz56_0, hfz56_1, hfz56_2⟩ := cf3_ (w := w51) BK274.out; obtain ⟨hcz57_0, hcz57_1, hcz57_2, hcz57_3, hfz57_0, hfz57_1, hfz57_2, hfz57_3⟩ := cf4_ (w := w51) BK266.out))
    have n0_ : Aside0 ((((w51.setCell ⟨gb274, 0, none⟩ (.bool t270)).setCell ⟨gb274, 1, none⟩ (.int .u64 t271)).setCell ⟨gb274, 2, none⟩ (.int .u64 t272)).heap[gb254]? = some (.cells #[.bool false, .int .u64 0, .int .u64 0, .int .i64 0] 43 (0, 0))) := ⟨by (with_reducible repeat (first | refine bN_ _ ?_ | refine bd_ ?_ | refine ba_ _ ?_)); refine blk_far ?_ NB254_274.out _; (with_reducible repeat (first | refine bN_ _ ?_ | refine bd_ ?_ | refine ba_ _ ?_)); refine blk_far ?_ NB254_274.out _; (with_reducible repeat (first | refine bN_ _ ?_ | refine bd_ ?_ | refine ba_ _ ?_)); refine blk_far ?_ NB254_274.out _; (with_reducible repeat (first | refine bN_ _ ?_ | refine bd_ ?_ | refine ba_ _ ?_)); exact BK254.out⟩
    have n1_ : Aside0 ((((w51.setCell ⟨gb274, 0, none⟩ (.bool t270)).setCell ⟨gb274, 1, none⟩ (.int .u64 t271)).setCell ⟨gb274, 2, none⟩ (.int .u64 t272)).heap[gb255]? = some (.cells #[.bool false, .int .u64 0, .int .u64 0, .int .i64 0] 43 (0, 0))) := ⟨by (with_reducible repeat (first | refine bN_ _ ?_ | refine bd_ ?_ | refine ba_ _ ?_)); refine blk_far ?_ NB255_274.out _; (with_reducible repeat (first | refine bN_ _ ?_ | refine bd_ ?_ | refine ba_ _ ?_)); refine blk_far ?_ NB255_274.out _; (with_reducible repeat (first | refine bN_ _ ?_ | refine bd_ ?_ | refine ba_ _ ?_)); refine blk_far ?_ NB255_274.out _; (with_reducible repeat (first | refine bN_ _ ?_ | refine bd_ ?_ | refine ba_ _ ?_)); exact BK255.out⟩
    have n2_ : Aside0 ((((w51.setCell ⟨gb274, 0, none⟩ (.bool t270)).setCell ⟨gb274, 1, none⟩ (.int .u64 t271)).setCell ⟨gb274, 2, none⟩ (.int .u64 t272)).heap[gb266]? = some (.cells #[.bool t260, .int .u64 t261, .int .u64 t262, .int .i64 t263] 43 (0, 0))) := ⟨by (with_reducible repeat (first | refine bN_ _ ?_ | refine bd_ ?_ | refine ba_ _ ?_)); refine blk_far ?_ NB266_274.out _; (with_reducible repeat (first | refine bN_ _ ?_ | refine bd_ ?_ | refine ba_ _ ?_)); refine blk_far ?_ NB266_274.out _; (with_reducible repeat (first | refine bN_ _ ?_ | refine bd_ ?_ | refine ba_ _ ?_)); refine blk_far ?_ NB266_274.out _; (with_reducible repeat (first | refine bN_ _ ?_ | refine bd_ ?_ | refine ba_ _ ?_)); exact BK266.out⟩
    have n3_ : Aside0 ((((w51.setCell ⟨gb274, 0, none⟩ (.bool t270)).setCell ⟨gb274, 1, none⟩ (.int .u64 t271)).setCell ⟨gb274, 2, none⟩ (.int .u64 t272)).heap[gb274]? = some (.cells #[.bool t270, .int .u64 t271, .int .u64 t272] 28 (0, 0))) := ⟨by (with_reducible repeat (first | refine bN_ _ ?_ | refine bd_ ?_ | refine ba_ _ ?_)); refine blk_put (cs := #[.bool t270, .int .u64 t271, .int .u64 0]) ?_ 2 _ rfl; (with_reducible repeat (first | refine bN_ _ ?_ | refine bd_ ?_ | refine ba_ _ ?_)); refine blk_put (cs := #[.bool t270, .int .u64 0, .int .u64 0]) ?_ 1 _ rfl; (with_reducible repeat (first | refine bN_ _ ?_ | refine bd_ ?_ | refine ba_ _ ?_)); refine blk_put (cs := #[.bool false, .int .u64 0, .int .u64 0]) ?_ 0 _ rfl; (with_reducible repeat (first | refine bN_ _ ?_ | refine bd_ ?_ | refine ba_ _ ?_)); exact BK274.out⟩
    have n4_ : Aside0 (IsS90 w (((w51.setCell ⟨gb274, 0, none⟩ (.bool t270)).setCell ⟨gb274, 1, none⟩ (.int .u64 t271)).setCell ⟨gb274, 2, none⟩ (.int .u64 t272)) g259 t256 t268 t269) := ⟨is_⟩
    have n5_ : Aside0 (Below w.heap.size w (((w51.setCell ⟨gb274, 0, none⟩ (.bool t270)).setCell ⟨gb274, 1, none⟩ (.int .u64 t271)).setCell ⟨gb274, 2, none⟩ (.int .u64 t272))) := ⟨belI_⟩
    (try clear BK254)
    (try clear BK255)
    (try clear BK266)
    (try clear BK274)
    (try clear HI259)
    (try clear HB)
    generalize (((w51.setCell ⟨gb274, 0, none⟩ (.bool t270)).setCell ⟨gb274, 1, none⟩ (.int .u64 t271)).setCell ⟨gb274, 2, none⟩ (.int .u64 t272)) = w58 at n0_ n1_ n2_ n3_ n4_ n5_ ⊢
    have BK254 := n0_
    have BK255 := n1_
    have BK266 := n2_
    have BK274 := n3_
    have HI259 := n4_
    have HB := n5_
    clear n0_ n1_ n2_ n3_ n4_ n5_
    replace HB := Aside0.mk (below_drew1 HB.out)
    replace BK254 := Aside0.mk (blk_drew BK254.out)
    replace BK255 := Aside0.mk (blk_drew BK255.out)
    replace BK266 := Aside0.mk (blk_drew BK266.out)
    replace BK274 := Aside0.mk (blk_drew BK274.out)
    replace HI259 := Aside0.mk (IsS90.drew HI259.out)
    refine start_ (n := 5) (S := fun w' => w'.cell? ⟨gb266, 0, none⟩ = some (.bool t260) ∧ w'.cell? ⟨gb266, 1, none⟩ = some (.int .u64 t261) ∧ w'.cell? ⟨gb266, 2, none⟩ = some (.int .u64 t262) ∧ w'.cell? ⟨gb266, 3, none⟩ = some (.int .i64 t263)) (ds := []) #[false, false, false, false, false] (by kernel_rfl) rfl rfl ⟨bc_, bc_, bc_, bc_⟩ (fun hHeld => ?_)
    generalize w58.drew = w59 at BK254 BK255 BK266 BK274 HI259 HB hHeld ⊢
    refine pure_ (i := 1) (N := some 52) (v := ?_) (a' := ?_) #[false, true, false, false, false] rfl rfl (by kernel_rfl) (fun _ _ _ h => h) (Or.inl ⟨by rfl, ?_⟩) ?_ ?_
    rotate_left
    ·intro w'
     go_simp
     with_reducible rfl
    rotate_left
    ·simp only [Act.put, la_, lb_, lc_, i64_w, i32_w]
     rfl
    refine take_ (i := 0) (N := some 51) (v := ?_) (a' := ?_) #[true, true, false, false, false] rfl rfl (by kernel_rfl) (fun _ _ _ h => h) (Or.inl ⟨by rfl, ?_⟩) hHeld ?_ ?_
    rotate_left
    ·rintro w' ⟨s0, s1, s2, s3⟩
     go_simp
     with_reducible rfl
    rotate_left
    ·simp only [Act.put, la_, lb_, lc_, i64_w, i32_w]
     rfl
    refine one_ (i := 2) (N := some 53) #[true, true, true, false, false] rfl rfl (by kernel_rfl) (by decide) (fun K hK => ?_)
    refine goes_ Tryd.func83 (by kernel_rfl) rfl #[.pointer (some ⟨g259, 0, none⟩)] (by rfl) rfl rfl mp_ ?_
    with_reducible refine (spec_l5Frac.calls k g259 t256 t268 t269 t275 t276 t277 t278 t279 t280 w _ ?side1 ?side2 A38.out).mono ?_
    (case side1 => exact is_)
    (case side2 => exact belI_)
    rintro e w60 ⟨rfl, hi, hb, hk⟩
    refine ⟨_, rfl, ?_⟩
    replace HB := Aside0.mk (hb)
    replace BK254 := Aside0.mk (KeepBut.blk hk (g' := gb254) (o := .cells #[.bool false, .int .u64 0, .int .u64 0, .int .i64 0] 43 (0, 0)) bk_ NB254_259.out (by simp))
    replace BK255 := Aside0.mk (KeepBut.blk hk (g' := gb255) (o := .cells #[.bool false, .int .u64 0, .int .u64 0, .int .i64 0] 43 (0, 0)) bk_ NB255_259.out (by simp))
    replace BK266 := Aside0.mk (KeepBut.blk hk (g' := gb266) (o := .cells #[.bool t260, .int .u64 t261, .int .u64 t262, .int .i64 t263] 43 (0, 0)) bk_ NB266_259.out (by simp))
    replace BK274 := Aside0.mk (KeepBut.blk hk (g' := gb274) (o := .cells #[.bool t270, .int .u64 t271, .int .u64 t272] 28 (0, 0)) bk_ NB274_259.out (by simp))
    replace HI259 := Aside0.mk (hi)
    (try clear hb)
    (try clear hb2)
    (try clear hk)
    (try clear hi)
    refine hK.out _ _ ⟨bc_, bc_, bc_, bc_⟩ (fun hHeld => ?_)
    clear hK K
    refine norm_ (a' := ?_) ?_ ?_
    rotate_left
    ·show Act.put _ (some 53) _ = _
     simp only [Act.put, la_, lb_, lc_, i64_w, i32_w]
     rfl
    refine one_ (i := 3) (N := none) #[true, true, true, true, false] rfl rfl (by kernel_rfl) (by decide) (fun K hK => ?_)
    have hs61 : w60.cell? ⟨gb254, 0, none⟩ = some (.bool false) := (blk_cell BK254.out 0).trans rfl
    have hfs61 := blk_frozen BK254.out 0
    have hns61_1 := NB255_254.out
    have hns61_2 := NB266_254.out
    have hns61_3 := NB274_254.out
    have hms61_1 := NB254_255.out
    have hms61_2 := NB254_266.out
    have hms61_3 := NB254_274.out
    have hs62 : w60.cell? ⟨gb254, 1, none⟩ = some (.int .u64 0) := (blk_cell BK254.out 1).trans rfl
    have hfs62 := blk_frozen BK254.out 1
    have hns62_1 := NB255_254.out
    have hns62_2 := NB266_254.out
    have hns62_3 := NB274_254.out
    have hms62_1 := NB254_255.out
    have hms62_2 := NB254_266.out
    have hms62_3 := NB254_274.out
    have hs63 : w60.cell? ⟨gb254, 2, none⟩ = some (.int .u64 0) := (blk_cell BK254.out 2).trans rfl
    have hfs63 := blk_frozen BK254.out 2
    have hns63_1 := NB255_254.out
    have hns63_2 := NB266_254.out
    have hns63_3 := NB274_254.out
    have hms63_1 := NB254_255.out
    have hms63_2 := NB254_266.out
    have hms63_3 := NB254_274.out
    have hs64 : w60.cell? ⟨gb254, 3, none⟩ = some (.int .i64 0) := (blk_cell BK254.out 3).trans rfl
    have hfs64 := blk_frozen BK254.out 3
    have hns64_1 := NB255_254.out
    have hns64_2 := NB266_254.out
    have hns64_3 := NB274_254.out
    have hms64_1 := NB254_255.out
    have hms64_2 := NB254_266.out
    have hms64_3 := NB254_274.out
    refine skip_ (w1 := ?_) ?_ ?_ ?_ ?_
    rotate_left
    ·rfl
    ·rfl
    ·go_simp
     rfl
    refine hK.out _ _ ⟨(cfar_ hHeld.1), (cfar_ hHeld.2.1), (cfar_ hHeld.2.2.1), (cfar_ hHeld.2.2.2)⟩ (fun hHeld => ?_)
    clear hK K
    refine one_ (i := 4) (N := none) #[true, true, true, true, true] rfl rfl (by kernel_rfl) (by decide) (fun K hK => ?_)
    have hs65 : w60.cell? ⟨gb255, 0, none⟩ = some (.bool false) := (blk_cell BK255.out 0).trans rfl
    have hfs65 := blk_frozen BK255.out 0
    have hns65_0 := NB254_255.out
    have hns65_2 := NB266_255.out
    have hns65_3 := NB274_255.out
    have hms65_0 := NB255_254.out
    have hms65_2 := NB255_266.out
    have hms65_3 := NB255_274.out
    have hs66 : w60.cell? ⟨gb255, 1, none⟩ = some (.int .u64 0) := (blk_cell BK255.out 1).trans rfl
    have hfs66 := blk_frozen BK255.out 1
    have hns66_0 := NB254_255.out
    have hns66_2 := NB266_255.out
    have hns66_3 := NB274_255.out
    have hms66_0 := NB255_254.out
    have hms66_2 := NB255_266.out
    have hms66_3 := NB255_274.out
    have hs67 : w60.cell? ⟨gb255, 2, none⟩ = some (.int .u64 0) := (blk_cell BK255.out 2).trans rfl
    have hfs67 := blk_frozen BK255.out 2
    have hns67_0 := NB254_255.out
    have hns67_2 := NB266_255.out
    have hns67_3 := NB274_255.out
    have hms67_0 := NB255_254.out
    have hms67_2 := NB255_266.out
    have hms67_3 := NB255_274.out
    have hs68 : w60.cell? ⟨gb255, 3, none⟩ = some (.int .i64 0) := (blk_cell BK255.out 3).trans rfl
    have hfs68 := blk_frozen BK255.out 3
    have hns68_0 := NB254_255.out
    have hns68_2 := NB266_255.out
    have hns68_3 := NB274_255.out
    have hms68_0 := NB255_254.out
    have hms68_2 := NB255_266.out
    have hms68_3 := NB255_274.out
    refine skip_ (w1 := ?_) ?_ ?_ ?_ ?_
    rotate_left
    ·rfl
    ·rfl
    ·go_simp
     rfl
    refine hK.out _ _ ⟨(cfar_ hHeld.1), (cfar_ hHeld.2.1), (cfar_ hHeld.2.2.1), (cfar_ hHeld.2.2.2)⟩ (fun hHeld => ?_)
    clear hK K
    refine done_ (by kernel_rfl) ?_
    try go_wp2
    refine bodyPost_ret (results_cc rfl _ _ gb254 gb255 43 43 #[.bool t260, .int .u64 t261, .int .u64 t262, .int .i64 t263] #[.bool t275, .int .u64 t276, .int .u64 t277, .int .i64 t278] (0, 0) (0, 0) _ _ rfl (pu_ #[.bool t260, .int .u64 t261, .int .u64 t262, .int .i64 0] 3 (h := (pu_ #[.bool t260, .int .u64 t261, .int .u64 0, .int .i64 0] 2 (h := (pu_ #[.bool t260, .int .u64 0, .int .u64 0, .int .i64 0] 1 (h := (pu_ #[.bool false, .int .u64 0, .int .u64 0, .int .i64 0] 0 (h := bk_)))))))) Tryd.underlying43 rfl (by kernel_rfl) rfl (pu_ #[.bool t275, .int .u64 t276, .int .u64 t277, .int .i64 0] 3 (h := (pu_ #[.bool t275, .int .u64 t276, .int .u64 0, .int .i64 0] 2 (h := (pu_ #[.bool t275, .int .u64 0, .int .u64 0, .int .i64 0] 1 (h := (pu_ #[.bool false, .int .u64 0, .int .u64 0, .int .i64 0] 0 (h := bk_)))))))) Tryd.underlying43 rfl (by kernel_rfl)) rfl ?_
    exact ⟨rf_, belI_⟩
  ·replace c7 := Bool.eq_false_iff.mpr c7
   subst c7
   have H1 : ((spec_l5Frac.f k t256 t268 t269).bind fun bt281 => (some (t260, t261, t262, t263, bt281.1, bt281.2.1, bt281.2.2.1, bt281.2.2.2.1))) = some (r1, r2, r3, r4, r5, r6, r7, r8) := by rw [if_neg (show ¬ (false = true) by decide)] at H; exact H
   clear H
   have H := H1
   clear H1
   replace H := Option.bind_eq_some_iff.mp H
   obtain ⟨⟨t281, t282, t283, t284, t285, t286⟩, A690, H⟩ := H
   replace H : (some (t260, t261, t262, t263, t281, t282, t283, t284)) = some (r1, r2, r3, r4, r5, r6, r7, r8) := H
   have A69 := Aside0.mk A690
   clear A690
   simp only [Option.some.injEq, Prod.mk.injEq] at H
   obtain ⟨rfl, rfl, rfl, rfl, rfl, rfl, rfl, rfl⟩ := H
   go_enter Tryd.func67, Tryd.ntmps67
   try go_wp2_with (first | ((with_reducible refine gate_dst (N := 2) rfl ?_); refine box_event ?hg (N := 2) ?hd (cs := #[.bool false, .int .u64 0, .int .u64 0, .int .i64 0]) (t := 43) ?hr ?_; (case hd => rfl); (case hg => rfl); (case hr => first | (go_simp; done) | (go_simp; rfl)); intro gb254 hg w70 hbox hb; have BK254 := Aside0.mk (hbox); have GW254 := bs_ (w := w) hg; have GE254 := bs_ (w := w) hg; replace HB := Aside0.mk (below_step bel_ hb); clear hb hbox hg) | ((with_reducible refine gate_dst (N := 3) rfl ?_); refine box_event ?hg (N := 3) ?hd (cs := #[.bool false, .int .u64 0, .int .u64 0, .int .i64 0]) (t := 43) ?hr ?_; (case hd => rfl); (case hg => rfl); (case hr => first | (go_simp; done) | (go_simp; rfl)); intro gb255 hg w71 hbox hb; have BK255 := Aside0.mk (hbox); have GW255 := bs_ (w := w) hg; have GE255 := bs_ (w := w) hg; have NB254_255 := nlt_ (g := gb254) hg; have NB255_254 := ngt_ (g := gb254) hg; replace HB := Aside0.mk (below_step bel_ hb); replace BK254 := bb_ (g := gb254) hb; clear hb hbox hg) | ((with_reducible refine gate_callee (f := 44) rfl ?_); refine goesL_ (some 11) rfl rfl Tryd.func44 (by kernel_rfl) rfl #[.slice A0 l0.length c0] rfl mp_ ?_; (with_reducible refine (spec_l1New.calls k _ _ l0 t256 t257 t258 w _ ?side1 ?side2 ?side3 A2.out).mono ?_); (case side1 => exact bel_); (case side2 => exact HR0.out); (case side3 => exact HC0.out); rintro e w72 ⟨g259, rfl, hi, hb, hb2⟩; refine ⟨_, rfl, ?_⟩; have HI259 := Aside0.mk (hi); have NB259_254 := Aside0.mk (IsS90.ne_blk hi (blk_below (g := gb254) (o := .cells #[.bool false, .int .u64 0, .int .u64 0, .int .i64 0] 43 (0, 0)) bk_ hb2) (by decide)); have NB254_259 := Aside0.mk (Ne.symm (IsS90.ne_blk hi (blk_below (g := gb254) (o := .cells #[.bool false, .int .u64 0, .int .u64 0, .int .i64 0] 43 (0, 0)) bk_ hb2) (by decide))); have NB259_255 := Aside0.mk (IsS90.ne_blk hi (blk_below (g := gb255) (o := .cells #[.bool false, .int .u64 0, .int .u64 0, .int .i64 0] 43 (0, 0)) bk_ hb2) (by decide)); have NB255_259 := Aside0.mk (Ne.symm (IsS90.ne_blk hi (blk_below (g := gb255) (o := .cells #[.bool false, .int .u64 0, .int .u64 0, .int .i64 0] 43 (0, 0)) bk_ hb2) (by decide))); replace HB := Aside0.mk (hb); replace BK254 := Aside0.mk (blk_below (g := gb254) (o := .cells #[.bool false, .int .u64 0, .int .u64 0, .int .i64 0] 43 (0, 0)) bk_ hb2); replace BK255 := Aside0.mk (blk_below (g := gb255) (o := .cells #[.bool false, .int .u64 0, .int .u64 0, .int .i64 0] 43 (0, 0)) bk_ hb2); (try clear hb); (try clear hb2); (try clear hk); (try clear hi)) | ((with_reducible refine gate_callee (f := 83) rfl ?_); refine goesL_ (some 13) rfl rfl Tryd.func83 (by kernel_rfl) rfl #[.pointer (some ⟨g259, 0, none⟩)] rfl mp_ ?_; (with_reducible refine (spec_l5Frac.calls k g259 t256 t257 t258 t260 t261 t262 t263 t264 t265 w _ ?side1 ?side2 A3.out).mono ?_); (case side1 => exact is_); (case side2 => exact belI_); rintro e w73 ⟨rfl, hi, hb, hk⟩; refine ⟨_, rfl, ?_⟩; replace HB := Aside0.mk (hb); replace BK254 := Aside0.mk (KeepBut.blk hk (g' := gb254) (o := .cells #[.bool false, .int .u64 0, .int .u64 0, .int .i64 0] 43 (0, 0)) bk_ NB254_259.out (by simp)); replace BK255 := Aside0.mk (KeepBut.blk hk (g' := gb255) (o := .cells #[.bool false, .int .u64 0, .int .u64 0, .int .i64 0] 43 (0, 0)) bk_ NB255_259.out (by simp)); replace HI259 := Aside0.mk (hi); (try clear hb); (try clear hb2); (try clear hk); (try clear hi)) | ((with_reducible refine gate_dst (N := 5) rfl ?_); refine box_event ?hg (N := 5) ?hd (cs := #[.bool false, .int .u64 0, .int .u64 0, .int .i64 0]) (t := 43) ?hr ?_; (case hd => rfl); (case hg => rfl); (case hr => first | (go_simp; done) | (go_simp; rfl)); intro gb266 hg w74 hbox hb; have BK266 := Aside0.mk (hbox); have GW266 := Aside0.mk ((by rw [hg]; exact (below_size (belI_)) : w.heap.size ≤ gb266)); have GE266 := Aside0.mk ((by rw [hg]; exact (below_size (belI_)) : w.heap.size ≤ gb266)); have NB254_266 := nlt_ (g := gb254) hg; have NB266_254 := ngt_ (g := gb254) hg; have NB255_266 := nlt_ (g := gb255) hg; have NB266_255 := ngt_ (g := gb255) hg; have NB259_266 := Aside0.mk ((by rw [hg]; exact Nat.ne_of_lt (IsS90.lt (show IsS90 w _ g259 t256 t264 t265 from is_)) : g259 ≠ gb266)); have NB266_259 := Aside0.mk ((by rw [hg]; exact Nat.ne_of_gt (IsS90.lt (show IsS90 w _ g259 t256 t264 t265 from is_)) : gb266 ≠ g259)); replace HB := Aside0.mk (below_step (belI_) hb); replace BK254 := bb_ (g := gb254) hb; replace BK255 := bb_ (g := gb255) hb; replace HI259 := Aside0.mk (IsS90.below (is_) hb); clear hb hbox hg; have hnb75 := NB266_254.out; have hnc75 := NB254_266.out; have hnb76 := NB266_255.out; have hnc76 := NB255_266.out; have hnb77 := NB266_259.out; have hnc77 := NB259_266.out; obtain ⟨hcz78_0, hcz78_1, hcz78_2, hcz78_3, hfz78_0, hfz78_1, hfz78_2, hfz78_3⟩ := cf4_ (w := w74) BK266.out) | ((with_reducible refine gate_callee (f := 52) rfl ?_); refine goesL_ (some 15) rfl rfl Tryd.func52 (by kernel_rfl) rfl #[.pointer (some ⟨g259, 0, none⟩), .int .i64 4] rfl mp_ ?_; (with_reducible refine (spec_l1Below.calls g259 t256 t264 t265 4 t267 t268 t269 w _ ?side1 ?side2 A4.out).mono ?_); (case side1 => exact is_); (case side2 => exact belI_); rintro e w79 ⟨rfl, hi, hb, hk⟩; refine ⟨_, rfl, ?_⟩; replace HB := Aside0.mk (hb); replace BK254 := Aside0.mk (KeepBut.blk hk (g' := gb254) (o := .cells #[.bool false, .int .u64 0, .int .u64 0, .int .i64 0] 43 (0, 0)) bk_ NB254_259.out (by simp)); replace BK255 := Aside0.mk (KeepBut.blk hk (g' := gb255) (o := .cells #[.bool false, .int .u64 0, .int .u64 0, .int .i64 0] 43 (0, 0)) bk_ NB255_259.out (by simp)); replace BK266 := Aside0.mk (KeepBut.blk hk (g' := gb266) (o := .cells #[.bool t260, .int .u64 t261, .int .u64 t262, .int .i64 t263] 43 (0, 0)) (pu_ #[.bool t260, .int .u64 t261, .int .u64 t262, .int .i64 0] 3 (h := (pu_ #[.bool t260, .int .u64 t261, .int .u64 0, .int .i64 0] 2 (h := (pu_ #[.bool t260, .int .u64 0, .int .u64 0, .int .i64 0] 1 (h := (pu_ #[.bool false, .int .u64 0, .int .u64 0, .int .i64 0] 0 (h := bk_)))))))) NB266_259.out (by simp)); replace HI259 := Aside0.mk (hi); (try clear hb); (try clear hb2); (try clear hk); (try clear hi); obtain ⟨hcz80_0, hcz80_1, hcz80_2, hcz80_3, hfz80_0, hfz80_1, hfz80_2, hfz80_3⟩ := cf4_ (w := w79) BK266.out) | ((with_reducible refine gate_callee (f := 58) rfl ?_); refine goesL_ (some 21) rfl rfl Tryd.func58 (by kernel_rfl) rfl #[.agg #[.bool t260, .int .u64 t261, .int .u64 t262], .int .i64 3] rfl mp_ ?_; (with_reducible refine (spec_ScaleWide.calls t260 t261 t262 3 t270 t271 t272 false _ A6.out).mono ?_); rintro e w81 ⟨rfl, hb⟩; refine ⟨_, rfl, ?_⟩; replace HB := Aside0.mk (below_step (belI_) hb); replace BK254 := bb_ (g := gb254) hb; replace BK255 := bb_ (g := gb255) hb; replace HI259 := Aside0.mk (IsS90.below (is_) hb); replace BK266 := bb_ (g := gb266) hb; (try clear hb); (try clear hb2); (try clear hk); (try clear hi)) | ((with_reducible refine gate_dst (N := 6) rfl ?_); refine box_event ?hg (N := 6) ?hd (cs := #[.bool false, .int .u64 0, .int .u64 0]) (t := 28) ?hr ?_; (case hd => rfl); (case hg => rfl); (case hr => first | (go_simp; done) | (go_simp; rfl)); intro gb274 hg w82 hbox hb; have BK274 := Aside0.mk (hbox); have GW274 := Aside0.mk ((by rw [hg]; exact (below_size (belI_)) : w.heap.size ≤ gb274)); have GE274 := Aside0.mk ((by rw [hg]; exact (below_size (belI_)) : w.heap.size ≤ gb274)); have NB254_274 := nlt_ (g := gb254) hg; have NB274_254 := ngt_ (g := gb254) hg; have NB255_274 := nlt_ (g := gb255) hg; have NB274_255 := ngt_ (g := gb255) hg; have NB266_274 := nlt_ (g := gb266) hg; have NB274_266 := ngt_ (g := gb266) hg; have NB259_274 := Aside0.mk ((by rw [hg]; exact Nat.ne_of_lt (IsS90.lt (show IsS90 w _ g259 t256 t268 t269 from is_)) : g259 ≠ gb274)); have NB274_259 := Aside0.mk ((by rw [hg]; exact Nat.ne_of_gt (IsS90.lt (show IsS90 w _ g259 t256 t268 t269 from is_)) : gb274 ≠ g259)); replace HB := Aside0.mk (below_step (belI_) hb); replace BK254 := bb_ (g := gb254) hb; replace BK255 := bb_ (g := gb255) hb; replace HI259 := Aside0.mk (IsS90.below (is_) hb); replace BK266 := bb_ (g := gb266) hb; clear hb hbox hg; have hnb83 := NB274_254.out; have hnc83 := NB254_274.out; have hnb84 := NB274_255.out; have hnc84 := NB255_274.out; have hnb85 := NB274_266.out; have hnc85 := NB266_274.out; have hnb86 := NB274_259.out; have hnc86 := NB259_274.out; obtain ⟨hcz87_0, hcz87_1, hcz87_2, hfz87_0, hfz87_1, hfz87_2⟩ := cf3_ (w := w82) BK274.out))
   have n0_ : Aside0 ((((w82.setCell ⟨gb274, 0, none⟩ (.bool t270)).setCell ⟨gb274, 1, none⟩ (.int .u64 t271)).setCell ⟨gb274, 2, none⟩ (.int .u64 t272)).heap[gb254]? = some (.cells #[.bool false, .int .u64 0, .int .u64 0, .int .i64 0] 43 (0, 0))) := ⟨by (with_reducible repeat (first | refine bN_ _ ?_ | refine bd_ ?_ | refine ba_ _ ?_)); refine blk_far ?_ NB254_274.out _; (with_reducible repeat (first | refine bN_ _ ?_ | refine bd_ ?_ | refine ba_ _ ?_)); refine blk_far ?_ NB254_274.out _; (with_reducible repeat (first | refine bN_ _ ?_ | refine bd_ ?_ | refine ba_ _ ?_)); refine blk_far ?_ NB254_274.out _; (with_reducible repeat (first | refine bN_ _ ?_ | refine bd_ ?_ | refine ba_ _ ?_)); exact BK254.out⟩
   have n1_ : Aside0 ((((w82.setCell ⟨gb274, 0, none⟩ (.bool t270)).setCell ⟨gb274, 1, none⟩ (.int .u64 t271)).setCell ⟨gb274, 2, none⟩ (.int .u64 t272)).heap[gb255]? = some (.cells #[.bool false, .int .u64 0, .int .u64 0, .int .i64 0] 43 (0, 0))) := ⟨by (with_reducible repeat (first | refine bN_ _ ?_ | refine bd_ ?_ | refine ba_ _ ?_)); refine blk_far ?_ NB255_274.out _; (with_reducible repeat (first | refine bN_ _ ?_ | refine bd_ ?_ | refine ba_ _ ?_)); refine blk_far ?_ NB255_274.out _; (with_reducible repeat (first | refine bN_ _ ?_ | refine bd_ ?_ | refine ba_ _ ?_)); refine blk_far ?_ NB255_274.out _; (with_reducible repeat (first | refine bN_ _ ?_ | refine bd_ ?_ | refine ba_ _ ?_)); exact BK255.out⟩
   have n2_ : Aside0 ((((w82.setCell ⟨gb274, 0, none⟩ (.bool t270)).setCell ⟨gb274, 1, none⟩ (.int .u64 t271)).setCell ⟨gb274, 2, none⟩ (.int .u64 t272)).heap[gb266]? = some (.cells #[.bool t260, .int .u64 t261, .int .u64 t262, .int .i64 t263] 43 (0, 0))) := ⟨by (with_reducible repeat (first | refine bN_ _ ?_ | refine bd_ ?_ | refine ba_ _ ?_)); refine blk_far ?_ NB266_274.out _; (with_reducible repeat (first | refine bN_ _ ?_ | refine bd_ ?_ | refine ba_ _ ?_)); refine blk_far ?_ NB266_274.out _; (with_reducible repeat (first | refine bN_ _ ?_ | refine bd_ ?_ | refine ba_ _ ?_)); refine blk_far ?_ NB266_274.out _; (with_reducible repeat (first | refine bN_ _ ?_ | refine bd_ ?_ | refine ba_ _ ?_)); exact BK266.out⟩
   have n3_ : Aside0 ((((w82.setCell ⟨gb274, 0, none⟩ (.bool t270)).setCell ⟨gb274, 1, none⟩ (.int .u64 t271)).setCell ⟨gb274, 2, none⟩ (.int .u64 t272)).heap[gb274]? = some (.cells #[.bool t270, .int .u64 t271, .int .u64 t272] 28 (0, 0))) := ⟨by (with_reducible repeat (first | refine bN_ _ ?_ | refine bd_ ?_ | refine ba_ _ ?_)); refine blk_put (cs := #[.bool t270, .int .u64 t271, .int .u64 0]) ?_ 2 _ rfl; (with_reducible repeat (first | refine bN_ _ ?_ | refine bd_ ?_ | refine ba_ _ ?_)); refine blk_put (cs := #[.bool t270, .int .u64 0, .int .u64 0]) ?_ 1 _ rfl; (with_reducible repeat (first | refine bN_ _ ?_ | refine bd_ ?_ | refine ba_ _ ?_)); refine blk_put (cs := #[.bool false, .int .u64 0, .int .u64 0]) ?_ 0 _ rfl; (with_reducible repeat (first | refine bN_ _ ?_ | refine bd_ ?_ | refine ba_ _ ?_)); exact BK274.out⟩
   have n4_ : Aside0 (IsS90 w (((w82.setCell ⟨gb274, 0, none⟩ (.bool t270)).setCell ⟨gb274, 1, none⟩ (.int .u64 t271)).setCell ⟨gb274, 2, none⟩ (.int .u64 t272)) g259 t256 t268 t269) := ⟨is_⟩
   have n5_ : Aside0 (Below w.heap.size w (((w82.setCell ⟨gb274, 0, none⟩ (.bool t270)).setCell ⟨gb274, 1, none⟩ (.int .u64 t271)).setCell ⟨gb274, 2, none⟩ (.int .u64 t272))) := ⟨belI_⟩
   (try clear BK254)
   (try clear BK255)
   (try clear BK266)
   (try clear BK274)
   (try clear HI259)
   (try clear HB)
   generalize (((w82.setCell ⟨gb274, 0, none⟩ (.bool t270)).setCell ⟨gb274, 1, none⟩ (.int .u64 t271)).setCell ⟨gb274, 2, none⟩ (.int .u64 t272)) = w88 at n0_ n1_ n2_ n3_ n4_ n5_ ⊢
   have BK254 := n0_
   have BK255 := n1_
   have BK266 := n2_
   have BK274 := n3_
   have HI259 := n4_
   have HB := n5_
   clear n0_ n1_ n2_ n3_ n4_ n5_
   replace HB := Aside0.mk (below_drew1 HB.out)
   replace BK254 := Aside0.mk (blk_drew BK254.out)
   replace BK255 := Aside0.mk (blk_drew BK255.out)
   replace BK266 := Aside0.mk (blk_drew BK266.out)
   replace BK274 := Aside0.mk (blk_drew BK274.out)
   replace HI259 := Aside0.mk (IsS90.drew HI259.out)
   refine start_ (n := 5) (S := fun w' => w'.cell? ⟨gb266, 0, none⟩ = some (.bool t260) ∧ w'.cell? ⟨gb266, 1, none⟩ = some (.int .u64 t261) ∧ w'.cell? ⟨gb266, 2, none⟩ = some (.int .u64 t262) ∧ w'.cell? ⟨gb266, 3, none⟩ = some (.int .i64 t263)) (ds := []) #[false, false, false, false, false] (by kernel_rfl) rfl rfl ⟨bc_, bc_, bc_, bc_⟩ (fun hHeld => ?_)
   generalize w88.drew = w89 at BK254 BK255 BK266 BK274 HI259 HB hHeld ⊢
   refine pure_ (i := 1) (N := some 52) (v := ?_) (a' := ?_) #[false, true, false, false, false] rfl rfl (by kernel_rfl) (fun _ _ _ h => h) (Or.inl ⟨by rfl, ?_⟩) ?_ ?_
   rotate_left
   ·intro w'
    go_simp
    with_reducible rfl
   rotate_left
   ·simp only [Act.put, la_, lb_, lc_, i64_w, i32_w]
    rfl
   refine take_ (i := 0) (N := some 51) (v := ?_) (a' := ?_) #[true, true, false, false, false] rfl rfl (by kernel_rfl) (fun _ _ _ h => h) (Or.inl ⟨by rfl, ?_⟩) hHeld ?_ ?_
   rotate_left
   ·rintro w' ⟨s0, s1, s2, s3⟩
    go_simp
    with_reducible rfl
   rotate_left
   ·simp only [Act.put, la_, lb_, lc_, i64_w, i32_w]
    rfl
   refine one_ (i := 2) (N := some 53) #[true, true, true, false, false] rfl rfl (by kernel_rfl) (by decide) (fun K hK => ?_)
   refine goes_ Tryd.func83 (by kernel_rfl) rfl #[.pointer (some ⟨g259, 0, none⟩)] (by rfl) rfl rfl mp_ ?_
   with_reducible refine (spec_l5Frac.calls k g259 t256 t268 t269 t281 t282 t283 t284 t285 t286 w _ ?side1 ?side2 A69.out).mono ?_
   (case side1 => exact is_)
   (case side2 => exact belI_)
   rintro e w90 ⟨rfl, hi, hb, hk⟩
   refine ⟨_, rfl, ?_⟩
   replace HB := Aside0.mk (hb)
   replace BK254 := Aside0.mk (KeepBut.blk hk (g' := gb254) (o := .cells #[.bool false, .int .u64 0, .int .u64 0, .int .i64 0] 43 (0, 0)) bk_ NB254_259.out (by simp))
   replace BK255 := Aside0.mk (KeepBut.blk hk (g' := gb255) (o := .cells #[.bool false, .int .u64 0, .int .u64 0, .int .i64 0] 43 (0, 0)) bk_ NB255_259.out (by simp))
   replace BK266 := Aside0.mk (KeepBut.blk hk (g' := gb266) (o := .cells #[.bool t260, .int .u64 t261, .int .u64 t262, .int .i64 t263] 43 (0, 0)) bk_ NB266_259.out (by simp))
   replace BK274 := Aside0.mk (KeepBut.blk hk (g' := gb274) (o := .cells #[.bool t270, .int .u64 t271, .int .u64 t272] 28 (0, 0)) bk_ NB274_259.out (by simp))
   replace HI259 := Aside0.mk (hi)
   (try clear hb)
   (try clear hb2)
   (try clear hk)
   (try clear hi)
   refine hK.out _ _ ⟨bc_, bc_, bc_, bc_⟩ (fun hHeld => ?_)
   clear hK K
   refine norm_ (a' := ?_) ?_ ?_
   rotate_left
   ·show Act.put _ (some 53) _ = _
    simp only [Act.put, la_, lb_, lc_, i64_w, i32_w]
    rfl
   refine one_ (i := 3) (N := none) #[true, true, true, true, false] rfl rfl (by kernel_rfl) (by decide) (fun K hK => ?_)
   have hs91 : w90.cell? ⟨gb254, 0, none⟩ = some (.bool false) := (blk_cell BK254.out 0).trans rfl
   have hfs91 := blk_frozen BK254.out 0
   have hns91_1 := NB255_254.out
   have hns91_2 := NB266_254.out
   have hns91_3 := NB274_254.out
   have hms91_1 := NB254_255.out
   have hms91_2 := NB254_266.out
   have hms91_3 := NB254_274.out
   have hs92 : w90.cell? ⟨gb254, 1, none⟩ = some (.int .u64 0) := (blk_cell BK254.out 1).trans rfl
   have hfs92 := blk_frozen BK254.out 1
   have hns92_1 := NB255_254.out
   have hns92_2 := NB266_254.out
   have hns92_3 := NB274_254.out
   have hms92_1 := NB254_255.out
   have hms92_2 := NB254_266.out
   have hms92_3 := NB254_274.out
   have hs93 : w90.cell? ⟨gb254, 2, none⟩ = some (.int .u64 0) := (blk_cell BK254.out 2).trans rfl
   have hfs93 := blk_frozen BK254.out 2
   have hns93_1 := NB255_254.out
   have hns93_2 := NB266_254.out
   have hns93_3 := NB274_254.out
   have hms93_1 := NB254_255.out
   have hms93_2 := NB254_266.out
   have hms93_3 := NB254_274.out
   have hs94 : w90.cell? ⟨gb254, 3, none⟩ = some (.int .i64 0) := (blk_cell BK254.out 3).trans rfl
   have hfs94 := blk_frozen BK254.out 3
   have hns94_1 := NB255_254.out
   have hns94_2 := NB266_254.out
   have hns94_3 := NB274_254.out
   have hms94_1 := NB254_255.out
   have hms94_2 := NB254_266.out
   have hms94_3 := NB254_274.out
   refine skip_ (w1 := ?_) ?_ ?_ ?_ ?_
   rotate_left
   ·rfl
   ·rfl
   ·go_simp
    rfl
   refine hK.out _ _ ⟨(cfar_ hHeld.1), (cfar_ hHeld.2.1), (cfar_ hHeld.2.2.1), (cfar_ hHeld.2.2.2)⟩ (fun hHeld => ?_)
   clear hK K
   refine one_ (i := 4) (N := none) #[true, true, true, true, true] rfl rfl (by kernel_rfl) (by decide) (fun K hK => ?_)
   have hs95 : w90.cell? ⟨gb255, 0, none⟩ = some (.bool false) := (blk_cell BK255.out 0).trans rfl
   have hfs95 := blk_frozen BK255.out 0
   have hns95_0 := NB254_255.out
   have hns95_2 := NB266_255.out
   have hns95_3 := NB274_255.out
   have hms95_0 := NB255_254.out
   have hms95_2 := NB255_266.out
   have hms95_3 := NB255_274.out
   have hs96 : w90.cell? ⟨gb255, 1, none⟩ = some (.int .u64 0) := (blk_cell BK255.out 1).trans rfl
   have hfs96 := blk_frozen BK255.out 1
   have hns96_0 := NB254_255.out
   have hns96_2 := NB266_255.out
   have hns96_3 := NB274_255.out
   have hms96_0 := NB255_254.out
   have hms96_2 := NB255_266.out
   have hms96_3 := NB255_274.out
   have hs97 : w90.cell? ⟨gb255, 2, none⟩ = some (.int .u64 0) := (blk_cell BK255.out 2).trans rfl
   have hfs97 := blk_frozen BK255.out 2
   have hns97_0 := NB254_255.out
   have hns97_2 := NB266_255.out
   have hns97_3 := NB274_255.out
   have hms97_0 := NB255_254.out
   have hms97_2 := NB255_266.out
   have hms97_3 := NB255_274.out
   have hs98 : w90.cell? ⟨gb255, 3, none⟩ = some (.int .i64 0) := (blk_cell BK255.out 3).trans rfl
   have hfs98 := blk_frozen BK255.out 3
   have hns98_0 := NB254_255.out
   have hns98_2 := NB266_255.out
   have hns98_3 := NB274_255.out
   have hms98_0 := NB255_254.out
   have hms98_2 := NB255_266.out
   have hms98_3 := NB255_274.out
   refine skip_ (w1 := ?_) ?_ ?_ ?_ ?_
   rotate_left
   ·rfl
   ·rfl
   ·go_simp
    rfl
   refine hK.out _ _ ⟨(cfar_ hHeld.1), (cfar_ hHeld.2.1), (cfar_ hHeld.2.2.1), (cfar_ hHeld.2.2.2)⟩ (fun hHeld => ?_)
   clear hK K
   refine done_ (by kernel_rfl) ?_
   try go_wp2
   refine bodyPost_ret (results_cc rfl _ _ gb254 gb255 43 43 #[.bool t260, .int .u64 t261, .int .u64 t262, .int .i64 t263] #[.bool t281, .int .u64 t282, .int .u64 t283, .int .i64 t284] (0, 0) (0, 0) _ _ rfl (pu_ #[.bool t260, .int .u64 t261, .int .u64 t262, .int .i64 0] 3 (h := (pu_ #[.bool t260, .int .u64 t261, .int .u64 0, .int .i64 0] 2 (h := (pu_ #[.bool t260, .int .u64 0, .int .u64 0, .int .i64 0] 1 (h := (pu_ #[.bool false, .int .u64 0, .int .u64 0, .int .i64 0] 0 (h := bk_)))))))) Tryd.underlying43 rfl (by kernel_rfl) rfl (pu_ #[.bool t281, .int .u64 t282, .int .u64 t283, .int .i64 0] 3 (h := (pu_ #[.bool t281, .int .u64 t282, .int .u64 0, .int .i64 0] 2 (h := (pu_ #[.bool t281, .int .u64 0, .int .u64 0, .int .i64 0] 1 (h := (pu_ #[.bool false, .int .u64 0, .int .u64 0, .int .i64 0] 0 (h := bk_)))))))) Tryd.underlying43 rfl (by kernel_rfl)) rfl ?_
   exact ⟨rf_, belI_⟩
 ·rw [if_neg c5] at H
  have c5b0 : (t267 == 0) = false := beq_eq_false_iff_ne.mpr c5
  have c5b1 : (t267 != 0) = true := bne_iff_ne.mpr c5
  by_cases c99 : t267 = 1
  ·rw [if_pos c99] at H
   have c99b0 : (t267 == 1) = true := beq_iff_eq.mpr c99
   have c99b1 : (t267 != 1) = false := bne_eq_false_iff_eq.mpr c99
   clear c99
   replace H := Option.bind_eq_some_iff.mp H
   obtain ⟨⟨t287, t288, t289⟩, A1000, H⟩ := H
   replace H : ((spec_AddWide.f k t260 t261 t262 t287 t288 t289).bind fun bt290 => (if bt290.2.2.2 = true then (some (t260, t261, t262, t263, bt290.1, bt290.2.1, bt290.2.2.1, t263)) else ((spec_l5Frac.f k t256 t268 t269).bind fun bt295 => (some (t260, t261, t262, t263, bt295.1, bt295.2.1, bt295.2.2.1, bt295.2.2.2.1))))) = some (r1, r2, r3, r4, r5, r6, r7, r8) := H
   have A100 := Aside0.mk A1000
   clear A1000
   replace H := Option.bind_eq_some_iff.mp H
   obtain ⟨⟨t290, t291, t292, t293⟩, A1010, H⟩ := H
   replace H : (if t293 = true then (some (t260, t261, t262, t263, t290, t291, t292, t263)) else ((spec_l5Frac.f k t256 t268 t269).bind fun bt295 => (some (t260, t261, t262, t263, bt295.1, bt295.2.1, bt295.2.2.1, bt295.2.2.2.1)))) = some (r1, r2, r3, r4, r5, r6, r7, r8) := H
   have A101 := Aside0.mk A1010
   clear A1010
   by_cases c102 : t293 = true
   ·subst c102
    have H1 : (some (t260, t261, t262, t263, t290, t291, t292, t263)) = some (r1, r2, r3, r4, r5, r6, r7, r8) := by rw [if_pos rfl] at H; exact H
    clear H
    have H := H1
    clear H1
    simp only [Option.some.injEq, Prod.mk.injEq] at H
    obtain ⟨rfl, rfl, rfl, rfl, rfl, rfl, rfl, rfl⟩ := H
    go_enter Tryd.func67, Tryd.ntmps67
    try go_wp2_with (first | ((with_reducible refine gate_dst (N := 2) rfl ?_); refine box_event ?hg (N := 2) ?hd (cs := #[.bool false, .int .u64 0, .int .u64 0, .int .i64 0]) (t := 43) ?hr ?_; (case hd => rfl); (case hg => rfl); (case hr => first | (go_simp; done) | (go_simp; rfl)); intro gb254 hg w103 hbox hb; have BK254 := Aside0.mk (hbox); have GW254 := bs_ (w := w) hg; have GE254 := bs_ (w := w) hg; replace HB := Aside0.mk (below_step bel_ hb); clear hb hbox hg) | ((with_reducible refine gate_dst (N := 3) rfl ?_); refine box_event ?hg (N := 3) ?hd (cs := #[.bool false, .int .u64 0, .int .u64 0, .int .i64 0]) (t := 43) ?hr ?_; (case hd => rfl); (case hg => rfl); (case hr => first | (go_simp; done) | (go_simp; rfl)); intro gb255 hg w104 hbox hb; have BK255 := Aside0.mk (hbox); have GW255 := bs_ (w := w) hg; have GE255 := bs_ (w := w) hg; have NB254_255 := nlt_ (g := gb254) hg; have NB255_254 := ngt_ (g := gb254) hg; replace HB := Aside0.mk (below_step bel_ hb); replace BK254 := bb_ (g := gb254) hb; clear hb hbox hg) | ((with_reducible refine gate_callee (f := 44) rfl ?_); refine goesL_ (some 11) rfl rfl Tryd.func44 (by kernel_rfl) rfl #[.slice A0 l0.length c0] rfl mp_ ?_; (with_reducible refine (spec_l1New.calls k _ _ l0 t256 t257 t258 w _ ?side1 ?side2 ?side3 A2.out).mono ?_); (case side1 => exact bel_); (case side2 => exact HR0.out); (case side3 => exact HC0.out); rintro e w105 ⟨g259, rfl, hi, hb, hb2⟩; refine ⟨_, rfl, ?_⟩; have HI259 := Aside0.mk (hi); have NB259_254 := Aside0.mk (IsS90.ne_blk hi (blk_below (g := gb254) (o := .cells #[.bool false, .int .u64 0, .int .u64 0, .int .i64 0] 43 (0, 0)) bk_ hb2) (by decide)); have NB254_259 := Aside0.mk (Ne.symm (IsS90.ne_blk hi (blk_below (g := gb254) (o := .cells #[.bool false, .int .u64 0, .int .u64 0, .int .i64 0] 43 (0, 0)) bk_ hb2) (by decide))); have NB259_255 := Aside0.mk (IsS90.ne_blk hi (blk_below (g := gb255) (o := .cells #[.bool false, .int .u64 0, .int .u64 0, .int .i64 0] 43 (0, 0)) bk_ hb2) (by decide)); have NB255_259 := Aside0.mk (Ne.symm (IsS90.ne_blk hi (blk_below (g := gb255) (o := .cells #[.bool false, .int .u64 0, .int .u64 0, .int .i64 0] 43 (0, 0)) bk_ hb2) (by decide))); replace HB := Aside0.mk (hb); replace BK254 := Aside0.mk (blk_below (g := gb254) (o := .cells #[.bool false, .int .u64 0, .int .u64 0, .int .i64 0] 43 (0, 0)) bk_ hb2); replace BK255 := Aside0.mk (blk_below (g := gb255) (o := .cells #[.bool false, .int .u64 0, .int .u64 0, .int .i64 0] 43 (0, 0)) bk_ hb2); (try clear hb); (try clear hb2); (try clear hk); (try clear hi)) | ((with_reducible refine gate_callee (f := 83) rfl ?_); refine goesL_ (some 13) rfl rfl Tryd.func83 (by kernel_rfl) rfl #[.pointer (some ⟨g259, 0, none⟩)] rfl mp_ ?_; (with_reducible refine (spec_l5Frac.calls k g259 t256 t257 t258 t260 t261 t262 t263 t264 t265 w _ ?side1 ?side2 A3.out).mono ?_); (case side1 => exact is_); (case side2 => exact belI_); rintro e w106 ⟨rfl, hi, hb, hk⟩; refine ⟨_, rfl, ?_⟩; replace HB := Aside0.mk (hb); replace BK254 := Aside0.mk (KeepBut.blk hk (g' := gb254) (o := .cells #[.bool false, .int .u64 0, .int .u64 0, .int .i64 0] 43 (0, 0)) bk_ NB254_259.out (by simp)); replace BK255 := Aside0.mk (KeepBut.blk hk (g' := gb255) (o := .cells #[.bool false, .int .u64 0, .int .u64 0, .int .i64 0] 43 (0, 0)) bk_ NB255_259.out (by simp)); replace HI259 := Aside0.mk (hi); (try clear hb); (try clear hb2); (try clear hk); (try clear hi)) | ((with_reducible refine gate_dst (N := 5) rfl ?_); refine box_event ?hg (N := 5) ?hd (cs := #[.bool false, .int .u64 0, .int .u64 0, .int .i64 0]) (t := 43) ?hr ?_; (case hd => rfl); (case hg => rfl); (case hr => first | (go_simp; done) | (go_simp; rfl)); intro gb266 hg w107 hbox hb; have BK266 := Aside0.mk (hbox); have GW266 := Aside0.mk ((by rw [hg]; exact (below_size (belI_)) : w.heap.size ≤ gb266)); have GE266 := Aside0.mk ((by rw [hg]; exact (below_size (belI_)) : w.heap.size ≤ gb266)); have NB254_266 := nlt_ (g := gb254) hg; have NB266_254 := ngt_ (g := gb254) hg; have NB255_266 := nlt_ (g := gb255) hg; have NB266_255 := ngt_ (g := gb255) hg; have NB259_266 := Aside0.mk ((by rw [hg]; exact Nat.ne_of_lt (IsS90.lt (show IsS90 w _ g259 t256 t264 t265 from is_)) : g259 ≠ gb266)); have NB266_259 := Aside0.mk ((by rw [hg]; exact Nat.ne_of_gt (IsS90.lt (show IsS90 w _ g259 t256 t264 t265 from is_)) : gb266 ≠ g259)); replace HB := Aside0.mk (below_step (belI_) hb); replace BK254 := bb_ (g := gb254) hb; replace BK255 := bb_ (g := gb255) hb; replace HI259 := Aside0.mk (IsS90.below (is_) hb); clear hb hbox hg; have hnb108 := NB266_254.out; have hnc108 := NB254_266.out; have hnb109 := NB266_255.out; have hnc109 := NB255_266.out; have hnb110 := NB266_259.out; have hnc110 := NB259_266.out; obtain ⟨hcz111_0, hcz111_1, hcz111_2, hcz111_3, hfz111_0, hfz111_1, hfz111_2, hfz111_3⟩ := cf4_ (w := w107) BK266.out) | ((with_reducible refine gate_callee (f := 52) rfl ?_); refine goesL_ (some 15) rfl rfl Tryd.func52 (by kernel_rfl) rfl #[.pointer (some ⟨g259, 0, none⟩), .int .i64 4] rfl mp_ ?_; (with_reducible refine (spec_l1Below.calls g259 t256 t264 t265 4 t267 t268 t269 w _ ?side1 ?side2 A4.out).mono ?_); (case side1 => exact is_); (case side2 => exact belI_); rintro e w112 ⟨rfl, hi, hb, hk⟩; refine ⟨_, rfl, ?_⟩; replace HB := Aside0.mk (hb); replace BK254 := Aside0.mk (KeepBut.blk hk (g' := gb254) (o := .cells #[.bool false, .int .u64 0, .int .u64 0, .int .i64 0] 43 (0, 0)) bk_ NB254_259.out (by simp)); replace BK255 := Aside0.mk (KeepBut.blk hk (g' := gb255) (o := .cells #[.bool false, .int .u64 0, .int .u64 0, .int .i64 0] 43 (0, 0)) bk_ NB255_259.out (by simp)); replace BK266 := Aside0.mk (KeepBut.blk hk (g' := gb266) (o := .cells #[.bool t260, .int .u64 t261, .int .u64 t262, .int .i64 t263] 43 (0, 0)) (pu_ #[.bool t260, .int .u64 t261, .int .u64 t262, .int .i64 0] 3 (h := (pu_ #[.bool t260, .int .u64 t261, .int .u64 0, .int .i64 0] 2 (h := (pu_ #[.bool t260, .int .u64 0, .int .u64 0, .int .i64 0] 1 (h := (pu_ #[.bool false, .int .u64 0, .int .u64 0, .int .i64 0] 0 (h := bk_)))))))) NB266_259.out (by simp)); replace HI259 := Aside0.mk (hi); (try clear hb); (try clear hb2); (try clear hk); (try clear hi)))
    replace HB := Aside0.mk (below_drew1 HB.out)
    replace BK254 := Aside0.mk (blk_drew BK254.out)
    replace BK255 := Aside0.mk (blk_drew BK255.out)
    replace BK266 := Aside0.mk (blk_drew BK266.out)
    replace HI259 := Aside0.mk (IsS90.drew HI259.out)
    refine start_ (n := 10) (S := fun w' => w'.cell? ⟨gb266, 0, none⟩ = some (.bool t260) ∧ w'.cell? ⟨gb266, 1, none⟩ = some (.int .u64 t261) ∧ w'.cell? ⟨gb266, 2, none⟩ = some (.int .u64 t262) ∧ w'.cell? ⟨gb266, 3, none⟩ = some (.int .i64 t263)) (ds := []) #[false, false, false, false, false, false, false, false, false, false] (by kernel_rfl) rfl rfl ⟨bc_, bc_, bc_, bc_⟩ (fun hHeld => ?_); refine with_tabW spec_l5Two.tab9 spec_l5Two.bits9 (fun HT_ HW_ => ?_)
    generalize w112.drew = w113 at BK254 BK255 BK266 HI259 HB hHeld ⊢
    refine pure_ (i := 0) (N := some 39) (v := ?_) (a' := ?_) #[true, false, false, false, false, false, false, false, false, false] rfl rfl (any_of HT_.out (by kernel_rfl)) (fun _ _ _ h => h) (Or.inl ⟨by rfl, ?_⟩) ?_ ?_
    rotate_left
    ·intro w'
     go_simp
     with_reducible rfl
    rotate_left
    ·simp only [Act.put, la_, lb_, lc_, i64_w, i32_w]
     rfl
    refine take_ (i := 1) (N := some 40) (v := ?_) (a' := ?_) #[true, true, false, false, false, false, false, false, false, false] rfl rfl (take_ofW HT_.out HW_.out (by kernel_rfl)) (fun _ _ _ h => h) (Or.inl ⟨by rfl, ?_⟩) hHeld ?_ ?_
    rotate_left
    ·rintro w' ⟨s0, s1, s2, s3⟩
     go_simp
     with_reducible rfl
    rotate_left
    ·simp only [Act.put, la_, lb_, lc_, i64_w, i32_w]
     rfl
    refine join_ (σ := Nat) 2 #[true, true, true, true, true, true, true, true, false, false] (fun s_ => [(41, .agg #[.bool t287, .int .u64 t288, .int .u64 t289]), (42, .tuple #[.agg #[.bool t290, .int .u64 t291, .int .u64 t292], .bool true]), (8, .pointer (some ⟨s_, 0, none⟩)), (38, .tuple #[.agg #[.bool t290, .int .u64 t291, .int .u64 t292], .bool true]), (43, .agg #[.bool t290, .int .u64 t291, .int .u64 t292]), (44, .bool true)]) (fun s_ w' => (w'.cell? ⟨gb266, 0, none⟩ = some (.bool t260) ∧ w'.cell? ⟨gb266, 1, none⟩ = some (.int .u64 t261) ∧ w'.cell? ⟨gb266, 2, none⟩ = some (.int .u64 t262) ∧ w'.cell? ⟨gb266, 3, none⟩ = some (.int .i64 t263)) ∧ (w'.heap[gb254]? = some (.cells #[.bool false, .int .u64 0, .int .u64 0, .int .i64 0] 43 (0, 0))) ∧ (w'.heap[gb255]? = some (.cells #[.bool false, .int .u64 0, .int .u64 0, .int .i64 0] 43 (0, 0))) ∧ (w'.heap[gb266]? = some (.cells #[.bool t260, .int .u64 t261, .int .u64 t262, .int .i64 t263] 43 (0, 0))) ∧ (w'.heap[s_]? = some (.cells #[.bool false, .int .u64 0, .int .u64 0] 28 (0, 0))) ∧ (w.heap.size ≤ s_) ∧ (w.heap.size ≤ s_) ∧ (g259 ≠ s_) ∧ (s_ ≠ g259) ∧ (gb254 ≠ s_) ∧ (s_ ≠ gb254) ∧ (gb255 ≠ s_) ∧ (s_ ≠ gb255) ∧ (gb266 ≠ s_) ∧ (s_ ≠ gb266) ∧ (IsS90 w w' g259 t256 t268 t269) ∧ (Below w.heap.size w w')) ?_ ?_
    rotate_left
    ·intro hCont
     refine two_ (i := 2) (j := 7) (Ni := some 41) (Nj := some 8) #[true, true, true, false, false, false, false, false, false, false] #[true, true, false, false, false, false, false, true, false, false] rfl rfl rfl rfl (two_of HT_.out (by kernel_rfl)) (by decide) (by decide) (fun K hK => ?_) (fun K hK => ?_)
     ·skip
      refine goes_ Tryd.func60 (by kernel_rfl) rfl #[.int .i64 1] (by rfl) rfl rfl mp_ ?_
      with_reducible refine (spec_WideOf.calls 1 t287 t288 t289 _ A100.out).mono ?_
      rintro e w114 ⟨rfl, hb⟩
      refine ⟨_, rfl, ?_⟩
      replace HB := Aside0.mk (below_step (belI_) hb)
      replace BK254 := bb_ (g := gb254) hb
      replace BK255 := bb_ (g := gb255) hb
      replace HI259 := Aside0.mk (IsS90.below (is_) hb)
      replace BK266 := bb_ (g := gb266) hb
      (try clear hb)
      (try clear hb2)
      (try clear hk)
      (try clear hi)
      refine hK.out _ _ ⟨bc_, bc_, bc_, bc_⟩ (fun hHeld => ?_)
      clear hK K
      refine norm_ (a' := ?_) ?_ ?_
      rotate_left
      ·show Act.put _ (some 41) _ = _
       simp only [Act.put, la_, lb_, lc_, i64_w, i32_w]
       rfl
      refine two_ (i := 3) (j := 7) (Ni := some 42) (Nj := some 8) #[true, true, true, true, false, false, false, false, false, false] #[true, true, true, false, false, false, false, true, false, false] rfl rfl rfl rfl (two_of HT_.out (by kernel_rfl)) (by decide) (by decide) (fun K hK => ?_) (fun K hK => ?_)
      ·skip
       refine goes_ Tryd.func59 (by kernel_rfl) rfl #[.agg #[.bool t260, .int .u64 t261, .int .u64 t262], .agg #[.bool t287, .int .u64 t288, .int .u64 t289]] (by rfl) rfl rfl mp_ ?_
       with_reducible refine (spec_AddWide.calls k t260 t261 t262 t287 t288 t289 t290 t291 t292 true _ A101.out).mono ?_
       rintro e w115 ⟨rfl, hb⟩
       refine ⟨_, rfl, ?_⟩
       replace HB := Aside0.mk (below_step (belI_) hb)
       replace BK254 := bb_ (g := gb254) hb
       replace BK255 := bb_ (g := gb255) hb
       replace HI259 := Aside0.mk (IsS90.below (is_) hb)
       replace BK266 := bb_ (g := gb266) hb
       (try clear hb)
       (try clear hb2)
       (try clear hk)
       (try clear hi)
       refine hK.out _ _ ⟨bc_, bc_, bc_, bc_⟩ (fun hHeld => ?_)
       clear hK K
       refine norm_ (a' := ?_) ?_ ?_
       rotate_left
       ·show Act.put _ (some 42) _ = _
        simp only [Act.put, la_, lb_, lc_, i64_w, i32_w]
        rfl
       refine pure_ (i := 4) (N := some 38) (v := ?_) (a' := ?_) #[true, true, true, true, true, false, false, false, false, false] rfl rfl (any_of HT_.out (by kernel_rfl)) (fun _ _ _ h => h) (Or.inl ⟨by rfl, ?_⟩) ?_ ?_
       rotate_left
       ·intro w'
        go_simp
        with_reducible rfl
       rotate_left
       ·simp only [Act.put, la_, lb_, lc_, i64_w, i32_w]
        rfl
       refine pure_ (i := 5) (N := some 43) (v := ?_) (a' := ?_) #[true, true, true, true, true, true, false, false, false, false] rfl rfl (any_of HT_.out (by kernel_rfl)) (fun _ _ _ h => h) (Or.inl ⟨by rfl, ?_⟩) ?_ ?_
       rotate_left
       ·intro w'
        go_simp
        with_reducible rfl
       rotate_left
       ·simp only [Act.put, la_, lb_, lc_, i64_w, i32_w]
        rfl
       refine pure_ (i := 6) (N := some 44) (v := ?_) (a' := ?_) #[true, true, true, true, true, true, true, false, false, false] rfl rfl (any_of HT_.out (by kernel_rfl)) (fun _ _ _ h => h) (Or.inl ⟨by rfl, ?_⟩) ?_ ?_
       rotate_left
       ·intro w'
        go_simp
        with_reducible rfl
       rotate_left
       ·simp only [Act.put, la_, lb_, lc_, i64_w, i32_w]
        rfl
       refine one_ (i := 7) (N := some 8) #[true, true, true, true, true, true, true, true, false, false] rfl rfl (one_of HT_.out (by kernel_rfl)) (by decide) (fun K hK => ?_)
       refine box_step ?hg (N := 8) ?hd (cs := #[.bool false, .int .u64 0, .int .u64 0]) (t := 28) ?hr ?_; (case hd => rfl); (case hg => rfl); (case hr => first | (go_simp; done) | (go_simp; rfl))
       intro gb294 hg w116 hbox hb
       have BK294 := Aside0.mk (hbox)
       have GW294 := Aside0.mk ((by rw [hg]; exact (below_size (belI_)) : w.heap.size ≤ gb294))
       have GE294 := Aside0.mk ((by rw [hg]; exact (below_size (belI_)) : w.heap.size ≤ gb294))
       have NB254_294 := nlt_ (g := gb254) hg
       have NB294_254 := ngt_ (g := gb254) hg
       have NB255_294 := nlt_ (g := gb255) hg
       have NB294_255 := ngt_ (g := gb255) hg
       have NB266_294 := nlt_ (g := gb266) hg
       have NB294_266 := ngt_ (g := gb266) hg
       have NB259_294 := Aside0.mk ((by rw [hg]; exact Nat.ne_of_lt (IsS90.lt (show IsS90 w _ g259 t256 t268 t269 from is_)) : g259 ≠ gb294))
       have NB294_259 := Aside0.mk ((by rw [hg]; exact Nat.ne_of_gt (IsS90.lt (show IsS90 w _ g259 t256 t268 t269 from is_)) : gb294 ≠ g259))
       replace HB := Aside0.mk (below_step (belI_) hb)
       replace BK254 := bb_ (g := gb254) hb
       replace BK255 := bb_ (g := gb255) hb
       replace HI259 := Aside0.mk (IsS90.below (is_) hb)
       replace BK266 := bb_ (g := gb266) hb
       clear hb hbox hg
       refine hK.out _ _ ⟨bc_, bc_, bc_, bc_⟩ (fun hHeld => ?_)
       clear hK K
       refine norm_ (a' := ?_) ?_ ?_
       rotate_left
       ·show Act.put _ (some 8) _ = _
        simp only [Act.put, la_, lb_, lc_, i64_w, i32_w]
        rfl
       exact norm_ (by simp only [putAll, Act.put, la_, lb_, lc_]) (hCont (gb294) _ ⟨hHeld, bk_, bk_, bk_, bk_, GW294.out, GE294.out, NB259_294.out, NB294_259.out, NB254_294.out, NB294_254.out, NB255_294.out, NB294_255.out, NB266_294.out, NB294_266.out, (is_), (belI_)⟩)
      ·skip
       refine box_step ?hg (N := 8) ?hd (cs := #[.bool false, .int .u64 0, .int .u64 0]) (t := 28) ?hr ?_; (case hd => rfl); (case hg => rfl); (case hr => first | (go_simp; done) | (go_simp; rfl))
       intro gb294 hg w115 hbox hb
       have BK294 := Aside0.mk (hbox)
       have GW294 := Aside0.mk ((by rw [hg]; exact (below_size (belI_)) : w.heap.size ≤ gb294))
       have GE294 := Aside0.mk ((by rw [hg]; exact (below_size (belI_)) : w.heap.size ≤ gb294))
       have NB254_294 := nlt_ (g := gb254) hg
       have NB294_254 := ngt_ (g := gb254) hg
       have NB255_294 := nlt_ (g := gb255) hg
       have NB294_255 := ngt_ (g := gb255) hg
       have NB266_294 := nlt_ (g := gb266) hg
       have NB294_266 := ngt_ (g := gb266) hg
       have NB259_294 := Aside0.mk ((by rw [hg]; exact Nat.ne_of_lt (IsS90.lt (show IsS90 w _ g259 t256 t268 t269 from is_)) : g259 ≠ gb294))
       have NB294_259 := Aside0.mk ((by rw [hg]; exact Nat.ne_of_gt (IsS90.lt (show IsS90 w _ g259 t256 t268 t269 from is_)) : gb294 ≠ g259))
       replace HB := Aside0.mk (below_step (belI_) hb)
       replace BK254 := bb_ (g := gb254) hb
       replace BK255 := bb_ (g := gb255) hb
       replace HI259 := Aside0.mk (IsS90.below (is_) hb)
       replace BK266 := bb_ (g := gb266) hb
       clear hb hbox hg
       refine hK.out _ _ ⟨bc_, bc_, bc_, bc_⟩ (fun hHeld => ?_)
       clear hK K
       refine norm_ (a' := ?_) ?_ ?_
       rotate_left
       ·show Act.put _ (some 8) _ = _
        simp only [Act.put, la_, lb_, lc_, i64_w, i32_w]
        rfl
       refine one_ (i := 3) (N := some 42) #[true, true, true, true, false, false, false, true, false, false] rfl rfl (one_of HT_.out (by kernel_rfl)) (by decide) (fun K hK => ?_)
       refine goes_ Tryd.func59 (by kernel_rfl) rfl #[.agg #[.bool t260, .int .u64 t261, .int .u64 t262], .agg #[.bool t287, .int .u64 t288, .int .u64 t289]] (by rfl) rfl rfl mp_ ?_
       with_reducible refine (spec_AddWide.calls k t260 t261 t262 t287 t288 t289 t290 t291 t292 true _ A101.out).mono ?_
       rintro e w116 ⟨rfl, hb⟩
       refine ⟨_, rfl, ?_⟩
       replace HB := Aside0.mk (below_step (belI_) hb)
       replace BK254 := bb_ (g := gb254) hb
       replace BK255 := bb_ (g := gb255) hb
       replace HI259 := Aside0.mk (IsS90.below (is_) hb)
       replace BK266 := bb_ (g := gb266) hb
       replace BK294 := bb_ (g := gb294) hb
       (try clear hb)
       (try clear hb2)
       (try clear hk)
       (try clear hi)
       refine hK.out _ _ ⟨bc_, bc_, bc_, bc_⟩ (fun hHeld => ?_)
       clear hK K
       refine norm_ (a' := ?_) ?_ ?_
       rotate_left
       ·show Act.put _ (some 42) _ = _
        simp only [Act.put, la_, lb_, lc_, i64_w, i32_w]
        rfl
       refine pure_ (i := 4) (N := some 38) (v := ?_) (a' := ?_) #[true, true, true, true, true, false, false, true, false, false] rfl rfl (any_of HT_.out (by kernel_rfl)) (fun _ _ _ h => h) (Or.inl ⟨by rfl, ?_⟩) ?_ ?_
       rotate_left
       ·intro w'
        go_simp
        with_reducible rfl
       rotate_left
       ·simp only [Act.put, la_, lb_, lc_, i64_w, i32_w]
        rfl
       refine pure_ (i := 5) (N := some 43) (v := ?_) (a' := ?_) #[true, true, true, true, true, true, false, true, false, false] rfl rfl (any_of HT_.out (by kernel_rfl)) (fun _ _ _ h => h) (Or.inl ⟨by rfl, ?_⟩) ?_ ?_
       rotate_left
       ·intro w'
        go_simp
        with_reducible rfl
       rotate_left
       ·simp only [Act.put, la_, lb_, lc_, i64_w, i32_w]
        rfl
       refine pure_ (i := 6) (N := some 44) (v := ?_) (a' := ?_) #[true, true, true, true, true, true, true, true, false, false] rfl rfl (any_of HT_.out (by kernel_rfl)) (fun _ _ _ h => h) (Or.inl ⟨by rfl, ?_⟩) ?_ ?_
       rotate_left
       ·intro w'
        go_simp
        with_reducible rfl
       rotate_left
       ·simp only [Act.put, la_, lb_, lc_, i64_w, i32_w]
        rfl
       exact norm_ (by simp only [putAll, Act.put, la_, lb_, lc_]) (hCont (gb294) _ ⟨hHeld, bk_, bk_, bk_, bk_, GW294.out, GE294.out, NB259_294.out, NB294_259.out, NB254_294.out, NB294_254.out, NB255_294.out, NB294_255.out, NB266_294.out, NB294_266.out, (is_), (belI_)⟩)
     ·skip
      refine box_step ?hg (N := 8) ?hd (cs := #[.bool false, .int .u64 0, .int .u64 0]) (t := 28) ?hr ?_; (case hd => rfl); (case hg => rfl); (case hr => first | (go_simp; done) | (go_simp; rfl))
      intro gb294 hg w114 hbox hb
      have BK294 := Aside0.mk (hbox)
      have GW294 := Aside0.mk ((by rw [hg]; exact (below_size (belI_)) : w.heap.size ≤ gb294))
      have GE294 := Aside0.mk ((by rw [hg]; exact (below_size (belI_)) : w.heap.size ≤ gb294))
      have NB254_294 := nlt_ (g := gb254) hg
      have NB294_254 := ngt_ (g := gb254) hg
      have NB255_294 := nlt_ (g := gb255) hg
      have NB294_255 := ngt_ (g := gb255) hg
      have NB266_294 := nlt_ (g := gb266) hg
      have NB294_266 := ngt_ (g := gb266) hg
      have NB259_294 := Aside0.mk ((by rw [hg]; exact Nat.ne_of_lt (IsS90.lt (show IsS90 w _ g259 t256 t268 t269 from is_)) : g259 ≠ gb294))
      have NB294_259 := Aside0.mk ((by rw [hg]; exact Nat.ne_of_gt (IsS90.lt (show IsS90 w _ g259 t256 t268 t269 from is_)) : gb294 ≠ g259))
      replace HB := Aside0.mk (below_step (belI_) hb)
      replace BK254 := bb_ (g := gb254) hb
      replace BK255 := bb_ (g := gb255) hb
      replace HI259 := Aside0.mk (IsS90.below (is_) hb)
      replace BK266 := bb_ (g := gb266) hb
      clear hb hbox hg
      refine hK.out _ _ ⟨bc_, bc_, bc_, bc_⟩ (fun hHeld => ?_)
      clear hK K
      refine norm_ (a' := ?_) ?_ ?_
      rotate_left
      ·show Act.put _ (some 8) _ = _
       simp only [Act.put, la_, lb_, lc_, i64_w, i32_w]
       rfl
      refine one_ (i := 2) (N := some 41) #[true, true, true, false, false, false, false, true, false, false] rfl rfl (one_of HT_.out (by kernel_rfl)) (by decide) (fun K hK => ?_)
      refine goes_ Tryd.func60 (by kernel_rfl) rfl #[.int .i64 1] (by rfl) rfl rfl mp_ ?_
      with_reducible refine (spec_WideOf.calls 1 t287 t288 t289 _ A100.out).mono ?_
      rintro e w115 ⟨rfl, hb⟩
      refine ⟨_, rfl, ?_⟩
      replace HB := Aside0.mk (below_step (belI_) hb)
      replace BK254 := bb_ (g := gb254) hb
      replace BK255 := bb_ (g := gb255) hb
      replace HI259 := Aside0.mk (IsS90.below (is_) hb)
      replace BK266 := bb_ (g := gb266) hb
      replace BK294 := bb_ (g := gb294) hb
      (try clear hb)
      (try clear hb2)
      (try clear hk)
      (try clear hi)
      refine hK.out _ _ ⟨bc_, bc_, bc_, bc_⟩ (fun hHeld => ?_)
      clear hK K
      refine norm_ (a' := ?_) ?_ ?_
      rotate_left
      ·show Act.put _ (some 41) _ = _
       simp only [Act.put, la_, lb_, lc_, i64_w, i32_w]
       rfl
      refine one_ (i := 3) (N := some 42) #[true, true, true, true, false, false, false, true, false, false] rfl rfl (one_of HT_.out (by kernel_rfl)) (by decide) (fun K hK => ?_)
      refine goes_ Tryd.func59 (by kernel_rfl) rfl #[.agg #[.bool t260, .int .u64 t261, .int .u64 t262], .agg #[.bool t287, .int .u64 t288, .int .u64 t289]] (by rfl) rfl rfl mp_ ?_
      with_reducible refine (spec_AddWide.calls k t260 t261 t262 t287 t288 t289 t290 t291 t292 true _ A101.out).mono ?_
      rintro e w116 ⟨rfl, hb⟩
      refine ⟨_, rfl, ?_⟩
      replace HB := Aside0.mk (below_step (belI_) hb)
      replace BK254 := bb_ (g := gb254) hb
      replace BK255 := bb_ (g := gb255) hb
      replace HI259 := Aside0.mk (IsS90.below (is_) hb)
      replace BK266 := bb_ (g := gb266) hb
      replace BK294 := bb_ (g := gb294) hb
      (try clear hb)
      (try clear hb2)
      (try clear hk)
      (try clear hi)
      refine hK.out _ _ ⟨bc_, bc_, bc_, bc_⟩ (fun hHeld => ?_)
      clear hK K
      refine norm_ (a' := ?_) ?_ ?_
      rotate_left
      ·show Act.put _ (some 42) _ = _
       simp only [Act.put, la_, lb_, lc_, i64_w, i32_w]
       rfl
      refine pure_ (i := 4) (N := some 38) (v := ?_) (a' := ?_) #[true, true, true, true, true, false, false, true, false, false] rfl rfl (any_of HT_.out (by kernel_rfl)) (fun _ _ _ h => h) (Or.inl ⟨by rfl, ?_⟩) ?_ ?_
      rotate_left
      ·intro w'
       go_simp
       with_reducible rfl
      rotate_left
      ·simp only [Act.put, la_, lb_, lc_, i64_w, i32_w]
       rfl
      refine pure_ (i := 5) (N := some 43) (v := ?_) (a' := ?_) #[true, true, true, true, true, true, false, true, false, false] rfl rfl (any_of HT_.out (by kernel_rfl)) (fun _ _ _ h => h) (Or.inl ⟨by rfl, ?_⟩) ?_ ?_
      rotate_left
      ·intro w'
       go_simp
       with_reducible rfl
      rotate_left
      ·simp only [Act.put, la_, lb_, lc_, i64_w, i32_w]
       rfl
      refine pure_ (i := 6) (N := some 44) (v := ?_) (a' := ?_) #[true, true, true, true, true, true, true, true, false, false] rfl rfl (any_of HT_.out (by kernel_rfl)) (fun _ _ _ h => h) (Or.inl ⟨by rfl, ?_⟩) ?_ ?_
      rotate_left
      ·intro w'
       go_simp
       with_reducible rfl
      rotate_left
      ·simp only [Act.put, la_, lb_, lc_, i64_w, i32_w]
       rfl
      exact norm_ (by simp only [putAll, Act.put, la_, lb_, lc_]) (hCont (gb294) _ ⟨hHeld, bk_, bk_, bk_, bk_, GW294.out, GE294.out, NB259_294.out, NB294_259.out, NB254_294.out, NB294_254.out, NB255_294.out, NB294_255.out, NB266_294.out, NB294_266.out, (is_), (belI_)⟩)
    rintro gb294 w117 ⟨hS_, h0_, h1_, h2_, h3_, h4_, h5_, h6_, h7_, h8_, h9_, h10_, h11_, h12_, h13_, h14_, h15_⟩
    have n0_ : Aside0 (w117.heap[gb254]? = some (.cells #[.bool false, .int .u64 0, .int .u64 0, .int .i64 0] 43 (0, 0))) := ⟨h0_⟩
    have n1_ : Aside0 (w117.heap[gb255]? = some (.cells #[.bool false, .int .u64 0, .int .u64 0, .int .i64 0] 43 (0, 0))) := ⟨h1_⟩
    have n2_ : Aside0 (w117.heap[gb266]? = some (.cells #[.bool t260, .int .u64 t261, .int .u64 t262, .int .i64 t263] 43 (0, 0))) := ⟨h2_⟩
    have n3_ : Aside0 (w117.heap[gb294]? = some (.cells #[.bool false, .int .u64 0, .int .u64 0] 28 (0, 0))) := ⟨h3_⟩
    have n4_ : Aside0 (w.heap.size ≤ gb294) := ⟨h4_⟩
    have n5_ : Aside0 (w.heap.size ≤ gb294) := ⟨h5_⟩
    have n6_ : Aside0 (g259 ≠ gb294) := ⟨h6_⟩
    have n7_ : Aside0 (gb294 ≠ g259) := ⟨h7_⟩
    have n8_ : Aside0 (gb254 ≠ gb294) := ⟨h8_⟩
    have n9_ : Aside0 (gb294 ≠ gb254) := ⟨h9_⟩
    have n10_ : Aside0 (gb255 ≠ gb294) := ⟨h10_⟩
    have n11_ : Aside0 (gb294 ≠ gb255) := ⟨h11_⟩
    have n12_ : Aside0 (gb266 ≠ gb294) := ⟨h12_⟩
    have n13_ : Aside0 (gb294 ≠ gb266) := ⟨h13_⟩
    have n14_ : Aside0 (IsS90 w w117 g259 t256 t268 t269) := ⟨h14_⟩
    have n15_ : Aside0 (Below w.heap.size w w117) := ⟨h15_⟩
    clear BK254
    clear BK255
    clear BK266
    clear HI259
    clear HB
    clear h0_ h1_ h2_ h3_ h4_ h5_ h6_ h7_ h8_ h9_ h10_ h11_ h12_ h13_ h14_ h15_
    have BK254 := n0_
    have BK255 := n1_
    have BK266 := n2_
    have BK294 := n3_
    have GW294 := n4_
    have GE294 := n5_
    have NB259_294 := n6_
    have NB294_259 := n7_
    have NB254_294 := n8_
    have NB294_254 := n9_
    have NB255_294 := n10_
    have NB294_255 := n11_
    have NB266_294 := n12_
    have NB294_266 := n13_
    have HI259 := n14_
    have HB := n15_
    clear n0_ n1_ n2_ n3_ n4_ n5_ n6_ n7_ n8_ n9_ n10_ n11_ n12_ n13_ n14_ n15_
    have hHeld : w117.cell? ⟨gb266, 0, none⟩ = some (.bool t260) ∧ w117.cell? ⟨gb266, 1, none⟩ = some (.int .u64 t261) ∧ w117.cell? ⟨gb266, 2, none⟩ = some (.int .u64 t262) ∧ w117.cell? ⟨gb266, 3, none⟩ = some (.int .i64 t263) := hS_
    refine norm_ (a' := ?_) ?_ ?_
    rotate_left
    ·simp only [putAll, Act.put, la_, lb_, lc_]
     rfl
    refine one_ (i := 8) (N := none) #[true, true, true, true, true, true, true, true, true, false] rfl rfl (one_of HT_.out (by kernel_rfl)) (by decide) (fun K hK => ?_)
    have hs118 : w117.cell? ⟨gb294, 0, none⟩ = some (.bool false) := (blk_cell BK294.out 0).trans rfl
    have hfs118 := blk_frozen BK294.out 0
    have hns118_0 := NB254_294.out
    have hns118_1 := NB255_294.out
    have hns118_2 := NB266_294.out
    have hms118_0 := NB294_254.out
    have hms118_1 := NB294_255.out
    have hms118_2 := NB294_266.out
    have hs119 : w117.cell? ⟨gb294, 1, none⟩ = some (.int .u64 0) := (blk_cell BK294.out 1).trans rfl
    have hfs119 := blk_frozen BK294.out 1
    have hns119_0 := NB254_294.out
    have hns119_1 := NB255_294.out
    have hns119_2 := NB266_294.out
    have hms119_0 := NB294_254.out
    have hms119_1 := NB294_255.out
    have hms119_2 := NB294_266.out
    have hs120 : w117.cell? ⟨gb294, 2, none⟩ = some (.int .u64 0) := (blk_cell BK294.out 2).trans rfl
    have hfs120 := blk_frozen BK294.out 2
    have hns120_0 := NB254_294.out
    have hns120_1 := NB255_294.out
    have hns120_2 := NB266_294.out
    have hms120_0 := NB294_254.out
    have hms120_1 := NB294_255.out
    have hms120_2 := NB294_266.out
    refine skip_ (w1 := ?_) ?_ ?_ ?_ ?_
    rotate_left
    ·rfl
    ·rfl
    ·go_simp
     rfl
    refine hK.out _ _ ⟨(cfar_ hHeld.1), (cfar_ hHeld.2.1), (cfar_ hHeld.2.2.1), (cfar_ hHeld.2.2.2)⟩ (fun hHeld => ?_)
    clear hK K
    refine pure_ (i := 9) (N := some 9) (v := ?_) (a' := ?_) #[true, true, true, true, true, true, true, true, true, true] rfl rfl (any_of HT_.out (by kernel_rfl)) (fun _ _ _ h => h) (Or.inl ⟨by rfl, ?_⟩) ?_ ?_
    rotate_left
    ·intro w'
     go_simp
     with_reducible rfl
    rotate_left
    ·simp only [Act.put, la_, lb_, lc_, i64_w, i32_w]
     rfl
    refine done_ (done_of HT_.out (by kernel_rfl)) ?_
    try go_wp2
    have n0_ : Aside0 ((((w117.setCell ⟨gb294, 0, none⟩ (.bool t290)).setCell ⟨gb294, 1, none⟩ (.int .u64 t291)).setCell ⟨gb294, 2, none⟩ (.int .u64 t292)).heap[gb254]? = some (.cells #[.bool false, .int .u64 0, .int .u64 0, .int .i64 0] 43 (0, 0))) := ⟨by (with_reducible repeat (first | refine bN_ _ ?_ | refine bd_ ?_ | refine ba_ _ ?_)); refine blk_far ?_ NB254_294.out _; (with_reducible repeat (first | refine bN_ _ ?_ | refine bd_ ?_ | refine ba_ _ ?_)); refine blk_far ?_ NB254_294.out _; (with_reducible repeat (first | refine bN_ _ ?_ | refine bd_ ?_ | refine ba_ _ ?_)); refine blk_far ?_ NB254_294.out _; (with_reducible repeat (first | refine bN_ _ ?_ | refine bd_ ?_ | refine ba_ _ ?_)); exact BK254.out⟩
    have n1_ : Aside0 ((((w117.setCell ⟨gb294, 0, none⟩ (.bool t290)).setCell ⟨gb294, 1, none⟩ (.int .u64 t291)).setCell ⟨gb294, 2, none⟩ (.int .u64 t292)).heap[gb255]? = some (.cells #[.bool false, .int .u64 0, .int .u64 0, .int .i64 0] 43 (0, 0))) := ⟨by (with_reducible repeat (first | refine bN_ _ ?_ | refine bd_ ?_ | refine ba_ _ ?_)); refine blk_far ?_ NB255_294.out _; (with_reducible repeat (first | refine bN_ _ ?_ | refine bd_ ?_ | refine ba_ _ ?_)); refine blk_far ?_ NB255_294.out _; (with_reducible repeat (first | refine bN_ _ ?_ | refine bd_ ?_ | refine ba_ _ ?_)); refine blk_far ?_ NB255_294.out _; (with_reducible repeat (first | refine bN_ _ ?_ | refine bd_ ?_ | refine ba_ _ ?_)); exact BK255.out⟩
    have n2_ : Aside0 ((((w117.setCell ⟨gb294, 0, none⟩ (.bool t290)).setCell ⟨gb294, 1, none⟩ (.int .u64 t291)).setCell ⟨gb294, 2, none⟩ (.int .u64 t292)).heap[gb266]? = some (.cells #[.bool t260, .int .u64 t261, .int .u64 t262, .int .i64 t263] 43 (0, 0))) := ⟨by (with_reducible repeat (first | refine bN_ _ ?_ | refine bd_ ?_ | refine ba_ _ ?_)); refine blk_far ?_ NB266_294.out _; (with_reducible repeat (first | refine bN_ _ ?_ | refine bd_ ?_ | refine ba_ _ ?_)); refine blk_far ?_ NB266_294.out _; (with_reducible repeat (first | refine bN_ _ ?_ | refine bd_ ?_ | refine ba_ _ ?_)); refine blk_far ?_ NB266_294.out _; (with_reducible repeat (first | refine bN_ _ ?_ | refine bd_ ?_ | refine ba_ _ ?_)); exact BK266.out⟩
    have n3_ : Aside0 ((((w117.setCell ⟨gb294, 0, none⟩ (.bool t290)).setCell ⟨gb294, 1, none⟩ (.int .u64 t291)).setCell ⟨gb294, 2, none⟩ (.int .u64 t292)).heap[gb294]? = some (.cells #[.bool t290, .int .u64 t291, .int .u64 t292] 28 (0, 0))) := ⟨by (with_reducible repeat (first | refine bN_ _ ?_ | refine bd_ ?_ | refine ba_ _ ?_)); refine blk_put (cs := #[.bool t290, .int .u64 t291, .int .u64 0]) ?_ 2 _ rfl; (with_reducible repeat (first | refine bN_ _ ?_ | refine bd_ ?_ | refine ba_ _ ?_)); refine blk_put (cs := #[.bool t290, .int .u64 0, .int .u64 0]) ?_ 1 _ rfl; (with_reducible repeat (first | refine bN_ _ ?_ | refine bd_ ?_ | refine ba_ _ ?_)); refine blk_put (cs := #[.bool false, .int .u64 0, .int .u64 0]) ?_ 0 _ rfl; (with_reducible repeat (first | refine bN_ _ ?_ | refine bd_ ?_ | refine ba_ _ ?_)); exact BK294.out⟩
    have n4_ : Aside0 (IsS90 w (((w117.setCell ⟨gb294, 0, none⟩ (.bool t290)).setCell ⟨gb294, 1, none⟩ (.int .u64 t291)).setCell ⟨gb294, 2, none⟩ (.int .u64 t292)) g259 t256 t268 t269) := ⟨is_⟩
    have n5_ : Aside0 (Below w.heap.size w (((w117.setCell ⟨gb294, 0, none⟩ (.bool t290)).setCell ⟨gb294, 1, none⟩ (.int .u64 t291)).setCell ⟨gb294, 2, none⟩ (.int .u64 t292))) := ⟨belI_⟩
    (try clear BK254)
    (try clear BK255)
    (try clear BK266)
    (try clear BK294)
    (try clear HI259)
    (try clear HB)
    generalize (((w117.setCell ⟨gb294, 0, none⟩ (.bool t290)).setCell ⟨gb294, 1, none⟩ (.int .u64 t291)).setCell ⟨gb294, 2, none⟩ (.int .u64 t292)) = w121 at n0_ n1_ n2_ n3_ n4_ n5_ ⊢
    have BK254 := n0_
    have BK255 := n1_
    have BK266 := n2_
    have BK294 := n3_
    have HI259 := n4_
    have HB := n5_
    clear n0_ n1_ n2_ n3_ n4_ n5_
    replace HB := Aside0.mk (below_drew1 HB.out)
    replace BK254 := Aside0.mk (blk_drew BK254.out)
    replace BK255 := Aside0.mk (blk_drew BK255.out)
    replace BK266 := Aside0.mk (blk_drew BK266.out)
    replace BK294 := Aside0.mk (blk_drew BK294.out)
    replace HI259 := Aside0.mk (IsS90.drew HI259.out)
    refine start_ (n := 7) (S := fun w' => w'.cell? ⟨gb266, 0, none⟩ = some (.bool t260) ∧ w'.cell? ⟨gb266, 1, none⟩ = some (.int .u64 t261) ∧ w'.cell? ⟨gb266, 2, none⟩ = some (.int .u64 t262) ∧ w'.cell? ⟨gb266, 3, none⟩ = some (.int .i64 t263) ∧ w'.cell? ⟨gb294, 0, none⟩ = some (.bool t290) ∧ w'.cell? ⟨gb294, 1, none⟩ = some (.int .u64 t291) ∧ w'.cell? ⟨gb294, 2, none⟩ = some (.int .u64 t292)) (ds := []) #[false, false, false, false, false, false, false] (by kernel_rfl) rfl rfl ⟨bc_, bc_, bc_, bc_, bc_, bc_, bc_⟩ (fun hHeld => ?_)
    generalize w121.drew = w122 at BK254 BK255 BK266 BK294 HI259 HB hHeld ⊢
    refine pure_ (i := 2) (N := some 48) (v := ?_) (a' := ?_) #[false, false, true, false, false, false, false] rfl rfl (by kernel_rfl) (fun _ _ _ h => h) (Or.inl ⟨by rfl, ?_⟩) ?_ ?_
    rotate_left
    ·intro w'
     go_simp
     with_reducible rfl
    rotate_left
    ·simp only [Act.put, la_, lb_, lc_, i64_w, i32_w]
     rfl
    refine take_ (i := 0) (N := some 46) (v := ?_) (a' := ?_) #[true, false, true, false, false, false, false] rfl rfl (by kernel_rfl) (fun _ _ _ h => h) (Or.inl ⟨by rfl, ?_⟩) hHeld ?_ ?_
    rotate_left
    ·rintro w' ⟨s0, s1, s2, s3, s4, s5, s6⟩
     go_simp
     with_reducible rfl
    rotate_left
    ·simp only [Act.put, la_, lb_, lc_, i64_w, i32_w]
     rfl
    refine take_ (i := 1) (N := some 47) (v := ?_) (a' := ?_) #[true, true, true, false, false, false, false] rfl rfl (by kernel_rfl) (fun _ _ _ h => h) (Or.inl ⟨by rfl, ?_⟩) hHeld ?_ ?_
    rotate_left
    ·rintro w' ⟨s0, s1, s2, s3, s4, s5, s6⟩
     go_simp
     with_reducible rfl
    rotate_left
    ·simp only [Act.put, la_, lb_, lc_, i64_w, i32_w]
     rfl
    refine take_ (i := 3) (N := some 49) (v := ?_) (a' := ?_) #[true, true, true, true, false, false, false] rfl rfl (by kernel_rfl) (fun _ _ _ h => h) (Or.inl ⟨by rfl, ?_⟩) hHeld ?_ ?_
    rotate_left
    ·rintro w' ⟨s0, s1, s2, s3, s4, s5, s6⟩
     go_simp
     with_reducible rfl
    rotate_left
    ·simp only [Act.put, la_, lb_, lc_, i64_w, i32_w]
     rfl
    refine pure_ (i := 4) (N := some 50) (v := ?_) (a' := ?_) #[true, true, true, true, true, false, false] rfl rfl (by kernel_rfl) (fun _ _ _ h => h) (Or.inl ⟨by rfl, ?_⟩) ?_ ?_
    rotate_left
    ·intro w'
     go_simp
     with_reducible rfl
    rotate_left
    ·simp only [Act.put, la_, lb_, lc_, i64_w, i32_w]
     rfl
    refine one_ (i := 5) (N := none) #[true, true, true, true, true, true, false] rfl rfl (by kernel_rfl) (by decide) (fun K hK => ?_)
    have hs123 : w122.cell? ⟨gb254, 0, none⟩ = some (.bool false) := (blk_cell BK254.out 0).trans rfl
    have hfs123 := blk_frozen BK254.out 0
    have hns123_1 := NB255_254.out
    have hns123_2 := NB266_254.out
    have hns123_3 := NB294_254.out
    have hms123_1 := NB254_255.out
    have hms123_2 := NB254_266.out
    have hms123_3 := NB254_294.out
    have hs124 : w122.cell? ⟨gb254, 1, none⟩ = some (.int .u64 0) := (blk_cell BK254.out 1).trans rfl
    have hfs124 := blk_frozen BK254.out 1
    have hns124_1 := NB255_254.out
    have hns124_2 := NB266_254.out
    have hns124_3 := NB294_254.out
    have hms124_1 := NB254_255.out
    have hms124_2 := NB254_266.out
    have hms124_3 := NB254_294.out
    have hs125 : w122.cell? ⟨gb254, 2, none⟩ = some (.int .u64 0) := (blk_cell BK254.out 2).trans rfl
    have hfs125 := blk_frozen BK254.out 2
    have hns125_1 := NB255_254.out
    have hns125_2 := NB266_254.out
    have hns125_3 := NB294_254.out
    have hms125_1 := NB254_255.out
    have hms125_2 := NB254_266.out
    have hms125_3 := NB254_294.out
    have hs126 : w122.cell? ⟨gb254, 3, none⟩ = some (.int .i64 0) := (blk_cell BK254.out 3).trans rfl
    have hfs126 := blk_frozen BK254.out 3
    have hns126_1 := NB255_254.out
    have hns126_2 := NB266_254.out
    have hns126_3 := NB294_254.out
    have hms126_1 := NB254_255.out
    have hms126_2 := NB254_266.out
    have hms126_3 := NB254_294.out
    refine skip_ (w1 := ?_) ?_ ?_ ?_ ?_
    rotate_left
    ·rfl
    ·rfl
    ·go_simp
     rfl
    refine hK.out _ _ ⟨(cfar_ hHeld.1), (cfar_ hHeld.2.1), (cfar_ hHeld.2.2.1), (cfar_ hHeld.2.2.2.1), (cfar_ hHeld.2.2.2.2.1), (cfar_ hHeld.2.2.2.2.2.1), (cfar_ hHeld.2.2.2.2.2.2)⟩ (fun hHeld => ?_)
    clear hK K
    refine one_ (i := 6) (N := none) #[true, true, true, true, true, true, true] rfl rfl (by kernel_rfl) (by decide) (fun K hK => ?_)
    have hs127 : w122.cell? ⟨gb255, 0, none⟩ = some (.bool false) := (blk_cell BK255.out 0).trans rfl
    have hfs127 := blk_frozen BK255.out 0
    have hns127_0 := NB254_255.out
    have hns127_2 := NB266_255.out
    have hns127_3 := NB294_255.out
    have hms127_0 := NB255_254.out
    have hms127_2 := NB255_266.out
    have hms127_3 := NB255_294.out
    have hs128 : w122.cell? ⟨gb255, 1, none⟩ = some (.int .u64 0) := (blk_cell BK255.out 1).trans rfl
    have hfs128 := blk_frozen BK255.out 1
    have hns128_0 := NB254_255.out
    have hns128_2 := NB266_255.out
    have hns128_3 := NB294_255.out
    have hms128_0 := NB255_254.out
    have hms128_2 := NB255_266.out
    have hms128_3 := NB255_294.out
    have hs129 : w122.cell? ⟨gb255, 2, none⟩ = some (.int .u64 0) := (blk_cell BK255.out 2).trans rfl
    have hfs129 := blk_frozen BK255.out 2
    have hns129_0 := NB254_255.out
    have hns129_2 := NB266_255.out
    have hns129_3 := NB294_255.out
    have hms129_0 := NB255_254.out
    have hms129_2 := NB255_266.out
    have hms129_3 := NB255_294.out
    have hs130 : w122.cell? ⟨gb255, 3, none⟩ = some (.int .i64 0) := (blk_cell BK255.out 3).trans rfl
    have hfs130 := blk_frozen BK255.out 3
    have hns130_0 := NB254_255.out
    have hns130_2 := NB266_255.out
    have hns130_3 := NB294_255.out
    have hms130_0 := NB255_254.out
    have hms130_2 := NB255_266.out
    have hms130_3 := NB255_294.out
    refine skip_ (w1 := ?_) ?_ ?_ ?_ ?_
    rotate_left
    ·rfl
    ·rfl
    ·go_simp
     rfl
    refine hK.out _ _ ⟨(cfar_ hHeld.1), (cfar_ hHeld.2.1), (cfar_ hHeld.2.2.1), (cfar_ hHeld.2.2.2.1), (cfar_ hHeld.2.2.2.2.1), (cfar_ hHeld.2.2.2.2.2.1), (cfar_ hHeld.2.2.2.2.2.2)⟩ (fun hHeld => ?_)
    clear hK K
    refine done_ (by kernel_rfl) ?_
    try go_wp2
    refine bodyPost_ret (results_cc rfl _ _ gb254 gb255 43 43 #[.bool t260, .int .u64 t261, .int .u64 t262, .int .i64 t263] #[.bool t290, .int .u64 t291, .int .u64 t292, .int .i64 t263] (0, 0) (0, 0) _ _ rfl (pu_ #[.bool t260, .int .u64 t261, .int .u64 t262, .int .i64 0] 3 (h := (pu_ #[.bool t260, .int .u64 t261, .int .u64 0, .int .i64 0] 2 (h := (pu_ #[.bool t260, .int .u64 0, .int .u64 0, .int .i64 0] 1 (h := (pu_ #[.bool false, .int .u64 0, .int .u64 0, .int .i64 0] 0 (h := bk_)))))))) Tryd.underlying43 rfl (by kernel_rfl) rfl (pu_ #[.bool t290, .int .u64 t291, .int .u64 t292, .int .i64 0] 3 (h := (pu_ #[.bool t290, .int .u64 t291, .int .u64 0, .int .i64 0] 2 (h := (pu_ #[.bool t290, .int .u64 0, .int .u64 0, .int .i64 0] 1 (h := (pu_ #[.bool false, .int .u64 0, .int .u64 0, .int .i64 0] 0 (h := bk_)))))))) Tryd.underlying43 rfl (by kernel_rfl)) rfl ?_
    exact ⟨rf_, belI_⟩
   ·replace c102 := Bool.eq_false_iff.mpr c102
    subst c102
    have H1 : ((spec_l5Frac.f k t256 t268 t269).bind fun bt295 => (some (t260, t261, t262, t263, bt295.1, bt295.2.1, bt295.2.2.1, bt295.2.2.2.1))) = some (r1, r2, r3, r4, r5, r6, r7, r8) := by rw [if_neg (show ¬ (false = true) by decide)] at H; exact H
    clear H
    have H := H1
    clear H1
    replace H := Option.bind_eq_some_iff.mp H
    obtain ⟨⟨t295, t296, t297, t298, t299, t300⟩, A1310, H⟩ := H
    replace H : (some (t260, t261, t262, t263, t295, t296, t297, t298)) = some (r1, r2, r3, r4, r5, r6, r7, r8) := H
    have A131 := Aside0.mk A1310
    clear A1310
    simp only [Option.some.injEq, Prod.mk.injEq] at H
    obtain ⟨rfl, rfl, rfl, rfl, rfl, rfl, rfl, rfl⟩ := H
    go_enter Tryd.func67, Tryd.ntmps67
    try go_wp2_with (first | ((with_reducible refine gate_dst (N := 2) rfl ?_); refine box_event ?hg (N := 2) ?hd (cs := #[.bool false, .int .u64 0, .int .u64 0, .int .i64 0]) (t := 43) ?hr ?_; (case hd => rfl); (case hg => rfl); (case hr => first | (go_simp; done) | (go_simp; rfl)); intro gb254 hg w132 hbox hb; have BK254 := Aside0.mk (hbox); have GW254 := bs_ (w := w) hg; have GE254 := bs_ (w := w) hg; replace HB := Aside0.mk (below_step bel_ hb); clear hb hbox hg) | ((with_reducible refine gate_dst (N := 3) rfl ?_); refine box_event ?hg (N := 3) ?hd (cs := #[.bool false, .int .u64 0, .int .u64 0, .int .i64 0]) (t := 43) ?hr ?_; (case hd => rfl); (case hg => rfl); (case hr => first | (go_simp; done) | (go_simp; rfl)); intro gb255 hg w133 hbox hb; have BK255 := Aside0.mk (hbox); have GW255 := bs_ (w := w) hg; have GE255 := bs_ (w := w) hg; have NB254_255 := nlt_ (g := gb254) hg; have NB255_254 := ngt_ (g := gb254) hg; replace HB := Aside0.mk (below_step bel_ hb); replace BK254 := bb_ (g := gb254) hb; clear hb hbox hg) | ((with_reducible refine gate_callee (f := 44) rfl ?_); refine goesL_ (some 11) rfl rfl Tryd.func44 (by kernel_rfl) rfl #[.slice A0 l0.length c0] rfl mp_ ?_; (with_reducible refine (spec_l1New.calls k _ _ l0 t256 t257 t258 w _ ?side1 ?side2 ?side3 A2.out).mono ?_); (case side1 => exact bel_); (case side2 => exact HR0.out); (case side3 => exact HC0.out); rintro e w134 ⟨g259, rfl, hi, hb, hb2⟩; refine ⟨_, rfl, ?_⟩; have HI259 := Aside0.mk (hi); have NB259_254 := Aside0.mk (IsS90.ne_blk hi (blk_below (g := gb254) (o := .cells #[.bool false, .int .u64 0, .int .u64 0, .int .i64 0] 43 (0, 0)) bk_ hb2) (by decide)); have NB254_259 := Aside0.mk (Ne.symm (IsS90.ne_blk hi (blk_below (g := gb254) (o := .cells #[.bool false, .int .u64 0, .int .u64 0, .int .i64 0] 43 (0, 0)) bk_ hb2) (by decide))); have NB259_255 := Aside0.mk (IsS90.ne_blk hi (blk_below (g := gb255) (o := .cells #[.bool false, .int .u64 0, .int .u64 0, .int .i64 0] 43 (0, 0)) bk_ hb2) (by decide)); have NB255_259 := Aside0.mk (Ne.symm (IsS90.ne_blk hi (blk_below (g := gb255) (o := .cells #[.bool false, .int .u64 0, .int .u64 0, .int .i64 0] 43 (0, 0)) bk_ hb2) (by decide))); replace HB := Aside0.mk (hb); replace BK254 := Aside0.mk (blk_below (g := gb254) (o := .cells #[.bool false, .int .u64 0, .int .u64 0, .int .i64 0] 43 (0, 0)) bk_ hb2); replace BK255 := Aside0.mk (blk_below (g := gb255) (o := .cells #[.bool false, .int .u64 0, .int .u64 0, .int .i64 0] 43 (0, 0)) bk_ hb2); (try clear hb); (try clear hb2); (try clear hk); (try clear hi)) | ((with_reducible refine gate_callee (f := 83) rfl ?_); refine goesL_ (some 13) rfl rfl Tryd.func83 (by kernel_rfl) rfl #[.pointer (some ⟨g259, 0, none⟩)] rfl mp_ ?_; (with_reducible refine (spec_l5Frac.calls k g259 t256 t257 t258 t260 t261 t262 t263 t264 t265 w _ ?side1 ?side2 A3.out).mono ?_); (case side1 => exact is_); (case side2 => exact belI_); rintro e w135 ⟨rfl, hi, hb, hk⟩; refine ⟨_, rfl, ?_⟩; replace HB := Aside0.mk (hb); replace BK254 := Aside0.mk (KeepBut.blk hk (g' := gb254) (o := .cells #[.bool false, .int .u64 0, .int .u64 0, .int .i64 0] 43 (0, 0)) bk_ NB254_259.out (by simp)); replace BK255 := Aside0.mk (KeepBut.blk hk (g' := gb255) (o := .cells #[.bool false, .int .u64 0, .int .u64 0, .int .i64 0] 43 (0, 0)) bk_ NB255_259.out (by simp)); replace HI259 := Aside0.mk (hi); (try clear hb); (try clear hb2); (try clear hk); (try clear hi)) | ((with_reducible refine gate_dst (N := 5) rfl ?_); refine box_event ?hg (N := 5) ?hd (cs := #[.bool false, .int .u64 0, .int .u64 0, .int .i64 0]) (t := 43) ?hr ?_; (case hd => rfl); (case hg => rfl); (case hr => first | (go_simp; done) | (go_simp; rfl)); intro gb266 hg w136 hbox hb; have BK266 := Aside0.mk (hbox); have GW266 := Aside0.mk ((by rw [hg]; exact (below_size (belI_)) : w.heap.size ≤ gb266)); have GE266 := Aside0.mk ((by rw [hg]; exact (below_size (belI_)) : w.heap.size ≤ gb266)); have NB254_266 := nlt_ (g := gb254) hg; have NB266_254 := ngt_ (g := gb254) hg; have NB255_266 := nlt_ (g := gb255) hg; have NB266_255 := ngt_ (g := gb255) hg; have NB259_266 := Aside0.mk ((by rw [hg]; exact Nat.ne_of_lt (IsS90.lt (show IsS90 w _ g259 t256 t264 t265 from is_)) : g259 ≠ gb266)); have NB266_259 := Aside0.mk ((by rw [hg]; exact Nat.ne_of_gt (IsS90.lt (show IsS90 w _ g259 t256 t264 t265 from is_)) : gb266 ≠ g259)); replace HB := Aside0.mk (below_step (belI_) hb); replace BK254 := bb_ (g := gb254) hb; replace BK255 := bb_ (g := gb255) hb; replace HI259 := Aside0.mk (IsS90.below (is_) hb); clear hb hbox hg; have hnb137 := NB266_254.out; have hnc137 := NB254_266.out; have hnb138 := NB266_255.out; have hnc138 := NB255_266.out; have hnb139 := NB266_259.out; have hnc139 := NB259_266.out; obtain ⟨hcz140_0, hcz140_1, hcz140_2, hcz140_3, hfz140_0, hfz140_1, hfz140_2, hfz140_3⟩ := cf4_ (w := w136) BK266.out) | ((with_reducible refine gate_callee (f := 52) rfl ?_); refine goesL_ (some 15) rfl rfl Tryd.func52 (by kernel_rfl) rfl #[.pointer (some ⟨g259, 0, none⟩), .int .i64 4] rfl mp_ ?_; (with_reducible refine (spec_l1Below.calls g259 t256 t264 t265 4 t267 t268 t269 w _ ?side1 ?side2 A4.out).mono ?_); (case side1 => exact is_); (case side2 => exact belI_); rintro e w141 ⟨rfl, hi, hb, hk⟩; refine ⟨_, rfl, ?_⟩; replace HB := Aside0.mk (hb); replace BK254 := Aside0.mk (KeepBut.blk hk (g' := gb254) (o := .cells #[.bool false, .int .u64 0, .int .u64 0, .int .i64 0] 43 (0, 0)) bk_ NB254_259.out (by simp)); replace BK255 := Aside0.mk (KeepBut.blk hk (g' := gb255) (o := .cells #[.bool false, .int .u64 0, .int .u64 0, .int .i64 0] 43 (0, 0)) bk_ NB255_259.out (by simp)); replace BK266 := Aside0.mk (KeepBut.blk hk (g' := gb266) (o := .cells #[.bool t260, .int .u64 t261, .int .u64 t262, .int .i64 t263] 43 (0, 0)) (pu_ #[.bool t260, .int .u64 t261, .int .u64 t262, .int .i64 0] 3 (h := (pu_ #[.bool t260, .int .u64 t261, .int .u64 0, .int .i64 0] 2 (h := (pu_ #[.bool t260, .int .u64 0, .int .u64 0, .int .i64 0] 1 (h := (pu_ #[.bool false, .int .u64 0, .int .u64 0, .int .i64 0] 0 (h := bk_)))))))) NB266_259.out (by simp)); replace HI259 := Aside0.mk (hi); (try clear hb); (try clear hb2); (try clear hk); (try clear hi)))
    replace HB := Aside0.mk (below_drew1 HB.out)
    replace BK254 := Aside0.mk (blk_drew BK254.out)
    replace BK255 := Aside0.mk (blk_drew BK255.out)
    replace BK266 := Aside0.mk (blk_drew BK266.out)
    replace HI259 := Aside0.mk (IsS90.drew HI259.out)
    refine start_ (n := 10) (S := fun w' => w'.cell? ⟨gb266, 0, none⟩ = some (.bool t260) ∧ w'.cell? ⟨gb266, 1, none⟩ = some (.int .u64 t261) ∧ w'.cell? ⟨gb266, 2, none⟩ = some (.int .u64 t262) ∧ w'.cell? ⟨gb266, 3, none⟩ = some (.int .i64 t263)) (ds := []) #[false, false, false, false, false, false, false, false, false, false] (by kernel_rfl) rfl rfl ⟨bc_, bc_, bc_, bc_⟩ (fun hHeld => ?_); refine with_tabW spec_l5Two.tab9 spec_l5Two.bits9 (fun HT_ HW_ => ?_)
    generalize w141.drew = w142 at BK254 BK255 BK266 HI259 HB hHeld ⊢
    refine pure_ (i := 0) (N := some 39) (v := ?_) (a' := ?_) #[true, false, false, false, false, false, false, false, false, false] rfl rfl (any_of HT_.out (by kernel_rfl)) (fun _ _ _ h => h) (Or.inl ⟨by rfl, ?_⟩) ?_ ?_
    rotate_left
    ·intro w'
     go_simp
     with_reducible rfl
    rotate_left
    ·simp only [Act.put, la_, lb_, lc_, i64_w, i32_w]
     rfl
    refine take_ (i := 1) (N := some 40) (v := ?_) (a' := ?_) #[true, true, false, false, false, false, false, false, false, false] rfl rfl (take_ofW HT_.out HW_.out (by kernel_rfl)) (fun _ _ _ h => h) (Or.inl ⟨by rfl, ?_⟩) hHeld ?_ ?_
    rotate_left
    ·rintro w' ⟨s0, s1, s2, s3⟩
     go_simp
     with_reducible rfl
    rotate_left
    ·simp only [Act.put, la_, lb_, lc_, i64_w, i32_w]
     rfl
    refine join_ (σ := Nat) 2 #[true, true, true, true, true, true, true, true, false, false] (fun s_ => [(41, .agg #[.bool t287, .int .u64 t288, .int .u64 t289]), (42, .tuple #[.agg #[.bool t290, .int .u64 t291, .int .u64 t292], .bool false]), (8, .pointer (some ⟨s_, 0, none⟩)), (38, .tuple #[.agg #[.bool t290, .int .u64 t291, .int .u64 t292], .bool false]), (43, .agg #[.bool t290, .int .u64 t291, .int .u64 t292]), (44, .bool false)]) (fun s_ w' => (w'.cell? ⟨gb266, 0, none⟩ = some (.bool t260) ∧ w'.cell? ⟨gb266, 1, none⟩ = some (.int .u64 t261) ∧ w'.cell? ⟨gb266, 2, none⟩ = some (.int .u64 t262) ∧ w'.cell? ⟨gb266, 3, none⟩ = some (.int .i64 t263)) ∧ (w'.heap[gb254]? = some (.cells #[.bool false, .int .u64 0, .int .u64 0, .int .i64 0] 43 (0, 0))) ∧ (w'.heap[gb255]? = some (.cells #[.bool false, .int .u64 0, .int .u64 0, .int .i64 0] 43 (0, 0))) ∧ (w'.heap[gb266]? = some (.cells #[.bool t260, .int .u64 t261, .int .u64 t262, .int .i64 t263] 43 (0, 0))) ∧ (w'.heap[s_]? = some (.cells #[.bool false, .int .u64 0, .int .u64 0] 28 (0, 0))) ∧ (w.heap.size ≤ s_) ∧ (w.heap.size ≤ s_) ∧ (g259 ≠ s_) ∧ (s_ ≠ g259) ∧ (gb254 ≠ s_) ∧ (s_ ≠ gb254) ∧ (gb255 ≠ s_) ∧ (s_ ≠ gb255) ∧ (gb266 ≠ s_) ∧ (s_ ≠ gb266) ∧ (IsS90 w w' g259 t256 t268 t269) ∧ (Below w.heap.size w w')) ?_ ?_
    rotate_left
    ·intro hCont
     refine two_ (i := 2) (j := 7) (Ni := some 41) (Nj := some 8) #[true, true, true, false, false, false, false, false, false, false] #[true, true, false, false, false, false, false, true, false, false] rfl rfl rfl rfl (two_of HT_.out (by kernel_rfl)) (by decide) (by decide) (fun K hK => ?_) (fun K hK => ?_)
     ·skip
      refine goes_ Tryd.func60 (by kernel_rfl) rfl #[.int .i64 1] (by rfl) rfl rfl mp_ ?_
      with_reducible refine (spec_WideOf.calls 1 t287 t288 t289 _ A100.out).mono ?_
      rintro e w143 ⟨rfl, hb⟩
      refine ⟨_, rfl, ?_⟩
      replace HB := Aside0.mk (below_step (belI_) hb)
      replace BK254 := bb_ (g := gb254) hb
      replace BK255 := bb_ (g := gb255) hb
      replace HI259 := Aside0.mk (IsS90.below (is_) hb)
      replace BK266 := bb_ (g := gb266) hb
      (try clear hb)
      (try clear hb2)
      (try clear hk)
      (try clear hi)
      refine hK.out _ _ ⟨bc_, bc_, bc_, bc_⟩ (fun hHeld => ?_)
      clear hK K
      refine norm_ (a' := ?_) ?_ ?_
      rotate_left
      ·show Act.put _ (some 41) _ = _
       simp only [Act.put, la_, lb_, lc_, i64_w, i32_w]
       rfl
      refine two_ (i := 3) (j := 7) (Ni := some 42) (Nj := some 8) #[true, true, true, true, false, false, false, false, false, false] #[true, true, true, false, false, false, false, true, false, false] rfl rfl rfl rfl (two_of HT_.out (by kernel_rfl)) (by decide) (by decide) (fun K hK => ?_) (fun K hK => ?_)
      ·skip
       refine goes_ Tryd.func59 (by kernel_rfl) rfl #[.agg #[.bool t260, .int .u64 t261, .int .u64 t262], .agg #[.bool t287, .int .u64 t288, .int .u64 t289]] (by rfl) rfl rfl mp_ ?_
       with_reducible refine (spec_AddWide.calls k t260 t261 t262 t287 t288 t289 t290 t291 t292 false _ A101.out).mono ?_
       rintro e w144 ⟨rfl, hb⟩
       refine ⟨_, rfl, ?_⟩
       replace HB := Aside0.mk (below_step (belI_) hb)
       replace BK254 := bb_ (g := gb254) hb
       replace BK255 := bb_ (g := gb255) hb
       replace HI259 := Aside0.mk (IsS90.below (is_) hb)
       replace BK266 := bb_ (g := gb266) hb
       (try clear hb)
       (try clear hb2)
       (try clear hk)
       (try clear hi)
       refine hK.out _ _ ⟨bc_, bc_, bc_, bc_⟩ (fun hHeld => ?_)
       clear hK K
       refine norm_ (a' := ?_) ?_ ?_
       rotate_left
       ·show Act.put _ (some 42) _ = _
        simp only [Act.put, la_, lb_, lc_, i64_w, i32_w]
        rfl
       refine pure_ (i := 4) (N := some 38) (v := ?_) (a' := ?_) #[true, true, true, true, true, false, false, false, false, false] rfl rfl (any_of HT_.out (by kernel_rfl)) (fun _ _ _ h => h) (Or.inl ⟨by rfl, ?_⟩) ?_ ?_
       rotate_left
       ·intro w'
        go_simp
        with_reducible rfl
       rotate_left
       ·simp only [Act.put, la_, lb_, lc_, i64_w, i32_w]
        rfl
       refine pure_ (i := 5) (N := some 43) (v := ?_) (a' := ?_) #[true, true, true, true, true, true, false, false, false, false] rfl rfl (any_of HT_.out (by kernel_rfl)) (fun _ _ _ h => h) (Or.inl ⟨by rfl, ?_⟩) ?_ ?_
       rotate_left
       ·intro w'
        go_simp
        with_reducible rfl
       rotate_left
       ·simp only [Act.put, la_, lb_, lc_, i64_w, i32_w]
        rfl
       refine pure_ (i := 6) (N := some 44) (v := ?_) (a' := ?_) #[true, true, true, true, true, true, true, false, false, false] rfl rfl (any_of HT_.out (by kernel_rfl)) (fun _ _ _ h => h) (Or.inl ⟨by rfl, ?_⟩) ?_ ?_
       rotate_left
       ·intro w'
        go_simp
        with_reducible rfl
       rotate_left
       ·simp only [Act.put, la_, lb_, lc_, i64_w, i32_w]
        rfl
       refine one_ (i := 7) (N := some 8) #[true, true, true, true, true, true, true, true, false, false] rfl rfl (one_of HT_.out (by kernel_rfl)) (by decide) (fun K hK => ?_)
       refine box_step ?hg (N := 8) ?hd (cs := #[.bool false, .int .u64 0, .int .u64 0]) (t := 28) ?hr ?_; (case hd => rfl); (case hg => rfl); (case hr => first | (go_simp; done) | (go_simp; rfl))
       intro gb294 hg w145 hbox hb
       have BK294 := Aside0.mk (hbox)
       have GW294 := Aside0.mk ((by rw [hg]; exact (below_size (belI_)) : w.heap.size ≤ gb294))
       have GE294 := Aside0.mk ((by rw [hg]; exact (below_size (belI_)) : w.heap.size ≤ gb294))
       have NB254_294 := nlt_ (g := gb254) hg
       have NB294_254 := ngt_ (g := gb254) hg
       have NB255_294 := nlt_ (g := gb255) hg
       have NB294_255 := ngt_ (g := gb255) hg
       have NB266_294 := nlt_ (g := gb266) hg
       have NB294_266 := ngt_ (g := gb266) hg
       have NB259_294 := Aside0.mk ((by rw [hg]; exact Nat.ne_of_lt (IsS90.lt (show IsS90 w _ g259 t256 t268 t269 from is_)) : g259 ≠ gb294))
       have NB294_259 := Aside0.mk ((by rw [hg]; exact Nat.ne_of_gt (IsS90.lt (show IsS90 w _ g259 t256 t268 t269 from is_)) : gb294 ≠ g259))
       replace HB := Aside0.mk (below_step (belI_) hb)
       replace BK254 := bb_ (g := gb254) hb
       replace BK255 := bb_ (g := gb255) hb
       replace HI259 := Aside0.mk (IsS90.below (is_) hb)
       replace BK266 := bb_ (g := gb266) hb
       clear hb hbox hg
       refine hK.out _ _ ⟨bc_, bc_, bc_, bc_⟩ (fun hHeld => ?_)
       clear hK K
       refine norm_ (a' := ?_) ?_ ?_
       rotate_left
       ·show Act.put _ (some 8) _ = _
        simp only [Act.put, la_, lb_, lc_, i64_w, i32_w]
        rfl
       exact norm_ (by simp only [putAll, Act.put, la_, lb_, lc_]) (hCont (gb294) _ ⟨hHeld, bk_, bk_, bk_, bk_, GW294.out, GE294.out, NB259_294.out, NB294_259.out, NB254_294.out, NB294_254.out, NB255_294.out, NB294_255.out, NB266_294.out, NB294_266.out, (is_), (belI_)⟩)
      ·skip
       refine box_step ?hg (N := 8) ?hd (cs := #[.bool false, .int .u64 0, .int .u64 0]) (t := 28) ?hr ?_; (case hd => rfl); (case hg => rfl); (case hr => first | (go_simp; done) | (go_simp; rfl))
       intro gb294 hg w144 hbox hb
       have BK294 := Aside0.mk (hbox)
       have GW294 := Aside0.mk ((by rw [hg]; exact (below_size (belI_)) : w.heap.size ≤ gb294))
       have GE294 := Aside0.mk ((by rw [hg]; exact (below_size (belI_)) : w.heap.size ≤ gb294))
       have NB254_294 := nlt_ (g := gb254) hg
       have NB294_254 := ngt_ (g := gb254) hg
       have NB255_294 := nlt_ (g := gb255) hg
       have NB294_255 := ngt_ (g := gb255) hg
       have NB266_294 := nlt_ (g := gb266) hg
       have NB294_266 := ngt_ (g := gb266) hg
       have NB259_294 := Aside0.mk ((by rw [hg]; exact Nat.ne_of_lt (IsS90.lt (show IsS90 w _ g259 t256 t268 t269 from is_)) : g259 ≠ gb294))
       have NB294_259 := Aside0.mk ((by rw [hg]; exact Nat.ne_of_gt (IsS90.lt (show IsS90 w _ g259 t256 t268 t269 from is_)) : gb294 ≠ g259))
       replace HB := Aside0.mk (below_step (belI_) hb)
       replace BK254 := bb_ (g := gb254) hb
       replace BK255 := bb_ (g := gb255) hb
       replace HI259 := Aside0.mk (IsS90.below (is_) hb)
       replace BK266 := bb_ (g := gb266) hb
       clear hb hbox hg
       refine hK.out _ _ ⟨bc_, bc_, bc_, bc_⟩ (fun hHeld => ?_)
       clear hK K
       refine norm_ (a' := ?_) ?_ ?_
       rotate_left
       ·show Act.put _ (some 8) _ = _
        simp only [Act.put, la_, lb_, lc_, i64_w, i32_w]
        rfl
       refine one_ (i := 3) (N := some 42) #[true, true, true, true, false, false, false, true, false, false] rfl rfl (one_of HT_.out (by kernel_rfl)) (by decide) (fun K hK => ?_)
       refine goes_ Tryd.func59 (by kernel_rfl) rfl #[.agg #[.bool t260, .int .u64 t261, .int .u64 t262], .agg #[.bool t287, .int .u64 t288, .int .u64 t289]] (by rfl) rfl rfl mp_ ?_
       with_reducible refine (spec_AddWide.calls k t260 t261 t262 t287 t288 t289 t290 t291 t292 false _ A101.out).mono ?_
       rintro e w145 ⟨rfl, hb⟩
       refine ⟨_, rfl, ?_⟩
       replace HB := Aside0.mk (below_step (belI_) hb)
       replace BK254 := bb_ (g := gb254) hb
       replace BK255 := bb_ (g := gb255) hb
       replace HI259 := Aside0.mk (IsS90.below (is_) hb)
       replace BK266 := bb_ (g := gb266) hb
       replace BK294 := bb_ (g := gb294) hb
       (try clear hb)
       (try clear hb2)
       (try clear hk)
       (try clear hi)
       refine hK.out _ _ ⟨bc_, bc_, bc_, bc_⟩ (fun hHeld => ?_)
       clear hK K
       refine norm_ (a' := ?_) ?_ ?_
       rotate_left
       ·show Act.put _ (some 42) _ = _
        simp only [Act.put, la_, lb_, lc_, i64_w, i32_w]
        rfl
       refine pure_ (i := 4) (N := some 38) (v := ?_) (a' := ?_) #[true, true, true, true, true, false, false, true, false, false] rfl rfl (any_of HT_.out (by kernel_rfl)) (fun _ _ _ h => h) (Or.inl ⟨by rfl, ?_⟩) ?_ ?_
       rotate_left
       ·intro w'
        go_simp
        with_reducible rfl
       rotate_left
       ·simp only [Act.put, la_, lb_, lc_, i64_w, i32_w]
        rfl
       refine pure_ (i := 5) (N := some 43) (v := ?_) (a' := ?_) #[true, true, true, true, true, true, false, true, false, false] rfl rfl (any_of HT_.out (by kernel_rfl)) (fun _ _ _ h => h) (Or.inl ⟨by rfl, ?_⟩) ?_ ?_
       rotate_left
       ·intro w'
        go_simp
        with_reducible rfl
       rotate_left
       ·simp only [Act.put, la_, lb_, lc_, i64_w, i32_w]
        rfl
       refine pure_ (i := 6) (N := some 44) (v := ?_) (a' := ?_) #[true, true, true, true, true, true, true, true, false, false] rfl rfl (any_of HT_.out (by kernel_rfl)) (fun _ _ _ h => h) (Or.inl ⟨by rfl, ?_⟩) ?_ ?_
       rotate_left
       ·intro w'
        go_simp
        with_reducible rfl
       rotate_left
       ·simp only [Act.put, la_, lb_, lc_, i64_w, i32_w]
        rfl
       exact norm_ (by simp only [putAll, Act.put, la_, lb_, lc_]) (hCont (gb294) _ ⟨hHeld, bk_, bk_, bk_, bk_, GW294.out, GE294.out, NB259_294.out, NB294_259.out, NB254_294.out, NB294_254.out, NB255_294.out, NB294_255.out, NB266_294.out, NB294_266.out, (is_), (belI_)⟩)
     ·skip
      refine box_step ?hg (N := 8) ?hd (cs := #[.bool false, .int .u64 0, .int .u64 0]) (t := 28) ?hr ?_; (case hd => rfl); (case hg => rfl); (case hr => first | (go_simp; done) | (go_simp; rfl))
      intro gb294 hg w143 hbox hb
      have BK294 := Aside0.mk (hbox)
      have GW294 := Aside0.mk ((by rw [hg]; exact (below_size (belI_)) : w.heap.size ≤ gb294))
      have GE294 := Aside0.mk ((by rw [hg]; exact (below_size (belI_)) : w.heap.size ≤ gb294))
      have NB254_294 := nlt_ (g := gb254) hg
      have NB294_254 := ngt_ (g := gb254) hg
      have NB255_294 := nlt_ (g := gb255) hg
      have NB294_255 := ngt_ (g := gb255) hg
      have NB266_294 := nlt_ (g := gb266) hg
      have NB294_266 := ngt_ (g := gb266) hg
      have NB259_294 := Aside0.mk ((by rw [hg]; exact Nat.ne_of_lt (IsS90.lt (show IsS90 w _ g259 t256 t268 t269 from is_)) : g259 ≠ gb294))
      have NB294_259 := Aside0.mk ((by rw [hg]; exact Nat.ne_of_gt (IsS90.lt (show IsS90 w _ g259 t256 t268 t269 from is_)) : gb294 ≠ g259))
      replace HB := Aside0.mk (below_step (belI_) hb)
      replace BK254 := bb_ (g := gb254) hb
      replace BK255 := bb_ (g := gb255) hb
      replace HI259 := Aside0.mk (IsS90.below (is_) hb)
      replace BK266 := bb_ (g := gb266) hb
      clear hb hbox hg
      refine hK.out _ _ ⟨bc_, bc_, bc_, bc_⟩ (fun hHeld => ?_)
      clear hK K
      refine norm_ (a' := ?_) ?_ ?_
      rotate_left
      ·show Act.put _ (some 8) _ = _
       simp only [Act.put, la_, lb_, lc_, i64_w, i32_w]
       rfl
      refine one_ (i := 2) (N := some 41) #[true, true, true, false, false, false, false, true, false, false] rfl rfl (one_of HT_.out (by kernel_rfl)) (by decide) (fun K hK => ?_)
      refine goes_ Tryd.func60 (by kernel_rfl) rfl #[.int .i64 1] (by rfl) rfl rfl mp_ ?_
      with_reducible refine (spec_WideOf.calls 1 t287 t288 t289 _ A100.out).mono ?_
      rintro e w144 ⟨rfl, hb⟩
      refine ⟨_, rfl, ?_⟩
      replace HB := Aside0.mk (below_step (belI_) hb)
      replace BK254 := bb_ (g := gb254) hb
      replace BK255 := bb_ (g := gb255) hb
      replace HI259 := Aside0.mk (IsS90.below (is_) hb)
      replace BK266 := bb_ (g := gb266) hb
      replace BK294 := bb_ (g := gb294) hb
      (try clear hb)
      (try clear hb2)
      (try clear hk)
      (try clear hi)
      refine hK.out _ _ ⟨bc_, bc_, bc_, bc_⟩ (fun hHeld => ?_)
      clear hK K
      refine norm_ (a' := ?_) ?_ ?_
      rotate_left
      ·show Act.put _ (some 41) _ = _
       simp only [Act.put, la_, lb_, lc_, i64_w, i32_w]
       rfl
      refine one_ (i := 3) (N := some 42) #[true, true, true, true, false, false, false, true, false, false] rfl rfl (one_of HT_.out (by kernel_rfl)) (by decide) (fun K hK => ?_)
      refine goes_ Tryd.func59 (by kernel_rfl) rfl #[.agg #[.bool t260, .int .u64 t261, .int .u64 t262], .agg #[.bool t287, .int .u64 t288, .int .u64 t289]] (by rfl) rfl rfl mp_ ?_
      with_reducible refine (spec_AddWide.calls k t260 t261 t262 t287 t288 t289 t290 t291 t292 false _ A101.out).mono ?_
      rintro e w145 ⟨rfl, hb⟩
      refine ⟨_, rfl, ?_⟩
      replace HB := Aside0.mk (below_step (belI_) hb)
      replace BK254 := bb_ (g := gb254) hb
      replace BK255 := bb_ (g := gb255) hb
      replace HI259 := Aside0.mk (IsS90.below (is_) hb)
      replace BK266 := bb_ (g := gb266) hb
      replace BK294 := bb_ (g := gb294) hb
      (try clear hb)
      (try clear hb2)
      (try clear hk)
      (try clear hi)
      refine hK.out _ _ ⟨bc_, bc_, bc_, bc_⟩ (fun hHeld => ?_)
      clear hK K
      refine norm_ (a' := ?_) ?_ ?_
      rotate_left
      ·show Act.put _ (some 42) _ = _
       simp only [Act.put, la_, lb_, lc_, i64_w, i32_w]
       rfl
      refine pure_ (i := 4) (N := some 38) (v := ?_) (a' := ?_) #[true, true, true, true, true, false, false, true, false, false] rfl rfl (any_of HT_.out (by kernel_rfl)) (fun _ _ _ h => h) (Or.inl ⟨by rfl, ?_⟩) ?_ ?_
      rotate_left
      ·intro w'
       go_simp
       with_reducible rfl
      rotate_left
      ·simp only [Act.put, la_, lb_, lc_, i64_w, i32_w]
       rfl
      refine pure_ (i := 5) (N := some 43) (v := ?_) (a' := ?_) #[true, true, true, true, true, true, false, true, false, false] rfl rfl (any_of HT_.out (by kernel_rfl)) (fun _ _ _ h => h) (Or.inl ⟨by rfl, ?_⟩) ?_ ?_
      rotate_left
      ·intro w'
       go_simp
       with_reducible rfl
      rotate_left
      ·simp only [Act.put, la_, lb_, lc_, i64_w, i32_w]
       rfl
      refine pure_ (i := 6) (N := some 44) (v := ?_) (a' := ?_) #[true, true, true, true, true, true, true, true, false, false] rfl rfl (any_of HT_.out (by kernel_rfl)) (fun _ _ _ h => h) (Or.inl ⟨by rfl, ?_⟩) ?_ ?_
      rotate_left
      ·intro w'
       go_simp
       with_reducible rfl
      rotate_left
      ·simp only [Act.put, la_, lb_, lc_, i64_w, i32_w]
       rfl
      exact norm_ (by simp only [putAll, Act.put, la_, lb_, lc_]) (hCont (gb294) _ ⟨hHeld, bk_, bk_, bk_, bk_, GW294.out, GE294.out, NB259_294.out, NB294_259.out, NB254_294.out, NB294_254.out, NB255_294.out, NB294_255.out, NB266_294.out, NB294_266.out, (is_), (belI_)⟩)
    rintro gb294 w146 ⟨hS_, h0_, h1_, h2_, h3_, h4_, h5_, h6_, h7_, h8_, h9_, h10_, h11_, h12_, h13_, h14_, h15_⟩
    have n0_ : Aside0 (w146.heap[gb254]? = some (.cells #[.bool false, .int .u64 0, .int .u64 0, .int .i64 0] 43 (0, 0))) := ⟨h0_⟩
    have n1_ : Aside0 (w146.heap[gb255]? = some (.cells #[.bool false, .int .u64 0, .int .u64 0, .int .i64 0] 43 (0, 0))) := ⟨h1_⟩
    have n2_ : Aside0 (w146.heap[gb266]? = some (.cells #[.bool t260, .int .u64 t261, .int .u64 t262, .int .i64 t263] 43 (0, 0))) := ⟨h2_⟩
    have n3_ : Aside0 (w146.heap[gb294]? = some (.cells #[.bool false, .int .u64 0, .int .u64 0] 28 (0, 0))) := ⟨h3_⟩
    have n4_ : Aside0 (w.heap.size ≤ gb294) := ⟨h4_⟩
    have n5_ : Aside0 (w.heap.size ≤ gb294) := ⟨h5_⟩
    have n6_ : Aside0 (g259 ≠ gb294) := ⟨h6_⟩
    have n7_ : Aside0 (gb294 ≠ g259) := ⟨h7_⟩
    have n8_ : Aside0 (gb254 ≠ gb294) := ⟨h8_⟩
    have n9_ : Aside0 (gb294 ≠ gb254) := ⟨h9_⟩
    have n10_ : Aside0 (gb255 ≠ gb294) := ⟨h10_⟩
    have n11_ : Aside0 (gb294 ≠ gb255) := ⟨h11_⟩
    have n12_ : Aside0 (gb266 ≠ gb294) := ⟨h12_⟩
    have n13_ : Aside0 (gb294 ≠ gb266) := ⟨h13_⟩
    have n14_ : Aside0 (IsS90 w w146 g259 t256 t268 t269) := ⟨h14_⟩
    have n15_ : Aside0 (Below w.heap.size w w146) := ⟨h15_⟩
    clear BK254
    clear BK255
    clear BK266
    clear HI259
    clear HB
    clear h0_ h1_ h2_ h3_ h4_ h5_ h6_ h7_ h8_ h9_ h10_ h11_ h12_ h13_ h14_ h15_
    have BK254 := n0_
    have BK255 := n1_
    have BK266 := n2_
    have BK294 := n3_
    have GW294 := n4_
    have GE294 := n5_
    have NB259_294 := n6_
    have NB294_259 := n7_
    have NB254_294 := n8_
    have NB294_254 := n9_
    have NB255_294 := n10_
    have NB294_255 := n11_
    have NB266_294 := n12_
    have NB294_266 := n13_
    have HI259 := n14_
    have HB := n15_
    clear n0_ n1_ n2_ n3_ n4_ n5_ n6_ n7_ n8_ n9_ n10_ n11_ n12_ n13_ n14_ n15_
    have hHeld : w146.cell? ⟨gb266, 0, none⟩ = some (.bool t260) ∧ w146.cell? ⟨gb266, 1, none⟩ = some (.int .u64 t261) ∧ w146.cell? ⟨gb266, 2, none⟩ = some (.int .u64 t262) ∧ w146.cell? ⟨gb266, 3, none⟩ = some (.int .i64 t263) := hS_
    refine norm_ (a' := ?_) ?_ ?_
    rotate_left
    ·simp only [putAll, Act.put, la_, lb_, lc_]
     rfl
    refine one_ (i := 8) (N := none) #[true, true, true, true, true, true, true, true, true, false] rfl rfl (one_of HT_.out (by kernel_rfl)) (by decide) (fun K hK => ?_)
    have hs147 : w146.cell? ⟨gb294, 0, none⟩ = some (.bool false) := (blk_cell BK294.out 0).trans rfl
    have hfs147 := blk_frozen BK294.out 0
    have hns147_0 := NB254_294.out
    have hns147_1 := NB255_294.out
    have hns147_2 := NB266_294.out
    have hms147_0 := NB294_254.out
    have hms147_1 := NB294_255.out
    have hms147_2 := NB294_266.out
    have hs148 : w146.cell? ⟨gb294, 1, none⟩ = some (.int .u64 0) := (blk_cell BK294.out 1).trans rfl
    have hfs148 := blk_frozen BK294.out 1
    have hns148_0 := NB254_294.out
    have hns148_1 := NB255_294.out
    have hns148_2 := NB266_294.out
    have hms148_0 := NB294_254.out
    have hms148_1 := NB294_255.out
    have hms148_2 := NB294_266.out
    have hs149 : w146.cell? ⟨gb294, 2, none⟩ = some (.int .u64 0) := (blk_cell BK294.out 2).trans rfl
    have hfs149 := blk_frozen BK294.out 2
    have hns149_0 := NB254_294.out
    have hns149_1 := NB255_294.out
    have hns149_2 := NB266_294.out
    have hms149_0 := NB294_254.out
    have hms149_1 := NB294_255.out
    have hms149_2 := NB294_266.out
    refine skip_ (w1 := ?_) ?_ ?_ ?_ ?_
    rotate_left
    ·rfl
    ·rfl
    ·go_simp
     rfl
    refine hK.out _ _ ⟨(cfar_ hHeld.1), (cfar_ hHeld.2.1), (cfar_ hHeld.2.2.1), (cfar_ hHeld.2.2.2)⟩ (fun hHeld => ?_)
    clear hK K
    refine pure_ (i := 9) (N := some 9) (v := ?_) (a' := ?_) #[true, true, true, true, true, true, true, true, true, true] rfl rfl (any_of HT_.out (by kernel_rfl)) (fun _ _ _ h => h) (Or.inl ⟨by rfl, ?_⟩) ?_ ?_
    rotate_left
    ·intro w'
     go_simp
     with_reducible rfl
    rotate_left
    ·simp only [Act.put, la_, lb_, lc_, i64_w, i32_w]
     rfl
    refine done_ (done_of HT_.out (by kernel_rfl)) ?_
    try go_wp2
    have n0_ : Aside0 ((((w146.setCell ⟨gb294, 0, none⟩ (.bool t290)).setCell ⟨gb294, 1, none⟩ (.int .u64 t291)).setCell ⟨gb294, 2, none⟩ (.int .u64 t292)).heap[gb254]? = some (.cells #[.bool false, .int .u64 0, .int .u64 0, .int .i64 0] 43 (0, 0))) := ⟨by (with_reducible repeat (first | refine bN_ _ ?_ | refine bd_ ?_ | refine ba_ _ ?_)); refine blk_far ?_ NB254_294.out _; (with_reducible repeat (first | refine bN_ _ ?_ | refine bd_ ?_ | refine ba_ _ ?_)); refine blk_far ?_ NB254_294.out _; (with_reducible repeat (first | refine bN_ _ ?_ | refine bd_ ?_ | refine ba_ _ ?_)); refine blk_far ?_ NB254_294.out _; (with_reducible repeat (first | refine bN_ _ ?_ | refine bd_ ?_ | refine ba_ _ ?_)); exact BK254.out⟩
    have n1_ : Aside0 ((((w146.setCell ⟨gb294, 0, none⟩ (.bool t290)).setCell ⟨gb294, 1, none⟩ (.int .u64 t291)).setCell ⟨gb294, 2, none⟩ (.int .u64 t292)).heap[gb255]? = some (.cells #[.bool false, .int .u64 0, .int .u64 0, .int .i64 0] 43 (0, 0))) := ⟨by (with_reducible repeat (first | refine bN_ _ ?_ | refine bd_ ?_ | refine ba_ _ ?_)); refine blk_far ?_ NB255_294.out _; (with_reducible repeat (first | refine bN_ _ ?_ | refine bd_ ?_ | refine ba_ _ ?_)); refine blk_far ?_ NB255_294.out _; (with_reducible repeat (first | refine bN_ _ ?_ | refine bd_ ?_ | refine ba_ _ ?_)); refine blk_far ?_ NB255_294.out _; (with_reducible repeat (first | refine bN_ _ ?_ | refine bd_ ?_ | refine ba_ _ ?_)); exact BK255.out⟩
    have n2_ : Aside0 ((((w146.setCell ⟨gb294, 0, none⟩ (.bool t290)).setCell ⟨gb294, 1, none⟩ (.int .u64 t291)).setCell ⟨gb294, 2, none⟩ (.int .u64 t292)).heap[gb266]? = some (.cells #[.bool t260, .int .u64 t261, .int .u64 t262, .int .i64 t263] 43 (0, 0))) := ⟨by (with_reducible repeat (first | refine bN_ _ ?_ | refine bd_ ?_ | refine ba_ _ ?_)); refine blk_far ?_ NB266_294.out _; (with_reducible repeat (first | refine bN_ _ ?_ | refine bd_ ?_ | refine ba_ _ ?_)); refine blk_far ?_ NB266_294.out _; (with_reducible repeat (first | refine bN_ _ ?_ | refine bd_ ?_ | refine ba_ _ ?_)); refine blk_far ?_ NB266_294.out _; (with_reducible repeat (first | refine bN_ _ ?_ | refine bd_ ?_ | refine ba_ _ ?_)); exact BK266.out⟩
    have n3_ : Aside0 ((((w146.setCell ⟨gb294, 0, none⟩ (.bool t290)).setCell ⟨gb294, 1, none⟩ (.int .u64 t291)).setCell ⟨gb294, 2, none⟩ (.int .u64 t292)).heap[gb294]? = some (.cells #[.bool t290, .int .u64 t291, .int .u64 t292] 28 (0, 0))) := ⟨by (with_reducible repeat (first | refine bN_ _ ?_ | refine bd_ ?_ | refine ba_ _ ?_)); refine blk_put (cs := #[.bool t290, .int .u64 t291, .int .u64 0]) ?_ 2 _ rfl; (with_reducible repeat (first | refine bN_ _ ?_ | refine bd_ ?_ | refine ba_ _ ?_)); refine blk_put (cs := #[.bool t290, .int .u64 0, .int .u64 0]) ?_ 1 _ rfl; (with_reducible repeat (first | refine bN_ _ ?_ | refine bd_ ?_ | refine ba_ _ ?_)); refine blk_put (cs := #[.bool false, .int .u64 0, .int .u64 0]) ?_ 0 _ rfl; (with_reducible repeat (first | refine bN_ _ ?_ | refine bd_ ?_ | refine ba_ _ ?_)); exact BK294.out⟩
    have n4_ : Aside0 (IsS90 w (((w146.setCell ⟨gb294, 0, none⟩ (.bool t290)).setCell ⟨gb294, 1, none⟩ (.int .u64 t291)).setCell ⟨gb294, 2, none⟩ (.int .u64 t292)) g259 t256 t268 t269) := ⟨is_⟩
    have n5_ : Aside0 (Below w.heap.size w (((w146.setCell ⟨gb294, 0, none⟩ (.bool t290)).setCell ⟨gb294, 1, none⟩ (.int .u64 t291)).setCell ⟨gb294, 2, none⟩ (.int .u64 t292))) := ⟨belI_⟩
    (try clear BK254)
    (try clear BK255)
    (try clear BK266)
    (try clear BK294)
    (try clear HI259)
    (try clear HB)
    generalize (((w146.setCell ⟨gb294, 0, none⟩ (.bool t290)).setCell ⟨gb294, 1, none⟩ (.int .u64 t291)).setCell ⟨gb294, 2, none⟩ (.int .u64 t292)) = w150 at n0_ n1_ n2_ n3_ n4_ n5_ ⊢
    have BK254 := n0_
    have BK255 := n1_
    have BK266 := n2_
    have BK294 := n3_
    have HI259 := n4_
    have HB := n5_
    clear n0_ n1_ n2_ n3_ n4_ n5_
    replace HB := Aside0.mk (below_drew1 HB.out)
    replace BK254 := Aside0.mk (blk_drew BK254.out)
    replace BK255 := Aside0.mk (blk_drew BK255.out)
    replace BK266 := Aside0.mk (blk_drew BK266.out)
    replace BK294 := Aside0.mk (blk_drew BK294.out)
    replace HI259 := Aside0.mk (IsS90.drew HI259.out)
    refine start_ (n := 5) (S := fun w' => w'.cell? ⟨gb266, 0, none⟩ = some (.bool t260) ∧ w'.cell? ⟨gb266, 1, none⟩ = some (.int .u64 t261) ∧ w'.cell? ⟨gb266, 2, none⟩ = some (.int .u64 t262) ∧ w'.cell? ⟨gb266, 3, none⟩ = some (.int .i64 t263)) (ds := []) #[false, false, false, false, false] (by kernel_rfl) rfl rfl ⟨bc_, bc_, bc_, bc_⟩ (fun hHeld => ?_)
    generalize w150.drew = w151 at BK254 BK255 BK266 BK294 HI259 HB hHeld ⊢
    refine pure_ (i := 1) (N := some 52) (v := ?_) (a' := ?_) #[false, true, false, false, false] rfl rfl (by kernel_rfl) (fun _ _ _ h => h) (Or.inl ⟨by rfl, ?_⟩) ?_ ?_
    rotate_left
    ·intro w'
     go_simp
     with_reducible rfl
    rotate_left
    ·simp only [Act.put, la_, lb_, lc_, i64_w, i32_w]
     rfl
    refine take_ (i := 0) (N := some 51) (v := ?_) (a' := ?_) #[true, true, false, false, false] rfl rfl (by kernel_rfl) (fun _ _ _ h => h) (Or.inl ⟨by rfl, ?_⟩) hHeld ?_ ?_
    rotate_left
    ·rintro w' ⟨s0, s1, s2, s3⟩
     go_simp
     with_reducible rfl
    rotate_left
    ·simp only [Act.put, la_, lb_, lc_, i64_w, i32_w]
     rfl
    refine one_ (i := 2) (N := some 53) #[true, true, true, false, false] rfl rfl (by kernel_rfl) (by decide) (fun K hK => ?_)
    refine goes_ Tryd.func83 (by kernel_rfl) rfl #[.pointer (some ⟨g259, 0, none⟩)] (by rfl) rfl rfl mp_ ?_
    with_reducible refine (spec_l5Frac.calls k g259 t256 t268 t269 t295 t296 t297 t298 t299 t300 w _ ?side1 ?side2 A131.out).mono ?_
    (case side1 => exact is_)
    (case side2 => exact belI_)
    rintro e w152 ⟨rfl, hi, hb, hk⟩
    refine ⟨_, rfl, ?_⟩
    replace HB := Aside0.mk (hb)
    replace BK254 := Aside0.mk (KeepBut.blk hk (g' := gb254) (o := .cells #[.bool false, .int .u64 0, .int .u64 0, .int .i64 0] 43 (0, 0)) bk_ NB254_259.out (by simp))
    replace BK255 := Aside0.mk (KeepBut.blk hk (g' := gb255) (o := .cells #[.bool false, .int .u64 0, .int .u64 0, .int .i64 0] 43 (0, 0)) bk_ NB255_259.out (by simp))
    replace BK266 := Aside0.mk (KeepBut.blk hk (g' := gb266) (o := .cells #[.bool t260, .int .u64 t261, .int .u64 t262, .int .i64 t263] 43 (0, 0)) bk_ NB266_259.out (by simp))
    replace BK294 := Aside0.mk (KeepBut.blk hk (g' := gb294) (o := .cells #[.bool t290, .int .u64 t291, .int .u64 t292] 28 (0, 0)) bk_ NB294_259.out (by simp))
    replace HI259 := Aside0.mk (hi)
    (try clear hb)
    (try clear hb2)
    (try clear hk)
    (try clear hi)
    refine hK.out _ _ ⟨bc_, bc_, bc_, bc_⟩ (fun hHeld => ?_)
    clear hK K
    refine norm_ (a' := ?_) ?_ ?_
    rotate_left
    ·show Act.put _ (some 53) _ = _
     simp only [Act.put, la_, lb_, lc_, i64_w, i32_w]
     rfl
    refine one_ (i := 3) (N := none) #[true, true, true, true, false] rfl rfl (by kernel_rfl) (by decide) (fun K hK => ?_)
    have hs153 : w152.cell? ⟨gb254, 0, none⟩ = some (.bool false) := (blk_cell BK254.out 0).trans rfl
    have hfs153 := blk_frozen BK254.out 0
    have hns153_1 := NB255_254.out
    have hns153_2 := NB266_254.out
    have hns153_3 := NB294_254.out
    have hms153_1 := NB254_255.out
    have hms153_2 := NB254_266.out
    have hms153_3 := NB254_294.out
    have hs154 : w152.cell? ⟨gb254, 1, none⟩ = some (.int .u64 0) := (blk_cell BK254.out 1).trans rfl
    have hfs154 := blk_frozen BK254.out 1
    have hns154_1 := NB255_254.out
    have hns154_2 := NB266_254.out
    have hns154_3 := NB294_254.out
    have hms154_1 := NB254_255.out
    have hms154_2 := NB254_266.out
    have hms154_3 := NB254_294.out
    have hs155 : w152.cell? ⟨gb254, 2, none⟩ = some (.int .u64 0) := (blk_cell BK254.out 2).trans rfl
    have hfs155 := blk_frozen BK254.out 2
    have hns155_1 := NB255_254.out
    have hns155_2 := NB266_254.out
    have hns155_3 := NB294_254.out
    have hms155_1 := NB254_255.out
    have hms155_2 := NB254_266.out
    have hms155_3 := NB254_294.out
    have hs156 : w152.cell? ⟨gb254, 3, none⟩ = some (.int .i64 0) := (blk_cell BK254.out 3).trans rfl
    have hfs156 := blk_frozen BK254.out 3
    have hns156_1 := NB255_254.out
    have hns156_2 := NB266_254.out
    have hns156_3 := NB294_254.out
    have hms156_1 := NB254_255.out
    have hms156_2 := NB254_266.out
    have hms156_3 := NB254_294.out
    refine skip_ (w1 := ?_) ?_ ?_ ?_ ?_
    rotate_left
    ·rfl
    ·rfl
    ·go_simp
     rfl
    refine hK.out _ _ ⟨(cfar_ hHeld.1), (cfar_ hHeld.2.1), (cfar_ hHeld.2.2.1), (cfar_ hHeld.2.2.2)⟩ (fun hHeld => ?_)
    clear hK K
    refine one_ (i := 4) (N := none) #[true, true, true, true, true] rfl rfl (by kernel_rfl) (by decide) (fun K hK => ?_)
    have hs157 : w152.cell? ⟨gb255, 0, none⟩ = some (.bool false) := (blk_cell BK255.out 0).trans rfl
    have hfs157 := blk_frozen BK255.out 0
    have hns157_0 := NB254_255.out
    have hns157_2 := NB266_255.out
    have hns157_3 := NB294_255.out
    have hms157_0 := NB255_254.out
    have hms157_2 := NB255_266.out
    have hms157_3 := NB255_294.out
    have hs158 : w152.cell? ⟨gb255, 1, none⟩ = some (.int .u64 0) := (blk_cell BK255.out 1).trans rfl
    have hfs158 := blk_frozen BK255.out 1
    have hns158_0 := NB254_255.out
    have hns158_2 := NB266_255.out
    have hns158_3 := NB294_255.out
    have hms158_0 := NB255_254.out
    have hms158_2 := NB255_266.out
    have hms158_3 := NB255_294.out
    have hs159 : w152.cell? ⟨gb255, 2, none⟩ = some (.int .u64 0) := (blk_cell BK255.out 2).trans rfl
    have hfs159 := blk_frozen BK255.out 2
    have hns159_0 := NB254_255.out
    have hns159_2 := NB266_255.out
    have hns159_3 := NB294_255.out
    have hms159_0 := NB255_254.out
    have hms159_2 := NB255_266.out
    have hms159_3 := NB255_294.out
    have hs160 : w152.cell? ⟨gb255, 3, none⟩ = some (.int .i64 0) := (blk_cell BK255.out 3).trans rfl
    have hfs160 := blk_frozen BK255.out 3
    have hns160_0 := NB254_255.out
    have hns160_2 := NB266_255.out
    have hns160_3 := NB294_255.out
    have hms160_0 := NB255_254.out
    have hms160_2 := NB255_266.out
    have hms160_3 := NB255_294.out
    refine skip_ (w1 := ?_) ?_ ?_ ?_ ?_
    rotate_left
    ·rfl
    ·rfl
    ·go_simp
     rfl
    refine hK.out _ _ ⟨(cfar_ hHeld.1), (cfar_ hHeld.2.1), (cfar_ hHeld.2.2.1), (cfar_ hHeld.2.2.2)⟩ (fun hHeld => ?_)
    clear hK K
    refine done_ (by kernel_rfl) ?_
    try go_wp2
    refine bodyPost_ret (results_cc rfl _ _ gb254 gb255 43 43 #[.bool t260, .int .u64 t261, .int .u64 t262, .int .i64 t263] #[.bool t295, .int .u64 t296, .int .u64 t297, .int .i64 t298] (0, 0) (0, 0) _ _ rfl (pu_ #[.bool t260, .int .u64 t261, .int .u64 t262, .int .i64 0] 3 (h := (pu_ #[.bool t260, .int .u64 t261, .int .u64 0, .int .i64 0] 2 (h := (pu_ #[.bool t260, .int .u64 0, .int .u64 0, .int .i64 0] 1 (h := (pu_ #[.bool false, .int .u64 0, .int .u64 0, .int .i64 0] 0 (h := bk_)))))))) Tryd.underlying43 rfl (by kernel_rfl) rfl (pu_ #[.bool t295, .int .u64 t296, .int .u64 t297, .int .i64 0] 3 (h := (pu_ #[.bool t295, .int .u64 t296, .int .u64 0, .int .i64 0] 2 (h := (pu_ #[.bool t295, .int .u64 0, .int .u64 0, .int .i64 0] 1 (h := (pu_ #[.bool false, .int .u64 0, .int .u64 0, .int .i64 0] 0 (h := bk_)))))))) Tryd.underlying43 rfl (by kernel_rfl)) rfl ?_
    exact ⟨rf_, belI_⟩
  ·rw [if_neg c99] at H
   have c99b0 : (t267 == 1) = false := beq_eq_false_iff_ne.mpr c99
   have c99b1 : (t267 != 1) = true := bne_iff_ne.mpr c99
   replace H := Option.bind_eq_some_iff.mp H
   obtain ⟨⟨t301, t302, t303, t304, t305, t306⟩, A1610, H⟩ := H
   replace H : (some (t260, t261, t262, t263, t301, t302, t303, t304)) = some (r1, r2, r3, r4, r5, r6, r7, r8) := H
   have A161 := Aside0.mk A1610
   clear A1610
   simp only [Option.some.injEq, Prod.mk.injEq] at H
   obtain ⟨rfl, rfl, rfl, rfl, rfl, rfl, rfl, rfl⟩ := H
   go_enter Tryd.func67, Tryd.ntmps67
   try go_wp2_with (first | ((with_reducible refine gate_dst (N := 2) rfl ?_); refine box_event ?hg (N := 2) ?hd (cs := #[.bool false, .int .u64 0, .int .u64 0, .int .i64 0]) (t := 43) ?hr ?_; (case hd => rfl); (case hg => rfl); (case hr => first | (go_simp; done) | (go_simp; rfl)); intro gb254 hg w162 hbox hb; have BK254 := Aside0.mk (hbox); have GW254 := bs_ (w := w) hg; have GE254 := bs_ (w := w) hg; replace HB := Aside0.mk (below_step bel_ hb); clear hb hbox hg) | ((with_reducible refine gate_dst (N := 3) rfl ?_); refine box_event ?hg (N := 3) ?hd (cs := #[.bool false, .int .u64 0, .int .u64 0, .int .i64 0]) (t := 43) ?hr ?_; (case hd => rfl); (case hg => rfl); (case hr => first | (go_simp; done) | (go_simp; rfl)); intro gb255 hg w163 hbox hb; have BK255 := Aside0.mk (hbox); have GW255 := bs_ (w := w) hg; have GE255 := bs_ (w := w) hg; have NB254_255 := nlt_ (g := gb254) hg; have NB255_254 := ngt_ (g := gb254) hg; replace HB := Aside0.mk (below_step bel_ hb); replace BK254 := bb_ (g := gb254) hb; clear hb hbox hg) | ((with_reducible refine gate_callee (f := 44) rfl ?_); refine goesL_ (some 11) rfl rfl Tryd.func44 (by kernel_rfl) rfl #[.slice A0 l0.length c0] rfl mp_ ?_; (with_reducible refine (spec_l1New.calls k _ _ l0 t256 t257 t258 w _ ?side1 ?side2 ?side3 A2.out).mono ?_); (case side1 => exact bel_); (case side2 => exact HR0.out); (case side3 => exact HC0.out); rintro e w164 ⟨g259, rfl, hi, hb, hb2⟩; refine ⟨_, rfl, ?_⟩; have HI259 := Aside0.mk (hi); have NB259_254 := Aside0.mk (IsS90.ne_blk hi (blk_below (g := gb254) (o := .cells #[.bool false, .int .u64 0, .int .u64 0, .int .i64 0] 43 (0, 0)) bk_ hb2) (by decide)); have NB254_259 := Aside0.mk (Ne.symm (IsS90.ne_blk hi (blk_below (g := gb254) (o := .cells #[.bool false, .int .u64 0, .int .u64 0, .int .i64 0] 43 (0, 0)) bk_ hb2) (by decide))); have NB259_255 := Aside0.mk (IsS90.ne_blk hi (blk_below (g := gb255) (o := .cells #[.bool false, .int .u64 0, .int .u64 0, .int .i64 0] 43 (0, 0)) bk_ hb2) (by decide)); have NB255_259 := Aside0.mk (Ne.symm (IsS90.ne_blk hi (blk_below (g := gb255) (o := .cells #[.bool false, .int .u64 0, .int .u64 0, .int .i64 0] 43 (0, 0)) bk_ hb2) (by decide))); replace HB := Aside0.mk (hb); replace BK254 := Aside0.mk (blk_below (g := gb254) (o := .cells #[.bool false, .int .u64 0, .int .u64 0, .int .i64 0] 43 (0, 0)) bk_ hb2); replace BK255 := Aside0.mk (blk_below (g := gb255) (o := .cells #[.bool false, .int .u64 0, .int .u64 0, .int .i64 0] 43 (0, 0)) bk_ hb2); (try clear hb); (try clear hb2); (try clear hk); (try clear hi)) | ((with_reducible refine gate_callee (f := 83) rfl ?_); refine goesL_ (some 13) rfl rfl Tryd.func83 (by kernel_rfl) rfl #[.pointer (some ⟨g259, 0, none⟩)] rfl mp_ ?_; (with_reducible refine (spec_l5Frac.calls k g259 t256 t257 t258 t260 t261 t262 t263 t264 t265 w _ ?side1 ?side2 A3.out).mono ?_); (case side1 => exact is_); (case side2 => exact belI_); rintro e w165 ⟨rfl, hi, hb, hk⟩; refine ⟨_, rfl, ?_⟩; replace HB := Aside0.mk (hb); replace BK254 := Aside0.mk (KeepBut.blk hk (g' := gb254) (o := .cells #[.bool false, .int .u64 0, .int .u64 0, .int .i64 0] 43 (0, 0)) bk_ NB254_259.out (by simp)); replace BK255 := Aside0.mk (KeepBut.blk hk (g' := gb255) (o := .cells #[.bool false, .int .u64 0, .int .u64 0, .int .i64 0] 43 (0, 0)) bk_ NB255_259.out (by simp)); replace HI259 := Aside0.mk (hi); (try clear hb); (try clear hb2); (try clear hk); (try clear hi)) | ((with_reducible refine gate_dst (N := 5) rfl ?_); refine box_event ?hg (N := 5) ?hd (cs := #[.bool false, .int .u64 0, .int .u64 0, .int .i64 0]) (t := 43) ?hr ?_; (case hd => rfl); (case hg => rfl); (case hr => first | (go_simp; done) | (go_simp; rfl)); intro gb266 hg w166 hbox hb; have BK266 := Aside0.mk (hbox); have GW266 := Aside0.mk ((by rw [hg]; exact (below_size (belI_)) : w.heap.size ≤ gb266)); have GE266 := Aside0.mk ((by rw [hg]; exact (below_size (belI_)) : w.heap.size ≤ gb266)); have NB254_266 := nlt_ (g := gb254) hg; have NB266_254 := ngt_ (g := gb254) hg; have NB255_266 := nlt_ (g := gb255) hg; have NB266_255 := ngt_ (g := gb255) hg; have NB259_266 := Aside0.mk ((by rw [hg]; exact Nat.ne_of_lt (IsS90.lt (show IsS90 w _ g259 t256 t264 t265 from is_)) : g259 ≠ gb266)); have NB266_259 := Aside0.mk ((by rw [hg]; exact Nat.ne_of_gt (IsS90.lt (show IsS90 w _ g259 t256 t264 t265 from is_)) : gb266 ≠ g259)); replace HB := Aside0.mk (below_step (belI_) hb); replace BK254 := bb_ (g := gb254) hb; replace BK255 := bb_ (g := gb255) hb; replace HI259 := Aside0.mk (IsS90.below (is_) hb); clear hb hbox hg; have hnb167 := NB266_254.out; have hnc167 := NB254_266.out; have hnb168 := NB266_255.out; have hnc168 := NB255_266.out; have hnb169 := NB266_259.out; have hnc169 := NB259_266.out; obtain ⟨hcz170_0, hcz170_1, hcz170_2, hcz170_3, hfz170_0, hfz170_1, hfz170_2, hfz170_3⟩ := cf4_ (w := w166) BK266.out) | ((with_reducible refine gate_callee (f := 52) rfl ?_); refine goesL_ (some 15) rfl rfl Tryd.func52 (by kernel_rfl) rfl #[.pointer (some ⟨g259, 0, none⟩), .int .i64 4] rfl mp_ ?_; (with_reducible refine (spec_l1Below.calls g259 t256 t264 t265 4 t267 t268 t269 w _ ?side1 ?side2 A4.out).mono ?_); (case side1 => exact is_); (case side2 => exact belI_); rintro e w171 ⟨rfl, hi, hb, hk⟩; refine ⟨_, rfl, ?_⟩; replace HB := Aside0.mk (hb); replace BK254 := Aside0.mk (KeepBut.blk hk (g' := gb254) (o := .cells #[.bool false, .int .u64 0, .int .u64 0, .int .i64 0] 43 (0, 0)) bk_ NB254_259.out (by simp)); replace BK255 := Aside0.mk (KeepBut.blk hk (g' := gb255) (o := .cells #[.bool false, .int .u64 0, .int .u64 0, .int .i64 0] 43 (0, 0)) bk_ NB255_259.out (by simp)); replace BK266 := Aside0.mk (KeepBut.blk hk (g' := gb266) (o := .cells #[.bool t260, .int .u64 t261, .int .u64 t262, .int .i64 t263] 43 (0, 0)) (pu_ #[.bool t260, .int .u64 t261, .int .u64 t262, .int .i64 0] 3 (h := (pu_ #[.bool t260, .int .u64 t261, .int .u64 0, .int .i64 0] 2 (h := (pu_ #[.bool t260, .int .u64 0, .int .u64 0, .int .i64 0] 1 (h := (pu_ #[.bool false, .int .u64 0, .int .u64 0, .int .i64 0] 0 (h := bk_)))))))) NB266_259.out (by simp)); replace HI259 := Aside0.mk (hi); (try clear hb); (try clear hb2); (try clear hk); (try clear hi)))
   replace HB := Aside0.mk (below_drew1 HB.out)
   replace BK254 := Aside0.mk (blk_drew BK254.out)
   replace BK255 := Aside0.mk (blk_drew BK255.out)
   replace BK266 := Aside0.mk (blk_drew BK266.out)
   replace HI259 := Aside0.mk (IsS90.drew HI259.out)
   refine start_ (n := 5) (S := fun w' => w'.cell? ⟨gb266, 0, none⟩ = some (.bool t260) ∧ w'.cell? ⟨gb266, 1, none⟩ = some (.int .u64 t261) ∧ w'.cell? ⟨gb266, 2, none⟩ = some (.int .u64 t262) ∧ w'.cell? ⟨gb266, 3, none⟩ = some (.int .i64 t263)) (ds := []) #[false, false, false, false, false] (by kernel_rfl) rfl rfl ⟨bc_, bc_, bc_, bc_⟩ (fun hHeld => ?_)
   generalize w171.drew = w172 at BK254 BK255 BK266 HI259 HB hHeld ⊢
   refine pure_ (i := 1) (N := some 52) (v := ?_) (a' := ?_) #[false, true, false, false, false] rfl rfl (by kernel_rfl) (fun _ _ _ h => h) (Or.inl ⟨by rfl, ?_⟩) ?_ ?_
   rotate_left
   ·intro w'
    go_simp
    with_reducible rfl
   rotate_left
   ·simp only [Act.put, la_, lb_, lc_, i64_w, i32_w]
    rfl
   refine take_ (i := 0) (N := some 51) (v := ?_) (a' := ?_) #[true, true, false, false, false] rfl rfl (by kernel_rfl) (fun _ _ _ h => h) (Or.inl ⟨by rfl, ?_⟩) hHeld ?_ ?_
   rotate_left
   ·rintro w' ⟨s0, s1, s2, s3⟩
    go_simp
    with_reducible rfl
   rotate_left
   ·simp only [Act.put, la_, lb_, lc_, i64_w, i32_w]
    rfl
   refine one_ (i := 2) (N := some 53) #[true, true, true, false, false] rfl rfl (by kernel_rfl) (by decide) (fun K hK => ?_)
   refine goes_ Tryd.func83 (by kernel_rfl) rfl #[.pointer (some ⟨g259, 0, none⟩)] (by rfl) rfl rfl mp_ ?_
   with_reducible refine (spec_l5Frac.calls k g259 t256 t268 t269 t301 t302 t303 t304 t305 t306 w _ ?side1 ?side2 A161.out).mono ?_
   (case side1 => exact is_)
   (case side2 => exact belI_)
   rintro e w173 ⟨rfl, hi, hb, hk⟩
   refine ⟨_, rfl, ?_⟩
   replace HB := Aside0.mk (hb)
   replace BK254 := Aside0.mk (KeepBut.blk hk (g' := gb254) (o := .cells #[.bool false, .int .u64 0, .int .u64 0, .int .i64 0] 43 (0, 0)) bk_ NB254_259.out (by simp))
   replace BK255 := Aside0.mk (KeepBut.blk hk (g' := gb255) (o := .cells #[.bool false, .int .u64 0, .int .u64 0, .int .i64 0] 43 (0, 0)) bk_ NB255_259.out (by simp))
   replace BK266 := Aside0.mk (KeepBut.blk hk (g' := gb266) (o := .cells #[.bool t260, .int .u64 t261, .int .u64 t262, .int .i64 t263] 43 (0, 0)) bk_ NB266_259.out (by simp))
   replace HI259 := Aside0.mk (hi)
   (try clear hb)
   (try clear hb2)
   (try clear hk)
   (try clear hi)
   refine hK.out _ _ ⟨bc_, bc_, bc_, bc_⟩ (fun hHeld => ?_)
   clear hK K
   refine norm_ (a' := ?_) ?_ ?_
   rotate_left
   ·show Act.put _ (some 53) _ = _
    simp only [Act.put, la_, lb_, lc_, i64_w, i32_w]
    rfl
   refine one_ (i := 3) (N := none) #[true, true, true, true, false] rfl rfl (by kernel_rfl) (by decide) (fun K hK => ?_)
   have hs174 : w173.cell? ⟨gb254, 0, none⟩ = some (.bool false) := (blk_cell BK254.out 0).trans rfl
   have hfs174 := blk_frozen BK254.out 0
   have hns174_1 := NB255_254.out
   have hns174_2 := NB266_254.out
   have hms174_1 := NB254_255.out
   have hms174_2 := NB254_266.out
   have hs175 : w173.cell? ⟨gb254, 1, none⟩ = some (.int .u64 0) := (blk_cell BK254.out 1).trans rfl
   have hfs175 := blk_frozen BK254.out 1
   have hns175_1 := NB255_254.out
   have hns175_2 := NB266_254.out
   have hms175_1 := NB254_255.out
   have hms175_2 := NB254_266.out
   have hs176 : w173.cell? ⟨gb254, 2, none⟩ = some (.int .u64 0) := (blk_cell BK254.out 2).trans rfl
   have hfs176 := blk_frozen BK254.out 2
   have hns176_1 := NB255_254.out
   have hns176_2 := NB266_254.out
   have hms176_1 := NB254_255.out
   have hms176_2 := NB254_266.out
   have hs177 : w173.cell? ⟨gb254, 3, none⟩ = some (.int .i64 0) := (blk_cell BK254.out 3).trans rfl
   have hfs177 := blk_frozen BK254.out 3
   have hns177_1 := NB255_254.out
   have hns177_2 := NB266_254.out
   have hms177_1 := NB254_255.out
   have hms177_2 := NB254_266.out
   refine skip_ (w1 := ?_) ?_ ?_ ?_ ?_
   rotate_left
   ·rfl
   ·rfl
   ·go_simp
    rfl
   refine hK.out _ _ ⟨(cfar_ hHeld.1), (cfar_ hHeld.2.1), (cfar_ hHeld.2.2.1), (cfar_ hHeld.2.2.2)⟩ (fun hHeld => ?_)
   clear hK K
   refine one_ (i := 4) (N := none) #[true, true, true, true, true] rfl rfl (by kernel_rfl) (by decide) (fun K hK => ?_)
   have hs178 : w173.cell? ⟨gb255, 0, none⟩ = some (.bool false) := (blk_cell BK255.out 0).trans rfl
   have hfs178 := blk_frozen BK255.out 0
   have hns178_0 := NB254_255.out
   have hns178_2 := NB266_255.out
   have hms178_0 := NB255_254.out
   have hms178_2 := NB255_266.out
   have hs179 : w173.cell? ⟨gb255, 1, none⟩ = some (.int .u64 0) := (blk_cell BK255.out 1).trans rfl
   have hfs179 := blk_frozen BK255.out 1
   have hns179_0 := NB254_255.out
   have hns179_2 := NB266_255.out
   have hms179_0 := NB255_254.out
   have hms179_2 := NB255_266.out
   have hs180 : w173.cell? ⟨gb255, 2, none⟩ = some (.int .u64 0) := (blk_cell BK255.out 2).trans rfl
   have hfs180 := blk_frozen BK255.out 2
   have hns180_0 := NB254_255.out
   have hns180_2 := NB266_255.out
   have hms180_0 := NB255_254.out
   have hms180_2 := NB255_266.out
   have hs181 : w173.cell? ⟨gb255, 3, none⟩ = some (.int .i64 0) := (blk_cell BK255.out 3).trans rfl
   have hfs181 := blk_frozen BK255.out 3
   have hns181_0 := NB254_255.out
   have hns181_2 := NB266_255.out
   have hms181_0 := NB255_254.out
   have hms181_2 := NB255_266.out
   refine skip_ (w1 := ?_) ?_ ?_ ?_ ?_
   rotate_left
   ·rfl
   ·rfl
   ·go_simp
    rfl
   refine hK.out _ _ ⟨(cfar_ hHeld.1), (cfar_ hHeld.2.1), (cfar_ hHeld.2.2.1), (cfar_ hHeld.2.2.2)⟩ (fun hHeld => ?_)
   clear hK K
   refine done_ (by kernel_rfl) ?_
   try go_wp2
   refine bodyPost_ret (results_cc rfl _ _ gb254 gb255 43 43 #[.bool t260, .int .u64 t261, .int .u64 t262, .int .i64 t263] #[.bool t301, .int .u64 t302, .int .u64 t303, .int .i64 t304] (0, 0) (0, 0) _ _ rfl (pu_ #[.bool t260, .int .u64 t261, .int .u64 t262, .int .i64 0] 3 (h := (pu_ #[.bool t260, .int .u64 t261, .int .u64 0, .int .i64 0] 2 (h := (pu_ #[.bool t260, .int .u64 0, .int .u64 0, .int .i64 0] 1 (h := (pu_ #[.bool false, .int .u64 0, .int .u64 0, .int .i64 0] 0 (h := bk_)))))))) Tryd.underlying43 rfl (by kernel_rfl) rfl (pu_ #[.bool t301, .int .u64 t302, .int .u64 t303, .int .i64 0] 3 (h := (pu_ #[.bool t301, .int .u64 t302, .int .u64 0, .int .i64 0] 2 (h := (pu_ #[.bool t301, .int .u64 0, .int .u64 0, .int .i64 0] 1 (h := (pu_ #[.bool false, .int .u64 0, .int .u64 0, .int .i64 0] 0 (h := bk_)))))))) Tryd.underlying43 rfl (by kernel_rfl)) rfl ?_
   exact ⟨rf_, belI_⟩
end Go.Proofs.YtkpgpifkbdpnkaaDoor.PFnFracSum
