/- Contracts of Go functions, each with the Lean function that says what it computes: begun by the print, turned by this session. No condition beyond what each theorem states. -/
import Derived.Test.YtkpgpifkbdpnkaaDoorPFnFracSumx0
import Derived.Test.YtkpgpifkbdpnkaaDoorPFnFracSumx2
import Derived.Test.YtkpgpifkbdpnkaaDoorPFnFracSumx5
namespace Go.Proofs.YtkpgpifkbdpnkaaDoor.PFnFracSum
open Go.RowKit Go.Proofs.YtkpgpifkbdpnkaaDoorVFnFracSum.PrintWords Go.Proofs.YtkpgpifkbdpnkaaDoorVFnFracSum.PrintLast Go.Proofs.YtkpgpifkbdpnkaaDoorVFnFracSum.PrintMore
attribute [local go_sem] max2_int min2_int max_two min_two max_three min_three max_four min_four   -- for this text's walks alone
set_option linter.unusedVariables false
set_option linter.unusedSimpArgs false
/-! ### spec_l5Frac: function 83 -/
def spec_l5Frac.j0 : Nat → Bool → List Int → Int → Int → Bool → Int → Int → Int → Option (Bool × Int × Int × Int × Int × Int)
 | 0, _, _, _, _, _, _, _, _ => none
 | k + 1, x19, x1000, x1001, x1002, x240000, x240001, x240002, x240003 => if x19 = true then ((spec_l3Wide.f k x1000 x1001 x1002).bind fun bt243 => ((spec_l1PickInt.f x1000 bt243.2.2.2.1 bt243.2.2.2.2 (([1, 2, 3, 999, 1000, 1001, 1000000, 1000001, 0, (-1), 9223372036854775807] : List Int))).bind fun bt251 => (some (bt243.1, bt243.2.1, bt243.2.2.1, bt251.1, bt251.2.1, bt251.2.2)))) else (some (x240000, x240001, x240002, x240003, x1001, x1002))
def spec_l5Frac.f (k : Nat) (s0_0 : List Int) (s0_1 : Int) (s0_2 : Int) : Option (Bool × Int × Int × Int × Int × Int) := (spec_l1Whole.f k s0_0 s0_1 s0_2).bind fun bt228 => ((spec_l1Below.f s0_0 bt228.2.1 bt228.2.2 140).bind fun bt231 => ((spec_SquareOver.f bt228.1 (wrap64 (1 + bt231.1))).bind fun bt234 => (if bt234.2.2.2.2 = true then ((spec_l1Once.f s0_0 bt231.2.1 bt231.2.2 5).bind fun bt240 => (spec_l5Frac.j0 k bt240.1 s0_0 bt240.2.1 bt240.2.2 bt234.1 bt234.2.1 bt234.2.2.1 bt234.2.2.2.1)) else (spec_l5Frac.j0 k true s0_0 bt231.2.1 bt231.2.2 bt234.1 bt234.2.1 bt234.2.2.1 bt234.2.2.2.1))))
theorem spec_l5Frac.mono_l : ∀ k, (∀ y0 y1 y2 y3 y4 y5 y6 y7, LeO (spec_l5Frac.j0 k y0 y1 y2 y3 y4 y5 y6 y7) (spec_l5Frac.j0 (k + 1) y0 y1 y2 y3 y4 y5 y6 y7))
 | 0 => fun _ _ _ _ _ _ _ _ r h => by simp [spec_l5Frac.j0] at h
 | k + 1 => by
  have ih0 := spec_l5Frac.mono_l k
  ·intro y0 y1 y2 y3 y4 y5 y6 y7
   unfold spec_l5Frac.j0
   repeat' first
   | (with_reducible exact ih0 _ _ _ _ _ _ _ _)
   | (with_reducible exact spec_l1Whole.mono _ _ _ _)
   | (with_reducible exact spec_l3Wide.mono _ _ _ _)
   | (with_reducible exact LeO.refl _)
   | (with_reducible exact LeO.none _)
   | (with_reducible refine LeO.ite ?_ ?_)
   | (with_reducible refine LeO.bind ?_ (fun _ => ?_))
   | exact ih0 _ _ _ _ _ _ _ _
   | exact spec_l1Whole.mono _ _ _ _
   | exact spec_l3Wide.mono _ _ _ _
   | exact LeO.none _
   | refine LeO.ite ?_ ?_
   | refine LeO.bind ?_ (fun _ => ?_)
theorem spec_l5Frac.mono : ∀ a0 a1 a2 k, LeO (spec_l5Frac.f k a0 a1 a2) (spec_l5Frac.f (k + 1) a0 a1 a2) := by
 intro a0 a1 a2 k
 have ih0 := spec_l5Frac.mono_l k
 unfold spec_l5Frac.f
 repeat' first
   | (with_reducible exact ih0 _ _ _ _ _ _ _ _)
   | (with_reducible exact spec_l1Whole.mono _ _ _ _)
   | (with_reducible exact spec_l3Wide.mono _ _ _ _)
   | (with_reducible exact LeO.refl _)
   | (with_reducible exact LeO.none _)
   | (with_reducible refine LeO.ite ?_ ?_)
   | (with_reducible refine LeO.bind ?_ (fun _ => ?_))
   | exact ih0 _ _ _ _ _ _ _ _
   | exact spec_l1Whole.mono _ _ _ _
   | exact spec_l3Wide.mono _ _ _ _
   | exact LeO.none _
   | refine LeO.ite ?_ ?_
   | refine LeO.bind ?_ (fun _ => ?_)
set_option maxHeartbeats 8000000 in
set_option maxRecDepth 100000 in
theorem spec_l5Frac.calls (k : Nat) (g : Nat) (s0_0 : List Int) (s0_1 : Int) (s0_2 : Int) (r1 : Bool) (r2 : Int) (r3 : Int) (r4 : Int) (r5 : Int) (r6 : Int) (w0 w : World) (hI : IsS90 w0 w g s0_0 s0_1 s0_2) (hB : Below w0.heap.size w0 w) (h : spec_l5Frac.f k s0_0 s0_1 s0_2 = some (r1, r2, r3, r4, r5, r6)) :
  Calls Tryd.prog 83 #[.pointer (some ⟨g, 0, none⟩)] w fun e w' => e = .returned (.agg #[.bool r1, .int .u64 r2, .int .u64 r3, .int .i64 r4]) ∧ IsS90 w0 w' g s0_0 r5 r6 ∧ Below w0.heap.size w0 w' ∧ KeepBut w w' g none := by
 have hu43 := Tryd.underlying43
 have HI0 := Aside0.mk hI
 have HK := Aside0.mk (KeepBut.refl w g none)
 have HL := Aside0.mk hB.size
 clear hI
 have HW0 := Aside0.mk hB.size
 have HB := Aside0.mk hB
 clear hB
 have H : ((spec_l1Whole.f k s0_0 s0_1 s0_2).bind fun bt228 => ((spec_l1Below.f s0_0 bt228.2.1 bt228.2.2 140).bind fun bt231 => ((spec_SquareOver.f bt228.1 (wrap64 (1 + bt231.1))).bind fun bt234 => (if bt234.2.2.2.2 = true then ((spec_l1Once.f s0_0 bt231.2.1 bt231.2.2 5).bind fun bt240 => (spec_l5Frac.j0 k bt240.1 s0_0 bt240.2.1 bt240.2.2 bt234.1 bt234.2.1 bt234.2.2.1 bt234.2.2.2.1)) else (spec_l5Frac.j0 k true s0_0 bt231.2.1 bt231.2.2 bt234.1 bt234.2.1 bt234.2.2.1 bt234.2.2.2.1))))) = some (r1, r2, r3, r4, r5, r6) := h
 clear h
 replace H := Option.bind_eq_some_iff.mp H
 obtain ⟨⟨t228, t229, t230⟩, A20, H⟩ := H
 replace H : ((spec_l1Below.f s0_0 t229 t230 140).bind fun bt231 => ((spec_SquareOver.f t228 (wrap64 (1 + bt231.1))).bind fun bt234 => (if bt234.2.2.2.2 = true then ((spec_l1Once.f s0_0 bt231.2.1 bt231.2.2 5).bind fun bt240 => (spec_l5Frac.j0 k bt240.1 s0_0 bt240.2.1 bt240.2.2 bt234.1 bt234.2.1 bt234.2.2.1 bt234.2.2.2.1)) else (spec_l5Frac.j0 k true s0_0 bt231.2.1 bt231.2.2 bt234.1 bt234.2.1 bt234.2.2.1 bt234.2.2.2.1)))) = some (r1, r2, r3, r4, r5, r6) := H
 have A2 := Aside0.mk A20
 clear A20
 replace H := Option.bind_eq_some_iff.mp H
 obtain ⟨⟨t231, t232, t233⟩, A30, H⟩ := H
 replace H : ((spec_SquareOver.f t228 (wrap64 (1 + t231))).bind fun bt234 => (if bt234.2.2.2.2 = true then ((spec_l1Once.f s0_0 t232 t233 5).bind fun bt240 => (spec_l5Frac.j0 k bt240.1 s0_0 bt240.2.1 bt240.2.2 bt234.1 bt234.2.1 bt234.2.2.1 bt234.2.2.2.1)) else (spec_l5Frac.j0 k true s0_0 t232 t233 bt234.1 bt234.2.1 bt234.2.2.1 bt234.2.2.2.1))) = some (r1, r2, r3, r4, r5, r6) := H
 have A3 := Aside0.mk A30
 clear A30
 replace H := Option.bind_eq_some_iff.mp H
 obtain ⟨⟨t234, t235, t236, t237, t238⟩, A40, H⟩ := H
 replace H : (if t238 = true then ((spec_l1Once.f s0_0 t232 t233 5).bind fun bt240 => (spec_l5Frac.j0 k bt240.1 s0_0 bt240.2.1 bt240.2.2 t234 t235 t236 t237)) else (spec_l5Frac.j0 k true s0_0 t232 t233 t234 t235 t236 t237)) = some (r1, r2, r3, r4, r5, r6) := H
 have A4 := Aside0.mk A40
 clear A40
 have HC5 := Aside0.mk H
 clear H
 go_enter Tryd.func83, Tryd.ntmps83
 go_upto_region 2 with (first | ((with_reducible refine gate_dst (N := 2) rfl ?_); refine box_event ?hg (N := 2) ?hd (cs := #[.bool false, .int .u64 0, .int .u64 0, .int .i64 0]) (t := 43) ?hr ?_; (case hd => rfl); (case hg => rfl); (case hr => first | (go_simp; done) | (go_simp; rfl)); intro gb227 hg w6 hbox hb; have BK227 := Aside0.mk (hbox); have GW227 := Aside0.mk ((by rw [hg]; exact (keep_size (w := w) (g := g) (row := none) (kw_ (w := w))) : w.heap.size ≤ gb227)); have GE227 := Aside0.mk ((Nat.le_trans HW0.out (by rw [hg]; exact (keep_size (w := w) (g := g) (row := none) (kw_ (w := w))) : w.heap.size ≤ gb227) : w0.heap.size ≤ gb227)); have NB0_227 := Aside0.mk ((by rw [hg]; exact Nat.ne_of_lt (IsS90.lt (show IsS90 w0 _ g s0_0 s0_1 s0_2 from is_)) : g ≠ gb227)); have NB227_0 := Aside0.mk ((by rw [hg]; exact Nat.ne_of_gt (IsS90.lt (show IsS90 w0 _ g s0_0 s0_1 s0_2 from is_)) : gb227 ≠ g)); replace HB := Aside0.mk (below_step (belI_) hb); replace HI0 := Aside0.mk (IsS90.below (is_) hb); replace HK := Aside0.mk (KeepBut.trans (kw_ (w := w)) (KeepBut.of_below hb g none) (.inl rfl)); clear hb hbox hg) | ((with_reducible refine gate_callee (f := 43) rfl ?_); refine goesL_ (some 7) rfl rfl Tryd.func43 (by kernel_rfl) rfl #[.pointer (some ⟨g, 0, none⟩)] rfl mp_ ?_; (with_reducible refine (spec_l1Whole.calls k g s0_0 s0_1 s0_2 t228 t229 t230 w0 _ ?side1 ?side2 A2.out).mono ?_); (case side1 => exact is_); (case side2 => exact belI_); rintro e w7 ⟨rfl, hi, hb, hk⟩; refine ⟨_, rfl, ?_⟩; replace HB := Aside0.mk (hb); replace BK227 := Aside0.mk (KeepBut.blk hk (g' := gb227) (o := .cells #[.bool false, .int .u64 0, .int .u64 0, .int .i64 0] 43 (0, 0)) bk_ NB227_0.out (by simp)); replace HK := Aside0.mk (KeepBut.trans (kw_ (w := w)) hk (.inl rfl)); replace HI0 := Aside0.mk (hi); (try clear hb); (try clear hb2); (try clear hk); (try clear hi)) | ((with_reducible refine gate_callee (f := 52) rfl ?_); refine goesL_ (some 9) rfl rfl Tryd.func52 (by kernel_rfl) rfl #[.pointer (some ⟨g, 0, none⟩), .int .i64 140] rfl mp_ ?_; (with_reducible refine (spec_l1Below.calls g s0_0 t229 t230 140 t231 t232 t233 w0 _ ?side1 ?side2 A3.out).mono ?_); (case side1 => exact is_); (case side2 => exact belI_); rintro e w8 ⟨rfl, hi, hb, hk⟩; refine ⟨_, rfl, ?_⟩; replace HB := Aside0.mk (hb); replace BK227 := Aside0.mk (KeepBut.blk hk (g' := gb227) (o := .cells #[.bool false, .int .u64 0, .int .u64 0, .int .i64 0] 43 (0, 0)) bk_ NB227_0.out (by simp)); replace HK := Aside0.mk (KeepBut.trans (kw_ (w := w)) hk (.inl rfl)); replace HI0 := Aside0.mk (hi); (try clear hb); (try clear hb2); (try clear hk); (try clear hi)) | ((with_reducible refine gate_callee (f := 111) rfl ?_); refine goesL_ (some 11) rfl rfl Tryd.func111 (by kernel_rfl) rfl #[.int .i64 t228, .int .i64 (wrap64 (1 + t231))] rfl mp_ ?_; (with_reducible refine (spec_SquareOver.calls t228 (wrap64 (1 + t231)) t234 t235 t236 t237 t238 _ A4.out).mono ?_); rintro e w9 ⟨rfl, hb⟩; refine ⟨_, rfl, ?_⟩; replace HB := Aside0.mk (below_step (belI_) hb); replace HI0 := Aside0.mk (IsS90.below (is_) hb); replace BK227 := bb_ (g := gb227) hb; replace HK := Aside0.mk (KeepBut.trans (kw_ (w := w)) (KeepBut.of_below hb g none) (.inl rfl)); (try clear hb); (try clear hb2); (try clear hk); (try clear hi)) | ((with_reducible refine gate_dst (N := 3) rfl ?_); refine box_event ?hg (N := 3) ?hd (cs := #[.bool false, .int .u64 0, .int .u64 0, .int .i64 0]) (t := 43) ?hr ?_; (case hd => rfl); (case hg => rfl); (case hr => first | (go_simp; done) | (go_simp; rfl)); intro gb239 hg w10 hbox hb; have BK239 := Aside0.mk (hbox); have GW239 := Aside0.mk ((by rw [hg]; exact (keep_size (w := w) (g := g) (row := none) (kw_ (w := w))) : w.heap.size ≤ gb239)); have GE239 := Aside0.mk ((Nat.le_trans HW0.out (by rw [hg]; exact (keep_size (w := w) (g := g) (row := none) (kw_ (w := w))) : w.heap.size ≤ gb239) : w0.heap.size ≤ gb239)); have NB227_239 := nlt_ (g := gb227) hg; have NB239_227 := ngt_ (g := gb227) hg; have NB0_239 := Aside0.mk ((by rw [hg]; exact Nat.ne_of_lt (IsS90.lt (show IsS90 w0 _ g s0_0 t232 t233 from is_)) : g ≠ gb239)); have NB239_0 := Aside0.mk ((by rw [hg]; exact Nat.ne_of_gt (IsS90.lt (show IsS90 w0 _ g s0_0 t232 t233 from is_)) : gb239 ≠ g)); replace HB := Aside0.mk (below_step (belI_) hb); replace HI0 := Aside0.mk (IsS90.below (is_) hb); replace BK227 := bb_ (g := gb227) hb; replace HK := Aside0.mk (KeepBut.trans (kw_ (w := w)) (KeepBut.of_below hb g none) (.inl rfl)); clear hb hbox hg; have hnb11 := NB239_227.out; have hnc11 := NB227_239.out; have hnb12 := NB239_0.out; have hnc12 := NB0_239.out; obtain ⟨hcz13_0, hcz13_1, hcz13_2, hcz13_3, hfz13_0, hfz13_1, hfz13_2, hfz13_3⟩ := cf4_ (w := w10) BK239.out))
 (try simp only [Act.put, la_, lb_, lc_])
 go_cut [19] (fun v19 wc => ∃ (kq : Nat) (x19_4 : Bool) (x1001_4 : Int) (x1002_4 : Int), v19 = .bool x19_4 ∧ Aside0 (spec_l5Frac.j0 kq x19_4 s0_0 x1001_4 x1002_4 t234 t235 t236 t237 = some (r1, r2, r3, r4, r5, r6)) ∧ Aside0 (kq ≤ k) ∧ Aside0 (wc.heap[gb227]? = some (.cells #[.bool false, .int .u64 0, .int .u64 0, .int .i64 0] 43 (0, 0))) ∧ Aside0 (wc.heap[gb239]? = some (.cells #[.bool t234, .int .u64 t235, .int .u64 t236, .int .i64 t237] 43 (0, 0))) ∧ Aside0 (IsS90 w0 wc g s0_0 x1001_4 x1002_4) ∧ Aside0 (KeepBut w wc g none) ∧ Aside0 (Below w0.heap.size w0 wc))
 case first =>
  have H := HC5.out
  clear HC5
  by_cases c14 : t238 = true
  ·subst c14
   have H1 : ((spec_l1Once.f s0_0 t232 t233 5).bind fun bt240 => (spec_l5Frac.j0 k bt240.1 s0_0 bt240.2.1 bt240.2.2 t234 t235 t236 t237)) = some (r1, r2, r3, r4, r5, r6) := by rw [if_pos rfl] at H; exact H
   clear H
   have H := H1
   clear H1
   replace H := Option.bind_eq_some_iff.mp H
   obtain ⟨⟨t240, t241, t242⟩, A150, H⟩ := H
   replace H : (spec_l5Frac.j0 k t240 s0_0 t241 t242 t234 t235 t236 t237) = some (r1, r2, r3, r4, r5, r6) := H
   have A15 := Aside0.mk A150
   clear A150
   have H' := Aside0.mk H
   clear H
   go_wp2_with (first | (go_at_call 51; (with_reducible refine (spec_l1Once.calls g s0_0 t232 t233 5 t240 t241 t242 w0 _ ?side1 ?side2 A15.out).mono ?_); (case side1 => exact is_); (case side2 => exact belI_); rintro e w16 ⟨rfl, hi, hb, hk⟩; replace HB := Aside0.mk (hb); replace BK227 := Aside0.mk (KeepBut.blk hk (g' := gb227) (o := .cells #[.bool false, .int .u64 0, .int .u64 0, .int .i64 0] 43 (0, 0)) bk_ NB227_0.out (by simp)); replace BK239 := Aside0.mk (KeepBut.blk hk (g' := gb239) (o := .cells #[.bool t234, .int .u64 t235, .int .u64 t236, .int .i64 t237] 43 (0, 0)) (pu_ #[.bool t234, .int .u64 t235, .int .u64 t236, .int .i64 0] 3 (h := (pu_ #[.bool t234, .int .u64 t235, .int .u64 0, .int .i64 0] 2 (h := (pu_ #[.bool t234, .int .u64 0, .int .u64 0, .int .i64 0] 1 (h := (pu_ #[.bool false, .int .u64 0, .int .u64 0, .int .i64 0] 0 (h := bk_)))))))) NB239_0.out (by simp)); replace HK := Aside0.mk (KeepBut.trans (kw_ (w := w)) hk (.inl rfl)); replace HI0 := Aside0.mk (hi); (try clear hb); (try clear hb2); (try clear hk); (try clear hi)))
   go_meet
   case rel => exact ⟨_, (t240), (t241), (t242), (by first | rfl | (simp; done) | (simp [*]; done)), H', ⟨by first | omega | exact Nat.le_refl _⟩, ⟨by (with_reducible repeat (first | refine bN_ _ ?_ | refine bd_ ?_ | refine ba_ _ ?_)); exact BK227.out⟩, ⟨by (with_reducible repeat (first | refine bN_ _ ?_ | refine bd_ ?_ | refine ba_ _ ?_)); exact BK239.out⟩, ⟨is_⟩, ⟨kw_ (w := w)⟩, ⟨belI_⟩⟩
  ·replace c14 := Bool.eq_false_iff.mpr c14
   subst c14
   have H1 : (spec_l5Frac.j0 k true s0_0 t232 t233 t234 t235 t236 t237) = some (r1, r2, r3, r4, r5, r6) := by rw [if_neg (show ¬ (false = true) by decide)] at H; exact H
   clear H
   have H := H1
   clear H1
   have H' := Aside0.mk H
   clear H
   go_wp2
   go_meet
   case rel => exact ⟨_, (true), (t232), (t233), (by first | rfl | (simp; done) | (simp [*]; done)), H', ⟨by first | omega | exact Nat.le_refl _⟩, ⟨by (with_reducible repeat (first | refine bN_ _ ?_ | refine bd_ ?_ | refine ba_ _ ?_)); refine blk_far ?_ NB227_239.out _; (with_reducible repeat (first | refine bN_ _ ?_ | refine bd_ ?_ | refine ba_ _ ?_)); refine blk_far ?_ NB227_239.out _; (with_reducible repeat (first | refine bN_ _ ?_ | refine bd_ ?_ | refine ba_ _ ?_)); refine blk_far ?_ NB227_239.out _; (with_reducible repeat (first | refine bN_ _ ?_ | refine bd_ ?_ | refine ba_ _ ?_)); refine blk_far ?_ NB227_239.out _; (with_reducible repeat (first | refine bN_ _ ?_ | refine bd_ ?_ | refine ba_ _ ?_)); exact BK227.out⟩, ⟨by (with_reducible repeat (first | refine bN_ _ ?_ | refine bd_ ?_ | refine ba_ _ ?_)); refine blk_put (cs := #[.bool t234, .int .u64 t235, .int .u64 t236, .int .i64 0]) ?_ 3 _ rfl; (with_reducible repeat (first | refine bN_ _ ?_ | refine bd_ ?_ | refine ba_ _ ?_)); refine blk_put (cs := #[.bool t234, .int .u64 t235, .int .u64 0, .int .i64 0]) ?_ 2 _ rfl; (with_reducible repeat (first | refine bN_ _ ?_ | refine bd_ ?_ | refine ba_ _ ?_)); refine blk_put (cs := #[.bool t234, .int .u64 0, .int .u64 0, .int .i64 0]) ?_ 1 _ rfl; (with_reducible repeat (first | refine bN_ _ ?_ | refine bd_ ?_ | refine ba_ _ ?_)); refine blk_put (cs := #[.bool false, .int .u64 0, .int .u64 0, .int .i64 0]) ?_ 0 _ rfl; (with_reducible repeat (first | refine bN_ _ ?_ | refine bd_ ?_ | refine ba_ _ ?_)); exact BK239.out⟩, ⟨is_⟩, ⟨kw_ (w := w)⟩, ⟨belI_⟩⟩
 case rest =>
  clear HC5
  try clear c1
  try clear p2
  try clear c4
  try clear c5
  try clear p6
  try clear c8
  try clear c11
  try clear c12
  try clear c14
  try clear hcz13_0
  try clear hcz13_1
  try clear hcz13_2
  try clear hcz13_3
  try clear hfz13_0
  try clear hfz13_1
  try clear hfz13_2
  try clear hfz13_3
  obtain ⟨kq, x19_4, x1001_4, x1002_4, rfl, HA, HJ4, BK227, BK239, HI0, HK, HB⟩ := hcut
  cases kq with
  | zero => exact absurd HA.out (by simp [spec_l5Frac.j0])
  | succ kj4 =>
   have H := HA.out
   clear HA
   simp only [spec_l5Frac.j0] at H
   by_cases c17 : x19_4 = true
   ·subst c17
    have H1 : ((spec_l3Wide.f kj4 s0_0 x1001_4 x1002_4).bind fun bt243 => ((spec_l1PickInt.f s0_0 bt243.2.2.2.1 bt243.2.2.2.2 (([1, 2, 3, 999, 1000, 1001, 1000000, 1000001, 0, (-1), 9223372036854775807] : List Int))).bind fun bt251 => (some (bt243.1, bt243.2.1, bt243.2.2.1, bt251.1, bt251.2.1, bt251.2.2)))) = some (r1, r2, r3, r4, r5, r6) := by rw [if_pos rfl] at H; exact H
    clear H
    have H := H1
    clear H1
    replace H := Option.bind_eq_some_iff.mp H
    obtain ⟨⟨t243, t244, t245, t246, t247⟩, A180, H⟩ := H
    replace H : ((spec_l1PickInt.f s0_0 t246 t247 (([1, 2, 3, 999, 1000, 1001, 1000000, 1000001, 0, (-1), 9223372036854775807] : List Int))).bind fun bt251 => (some (t243, t244, t245, bt251.1, bt251.2.1, bt251.2.2))) = some (r1, r2, r3, r4, r5, r6) := H
    have A18 := Aside0.mk A180
    clear A180
    obtain ⟨y248, hy248⟩ : ∃ y_ : List Int, y_ = (([1, 2, 3, 999, 1000, 1001, 1000000, 1000001, 0, (-1), 9223372036854775807] : List Int)) := ⟨_, rfl⟩
    replace H : ((spec_l1PickInt.f s0_0 t246 t247 y248).bind fun bt251 => (some (t243, t244, t245, bt251.1, bt251.2.1, bt251.2.2))) = some (r1, r2, r3, r4, r5, r6) := by first | (rw [hy248]; with_reducible exact H) | (have H2_ := (Option.bind_some _ _).symm.trans H; rw [hy248]; with_reducible exact H2_) | (have H2_ := (Option.bind_some _ _).symm.trans H; with_reducible exact H2_) | with_reducible exact H | (rw [hy248]; exact H) | exact H
    have Ny248 := Aside0.mk hy248
    clear hy248
    replace H := Option.bind_eq_some_iff.mp H
    obtain ⟨⟨t251, t252, t253⟩, A190, H⟩ := H
    replace H : (some (t243, t244, t245, t251, t252, t253)) = some (r1, r2, r3, r4, r5, r6) := H
    have A19 := Aside0.mk A190
    clear A190
    simp only [Option.some.injEq, Prod.mk.injEq] at H
    obtain ⟨rfl, rfl, rfl, rfl, rfl, rfl⟩ := H
    go_wp2_with (first | ((with_reducible refine gate_callee (f := 53) rfl ?_); refine goesL_ (some 21) rfl rfl Tryd.func53 (by kernel_rfl) rfl #[.pointer (some ⟨g, 0, none⟩)] rfl mp_ ?_; (with_reducible refine (spec_l3Wide.calls kj4 g s0_0 x1001_4 x1002_4 t243 t244 t245 t246 t247 w0 _ ?side1 ?side2 A18.out).mono ?_); (case side1 => exact is_); (case side2 => exact belI_); rintro e w20 ⟨rfl, hi, hb, hk⟩; refine ⟨_, rfl, ?_⟩; replace HB := Aside0.mk (hb); replace BK227 := Aside0.mk (KeepBut.blk hk (g' := gb227) (o := .cells #[.bool false, .int .u64 0, .int .u64 0, .int .i64 0] 43 (0, 0)) bk_ NB227_0.out (by simp)); replace BK239 := Aside0.mk (KeepBut.blk hk (g' := gb239) (o := .cells #[.bool t234, .int .u64 t235, .int .u64 t236, .int .i64 t237] 43 (0, 0)) bk_ NB239_0.out (by simp)); replace HK := Aside0.mk (KeepBut.trans (kw_ (w := w)) hk (.inl rfl)); replace HI0 := Aside0.mk (hi); (try clear hb); (try clear hb2); (try clear hk); (try clear hi)) | ((with_reducible refine gate_dst (N := 23) rfl ?_); refine Kd.R_lit (Kd.int .i64) _ 3 ?hg (N := 23) ?hd (xs := ([1, 2, 3, 999, 1000, 1001, 1000000, 1000001, 0, (-1), 9223372036854775807] : List Int)) (inner := [.int .i64 1, .int .i64 2, .int .i64 3, .int .i64 999, .int .i64 1000, .int .i64 1001, .int .i64 1000000, .int .i64 1000001, .int .i64 0, .int .i64 (-1), .int .i64 9223372036854775807]) (ok := fun _ => True) (okp := fun _ => True) ?hr ?hp (fun _ hk => hk) trivial (Below.refl _ _) (Nat.le_refl _) (by simp) ?_; (case hd => rfl); (case hg => rfl); (case hr => first | (go_simp; done) | (go_simp; rfl)); (case hp => exact (Reps.one (show Kd.M (Kd.int .i64) _ _ _ 1 [.int .i64 1] from rfl) (Reps.one (show Kd.M (Kd.int .i64) _ _ _ 2 [.int .i64 2] from rfl) (Reps.one (show Kd.M (Kd.int .i64) _ _ _ 3 [.int .i64 3] from rfl) (Reps.one (show Kd.M (Kd.int .i64) _ _ _ 999 [.int .i64 999] from rfl) (Reps.one (show Kd.M (Kd.int .i64) _ _ _ 1000 [.int .i64 1000] from rfl) (Reps.one (show Kd.M (Kd.int .i64) _ _ _ 1001 [.int .i64 1001] from rfl) (Reps.one (show Kd.M (Kd.int .i64) _ _ _ 1000000 [.int .i64 1000000] from rfl) (Reps.one (show Kd.M (Kd.int .i64) _ _ _ 1000001 [.int .i64 1000001] from rfl) (Reps.one (show Kd.M (Kd.int .i64) _ _ _ 0 [.int .i64 0] from rfl) (Reps.one (show Kd.M (Kd.int .i64) _ _ _ (-1) [.int .i64 (-1)] from rfl) (Reps.one (show Kd.M (Kd.int .i64) _ _ _ 9223372036854775807 [.int .i64 9223372036854775807] from rfl) (Reps.none _ _))))))))))))); intro v249 w21 ho22 hb hg_ hnew_; clear hg_ hnew_; (first | rw [← Ny248.out] at ho22 | (simp only [Int.reduceToNat] at ho22; rw [← Ny248.out] at ho22)); have HO250 := Aside0.mk (Kd.R_lower ho22 (keep_size (w := w) (g := g) (row := none) (kw_ (w := w)))); replace HB := Aside0.mk (below_step (belI_) hb); replace BK227 := bb_ (g := gb227) hb; replace BK239 := bb_ (g := gb239) hb; replace HI0 := Aside0.mk (IsS90.below (is_) hb); replace HK := Aside0.mk (KeepBut.trans (kw_ (w := w)) (KeepBut.of_below hb g none) (.inl rfl)); clear hb ho22; obtain ⟨Ao23, co23, eo23⟩ := Kd.R_slice HO250.out; subst eo23) | ((with_reducible refine gate_callee (f := 72) rfl ?_); refine goesL_ (some 24) rfl rfl Tryd.func72 (by kernel_rfl) rfl #[.pointer (some ⟨g, 0, none⟩), .slice Ao23 y248.length co23] rfl mp_ ?_; (with_reducible refine (spec_l1PickInt.calls g s0_0 t246 t247 _ _ y248 t251 t252 t253 w0 _ ?side1 ?side2 ?side3 ?side4 ?side5 A19.out).mono ?_); (case side1 => exact is_); (case side2 => exact belI_); (case side3 => repeat (first | exact (Kd.R_reads' HO250.out).2.2 | (with_reducible refine Kd.C_alloc ?_ _) | (with_reducible refine Kd.C_drewN ?_ _) | (with_reducible refine Kd.C_drew ?_))); (case side4 => exact (Kd.R_reads' HO250.out).2.1); (case side5 => exact far_slice (IsS90.own_ne HI0.out HO250.out (by decide))); rintro e w24 ⟨rfl, hi, hb, hk⟩; refine ⟨_, rfl, ?_⟩; replace HB := Aside0.mk (hb); replace BK227 := Aside0.mk (KeepBut.blk hk (g' := gb227) (o := .cells #[.bool false, .int .u64 0, .int .u64 0, .int .i64 0] 43 (0, 0)) bk_ NB227_0.out (by simp)); replace BK239 := Aside0.mk (KeepBut.blk hk (g' := gb239) (o := .cells #[.bool t234, .int .u64 t235, .int .u64 t236, .int .i64 t237] 43 (0, 0)) bk_ NB239_0.out (by simp)); replace HO250 := Aside0.mk (Kd.R_mono (Kd.R_keep (IsS90.apart (show IsS90 w0 _ g s0_0 t246 t247 from is_) (by (with_reducible repeat (first | apply Kd.R_alloc | apply Kd.R_drewN | apply Kd.R_drew)); exact HO250.out) (by decide)) hk (fun _ h => h.2)) (fun _ h => h.1)); replace HK := Aside0.mk (KeepBut.trans (kw_ (w := w)) hk (.inl rfl)); replace HI0 := Aside0.mk (hi); (try clear hb); (try clear hb2); (try clear hk); (try clear hi); have hnb25 := NB239_227.out; have hnc25 := NB227_239.out; have hnb26 := NB239_0.out; have hnc26 := NB0_239.out; obtain ⟨hcz27_0, hcz27_1, hcz27_2, hcz27_3, hfz27_0, hfz27_1, hfz27_2, hfz27_3⟩ := cf4_ (w := w24) BK239.out; have hnb28 := NB227_0.out; have hnc28 := NB0_227.out; obtain ⟨hcz29_0, hcz29_1, hcz29_2, hcz29_3, hfz29_0, hfz29_1, hfz29_2, hfz29_3⟩ := cf4_ (w := w24) BK227.out))
    refine bodyPost_ret (results_cell_row rfl _ _ gb227 43 #[.bool t243, .int .u64 t244, .int .u64 t245, .int .i64 t251] (0, 0) _ rfl (pu_ #[.bool t243, .int .u64 t244, .int .u64 t245, .int .i64 0] 3 (h := (pu_ #[.bool t243, .int .u64 t244, .int .u64 0, .int .i64 0] 2 (h := (pu_ #[.bool t243, .int .u64 0, .int .u64 0, .int .i64 0] 1 (h := (pu_ #[.bool false, .int .u64 0, .int .u64 0, .int .i64 0] 0 (h := bk_)))))))) Tryd.underlying43 rfl (by kernel_rfl)) rfl ?_
    exact ⟨rf_, is_, belI_, kw_ (w := w)⟩
   ·replace c17 := Bool.eq_false_iff.mpr c17
    subst c17
    have H1 : (some (t234, t235, t236, t237, x1001_4, x1002_4)) = some (r1, r2, r3, r4, r5, r6) := by rw [if_neg (show ¬ (false = true) by decide)] at H; exact H
    clear H
    have H := H1
    clear H1
    simp only [Option.some.injEq, Prod.mk.injEq] at H
    obtain ⟨rfl, rfl, rfl, rfl, rfl, rfl⟩ := H
    have hnb30 := NB239_227.out
    have hnc30 := NB227_239.out
    have hnb31 := NB239_0.out
    have hnc31 := NB0_239.out
    obtain ⟨hcz32_0, hcz32_1, hcz32_2, hcz32_3, hfz32_0, hfz32_1, hfz32_2, hfz32_3⟩ := cf4_ (w := wc) BK239.out
    have hnb33 := NB227_0.out
    have hnc33 := NB0_227.out
    obtain ⟨hcz34_0, hcz34_1, hcz34_2, hcz34_3, hfz34_0, hfz34_1, hfz34_2, hfz34_3⟩ := cf4_ (w := wc) BK227.out
    go_wp2
    refine bodyPost_ret (results_cell_row rfl _ _ gb227 43 #[.bool t234, .int .u64 t235, .int .u64 t236, .int .i64 t237] (0, 0) _ rfl (pu_ #[.bool t234, .int .u64 t235, .int .u64 t236, .int .i64 0] 3 (h := (pu_ #[.bool t234, .int .u64 t235, .int .u64 0, .int .i64 0] 2 (h := (pu_ #[.bool t234, .int .u64 0, .int .u64 0, .int .i64 0] 1 (h := (pu_ #[.bool false, .int .u64 0, .int .u64 0, .int .i64 0] 0 (h := bk_)))))))) Tryd.underlying43 rfl (by kernel_rfl)) rfl ?_
    exact ⟨rf_, is_, belI_, kw_ (w := w)⟩
end Go.Proofs.YtkpgpifkbdpnkaaDoor.PFnFracSum
