/- Contracts of Go functions, each with the Lean function that says what it computes: begun by the print, turned by this session. No condition beyond what each theorem states. -/
import Derived.Test.YtkpgpifkbdpnkaaDoorPFnFracSumx0
import Derived.Test.YtkpgpifkbdpnkaaDoorPFnFracSumx1
import Derived.Test.YtkpgpifkbdpnkaaDoorPFnFracSumx2
import Derived.Test.YtkpgpifkbdpnkaaDoorPFnFracSumx8
import Derived.Test.YtkpgpifkbdpnkaaDoorPFnFracSumx9
import Derived.Test.YtkpgpifkbdpnkaaDoorPFnFracSumx11
import Derived.Test.YtkpgpifkbdpnkaaDoorPFnFracSumx12
import Derived.Test.YtkpgpifkbdpnkaaDoorPFnFracSumx13
import Derived.Test.YtkpgpifkbdpnkaaDoorPFnFracSumx15
namespace Go.Proofs.YtkpgpifkbdpnkaaDoor.PFnFracSum
open Go.RowKit Go.Proofs.YtkpgpifkbdpnkaaDoorVFnFracSum.PrintWords Go.Proofs.YtkpgpifkbdpnkaaDoorVFnFracSum.PrintLast Go.Proofs.YtkpgpifkbdpnkaaDoorVFnFracSum.PrintMore
attribute [local go_sem] max2_int min2_int max_two min_two max_three min_three max_four min_four   -- for this text's walks alone
set_option linter.unusedVariables false
set_option linter.unusedSimpArgs false
attribute [local go_sem high] eqA43
/-! ### laws_FnFracSum: function 6 -/
def laws_FnFracSum.j0 : Nat → List Int → Bool → Bool → Bool → Int → Int → Int → Option (Bool)
 | 0, _, _, _, _, _, _, _ => none
 | k + 1, x0, x6, x52, x549000, x549001, x549002, x549003 => if x52 = true then (some false) else ((spec_DrawSquareOver.f k x0).bind fun bt561 => ((impl_SquareOver.f bt561.1 bt561.2).bind fun bt563 => (if x6 = true then ((impl_FracOk.f x549000 x549001 x549002 x549003).bind fun t569 => (if t569 = true then (if bt561.2 ≥ 1 then (if (bt563.2.2.2.2 == (decide (bt561.2 ≤ 1000000))) = true then (if bt563.2.2.2.2 = true then ((spec_CompareWide.f k bt563.1 bt563.2.1 bt563.2.2.1 false 0 0).bind fun t570 => (if t570 ≥ 0 then ((impl_FracText.f k bt563.1 bt563.2.1 bt563.2.2.1 bt563.2.2.2.1).bind fun t571 => (some (t571.toList != ([] : List UInt8)))) else (some false))) else (some true)) else (some false)) else (if (bt563.2.2.2.2 == false) = true then (if bt563.2.2.2.2 = true then ((spec_CompareWide.f k bt563.1 bt563.2.1 bt563.2.2.1 false 0 0).bind fun t572 => (if t572 ≥ 0 then ((impl_FracText.f k bt563.1 bt563.2.1 bt563.2.2.1 bt563.2.2.2.1).bind fun t573 => (some (t573.toList != ([] : List UInt8)))) else (some false))) else (some true)) else (some false))) else (some false))) else (if bt561.2 ≥ 1 then (if (bt563.2.2.2.2 == (decide (bt561.2 ≤ 1000000))) = true then (if bt563.2.2.2.2 = true then ((spec_CompareWide.f k bt563.1 bt563.2.1 bt563.2.2.1 false 0 0).bind fun t574 => (if t574 ≥ 0 then ((impl_FracText.f k bt563.1 bt563.2.1 bt563.2.2.1 bt563.2.2.2.1).bind fun t575 => (some (t575.toList != ([] : List UInt8)))) else (some false))) else (some true)) else (some false)) else (if (bt563.2.2.2.2 == false) = true then (if bt563.2.2.2.2 = true then ((spec_CompareWide.f k bt563.1 bt563.2.1 bt563.2.2.1 false 0 0).bind fun t576 => (if t576 ≥ 0 then ((impl_FracText.f k bt563.1 bt563.2.1 bt563.2.2.1 bt563.2.2.2.1).bind fun t577 => (some (t577.toList != ([] : List UInt8)))) else (some false))) else (some true)) else (some false))))))
def laws_FnFracSum.f (k : Nat) (l0 : List Int) : Option (Bool) := (laws_big.f l0).bind fun t532 => (if t532 = true then (some true) else ((spec_DrawAddFrac.f k l0).bind fun bt533 => ((impl_AddFrac.f k bt533.1 bt533.2.1 bt533.2.2.1 bt533.2.2.2.1 bt533.2.2.2.2.1 bt533.2.2.2.2.2.1 bt533.2.2.2.2.2.2.1 bt533.2.2.2.2.2.2.2).bind fun bt543 => ((impl_AddFrac.f k bt533.2.2.2.2.1 bt533.2.2.2.2.2.1 bt533.2.2.2.2.2.2.1 bt533.2.2.2.2.2.2.2 bt533.1 bt533.2.1 bt533.2.2.1 bt533.2.2.2.1).bind fun bt549 => ((spec_AddFrac.f k bt533.1 bt533.2.1 bt533.2.2.1 bt533.2.2.2.1 bt533.2.2.2.2.1 bt533.2.2.2.2.2.1 bt533.2.2.2.2.2.2.1 bt533.2.2.2.2.2.2.2).bind fun bt555 => (if (bt543.2.2.2.2 != bt555.2.2.2.2) = true then (laws_FnFracSum.j0 k l0 bt543.2.2.2.2 true bt543.1 bt543.2.1 bt543.2.2.1 bt543.2.2.2.1) else (if (bt549.2.2.2.2 != bt543.2.2.2.2) = true then (laws_FnFracSum.j0 k l0 bt543.2.2.2.2 true bt543.1 bt543.2.1 bt543.2.2.1 bt543.2.2.2.1) else (laws_FnFracSum.j0 k l0 bt543.2.2.2.2 ((!(bt543.1 == bt549.1) || (!(bt543.2.1 == bt549.2.1) || (!(bt543.2.2.1 == bt549.2.2.1)))) || (!(bt543.2.2.2.1 == bt549.2.2.2.1))) bt543.1 bt543.2.1 bt543.2.2.1 bt543.2.2.2.1))))))))
theorem laws_FnFracSum.mono_l : ∀ k, (∀ y0 y1 y2 y3 y4 y5 y6, LeO (laws_FnFracSum.j0 k y0 y1 y2 y3 y4 y5 y6) (laws_FnFracSum.j0 (k + 1) y0 y1 y2 y3 y4 y5 y6))
 | 0 => fun _ _ _ _ _ _ _ r h => by simp [laws_FnFracSum.j0] at h
 | k + 1 => by
  have ih0 := laws_FnFracSum.mono_l k
  ·intro y0 y1 y2 y3 y4 y5 y6
   unfold laws_FnFracSum.j0
   repeat' first
   | (with_reducible exact ih0 _ _ _ _ _ _ _)
   | (with_reducible exact impl_AddFrac.mono _ _ _ _ _ _ _ _ _)
   | (with_reducible exact impl_FracText.mono _ _ _ _ _)
   | (with_reducible exact spec_AddFrac.mono _ _ _ _ _ _ _ _ _)
   | (with_reducible exact spec_CompareWide.mono _ _ _ _ _ _ _)
   | (with_reducible exact spec_DrawAddFrac.mono _ _)
   | (with_reducible exact spec_DrawSquareOver.mono _ _)
   | (with_reducible exact LeO.refl _)
   | (with_reducible exact LeO.none _)
   | (with_reducible refine LeO.ite ?_ ?_)
   | (with_reducible refine LeO.bind ?_ (fun _ => ?_))
   | exact ih0 _ _ _ _ _ _ _
   | exact impl_AddFrac.mono _ _ _ _ _ _ _ _ _
   | exact impl_FracText.mono _ _ _ _ _
   | exact spec_AddFrac.mono _ _ _ _ _ _ _ _ _
   | exact spec_CompareWide.mono _ _ _ _ _ _ _
   | exact spec_DrawAddFrac.mono _ _
   | exact spec_DrawSquareOver.mono _ _
   | exact LeO.none _
   | refine LeO.ite ?_ ?_
   | refine LeO.bind ?_ (fun _ => ?_)
theorem laws_FnFracSum.mono : ∀ a0 k, LeO (laws_FnFracSum.f k a0) (laws_FnFracSum.f (k + 1) a0) := by
 intro a0 k
 have ih0 := laws_FnFracSum.mono_l k
 unfold laws_FnFracSum.f
 repeat' first
   | (with_reducible exact ih0 _ _ _ _ _ _ _)
   | (with_reducible exact impl_AddFrac.mono _ _ _ _ _ _ _ _ _)
   | (with_reducible exact impl_FracText.mono _ _ _ _ _)
   | (with_reducible exact spec_AddFrac.mono _ _ _ _ _ _ _ _ _)
   | (with_reducible exact spec_CompareWide.mono _ _ _ _ _ _ _)
   | (with_reducible exact spec_DrawAddFrac.mono _ _)
   | (with_reducible exact spec_DrawSquareOver.mono _ _)
   | (with_reducible exact LeO.refl _)
   | (with_reducible exact LeO.none _)
   | (with_reducible refine LeO.ite ?_ ?_)
   | (with_reducible refine LeO.bind ?_ (fun _ => ?_))
   | exact ih0 _ _ _ _ _ _ _
   | exact impl_AddFrac.mono _ _ _ _ _ _ _ _ _
   | exact impl_FracText.mono _ _ _ _ _
   | exact spec_AddFrac.mono _ _ _ _ _ _ _ _ _
   | exact spec_CompareWide.mono _ _ _ _ _ _ _
   | exact spec_DrawAddFrac.mono _ _
   | exact spec_DrawSquareOver.mono _ _
   | exact LeO.none _
   | refine LeO.ite ?_ ?_
   | refine LeO.bind ?_ (fun _ => ?_)
set_option maxHeartbeats 8000000 in
set_option maxRecDepth 100000 in
theorem laws_FnFracSum.calls (k : Nat) (A0 : Option Addr) (c0 : Nat) (l0 : List Int) (r : Bool) (w : World) (hr0 : Kd.C (Kd.int .u8) w A0 l0.length l0) (hc0 : l0.length ≤ c0) (h : laws_FnFracSum.f k l0 = some r) (hrt : Aside0 (r = true)) (hl : Laid w) :
  Calls Tryd.prog 6 #[.slice A0 l0.length c0] w fun e w' => e = .returned (.bool r) ∧ Below w.heap.size w w' := by
 have hu43 := Tryd.underlying43
 have hu28 := Tryd.underlying28
 have HR0 := Aside0.mk hr0
 have HC0 := Aside0.mk hc0
 clear hr0 hc0
 have HB := Aside0.mk (Below.refl w.heap.size w)
 have H : ((laws_big.f l0).bind fun t532 => (if t532 = true then (some true) else ((spec_DrawAddFrac.f k l0).bind fun bt533 => ((impl_AddFrac.f k bt533.1 bt533.2.1 bt533.2.2.1 bt533.2.2.2.1 bt533.2.2.2.2.1 bt533.2.2.2.2.2.1 bt533.2.2.2.2.2.2.1 bt533.2.2.2.2.2.2.2).bind fun bt543 => ((impl_AddFrac.f k bt533.2.2.2.2.1 bt533.2.2.2.2.2.1 bt533.2.2.2.2.2.2.1 bt533.2.2.2.2.2.2.2 bt533.1 bt533.2.1 bt533.2.2.1 bt533.2.2.2.1).bind fun bt549 => ((spec_AddFrac.f k bt533.1 bt533.2.1 bt533.2.2.1 bt533.2.2.2.1 bt533.2.2.2.2.1 bt533.2.2.2.2.2.1 bt533.2.2.2.2.2.2.1 bt533.2.2.2.2.2.2.2).bind fun bt555 => (if (bt543.2.2.2.2 != bt555.2.2.2.2) = true then (laws_FnFracSum.j0 k l0 bt543.2.2.2.2 true bt543.1 bt543.2.1 bt543.2.2.1 bt543.2.2.2.1) else (if (bt549.2.2.2.2 != bt543.2.2.2.2) = true then (laws_FnFracSum.j0 k l0 bt543.2.2.2.2 true bt543.1 bt543.2.1 bt543.2.2.1 bt543.2.2.2.1) else (laws_FnFracSum.j0 k l0 bt543.2.2.2.2 ((!(bt543.1 == bt549.1) || (!(bt543.2.1 == bt549.2.1) || (!(bt543.2.2.1 == bt549.2.2.1)))) || (!(bt543.2.2.2.1 == bt549.2.2.2.1))) bt543.1 bt543.2.1 bt543.2.2.1 bt543.2.2.2.1))))))))) = some r := h
 clear h
 replace H := Option.bind_eq_some_iff.mp H
 obtain ⟨t532, A20, H⟩ := H
 replace H : (if t532 = true then (some true) else ((spec_DrawAddFrac.f k l0).bind fun bt533 => ((impl_AddFrac.f k bt533.1 bt533.2.1 bt533.2.2.1 bt533.2.2.2.1 bt533.2.2.2.2.1 bt533.2.2.2.2.2.1 bt533.2.2.2.2.2.2.1 bt533.2.2.2.2.2.2.2).bind fun bt543 => ((impl_AddFrac.f k bt533.2.2.2.2.1 bt533.2.2.2.2.2.1 bt533.2.2.2.2.2.2.1 bt533.2.2.2.2.2.2.2 bt533.1 bt533.2.1 bt533.2.2.1 bt533.2.2.2.1).bind fun bt549 => ((spec_AddFrac.f k bt533.1 bt533.2.1 bt533.2.2.1 bt533.2.2.2.1 bt533.2.2.2.2.1 bt533.2.2.2.2.2.1 bt533.2.2.2.2.2.2.1 bt533.2.2.2.2.2.2.2).bind fun bt555 => (if (bt543.2.2.2.2 != bt555.2.2.2.2) = true then (laws_FnFracSum.j0 k l0 bt543.2.2.2.2 true bt543.1 bt543.2.1 bt543.2.2.1 bt543.2.2.2.1) else (if (bt549.2.2.2.2 != bt543.2.2.2.2) = true then (laws_FnFracSum.j0 k l0 bt543.2.2.2.2 true bt543.1 bt543.2.1 bt543.2.2.1 bt543.2.2.2.1) else (laws_FnFracSum.j0 k l0 bt543.2.2.2.2 ((!(bt543.1 == bt549.1) || (!(bt543.2.1 == bt549.2.1) || (!(bt543.2.2.1 == bt549.2.2.1)))) || (!(bt543.2.2.2.1 == bt549.2.2.2.1))) bt543.1 bt543.2.1 bt543.2.2.1 bt543.2.2.2.1)))))))) = some r := H
 have A2 := Aside0.mk A20
 clear A20
 by_cases c3 : t532 = true
 ·subst c3
  have H1 : (some true) = some r := by rw [if_pos rfl] at H; exact H
  clear H
  have H := H1
  clear H1
  obtain rfl := Option.some.inj H
  go_enter Tryd.func6, Tryd.ntmps6
  go_wp2_with (first | ((with_reducible refine gate_callee (f := 9) rfl ?_); refine goesL_ (some 16) rfl rfl Tryd.func9 (by kernel_rfl) rfl #[.slice A0 l0.length c0] rfl mp_ ?_; (with_reducible refine (laws_big.calls _ _ l0 true _ ?side1 ?side2 A2.out).mono ?_); (case side1 => repeat (first | exact HR0.out | (with_reducible refine Kd.C_alloc ?_ _) | (with_reducible refine Kd.C_drewN ?_ _) | (with_reducible refine Kd.C_drew ?_))); (case side2 => exact HC0.out); rintro e w' ⟨rfl, ⟨nd, rfl⟩⟩; refine ⟨_, rfl, ?_⟩))
  all_goals go_ret
  all_goals exact ⟨rf_, bel_⟩
 ·replace c3 := Bool.eq_false_iff.mpr c3
  subst c3
  have H1 : ((spec_DrawAddFrac.f k l0).bind fun bt533 => ((impl_AddFrac.f k bt533.1 bt533.2.1 bt533.2.2.1 bt533.2.2.2.1 bt533.2.2.2.2.1 bt533.2.2.2.2.2.1 bt533.2.2.2.2.2.2.1 bt533.2.2.2.2.2.2.2).bind fun bt543 => ((impl_AddFrac.f k bt533.2.2.2.2.1 bt533.2.2.2.2.2.1 bt533.2.2.2.2.2.2.1 bt533.2.2.2.2.2.2.2 bt533.1 bt533.2.1 bt533.2.2.1 bt533.2.2.2.1).bind fun bt549 => ((spec_AddFrac.f k bt533.1 bt533.2.1 bt533.2.2.1 bt533.2.2.2.1 bt533.2.2.2.2.1 bt533.2.2.2.2.2.1 bt533.2.2.2.2.2.2.1 bt533.2.2.2.2.2.2.2).bind fun bt555 => (if (bt543.2.2.2.2 != bt555.2.2.2.2) = true then (laws_FnFracSum.j0 k l0 bt543.2.2.2.2 true bt543.1 bt543.2.1 bt543.2.2.1 bt543.2.2.2.1) else (if (bt549.2.2.2.2 != bt543.2.2.2.2) = true then (laws_FnFracSum.j0 k l0 bt543.2.2.2.2 true bt543.1 bt543.2.1 bt543.2.2.1 bt543.2.2.2.1) else (laws_FnFracSum.j0 k l0 bt543.2.2.2.2 ((!(bt543.1 == bt549.1) || (!(bt543.2.1 == bt549.2.1) || (!(bt543.2.2.1 == bt549.2.2.1)))) || (!(bt543.2.2.2.1 == bt549.2.2.2.1))) bt543.1 bt543.2.1 bt543.2.2.1 bt543.2.2.2.1))))))) = some r := by rw [if_neg (show ¬ (false = true) by decide)] at H; exact H
  clear H
  have H := H1
  clear H1
  replace H := Option.bind_eq_some_iff.mp H
  obtain ⟨⟨t533, t534, t535, t536, t537, t538, t539, t540⟩, A40, H⟩ := H
  replace H : ((impl_AddFrac.f k t533 t534 t535 t536 t537 t538 t539 t540).bind fun bt543 => ((impl_AddFrac.f k t537 t538 t539 t540 t533 t534 t535 t536).bind fun bt549 => ((spec_AddFrac.f k t533 t534 t535 t536 t537 t538 t539 t540).bind fun bt555 => (if (bt543.2.2.2.2 != bt555.2.2.2.2) = true then (laws_FnFracSum.j0 k l0 bt543.2.2.2.2 true bt543.1 bt543.2.1 bt543.2.2.1 bt543.2.2.2.1) else (if (bt549.2.2.2.2 != bt543.2.2.2.2) = true then (laws_FnFracSum.j0 k l0 bt543.2.2.2.2 true bt543.1 bt543.2.1 bt543.2.2.1 bt543.2.2.2.1) else (laws_FnFracSum.j0 k l0 bt543.2.2.2.2 ((!(bt543.1 == bt549.1) || (!(bt543.2.1 == bt549.2.1) || (!(bt543.2.2.1 == bt549.2.2.1)))) || (!(bt543.2.2.2.1 == bt549.2.2.2.1))) bt543.1 bt543.2.1 bt543.2.2.1 bt543.2.2.2.1)))))) = some r := H
  have A4 := Aside0.mk A40
  clear A40
  replace H := Option.bind_eq_some_iff.mp H
  obtain ⟨⟨t543, t544, t545, t546, t547⟩, A50, H⟩ := H
  replace H : ((impl_AddFrac.f k t537 t538 t539 t540 t533 t534 t535 t536).bind fun bt549 => ((spec_AddFrac.f k t533 t534 t535 t536 t537 t538 t539 t540).bind fun bt555 => (if (t547 != bt555.2.2.2.2) = true then (laws_FnFracSum.j0 k l0 t547 true t543 t544 t545 t546) else (if (bt549.2.2.2.2 != t547) = true then (laws_FnFracSum.j0 k l0 t547 true t543 t544 t545 t546) else (laws_FnFracSum.j0 k l0 t547 ((!(t543 == bt549.1) || (!(t544 == bt549.2.1) || (!(t545 == bt549.2.2.1)))) || (!(t546 == bt549.2.2.2.1))) t543 t544 t545 t546))))) = some r := H
  have A5 := Aside0.mk A50
  clear A50
  replace H := Option.bind_eq_some_iff.mp H
  obtain ⟨⟨t549, t550, t551, t552, t553⟩, A60, H⟩ := H
  replace H : ((spec_AddFrac.f k t533 t534 t535 t536 t537 t538 t539 t540).bind fun bt555 => (if (t547 != bt555.2.2.2.2) = true then (laws_FnFracSum.j0 k l0 t547 true t543 t544 t545 t546) else (if (t553 != t547) = true then (laws_FnFracSum.j0 k l0 t547 true t543 t544 t545 t546) else (laws_FnFracSum.j0 k l0 t547 ((!(t543 == t549) || (!(t544 == t550) || (!(t545 == t551)))) || (!(t546 == t552))) t543 t544 t545 t546)))) = some r := H
  have A6 := Aside0.mk A60
  clear A60
  replace H := Option.bind_eq_some_iff.mp H
  obtain ⟨⟨t555, t556, t557, t558, t559⟩, A70, H⟩ := H
  replace H : (if (t547 != t559) = true then (laws_FnFracSum.j0 k l0 t547 true t543 t544 t545 t546) else (if (t553 != t547) = true then (laws_FnFracSum.j0 k l0 t547 true t543 t544 t545 t546) else (laws_FnFracSum.j0 k l0 t547 ((!(t543 == t549) || (!(t544 == t550) || (!(t545 == t551)))) || (!(t546 == t552))) t543 t544 t545 t546))) = some r := H
  have A7 := Aside0.mk A70
  clear A70
  have HC8 := Aside0.mk H
  clear H
  go_enter Tryd.func6, Tryd.ntmps6
  go_upto_region 7 with (first | ((with_reducible refine gate_callee (f := 9) rfl ?_); refine goesL_ (some 16) rfl rfl Tryd.func9 (by kernel_rfl) rfl #[.slice A0 l0.length c0] rfl mp_ ?_; (with_reducible refine (laws_big.calls _ _ l0 false _ ?side1 ?side2 A2.out).mono ?_); (case side1 => repeat (first | exact HR0.out | (with_reducible refine Kd.C_alloc ?_ _) | (with_reducible refine Kd.C_drewN ?_ _) | (with_reducible refine Kd.C_drew ?_))); (case side2 => exact HC0.out); rintro e w' ⟨rfl, ⟨nd, rfl⟩⟩; refine ⟨_, rfl, ?_⟩) | ((with_reducible refine gate_callee (f := 25) rfl ?_); refine goesL_ (some 19) rfl rfl Tryd.func25 (by kernel_rfl) rfl #[.slice A0 l0.length c0] rfl mp_ ?_; (with_reducible refine (spec_DrawAddFrac.calls k _ _ l0 t533 t534 t535 t536 t537 t538 t539 t540 _ ?side1 ?side2 A4.out).mono ?_); (case side1 => repeat (first | exact HR0.out | (with_reducible refine Kd.C_alloc ?_ _) | (with_reducible refine Kd.C_drewN ?_ _) | (with_reducible refine Kd.C_drew ?_))); (case side2 => exact HC0.out); rintro e w9 ⟨rfl, hb⟩; refine ⟨_, rfl, ?_⟩; replace HB := Aside0.mk (below_step bel_ hb); (try clear hb); (try clear hb2); (try clear hk); (try clear hi)) | ((with_reducible refine gate_dst (N := 3) rfl ?_); refine box_event ?hg (N := 3) ?hd (cs := #[.bool false, .int .u64 0, .int .u64 0, .int .i64 0]) (t := 43) ?hr ?_; (case hd => rfl); (case hg => rfl); (case hr => first | (go_simp; done) | (go_simp; rfl)); intro gb541 hg w10 hbox hb; have BK541 := Aside0.mk (hbox); have GW541 := bs_ (w := w) hg; have GE541 := bs_ (w := w) hg; replace HB := Aside0.mk (below_step bel_ hb); clear hb hbox hg) | ((with_reducible refine gate_dst (N := 4) rfl ?_); refine box_event ?hg (N := 4) ?hd (cs := #[.bool false, .int .u64 0, .int .u64 0, .int .i64 0]) (t := 43) ?hr ?_; (case hd => rfl); (case hg => rfl); (case hr => first | (go_simp; done) | (go_simp; rfl)); intro gb542 hg w11 hbox hb; have BK542 := Aside0.mk (hbox); have GW542 := bs_ (w := w) hg; have GE542 := bs_ (w := w) hg; have NB541_542 := nlt_ (g := gb541) hg; have NB542_541 := ngt_ (g := gb541) hg; replace HB := Aside0.mk (below_step bel_ hb); replace BK541 := bb_ (g := gb541) hb; clear hb hbox hg; have hnb12 := NB541_542.out; have hnc12 := NB542_541.out; obtain ⟨hcz13_0, hcz13_1, hcz13_2, hcz13_3, hfz13_0, hfz13_1, hfz13_2, hfz13_3⟩ := cf4_ (w := w11) BK541.out; obtain ⟨hcz14_0, hcz14_1, hcz14_2, hcz14_3, hfz14_0, hfz14_1, hfz14_2, hfz14_3⟩ := cf4_ (w := w11) BK542.out) | ((with_reducible refine gate_callee (f := 26) rfl ?_); refine goesL_ (some 25) rfl rfl Tryd.func26 (by kernel_rfl) rfl #[.agg #[.bool t533, .int .u64 t534, .int .u64 t535, .int .i64 t536], .agg #[.bool t537, .int .u64 t538, .int .u64 t539, .int .i64 t540]] rfl mp_ ?_; (with_reducible refine (impl_AddFrac.calls k t533 t534 t535 t536 t537 t538 t539 t540 t543 t544 t545 t546 t547 _ A5.out).mono ?_); rintro e w15 ⟨rfl, hb⟩; refine ⟨_, rfl, ?_⟩; replace HB := Aside0.mk (below_step bel_ hb); replace BK541 := Aside0.mk (blk_below (g := gb541) (o := .cells #[.bool t533, .int .u64 t534, .int .u64 t535, .int .i64 t536] 43 (0, 0)) (pu_ #[.bool t533, .int .u64 t534, .int .u64 t535, .int .i64 0] 3 (h := (pu_ #[.bool t533, .int .u64 t534, .int .u64 0, .int .i64 0] 2 (h := (pu_ #[.bool t533, .int .u64 0, .int .u64 0, .int .i64 0] 1 (h := (pu_ #[.bool false, .int .u64 0, .int .u64 0, .int .i64 0] 0 (h := bk_)))))))) hb); replace BK542 := Aside0.mk (blk_below (g := gb542) (o := .cells #[.bool t537, .int .u64 t538, .int .u64 t539, .int .i64 t540] 43 (0, 0)) (pu_ #[.bool t537, .int .u64 t538, .int .u64 t539, .int .i64 0] 3 (h := (pu_ #[.bool t537, .int .u64 t538, .int .u64 0, .int .i64 0] 2 (h := (pu_ #[.bool t537, .int .u64 0, .int .u64 0, .int .i64 0] 1 (h := (pu_ #[.bool false, .int .u64 0, .int .u64 0, .int .i64 0] 0 (h := bk_)))))))) hb); (try clear hb); (try clear hb2); (try clear hk); (try clear hi)) | ((with_reducible refine gate_dst (N := 5) rfl ?_); refine box_event ?hg (N := 5) ?hd (cs := #[.bool false, .int .u64 0, .int .u64 0, .int .i64 0]) (t := 43) ?hr ?_; (case hd => rfl); (case hg => rfl); (case hr => first | (go_simp; done) | (go_simp; rfl)); intro gb548 hg w16 hbox hb; have BK548 := Aside0.mk (hbox); have GW548 := bs_ (w := w) hg; have GE548 := bs_ (w := w) hg; have NB541_548 := nlt_ (g := gb541) hg; have NB548_541 := ngt_ (g := gb541) hg; have NB542_548 := nlt_ (g := gb542) hg; have NB548_542 := ngt_ (g := gb542) hg; replace HB := Aside0.mk (below_step bel_ hb); replace BK541 := bb_ (g := gb541) hb; replace BK542 := bb_ (g := gb542) hb; clear hb hbox hg; have hnb17 := NB548_541.out; have hnc17 := NB541_548.out; have hnb18 := NB548_542.out; have hnc18 := NB542_548.out; obtain ⟨hcz19_0, hcz19_1, hcz19_2, hcz19_3, hfz19_0, hfz19_1, hfz19_2, hfz19_3⟩ := cf4_ (w := w16) BK548.out; obtain ⟨hcz20_0, hcz20_1, hcz20_2, hcz20_3, hfz20_0, hfz20_1, hfz20_2, hfz20_3⟩ := cf4_ (w := w16) BK542.out; obtain ⟨hcz21_0, hcz21_1, hcz21_2, hcz21_3, hfz21_0, hfz21_1, hfz21_2, hfz21_3⟩ := cf4_ (w := w16) BK541.out) | ((with_reducible refine gate_callee (f := 26) rfl ?_); refine goesL_ (some 31) rfl rfl Tryd.func26 (by kernel_rfl) rfl #[.agg #[.bool t537, .int .u64 t538, .int .u64 t539, .int .i64 t540], .agg #[.bool t533, .int .u64 t534, .int .u64 t535, .int .i64 t536]] rfl mp_ ?_; (with_reducible refine (impl_AddFrac.calls k t537 t538 t539 t540 t533 t534 t535 t536 t549 t550 t551 t552 t553 _ A6.out).mono ?_); rintro e w22 ⟨rfl, hb⟩; refine ⟨_, rfl, ?_⟩; replace HB := Aside0.mk (below_step bel_ hb); replace BK541 := Aside0.mk (blk_below (g := gb541) (o := .cells #[.bool t533, .int .u64 t534, .int .u64 t535, .int .i64 t536] 43 (0, 0)) bk_ hb); replace BK542 := Aside0.mk (blk_below (g := gb542) (o := .cells #[.bool t537, .int .u64 t538, .int .u64 t539, .int .i64 t540] 43 (0, 0)) bk_ hb); replace BK548 := Aside0.mk (blk_below (g := gb548) (o := .cells #[.bool t543, .int .u64 t544, .int .u64 t545, .int .i64 t546] 43 (0, 0)) (pu_ #[.bool t543, .int .u64 t544, .int .u64 t545, .int .i64 0] 3 (h := (pu_ #[.bool t543, .int .u64 t544, .int .u64 0, .int .i64 0] 2 (h := (pu_ #[.bool t543, .int .u64 0, .int .u64 0, .int .i64 0] 1 (h := (pu_ #[.bool false, .int .u64 0, .int .u64 0, .int .i64 0] 0 (h := bk_)))))))) hb); (try clear hb); (try clear hb2); (try clear hk); (try clear hi)) | ((with_reducible refine gate_dst (N := 7) rfl ?_); refine box_event ?hg (N := 7) ?hd (cs := #[.bool false, .int .u64 0, .int .u64 0, .int .i64 0]) (t := 43) ?hr ?_; (case hd => rfl); (case hg => rfl); (case hr => first | (go_simp; done) | (go_simp; rfl)); intro gb554 hg w23 hbox hb; have BK554 := Aside0.mk (hbox); have GW554 := bs_ (w := w) hg; have GE554 := bs_ (w := w) hg; have NB541_554 := nlt_ (g := gb541) hg; have NB554_541 := ngt_ (g := gb541) hg; have NB542_554 := nlt_ (g := gb542) hg; have NB554_542 := ngt_ (g := gb542) hg; have NB548_554 := nlt_ (g := gb548) hg; have NB554_548 := ngt_ (g := gb548) hg; replace HB := Aside0.mk (below_step bel_ hb); replace BK541 := bb_ (g := gb541) hb; replace BK542 := bb_ (g := gb542) hb; replace BK548 := bb_ (g := gb548) hb; clear hb hbox hg; have hnb24 := NB554_541.out; have hnc24 := NB541_554.out; have hnb25 := NB554_542.out; have hnc25 := NB542_554.out; have hnb26 := NB554_548.out; have hnc26 := NB548_554.out; obtain ⟨hcz27_0, hcz27_1, hcz27_2, hcz27_3, hfz27_0, hfz27_1, hfz27_2, hfz27_3⟩ := cf4_ (w := w23) BK554.out; obtain ⟨hcz28_0, hcz28_1, hcz28_2, hcz28_3, hfz28_0, hfz28_1, hfz28_2, hfz28_3⟩ := cf4_ (w := w23) BK541.out; obtain ⟨hcz29_0, hcz29_1, hcz29_2, hcz29_3, hfz29_0, hfz29_1, hfz29_2, hfz29_3⟩ := cf4_ (w := w23) BK542.out) | ((with_reducible refine gate_callee (f := 27) rfl ?_); refine goesL_ (some 37) rfl rfl Tryd.func27 (by kernel_rfl) rfl #[.agg #[.bool t533, .int .u64 t534, .int .u64 t535, .int .i64 t536], .agg #[.bool t537, .int .u64 t538, .int .u64 t539, .int .i64 t540]] rfl mp_ ?_; (with_reducible refine (spec_AddFrac.calls k t533 t534 t535 t536 t537 t538 t539 t540 t555 t556 t557 t558 t559 _ A7.out).mono ?_); rintro e w30 ⟨rfl, hb⟩; refine ⟨_, rfl, ?_⟩; replace HB := Aside0.mk (below_step bel_ hb); replace BK541 := Aside0.mk (blk_below (g := gb541) (o := .cells #[.bool t533, .int .u64 t534, .int .u64 t535, .int .i64 t536] 43 (0, 0)) bk_ hb); replace BK542 := Aside0.mk (blk_below (g := gb542) (o := .cells #[.bool t537, .int .u64 t538, .int .u64 t539, .int .i64 t540] 43 (0, 0)) bk_ hb); replace BK548 := Aside0.mk (blk_below (g := gb548) (o := .cells #[.bool t543, .int .u64 t544, .int .u64 t545, .int .i64 t546] 43 (0, 0)) bk_ hb); replace BK554 := Aside0.mk (blk_below (g := gb554) (o := .cells #[.bool t549, .int .u64 t550, .int .u64 t551, .int .i64 t552] 43 (0, 0)) (pu_ #[.bool t549, .int .u64 t550, .int .u64 t551, .int .i64 0] 3 (h := (pu_ #[.bool t549, .int .u64 t550, .int .u64 0, .int .i64 0] 2 (h := (pu_ #[.bool t549, .int .u64 0, .int .u64 0, .int .i64 0] 1 (h := (pu_ #[.bool false, .int .u64 0, .int .u64 0, .int .i64 0] 0 (h := bk_)))))))) hb); (try clear hb); (try clear hb2); (try clear hk); (try clear hi)) | ((with_reducible refine gate_dst (N := 9) rfl ?_); refine box_event ?hg (N := 9) ?hd (cs := #[.bool false, .int .u64 0, .int .u64 0, .int .i64 0]) (t := 43) ?hr ?_; (case hd => rfl); (case hg => rfl); (case hr => first | (go_simp; done) | (go_simp; rfl)); intro gb560 hg w31 hbox hb; have BK560 := Aside0.mk (hbox); have GW560 := bs_ (w := w) hg; have GE560 := bs_ (w := w) hg; have NB541_560 := nlt_ (g := gb541) hg; have NB560_541 := ngt_ (g := gb541) hg; have NB542_560 := nlt_ (g := gb542) hg; have NB560_542 := ngt_ (g := gb542) hg; have NB548_560 := nlt_ (g := gb548) hg; have NB560_548 := ngt_ (g := gb548) hg; have NB554_560 := nlt_ (g := gb554) hg; have NB560_554 := ngt_ (g := gb554) hg; replace HB := Aside0.mk (below_step bel_ hb); replace BK541 := bb_ (g := gb541) hb; replace BK542 := bb_ (g := gb542) hb; replace BK548 := bb_ (g := gb548) hb; replace BK554 := bb_ (g := gb554) hb; clear hb hbox hg; have hnb32 := NB560_541.out; have hnc32 := NB541_560.out; have hnb33 := NB560_542.out; have hnc33 := NB542_560.out; have hnb34 := NB560_548.out; have hnc34 := NB548_560.out; have hnb35 := NB560_554.out; have hnc35 := NB554_560.out; obtain ⟨hcz36_0, hcz36_1, hcz36_2, hcz36_3, hfz36_0, hfz36_1, hfz36_2, hfz36_3⟩ := cf4_ (w := w31) BK560.out))
  (try simp only [Act.put, la_, lb_, lc_])
  go_cut [52] (fun v52 wc => ∃ (kq : Nat) (x52_7 : Bool), v52 = .bool x52_7 ∧ Aside0 (laws_FnFracSum.j0 kq l0 t547 x52_7 t543 t544 t545 t546 = some r) ∧ Aside0 (kq ≤ k) ∧ Aside0 (wc.heap[gb541]? = some (.cells #[.bool t533, .int .u64 t534, .int .u64 t535, .int .i64 t536] 43 (0, 0))) ∧ Aside0 (wc.heap[gb542]? = some (.cells #[.bool t537, .int .u64 t538, .int .u64 t539, .int .i64 t540] 43 (0, 0))) ∧ Aside0 (wc.heap[gb548]? = some (.cells #[.bool t543, .int .u64 t544, .int .u64 t545, .int .i64 t546] 43 (0, 0))) ∧ Aside0 (wc.heap[gb554]? = some (.cells #[.bool t549, .int .u64 t550, .int .u64 t551, .int .i64 t552] 43 (0, 0))) ∧ Aside0 (wc.heap[gb560]? = some (.cells #[.bool t555, .int .u64 t556, .int .u64 t557, .int .i64 t558] 43 (0, 0))) ∧ Aside0 (Below w.heap.size w wc))
  case first =>
   have H := HC8.out
   clear HC8
   by_cases c37 : (t547 != t559) = true
   ·rw [if_pos c37] at H
    have c37b0 : (t547 != t559) = true := c37
    (try (have c37b1 : decide (t547 = t559) = false := by simpa using c37))
    (try (have c37b2 : (t547 == t559) = false := by simpa using c37))
    (try (have c37b3 : ¬ (t547 = t559) := by simpa using c37))
    clear c37
    (first | rw [c37b0] | (simp only [i64_w, i32_w]; rw [c37b0]) | skip)
    have H' := Aside0.mk H
    clear H
    go_wp2
    go_meet
    case rel => exact ⟨_, (true), (by first | rfl | (simp; done) | (simp [*]; done)), H', ⟨by first | omega | exact Nat.le_refl _⟩, ⟨by (with_reducible repeat (first | refine bN_ _ ?_ | refine bd_ ?_ | refine ba_ _ ?_)); refine blk_far ?_ NB541_560.out _; (with_reducible repeat (first | refine bN_ _ ?_ | refine bd_ ?_ | refine ba_ _ ?_)); refine blk_far ?_ NB541_560.out _; (with_reducible repeat (first | refine bN_ _ ?_ | refine bd_ ?_ | refine ba_ _ ?_)); refine blk_far ?_ NB541_560.out _; (with_reducible repeat (first | refine bN_ _ ?_ | refine bd_ ?_ | refine ba_ _ ?_)); refine blk_far ?_ NB541_560.out _; (with_reducible repeat (first | refine bN_ _ ?_ | refine bd_ ?_ | refine ba_ _ ?_)); exact BK541.out⟩, ⟨by (with_reducible repeat (first | refine bN_ _ ?_ | refine bd_ ?_ | refine ba_ _ ?_)); refine blk_far ?_ NB542_560.out _; (with_reducible repeat (first | refine bN_ _ ?_ | refine bd_ ?_ | refine ba_ _ ?_)); refine blk_far ?_ NB542_560.out _; (with_reducible repeat (first | refine bN_ _ ?_ | refine bd_ ?_ | refine ba_ _ ?_)); refine blk_far ?_ NB542_560.out _; (with_reducible repeat (first | refine bN_ _ ?_ | refine bd_ ?_ | refine ba_ _ ?_)); refine blk_far ?_ NB542_560.out _; (with_reducible repeat (first | refine bN_ _ ?_ | refine bd_ ?_ | refine ba_ _ ?_)); exact BK542.out⟩, ⟨by (with_reducible repeat (first | refine bN_ _ ?_ | refine bd_ ?_ | refine ba_ _ ?_)); refine blk_far ?_ NB548_560.out _; (with_reducible repeat (first | refine bN_ _ ?_ | refine bd_ ?_ | refine ba_ _ ?_)); refine blk_far ?_ NB548_560.out _; (with_reducible repeat (first | refine bN_ _ ?_ | refine bd_ ?_ | refine ba_ _ ?_)); refine blk_far ?_ NB548_560.out _; (with_reducible repeat (first | refine bN_ _ ?_ | refine bd_ ?_ | refine ba_ _ ?_)); refine blk_far ?_ NB548_560.out _; (with_reducible repeat (first | refine bN_ _ ?_ | refine bd_ ?_ | refine ba_ _ ?_)); exact BK548.out⟩, ⟨by (with_reducible repeat (first | refine bN_ _ ?_ | refine bd_ ?_ | refine ba_ _ ?_)); refine blk_far ?_ NB554_560.out _; (with_reducible repeat (first | refine bN_ _ ?_ | refine bd_ ?_ | refine ba_ _ ?_)); refine blk_far ?_ NB554_560.out _; (with_reducible repeat (first | refine bN_ _ ?_ | refine bd_ ?_ | refine ba_ _ ?_)); refine blk_far ?_ NB554_560.out _; (with_reducible repeat (first | refine bN_ _ ?_ | refine bd_ ?_ | refine ba_ _ ?_)); refine blk_far ?_ NB554_560.out _; (with_reducible repeat (first | refine bN_ _ ?_ | refine bd_ ?_ | refine ba_ _ ?_)); exact BK554.out⟩, ⟨by (with_reducible repeat (first | refine bN_ _ ?_ | refine bd_ ?_ | refine ba_ _ ?_)); refine blk_put (cs := #[.bool t555, .int .u64 t556, .int .u64 t557, .int .i64 0]) ?_ 3 _ rfl; (with_reducible repeat (first | refine bN_ _ ?_ | refine bd_ ?_ | refine ba_ _ ?_)); refine blk_put (cs := #[.bool t555, .int .u64 t556, .int .u64 0, .int .i64 0]) ?_ 2 _ rfl; (with_reducible repeat (first | refine bN_ _ ?_ | refine bd_ ?_ | refine ba_ _ ?_)); refine blk_put (cs := #[.bool t555, .int .u64 0, .int .u64 0, .int .i64 0]) ?_ 1 _ rfl; (with_reducible repeat (first | refine bN_ _ ?_ | refine bd_ ?_ | refine ba_ _ ?_)); refine blk_put (cs := #[.bool false, .int .u64 0, .int .u64 0, .int .i64 0]) ?_ 0 _ rfl; (with_reducible repeat (first | refine bN_ _ ?_ | refine bd_ ?_ | refine ba_ _ ?_)); exact BK560.out⟩, ⟨bel_⟩⟩
   ·rw [if_neg c37] at H
    have c37b0 : (t547 != t559) = false := by simpa using c37
    (try (have c37b1 : decide (t547 = t559) = true := by simpa using c37))
    (try (have c37b2 : (t547 == t559) = true := by simpa using c37))
    clear c37
    (first | rw [c37b0] | (simp only [i64_w, i32_w]; rw [c37b0]) | skip)
    by_cases c38 : (t553 != t547) = true
    ·rw [if_pos c38] at H
     have c38b0 : (t553 != t547) = true := c38
     (try (have c38b1 : decide (t553 = t547) = false := by simpa using c38))
     (try (have c38b2 : (t553 == t547) = false := by simpa using c38))
     (try (have c38b3 : ¬ (t553 = t547) := by simpa using c38))
     clear c38
     have H' := Aside0.mk H
     clear H
     go_wp2
     go_meet
     case rel => exact ⟨_, (true), (by first | rfl | (simp; done) | (simp [*]; done)), H', ⟨by first | omega | exact Nat.le_refl _⟩, ⟨by (with_reducible repeat (first | refine bN_ _ ?_ | refine bd_ ?_ | refine ba_ _ ?_)); refine blk_far ?_ NB541_560.out _; (with_reducible repeat (first | refine bN_ _ ?_ | refine bd_ ?_ | refine ba_ _ ?_)); refine blk_far ?_ NB541_560.out _; (with_reducible repeat (first | refine bN_ _ ?_ | refine bd_ ?_ | refine ba_ _ ?_)); refine blk_far ?_ NB541_560.out _; (with_reducible repeat (first | refine bN_ _ ?_ | refine bd_ ?_ | refine ba_ _ ?_)); refine blk_far ?_ NB541_560.out _; (with_reducible repeat (first | refine bN_ _ ?_ | refine bd_ ?_ | refine ba_ _ ?_)); exact BK541.out⟩, ⟨by (with_reducible repeat (first | refine bN_ _ ?_ | refine bd_ ?_ | refine ba_ _ ?_)); refine blk_far ?_ NB542_560.out _; (with_reducible repeat (first | refine bN_ _ ?_ | refine bd_ ?_ | refine ba_ _ ?_)); refine blk_far ?_ NB542_560.out _; (with_reducible repeat (first | refine bN_ _ ?_ | refine bd_ ?_ | refine ba_ _ ?_)); refine blk_far ?_ NB542_560.out _; (with_reducible repeat (first | refine bN_ _ ?_ | refine bd_ ?_ | refine ba_ _ ?_)); refine blk_far ?_ NB542_560.out _; (with_reducible repeat (first | refine bN_ _ ?_ | refine bd_ ?_ | refine ba_ _ ?_)); exact BK542.out⟩, ⟨by (with_reducible repeat (first | refine bN_ _ ?_ | refine bd_ ?_ | refine ba_ _ ?_)); refine blk_far ?_ NB548_560.out _; (with_reducible repeat (first | refine bN_ _ ?_ | refine bd_ ?_ | refine ba_ _ ?_)); refine blk_far ?_ NB548_560.out _; (with_reducible repeat (first | refine bN_ _ ?_ | refine bd_ ?_ | refine ba_ _ ?_)); refine blk_far ?_ NB548_560.out _; (with_reducible repeat (first | refine bN_ _ ?_ | refine bd_ ?_ | refine ba_ _ ?_)); refine blk_far ?_ NB548_560.out _; (with_reducible repeat (first | refine bN_ _ ?_ | refine bd_ ?_ | refine ba_ _ ?_)); exact BK548.out⟩, ⟨by (with_reducible repeat (first | refine bN_ _ ?_ | refine bd_ ?_ | refine ba_ _ ?_)); refine blk_far ?_ NB554_560.out _; (with_reducible repeat (first | refine bN_ _ ?_ | refine bd_ ?_ | refine ba_ _ ?_)); refine blk_far ?_ NB554_560.out _; (with_reducible repeat (first | refine bN_ _ ?_ | refine bd_ ?_ | refine ba_ _ ?_)); refine blk_far ?_ NB554_560.out _; (with_reducible repeat (first | refine bN_ _ ?_ | refine bd_ ?_ | refine ba_ _ ?_)); refine blk_far ?_ NB554_560.out _; (with_reducible repeat (first | refine bN_ _ ?_ | refine bd_ ?_ | refine ba_ _ ?_)); exact BK554.out⟩, ⟨by (with_reducible repeat (first | refine bN_ _ ?_ | refine bd_ ?_ | refine ba_ _ ?_)); refine blk_put (cs := #[.bool t555, .int .u64 t556, .int .u64 t557, .int .i64 0]) ?_ 3 _ rfl; (with_reducible repeat (first | refine bN_ _ ?_ | refine bd_ ?_ | refine ba_ _ ?_)); refine blk_put (cs := #[.bool t555, .int .u64 t556, .int .u64 0, .int .i64 0]) ?_ 2 _ rfl; (with_reducible repeat (first | refine bN_ _ ?_ | refine bd_ ?_ | refine ba_ _ ?_)); refine blk_put (cs := #[.bool t555, .int .u64 0, .int .u64 0, .int .i64 0]) ?_ 1 _ rfl; (with_reducible repeat (first | refine bN_ _ ?_ | refine bd_ ?_ | refine ba_ _ ?_)); refine blk_put (cs := #[.bool false, .int .u64 0, .int .u64 0, .int .i64 0]) ?_ 0 _ rfl; (with_reducible repeat (first | refine bN_ _ ?_ | refine bd_ ?_ | refine ba_ _ ?_)); exact BK560.out⟩, ⟨bel_⟩⟩
    ·rw [if_neg c38] at H
     have c38b0 : (t553 != t547) = false := by simpa using c38
     (try (have c38b1 : decide (t553 = t547) = true := by simpa using c38))
     (try (have c38b2 : (t553 == t547) = true := by simpa using c38))
     clear c38
     have H' := Aside0.mk H
     clear H
     have hnb39 := NB548_541.out
     have hnc39 := NB541_548.out
     have hnb40 := NB548_542.out
     have hnc40 := NB542_548.out
     have hnb41 := NB548_554.out
     have hnc41 := NB554_548.out
     have hnb42 := NB548_560.out
     have hnc42 := NB560_548.out
     obtain ⟨hcz43_0, hcz43_1, hcz43_2, hcz43_3, hfz43_0, hfz43_1, hfz43_2, hfz43_3⟩ := cf4_ (w := w31) BK548.out
     have hnb44 := NB554_541.out
     have hnc44 := NB541_554.out
     have hnb45 := NB554_542.out
     have hnc45 := NB542_554.out
     have hnb46 := NB554_560.out
     have hnc46 := NB560_554.out
     obtain ⟨hcz47_0, hcz47_1, hcz47_2, hcz47_3, hfz47_0, hfz47_1, hfz47_2, hfz47_3⟩ := cf4_ (w := w31) BK554.out
     go_wp2
     go_meet
     case rel => exact ⟨_, (((!(t543 == t549) || (!(t544 == t550) || (!(t545 == t551)))) || (!(t546 == t552)))), (by first | rfl | (simp; done) | (simp [*]; done)), H', ⟨by first | omega | exact Nat.le_refl _⟩, ⟨by (with_reducible repeat (first | refine bN_ _ ?_ | refine bd_ ?_ | refine ba_ _ ?_)); refine blk_far ?_ NB541_560.out _; (with_reducible repeat (first | refine bN_ _ ?_ | refine bd_ ?_ | refine ba_ _ ?_)); refine blk_far ?_ NB541_560.out _; (with_reducible repeat (first | refine bN_ _ ?_ | refine bd_ ?_ | refine ba_ _ ?_)); refine blk_far ?_ NB541_560.out _; (with_reducible repeat (first | refine bN_ _ ?_ | refine bd_ ?_ | refine ba_ _ ?_)); refine blk_far ?_ NB541_560.out _; (with_reducible repeat (first | refine bN_ _ ?_ | refine bd_ ?_ | refine ba_ _ ?_)); exact BK541.out⟩, ⟨by (with_reducible repeat (first | refine bN_ _ ?_ | refine bd_ ?_ | refine ba_ _ ?_)); refine blk_far ?_ NB542_560.out _; (with_reducible repeat (first | refine bN_ _ ?_ | refine bd_ ?_ | refine ba_ _ ?_)); refine blk_far ?_ NB542_560.out _; (with_reducible repeat (first | refine bN_ _ ?_ | refine bd_ ?_ | refine ba_ _ ?_)); refine blk_far ?_ NB542_560.out _; (with_reducible repeat (first | refine bN_ _ ?_ | refine bd_ ?_ | refine ba_ _ ?_)); refine blk_far ?_ NB542_560.out _; (with_reducible repeat (first | refine bN_ _ ?_ | refine bd_ ?_ | refine ba_ _ ?_)); exact BK542.out⟩, ⟨by (with_reducible repeat (first | refine bN_ _ ?_ | refine bd_ ?_ | refine ba_ _ ?_)); refine blk_far ?_ NB548_560.out _; (with_reducible repeat (first | refine bN_ _ ?_ | refine bd_ ?_ | refine ba_ _ ?_)); refine blk_far ?_ NB548_560.out _; (with_reducible repeat (first | refine bN_ _ ?_ | refine bd_ ?_ | refine ba_ _ ?_)); refine blk_far ?_ NB548_560.out _; (with_reducible repeat (first | refine bN_ _ ?_ | refine bd_ ?_ | refine ba_ _ ?_)); refine blk_far ?_ NB548_560.out _; (with_reducible repeat (first | refine bN_ _ ?_ | refine bd_ ?_ | refine ba_ _ ?_)); exact BK548.out⟩, ⟨by (with_reducible repeat (first | refine bN_ _ ?_ | refine bd_ ?_ | refine ba_ _ ?_)); refine blk_far ?_ NB554_560.out _; (with_reducible repeat (first | refine bN_ _ ?_ | refine bd_ ?_ | refine ba_ _ ?_)); refine blk_far ?_ NB554_560.out _; (with_reducible repeat (first | refine bN_ _ ?_ | refine bd_ ?_ | refine ba_ _ ?_)); refine blk_far ?_ NB554_560.out _; (with_reducible repeat (first | refine bN_ _ ?_ | refine bd_ ?_ | refine ba_ _ ?_)); refine blk_far ?_ NB554_560.out _; (with_reducible repeat (first | refine bN_ _ ?_ | refine bd_ ?_ | refine ba_ _ ?_)); exact BK554.out⟩, ⟨by (with_reducible repeat (first | refine bN_ _ ?_ | refine bd_ ?_ | refine ba_ _ ?_)); refine blk_put (cs := #[.bool t555, .int .u64 t556, .int .u64 t557, .int .i64 0]) ?_ 3 _ rfl; (with_reducible repeat (first | refine bN_ _ ?_ | refine bd_ ?_ | refine ba_ _ ?_)); refine blk_put (cs := #[.bool t555, .int .u64 t556, .int .u64 0, .int .i64 0]) ?_ 2 _ rfl; (with_reducible repeat (first | refine bN_ _ ?_ | refine bd_ ?_ | refine ba_ _ ?_)); refine blk_put (cs := #[.bool t555, .int .u64 0, .int .u64 0, .int .i64 0]) ?_ 1 _ rfl; (with_reducible repeat (first | refine bN_ _ ?_ | refine bd_ ?_ | refine ba_ _ ?_)); refine blk_put (cs := #[.bool false, .int .u64 0, .int .u64 0, .int .i64 0]) ?_ 0 _ rfl; (with_reducible repeat (first | refine bN_ _ ?_ | refine bd_ ?_ | refine ba_ _ ?_)); exact BK560.out⟩, ⟨bel_⟩⟩
  case rest =>
   clear HC8
   try clear c1
   try clear c2
   try clear p2
   try clear c3
   try clear c4
   try clear c6
   try clear c9
   try clear c12
   try clear c17
   try clear c18
   try clear c24
   try clear c25
   try clear c26
   try clear c27
   try clear c32
   try clear c33
   try clear c34
   try clear c35
   try clear c37
   try clear c37b0
   try clear c37b1
   try clear c37b2
   try clear c38
   try clear c38b0
   try clear c38b1
   try clear c38b2
   try clear c39
   try clear c40
   try clear c41
   try clear c42
   try clear c44
   try clear c45
   try clear c46
   try clear hcz13_0
   try clear hcz13_1
   try clear hcz13_2
   try clear hcz13_3
   try clear hcz14_0
   try clear hcz14_1
   try clear hcz14_2
   try clear hcz14_3
   try clear hcz19_0
   try clear hcz19_1
   try clear hcz19_2
   try clear hcz19_3
   try clear hcz20_0
   try clear hcz20_1
   try clear hcz20_2
   try clear hcz20_3
   try clear hcz21_0
   try clear hcz21_1
   try clear hcz21_2
   try clear hcz21_3
   try clear hcz27_0
   try clear hcz27_1
   try clear hcz27_2
   try clear hcz27_3
   try clear hcz28_0
   try clear hcz28_1
   try clear hcz28_2
   try clear hcz28_3
   try clear hcz29_0
   try clear hcz29_1
   try clear hcz29_2
   try clear hcz29_3
   try clear hcz36_0
   try clear hcz36_1
   try clear hcz36_2
   try clear hcz36_3
   try clear hcz43_0
   try clear hcz43_1
   try clear hcz43_2
   try clear hcz43_3
   try clear hcz47_0
   try clear hcz47_1
   try clear hcz47_2
   try clear hcz47_3
   try clear hfz13_0
   try clear hfz13_1
   try clear hfz13_2
   try clear hfz13_3
   try clear hfz14_0
   try clear hfz14_1
   try clear hfz14_2
   try clear hfz14_3
   try clear hfz19_0
   try clear hfz19_1
   try clear hfz19_2
   try clear hfz19_3
   try clear hfz20_0
   try clear hfz20_1
   try clear hfz20_2
   try clear hfz20_3
   try clear hfz21_0
   try clear hfz21_1
   try clear hfz21_2
   try clear hfz21_3
   try clear hfz27_0
   try clear hfz27_1
   try clear hfz27_2
   try clear hfz27_3
   try clear hfz28_0
   try clear hfz28_1
   try clear hfz28_2
   try clear hfz28_3
   try clear hfz29_0
   try clear hfz29_1
   try clear hfz29_2
   try clear hfz29_3
   try clear hfz36_0
   try clear hfz36_1
   try clear hfz36_2
   try clear hfz36_3
   try clear hfz43_0
   try clear hfz43_1
   try clear hfz43_2
   try clear hfz43_3
   try clear hfz47_0
   try clear hfz47_1
   try clear hfz47_2
   try clear hfz47_3
   obtain ⟨kq, x52_7, rfl, HA, HJ7, BK541, BK542, BK548, BK554, BK560, HB⟩ := hcut
   cases kq with
   | zero => exact absurd HA.out (by simp [laws_FnFracSum.j0])
   | succ kj7 =>
    have H := HA.out
    clear HA
    simp only [laws_FnFracSum.j0] at H
    by_cases c48 : x52_7 = true
    ·subst c48
     have H1 : (some false) = some r := by rw [if_pos rfl] at H; exact H
     clear H
     have H := H1
     clear H1
     exact absurd ((Option.some.inj H).trans hrt.out) (by decide)
    ·replace c48 := Bool.eq_false_iff.mpr c48
     subst c48
     have H1 : ((spec_DrawSquareOver.f kj7 l0).bind fun bt561 => ((impl_SquareOver.f bt561.1 bt561.2).bind fun bt563 => (if t547 = true then ((impl_FracOk.f t543 t544 t545 t546).bind fun t569 => (if t569 = true then (if bt561.2 ≥ 1 then (if (bt563.2.2.2.2 == (decide (bt561.2 ≤ 1000000))) = true then (if bt563.2.2.2.2 = true then ((spec_CompareWide.f kj7 bt563.1 bt563.2.1 bt563.2.2.1 false 0 0).bind fun t570 => (if t570 ≥ 0 then ((impl_FracText.f kj7 bt563.1 bt563.2.1 bt563.2.2.1 bt563.2.2.2.1).bind fun t571 => (some (t571.toList != ([] : List UInt8)))) else (some false))) else (some true)) else (some false)) else (if (bt563.2.2.2.2 == false) = true then (if bt563.2.2.2.2 = true then ((spec_CompareWide.f kj7 bt563.1 bt563.2.1 bt563.2.2.1 false 0 0).bind fun t572 => (if t572 ≥ 0 then ((impl_FracText.f kj7 bt563.1 bt563.2.1 bt563.2.2.1 bt563.2.2.2.1).bind fun t573 => (some (t573.toList != ([] : List UInt8)))) else (some false))) else (some true)) else (some false))) else (some false))) else (if bt561.2 ≥ 1 then (if (bt563.2.2.2.2 == (decide (bt561.2 ≤ 1000000))) = true then (if bt563.2.2.2.2 = true then ((spec_CompareWide.f kj7 bt563.1 bt563.2.1 bt563.2.2.1 false 0 0).bind fun t574 => (if t574 ≥ 0 then ((impl_FracText.f kj7 bt563.1 bt563.2.1 bt563.2.2.1 bt563.2.2.2.1).bind fun t575 => (some (t575.toList != ([] : List UInt8)))) else (some false))) else (some true)) else (some false)) else (if (bt563.2.2.2.2 == false) = true then (if bt563.2.2.2.2 = true then ((spec_CompareWide.f kj7 bt563.1 bt563.2.1 bt563.2.2.1 false 0 0).bind fun t576 => (if t576 ≥ 0 then ((impl_FracText.f kj7 bt563.1 bt563.2.1 bt563.2.2.1 bt563.2.2.2.1).bind fun t577 => (some (t577.toList != ([] : List UInt8)))) else (some false))) else (some true)) else (some false)))))) = some r := by rw [if_neg (show ¬ (false = true) by decide)] at H; exact H
     clear H
     have H := H1
     clear H1
     replace H := Option.bind_eq_some_iff.mp H
     obtain ⟨⟨t561, t562⟩, A490, H⟩ := H
     replace H : ((impl_SquareOver.f t561 t562).bind fun bt563 => (if t547 = true then ((impl_FracOk.f t543 t544 t545 t546).bind fun t569 => (if t569 = true then (if t562 ≥ 1 then (if (bt563.2.2.2.2 == (decide (t562 ≤ 1000000))) = true then (if bt563.2.2.2.2 = true then ((spec_CompareWide.f kj7 bt563.1 bt563.2.1 bt563.2.2.1 false 0 0).bind fun t570 => (if t570 ≥ 0 then ((impl_FracText.f kj7 bt563.1 bt563.2.1 bt563.2.2.1 bt563.2.2.2.1).bind fun t571 => (some (t571.toList != ([] : List UInt8)))) else (some false))) else (some true)) else (some false)) else (if (bt563.2.2.2.2 == false) = true then (if bt563.2.2.2.2 = true then ((spec_CompareWide.f kj7 bt563.1 bt563.2.1 bt563.2.2.1 false 0 0).bind fun t572 => (if t572 ≥ 0 then ((impl_FracText.f kj7 bt563.1 bt563.2.1 bt563.2.2.1 bt563.2.2.2.1).bind fun t573 => (some (t573.toList != ([] : List UInt8)))) else (some false))) else (some true)) else (some false))) else (some false))) else (if t562 ≥ 1 then (if (bt563.2.2.2.2 == (decide (t562 ≤ 1000000))) = true then (if bt563.2.2.2.2 = true then ((spec_CompareWide.f kj7 bt563.1 bt563.2.1 bt563.2.2.1 false 0 0).bind fun t574 => (if t574 ≥ 0 then ((impl_FracText.f kj7 bt563.1 bt563.2.1 bt563.2.2.1 bt563.2.2.2.1).bind fun t575 => (some (t575.toList != ([] : List UInt8)))) else (some false))) else (some true)) else (some false)) else (if (bt563.2.2.2.2 == false) = true then (if bt563.2.2.2.2 = true then ((spec_CompareWide.f kj7 bt563.1 bt563.2.1 bt563.2.2.1 false 0 0).bind fun t576 => (if t576 ≥ 0 then ((impl_FracText.f kj7 bt563.1 bt563.2.1 bt563.2.2.1 bt563.2.2.2.1).bind fun t577 => (some (t577.toList != ([] : List UInt8)))) else (some false))) else (some true)) else (some false))))) = some r := H
     have A49 := Aside0.mk A490
     clear A490
     replace H := Option.bind_eq_some_iff.mp H
     obtain ⟨⟨t563, t564, t565, t566, t567⟩, A500, H⟩ := H
     replace H : (if t547 = true then ((impl_FracOk.f t543 t544 t545 t546).bind fun t569 => (if t569 = true then (if t562 ≥ 1 then (if (t567 == (decide (t562 ≤ 1000000))) = true then (if t567 = true then ((spec_CompareWide.f kj7 t563 t564 t565 false 0 0).bind fun t570 => (if t570 ≥ 0 then ((impl_FracText.f kj7 t563 t564 t565 t566).bind fun t571 => (some (t571.toList != ([] : List UInt8)))) else (some false))) else (some true)) else (some false)) else (if (t567 == false) = true then (if t567 = true then ((spec_CompareWide.f kj7 t563 t564 t565 false 0 0).bind fun t572 => (if t572 ≥ 0 then ((impl_FracText.f kj7 t563 t564 t565 t566).bind fun t573 => (some (t573.toList != ([] : List UInt8)))) else (some false))) else (some true)) else (some false))) else (some false))) else (if t562 ≥ 1 then (if (t567 == (decide (t562 ≤ 1000000))) = true then (if t567 = true then ((spec_CompareWide.f kj7 t563 t564 t565 false 0 0).bind fun t574 => (if t574 ≥ 0 then ((impl_FracText.f kj7 t563 t564 t565 t566).bind fun t575 => (some (t575.toList != ([] : List UInt8)))) else (some false))) else (some true)) else (some false)) else (if (t567 == false) = true then (if t567 = true then ((spec_CompareWide.f kj7 t563 t564 t565 false 0 0).bind fun t576 => (if t576 ≥ 0 then ((impl_FracText.f kj7 t563 t564 t565 t566).bind fun t577 => (some (t577.toList != ([] : List UInt8)))) else (some false))) else (some true)) else (some false)))) = some r := H
     have A50 := Aside0.mk A500
     clear A500
     by_cases c51 : t547 = true
     ·subst c51
      have H1 : ((impl_FracOk.f t543 t544 t545 t546).bind fun t569 => (if t569 = true then (if t562 ≥ 1 then (if (t567 == (decide (t562 ≤ 1000000))) = true then (if t567 = true then ((spec_CompareWide.f kj7 t563 t564 t565 false 0 0).bind fun t570 => (if t570 ≥ 0 then ((impl_FracText.f kj7 t563 t564 t565 t566).bind fun t571 => (some (t571.toList != ([] : List UInt8)))) else (some false))) else (some true)) else (some false)) else (if (t567 == false) = true then (if t567 = true then ((spec_CompareWide.f kj7 t563 t564 t565 false 0 0).bind fun t572 => (if t572 ≥ 0 then ((impl_FracText.f kj7 t563 t564 t565 t566).bind fun t573 => (some (t573.toList != ([] : List UInt8)))) else (some false))) else (some true)) else (some false))) else (some false))) = some r := by rw [if_pos rfl] at H; exact H
      clear H
      have H := H1
      clear H1
      replace H := Option.bind_eq_some_iff.mp H
      obtain ⟨t569, A520, H⟩ := H
      replace H : (if t569 = true then (if t562 ≥ 1 then (if (t567 == (decide (t562 ≤ 1000000))) = true then (if t567 = true then ((spec_CompareWide.f kj7 t563 t564 t565 false 0 0).bind fun t570 => (if t570 ≥ 0 then ((impl_FracText.f kj7 t563 t564 t565 t566).bind fun t571 => (some (t571.toList != ([] : List UInt8)))) else (some false))) else (some true)) else (some false)) else (if (t567 == false) = true then (if t567 = true then ((spec_CompareWide.f kj7 t563 t564 t565 false 0 0).bind fun t572 => (if t572 ≥ 0 then ((impl_FracText.f kj7 t563 t564 t565 t566).bind fun t573 => (some (t573.toList != ([] : List UInt8)))) else (some false))) else (some true)) else (some false))) else (some false)) = some r := H
      have A52 := Aside0.mk A520
      clear A520
      by_cases c53 : t569 = true
      ·subst c53
       have H1 : (if t562 ≥ 1 then (if (t567 == (decide (t562 ≤ 1000000))) = true then (if t567 = true then ((spec_CompareWide.f kj7 t563 t564 t565 false 0 0).bind fun t570 => (if t570 ≥ 0 then ((impl_FracText.f kj7 t563 t564 t565 t566).bind fun t571 => (some (t571.toList != ([] : List UInt8)))) else (some false))) else (some true)) else (some false)) else (if (t567 == false) = true then (if t567 = true then ((spec_CompareWide.f kj7 t563 t564 t565 false 0 0).bind fun t572 => (if t572 ≥ 0 then ((impl_FracText.f kj7 t563 t564 t565 t566).bind fun t573 => (some (t573.toList != ([] : List UInt8)))) else (some false))) else (some true)) else (some false))) = some r := by rw [if_pos rfl] at H; exact H
       clear H
       have H := H1
       clear H1
       by_cases c54 : t562 ≥ 1
       ·rw [if_pos c54] at H
        have c54b0 : decide (1 ≤ t562) = true := decide_eq_true c54
        clear c54
        by_cases c55 : (t567 == (decide (t562 ≤ 1000000))) = true
        ·rw [if_pos c55] at H
         have c55b0 : (t567 == (decide (t562 ≤ 1000000))) = true := c55
         (try (have c55b1 : decide (t567 = (decide (t562 ≤ 1000000))) = true := by simpa using c55))
         (try (have c55b2 : (t567 == (decide (t562 ≤ 1000000))) = true := by simpa using c55))
         clear c55
         by_cases c56 : t567 = true
         ·subst c56
          have H1 : ((spec_CompareWide.f kj7 t563 t564 t565 false 0 0).bind fun t570 => (if t570 ≥ 0 then ((impl_FracText.f kj7 t563 t564 t565 t566).bind fun t571 => (some (t571.toList != ([] : List UInt8)))) else (some false))) = some r := by rw [if_pos rfl] at H; exact H
          clear H
          have H := H1
          clear H1
          replace H := Option.bind_eq_some_iff.mp H
          obtain ⟨t570, A570, H⟩ := H
          replace H : (if t570 ≥ 0 then ((impl_FracText.f kj7 t563 t564 t565 t566).bind fun t571 => (some (t571.toList != ([] : List UInt8)))) else (some false)) = some r := H
          have A57 := Aside0.mk A570
          clear A570
          by_cases c58 : t570 ≥ 0
          ·rw [if_pos c58] at H
           have c58b0 : decide (0 ≤ t570) = true := decide_eq_true c58
           clear c58
           replace H := Option.bind_eq_some_iff.mp H
           obtain ⟨t571, A590, H⟩ := H
           replace H : (some (t571.toList != ([] : List UInt8))) = some r := H
           have A59 := Aside0.mk A590
           clear A590
           obtain rfl := Option.some.inj H
           go_wp2_with (first | ((with_reducible refine gate_callee (f := 28) rfl ?_); refine goesL_ (some 55) rfl rfl Tryd.func28 (by kernel_rfl) rfl #[.slice A0 l0.length c0] rfl mp_ ?_; (with_reducible refine (spec_DrawSquareOver.calls kj7 _ _ l0 t561 t562 _ ?side1 ?side2 A49.out).mono ?_); (case side1 => repeat (first | exact (Kd.C_below HR0.out HB.out) | (with_reducible refine Kd.C_alloc ?_ _) | (with_reducible refine Kd.C_drewN ?_ _) | (with_reducible refine Kd.C_drew ?_))); (case side2 => exact HC0.out); rintro e w60 ⟨rfl, hb⟩; refine ⟨_, rfl, ?_⟩; replace HB := Aside0.mk (below_step bel_ hb); replace BK541 := bb_ (g := gb541) hb; replace BK542 := bb_ (g := gb542) hb; replace BK548 := bb_ (g := gb548) hb; replace BK554 := bb_ (g := gb554) hb; replace BK560 := bb_ (g := gb560) hb; (try clear hb); (try clear hb2); (try clear hk); (try clear hi)) | ((with_reducible refine gate_callee (f := 29) rfl ?_); refine goesL_ (some 61) rfl rfl Tryd.func29 (by kernel_rfl) rfl #[.int .i64 t561, .int .i64 t562] rfl mp_ ?_; (with_reducible refine (impl_SquareOver.calls t561 t562 t563 t564 t565 t566 true _ A50.out).mono ?_); rintro e w61 ⟨rfl, hb⟩; refine ⟨_, rfl, ?_⟩; replace HB := Aside0.mk (below_step bel_ hb); replace BK541 := bb_ (g := gb541) hb; replace BK542 := bb_ (g := gb542) hb; replace BK548 := bb_ (g := gb548) hb; replace BK554 := bb_ (g := gb554) hb; replace BK560 := bb_ (g := gb560) hb; (try clear hb); (try clear hb2); (try clear hk); (try clear hi)) | ((with_reducible refine gate_dst (N := 13) rfl ?_); refine box_event ?hg (N := 13) ?hd (cs := #[.bool false, .int .u64 0, .int .u64 0, .int .i64 0]) (t := 43) ?hr ?_; (case hd => rfl); (case hg => rfl); (case hr => first | (go_simp; done) | (go_simp; rfl)); intro gb568 hg w62 hbox hb; have BK568 := Aside0.mk (hbox); have GW568 := bs_ (w := w) hg; have GE568 := bs_ (w := w) hg; have NB541_568 := nlt_ (g := gb541) hg; have NB568_541 := ngt_ (g := gb541) hg; have NB542_568 := nlt_ (g := gb542) hg; have NB568_542 := ngt_ (g := gb542) hg; have NB548_568 := nlt_ (g := gb548) hg; have NB568_548 := ngt_ (g := gb548) hg; have NB554_568 := nlt_ (g := gb554) hg; have NB568_554 := ngt_ (g := gb554) hg; have NB560_568 := nlt_ (g := gb560) hg; have NB568_560 := ngt_ (g := gb560) hg; replace HB := Aside0.mk (below_step bel_ hb); replace BK541 := bb_ (g := gb541) hb; replace BK542 := bb_ (g := gb542) hb; replace BK548 := bb_ (g := gb548) hb; replace BK554 := bb_ (g := gb554) hb; replace BK560 := bb_ (g := gb560) hb; clear hb hbox hg; have hnb63 := NB568_541.out; have hnc63 := NB541_568.out; have hnb64 := NB568_542.out; have hnc64 := NB542_568.out; have hnb65 := NB568_548.out; have hnc65 := NB548_568.out; have hnb66 := NB568_554.out; have hnc66 := NB554_568.out; have hnb67 := NB568_560.out; have hnc67 := NB560_568.out; obtain ⟨hcz68_0, hcz68_1, hcz68_2, hcz68_3, hfz68_0, hfz68_1, hfz68_2, hfz68_3⟩ := cf4_ (w := w62) BK568.out; have hnb69 := NB548_541.out; have hnc69 := NB541_548.out; have hnb70 := NB548_542.out; have hnc70 := NB542_548.out; have hnb71 := NB548_554.out; have hnc71 := NB554_548.out; have hnb72 := NB548_560.out; have hnc72 := NB560_548.out; obtain ⟨hcz73_0, hcz73_1, hcz73_2, hcz73_3, hfz73_0, hfz73_1, hfz73_2, hfz73_3⟩ := cf4_ (w := w62) BK548.out) | (go_at_call 30; (with_reducible refine (impl_FracOk.calls t543 t544 t545 t546 true _ A52.out).mono ?_); rintro e w74 ⟨rfl, hb⟩; replace HB := Aside0.mk (below_step bel_ hb); replace BK541 := Aside0.mk (blk_below (g := gb541) (o := .cells #[.bool t533, .int .u64 t534, .int .u64 t535, .int .i64 t536] 43 (0, 0)) bk_ hb); replace BK542 := Aside0.mk (blk_below (g := gb542) (o := .cells #[.bool t537, .int .u64 t538, .int .u64 t539, .int .i64 t540] 43 (0, 0)) bk_ hb); replace BK548 := Aside0.mk (blk_below (g := gb548) (o := .cells #[.bool t543, .int .u64 t544, .int .u64 t545, .int .i64 t546] 43 (0, 0)) bk_ hb); replace BK554 := Aside0.mk (blk_below (g := gb554) (o := .cells #[.bool t549, .int .u64 t550, .int .u64 t551, .int .i64 t552] 43 (0, 0)) bk_ hb); replace BK560 := Aside0.mk (blk_below (g := gb560) (o := .cells #[.bool t555, .int .u64 t556, .int .u64 t557, .int .i64 t558] 43 (0, 0)) bk_ hb); replace BK568 := Aside0.mk (blk_below (g := gb568) (o := .cells #[.bool t563, .int .u64 t564, .int .u64 t565, .int .i64 t566] 43 (0, 0)) (pu_ #[.bool t563, .int .u64 t564, .int .u64 t565, .int .i64 0] 3 (h := (pu_ #[.bool t563, .int .u64 t564, .int .u64 0, .int .i64 0] 2 (h := (pu_ #[.bool t563, .int .u64 0, .int .u64 0, .int .i64 0] 1 (h := (pu_ #[.bool false, .int .u64 0, .int .u64 0, .int .i64 0] 0 (h := bk_)))))))) hb); (try clear hb); (try clear hb2); (try clear hk); (try clear hi); obtain ⟨hcz75_0, hcz75_1, hcz75_2, hcz75_3, hfz75_0, hfz75_1, hfz75_2, hfz75_3⟩ := cf4_ (w := w74) BK568.out) | (go_at_call 31; (with_reducible refine (spec_CompareWide.calls kj7 t563 t564 t565 false 0 0 t570 _ A57.out).mono ?_); rintro e w76 ⟨rfl, hb⟩; replace HB := Aside0.mk (below_step bel_ hb); replace BK541 := bb_ (g := gb541) hb; replace BK542 := bb_ (g := gb542) hb; replace BK548 := bb_ (g := gb548) hb; replace BK554 := bb_ (g := gb554) hb; replace BK560 := bb_ (g := gb560) hb; replace BK568 := bb_ (g := gb568) hb; (try clear hb); (try clear hb2); (try clear hk); (try clear hi); obtain ⟨hcz77_0, hcz77_1, hcz77_2, hcz77_3, hfz77_0, hfz77_1, hfz77_2, hfz77_3⟩ := cf4_ (w := w76) BK568.out) | (go_at_call 32; (with_reducible refine (impl_FracText.calls kj7 t563 t564 t565 t566 t571 _ A59.out (laid_ hl)).mono ?_); rintro e w78 ⟨rfl, hb⟩; replace HB := Aside0.mk (below_step bel_ hb); replace BK541 := bb_ (g := gb541) hb; replace BK542 := bb_ (g := gb542) hb; replace BK548 := bb_ (g := gb548) hb; replace BK554 := bb_ (g := gb554) hb; replace BK560 := bb_ (g := gb560) hb; replace BK568 := bb_ (g := gb568) hb; (try clear hb); (try clear hb2); (try clear hk); (try clear hi)))
           all_goals go_ret
           all_goals exact ⟨by first | exact rf_ | (have hr_ := hrt.out; cases ht_ : t571.toList <;> rw [ht_] at hr_ <;> first | rfl | cases hr_ | (simp [ht_]; done)), bel_⟩
          ·rw [if_neg c58] at H
           have c58b0 : decide (0 ≤ t570) = false := decide_eq_false c58
           clear c58
           exact absurd ((Option.some.inj H).trans hrt.out) (by decide)
         ·replace c56 := Bool.eq_false_iff.mpr c56
          subst c56
          have H1 : (some true) = some r := by rw [if_neg (show ¬ (false = true) by decide)] at H; exact H
          clear H
          have H := H1
          clear H1
          obtain rfl := Option.some.inj H
          go_wp2_with (first | ((with_reducible refine gate_callee (f := 28) rfl ?_); refine goesL_ (some 55) rfl rfl Tryd.func28 (by kernel_rfl) rfl #[.slice A0 l0.length c0] rfl mp_ ?_; (with_reducible refine (spec_DrawSquareOver.calls kj7 _ _ l0 t561 t562 _ ?side1 ?side2 A49.out).mono ?_); (case side1 => repeat (first | exact (Kd.C_below HR0.out HB.out) | (with_reducible refine Kd.C_alloc ?_ _) | (with_reducible refine Kd.C_drewN ?_ _) | (with_reducible refine Kd.C_drew ?_))); (case side2 => exact HC0.out); rintro e w79 ⟨rfl, hb⟩; refine ⟨_, rfl, ?_⟩; replace HB := Aside0.mk (below_step bel_ hb); replace BK541 := bb_ (g := gb541) hb; replace BK542 := bb_ (g := gb542) hb; replace BK548 := bb_ (g := gb548) hb; replace BK554 := bb_ (g := gb554) hb; replace BK560 := bb_ (g := gb560) hb; (try clear hb); (try clear hb2); (try clear hk); (try clear hi)) | ((with_reducible refine gate_callee (f := 29) rfl ?_); refine goesL_ (some 61) rfl rfl Tryd.func29 (by kernel_rfl) rfl #[.int .i64 t561, .int .i64 t562] rfl mp_ ?_; (with_reducible refine (impl_SquareOver.calls t561 t562 t563 t564 t565 t566 false _ A50.out).mono ?_); rintro e w80 ⟨rfl, hb⟩; refine ⟨_, rfl, ?_⟩; replace HB := Aside0.mk (below_step bel_ hb); replace BK541 := bb_ (g := gb541) hb; replace BK542 := bb_ (g := gb542) hb; replace BK548 := bb_ (g := gb548) hb; replace BK554 := bb_ (g := gb554) hb; replace BK560 := bb_ (g := gb560) hb; (try clear hb); (try clear hb2); (try clear hk); (try clear hi)) | ((with_reducible refine gate_dst (N := 13) rfl ?_); refine box_event ?hg (N := 13) ?hd (cs := #[.bool false, .int .u64 0, .int .u64 0, .int .i64 0]) (t := 43) ?hr ?_; (case hd => rfl); (case hg => rfl); (case hr => first | (go_simp; done) | (go_simp; rfl)); intro gb568 hg w81 hbox hb; have BK568 := Aside0.mk (hbox); have GW568 := bs_ (w := w) hg; have GE568 := bs_ (w := w) hg; have NB541_568 := nlt_ (g := gb541) hg; have NB568_541 := ngt_ (g := gb541) hg; have NB542_568 := nlt_ (g := gb542) hg; have NB568_542 := ngt_ (g := gb542) hg; have NB548_568 := nlt_ (g := gb548) hg; have NB568_548 := ngt_ (g := gb548) hg; have NB554_568 := nlt_ (g := gb554) hg; have NB568_554 := ngt_ (g := gb554) hg; have NB560_568 := nlt_ (g := gb560) hg; have NB568_560 := ngt_ (g := gb560) hg; replace HB := Aside0.mk (below_step bel_ hb); replace BK541 := bb_ (g := gb541) hb; replace BK542 := bb_ (g := gb542) hb; replace BK548 := bb_ (g := gb548) hb; replace BK554 := bb_ (g := gb554) hb; replace BK560 := bb_ (g := gb560) hb; clear hb hbox hg; have hnb82 := NB568_541.out; have hnc82 := NB541_568.out; have hnb83 := NB568_542.out; have hnc83 := NB542_568.out; have hnb84 := NB568_548.out; have hnc84 := NB548_568.out; have hnb85 := NB568_554.out; have hnc85 := NB554_568.out; have hnb86 := NB568_560.out; have hnc86 := NB560_568.out; obtain ⟨hcz87_0, hcz87_1, hcz87_2, hcz87_3, hfz87_0, hfz87_1, hfz87_2, hfz87_3⟩ := cf4_ (w := w81) BK568.out; have hnb88 := NB548_541.out; have hnc88 := NB541_548.out; have hnb89 := NB548_542.out; have hnc89 := NB542_548.out; have hnb90 := NB548_554.out; have hnc90 := NB554_548.out; have hnb91 := NB548_560.out; have hnc91 := NB560_548.out; obtain ⟨hcz92_0, hcz92_1, hcz92_2, hcz92_3, hfz92_0, hfz92_1, hfz92_2, hfz92_3⟩ := cf4_ (w := w81) BK548.out) | (go_at_call 30; (with_reducible refine (impl_FracOk.calls t543 t544 t545 t546 true _ A52.out).mono ?_); rintro e w93 ⟨rfl, hb⟩; replace HB := Aside0.mk (below_step bel_ hb); replace BK541 := Aside0.mk (blk_below (g := gb541) (o := .cells #[.bool t533, .int .u64 t534, .int .u64 t535, .int .i64 t536] 43 (0, 0)) bk_ hb); replace BK542 := Aside0.mk (blk_below (g := gb542) (o := .cells #[.bool t537, .int .u64 t538, .int .u64 t539, .int .i64 t540] 43 (0, 0)) bk_ hb); replace BK548 := Aside0.mk (blk_below (g := gb548) (o := .cells #[.bool t543, .int .u64 t544, .int .u64 t545, .int .i64 t546] 43 (0, 0)) bk_ hb); replace BK554 := Aside0.mk (blk_below (g := gb554) (o := .cells #[.bool t549, .int .u64 t550, .int .u64 t551, .int .i64 t552] 43 (0, 0)) bk_ hb); replace BK560 := Aside0.mk (blk_below (g := gb560) (o := .cells #[.bool t555, .int .u64 t556, .int .u64 t557, .int .i64 t558] 43 (0, 0)) bk_ hb); replace BK568 := Aside0.mk (blk_below (g := gb568) (o := .cells #[.bool t563, .int .u64 t564, .int .u64 t565, .int .i64 t566] 43 (0, 0)) (pu_ #[.bool t563, .int .u64 t564, .int .u64 t565, .int .i64 0] 3 (h := (pu_ #[.bool t563, .int .u64 t564, .int .u64 0, .int .i64 0] 2 (h := (pu_ #[.bool t563, .int .u64 0, .int .u64 0, .int .i64 0] 1 (h := (pu_ #[.bool false, .int .u64 0, .int .u64 0, .int .i64 0] 0 (h := bk_)))))))) hb); (try clear hb); (try clear hb2); (try clear hk); (try clear hi)))
          all_goals go_ret
          all_goals exact ⟨rf_, bel_⟩
        ·rw [if_neg c55] at H
         have c55b0 : (t567 == (decide (t562 ≤ 1000000))) = false := by simpa using c55
         (try (have c55b1 : decide (t567 = (decide (t562 ≤ 1000000))) = false := by simpa using c55))
         (try (have c55b2 : (t567 == (decide (t562 ≤ 1000000))) = false := by simpa using c55))
         (try (have c55b3 : ¬ (t567 = (decide (t562 ≤ 1000000))) := by simpa using c55))
         clear c55
         exact absurd ((Option.some.inj H).trans hrt.out) (by decide)
       ·rw [if_neg c54] at H
        have c54b0 : decide (1 ≤ t562) = false := decide_eq_false c54
        clear c54
        by_cases c94 : (t567 == false) = true
        ·rw [if_pos c94] at H
         have c94b0 : (t567 == false) = true := c94
         (try (have c94s : (!t567) = true := by simpa using c94))
         (try (have c94b1 : decide (t567 = false) = true := by simpa using c94))
         (try (have c94b2 : (t567 == false) = true := by simpa using c94))
         clear c94
         by_cases c95 : t567 = true
         ·subst c95
          have H1 : ((spec_CompareWide.f kj7 t563 t564 t565 false 0 0).bind fun t572 => (if t572 ≥ 0 then ((impl_FracText.f kj7 t563 t564 t565 t566).bind fun t573 => (some (t573.toList != ([] : List UInt8)))) else (some false))) = some r := by rw [if_pos rfl] at H; exact H
          clear H
          have H := H1
          clear H1
          replace H := Option.bind_eq_some_iff.mp H
          obtain ⟨t572, A960, H⟩ := H
          replace H : (if t572 ≥ 0 then ((impl_FracText.f kj7 t563 t564 t565 t566).bind fun t573 => (some (t573.toList != ([] : List UInt8)))) else (some false)) = some r := H
          have A96 := Aside0.mk A960
          clear A960
          by_cases c97 : t572 ≥ 0
          ·rw [if_pos c97] at H
           have c97b0 : decide (0 ≤ t572) = true := decide_eq_true c97
           clear c97
           replace H := Option.bind_eq_some_iff.mp H
           obtain ⟨t573, A980, H⟩ := H
           replace H : (some (t573.toList != ([] : List UInt8))) = some r := H
           have A98 := Aside0.mk A980
           clear A980
           obtain rfl := Option.some.inj H
           go_wp2_with (first | ((with_reducible refine gate_callee (f := 28) rfl ?_); refine goesL_ (some 55) rfl rfl Tryd.func28 (by kernel_rfl) rfl #[.slice A0 l0.length c0] rfl mp_ ?_; (with_reducible refine (spec_DrawSquareOver.calls kj7 _ _ l0 t561 t562 _ ?side1 ?side2 A49.out).mono ?_); (case side1 => repeat (first | exact (Kd.C_below HR0.out HB.out) | (with_reducible refine Kd.C_alloc ?_ _) | (with_reducible refine Kd.C_drewN ?_ _) | (with_reducible refine Kd.C_drew ?_))); (case side2 => exact HC0.out); rintro e w99 ⟨rfl, hb⟩; refine ⟨_, rfl, ?_⟩; replace HB := Aside0.mk (below_step bel_ hb); replace BK541 := bb_ (g := gb541) hb; replace BK542 := bb_ (g := gb542) hb; replace BK548 := bb_ (g := gb548) hb; replace BK554 := bb_ (g := gb554) hb; replace BK560 := bb_ (g := gb560) hb; (try clear hb); (try clear hb2); (try clear hk); (try clear hi)) | ((with_reducible refine gate_callee (f := 29) rfl ?_); refine goesL_ (some 61) rfl rfl Tryd.func29 (by kernel_rfl) rfl #[.int .i64 t561, .int .i64 t562] rfl mp_ ?_; (with_reducible refine (impl_SquareOver.calls t561 t562 t563 t564 t565 t566 true _ A50.out).mono ?_); rintro e w100 ⟨rfl, hb⟩; refine ⟨_, rfl, ?_⟩; replace HB := Aside0.mk (below_step bel_ hb); replace BK541 := bb_ (g := gb541) hb; replace BK542 := bb_ (g := gb542) hb; replace BK548 := bb_ (g := gb548) hb; replace BK554 := bb_ (g := gb554) hb; replace BK560 := bb_ (g := gb560) hb; (try clear hb); (try clear hb2); (try clear hk); (try clear hi)) | ((with_reducible refine gate_dst (N := 13) rfl ?_); refine box_event ?hg (N := 13) ?hd (cs := #[.bool false, .int .u64 0, .int .u64 0, .int .i64 0]) (t := 43) ?hr ?_; (case hd => rfl); (case hg => rfl); (case hr => first | (go_simp; done) | (go_simp; rfl)); intro gb568 hg w101 hbox hb; have BK568 := Aside0.mk (hbox); have GW568 := bs_ (w := w) hg; have GE568 := bs_ (w := w) hg; have NB541_568 := nlt_ (g := gb541) hg; have NB568_541 := ngt_ (g := gb541) hg; have NB542_568 := nlt_ (g := gb542) hg; have NB568_542 := ngt_ (g := gb542) hg; have NB548_568 := nlt_ (g := gb548) hg; have NB568_548 := ngt_ (g := gb548) hg; have NB554_568 := nlt_ (g := gb554) hg; have NB568_554 := ngt_ (g := gb554) hg; have NB560_568 := nlt_ (g := gb560) hg; have NB568_560 := ngt_ (g := gb560) hg; replace HB := Aside0.mk (below_step bel_ hb); replace BK541 := bb_ (g := gb541) hb; replace BK542 := bb_ (g := gb542) hb; replace BK548 := bb_ (g := gb548) hb; replace BK554 := bb_ (g := gb554) hb; replace BK560 := bb_ (g := gb560) hb; clear hb hbox hg; have hnb102 := NB568_541.out; have hnc102 := NB541_568.out; have hnb103 := NB568_542.out; have hnc103 := NB542_568.out; have hnb104 := NB568_548.out; have hnc104 := NB548_568.out; have hnb105 := NB568_554.out; have hnc105 := NB554_568.out; have hnb106 := NB568_560.out; have hnc106 := NB560_568.out; obtain ⟨hcz107_0, hcz107_1, hcz107_2, hcz107_3, hfz107_0, hfz107_1, hfz107_2, hfz107_3⟩ := cf4_ (w := w101) BK568.out; have hnb108 := NB548_541.out; have hnc108 := NB541_548.out; have hnb109 := NB548_542.out; have hnc109 := NB542_548.out; have hnb110 := NB548_554.out; have hnc110 := NB554_548.out; have hnb111 := NB548_560.out; have hnc111 := NB560_548.out; obtain ⟨hcz112_0, hcz112_1, hcz112_2, hcz112_3, hfz112_0, hfz112_1, hfz112_2, hfz112_3⟩ := cf4_ (w := w101) BK548.out) | (go_at_call 30; (with_reducible refine (impl_FracOk.calls t543 t544 t545 t546 true _ A52.out).mono ?_); rintro e w113 ⟨rfl, hb⟩; replace HB := Aside0.mk (below_step bel_ hb); replace BK541 := Aside0.mk (blk_below (g := gb541) (o := .cells #[.bool t533, .int .u64 t534, .int .u64 t535, .int .i64 t536] 43 (0, 0)) bk_ hb); replace BK542 := Aside0.mk (blk_below (g := gb542) (o := .cells #[.bool t537, .int .u64 t538, .int .u64 t539, .int .i64 t540] 43 (0, 0)) bk_ hb); replace BK548 := Aside0.mk (blk_below (g := gb548) (o := .cells #[.bool t543, .int .u64 t544, .int .u64 t545, .int .i64 t546] 43 (0, 0)) bk_ hb); replace BK554 := Aside0.mk (blk_below (g := gb554) (o := .cells #[.bool t549, .int .u64 t550, .int .u64 t551, .int .i64 t552] 43 (0, 0)) bk_ hb); replace BK560 := Aside0.mk (blk_below (g := gb560) (o := .cells #[.bool t555, .int .u64 t556, .int .u64 t557, .int .i64 t558] 43 (0, 0)) bk_ hb); replace BK568 := Aside0.mk (blk_below (g := gb568) (o := .cells #[.bool t563, .int .u64 t564, .int .u64 t565, .int .i64 t566] 43 (0, 0)) (pu_ #[.bool t563, .int .u64 t564, .int .u64 t565, .int .i64 0] 3 (h := (pu_ #[.bool t563, .int .u64 t564, .int .u64 0, .int .i64 0] 2 (h := (pu_ #[.bool t563, .int .u64 0, .int .u64 0, .int .i64 0] 1 (h := (pu_ #[.bool false, .int .u64 0, .int .u64 0, .int .i64 0] 0 (h := bk_)))))))) hb); (try clear hb); (try clear hb2); (try clear hk); (try clear hi); obtain ⟨hcz114_0, hcz114_1, hcz114_2, hcz114_3, hfz114_0, hfz114_1, hfz114_2, hfz114_3⟩ := cf4_ (w := w113) BK568.out) | (go_at_call 31; (with_reducible refine (spec_CompareWide.calls kj7 t563 t564 t565 false 0 0 t572 _ A96.out).mono ?_); rintro e w115 ⟨rfl, hb⟩; replace HB := Aside0.mk (below_step bel_ hb); replace BK541 := bb_ (g := gb541) hb; replace BK542 := bb_ (g := gb542) hb; replace BK548 := bb_ (g := gb548) hb; replace BK554 := bb_ (g := gb554) hb; replace BK560 := bb_ (g := gb560) hb; replace BK568 := bb_ (g := gb568) hb; (try clear hb); (try clear hb2); (try clear hk); (try clear hi); obtain ⟨hcz116_0, hcz116_1, hcz116_2, hcz116_3, hfz116_0, hfz116_1, hfz116_2, hfz116_3⟩ := cf4_ (w := w115) BK568.out) | (go_at_call 32; (with_reducible refine (impl_FracText.calls kj7 t563 t564 t565 t566 t573 _ A98.out (laid_ hl)).mono ?_); rintro e w117 ⟨rfl, hb⟩; replace HB := Aside0.mk (below_step bel_ hb); replace BK541 := bb_ (g := gb541) hb; replace BK542 := bb_ (g := gb542) hb; replace BK548 := bb_ (g := gb548) hb; replace BK554 := bb_ (g := gb554) hb; replace BK560 := bb_ (g := gb560) hb; replace BK568 := bb_ (g := gb568) hb; (try clear hb); (try clear hb2); (try clear hk); (try clear hi)))
           all_goals go_ret
           all_goals exact ⟨by first | exact rf_ | (have hr_ := hrt.out; cases ht_ : t573.toList <;> rw [ht_] at hr_ <;> first | rfl | cases hr_ | (simp [ht_]; done)), bel_⟩
          ·rw [if_neg c97] at H
           have c97b0 : decide (0 ≤ t572) = false := decide_eq_false c97
           clear c97
           exact absurd ((Option.some.inj H).trans hrt.out) (by decide)
         ·replace c95 := Bool.eq_false_iff.mpr c95
          subst c95
          have H1 : (some true) = some r := by rw [if_neg (show ¬ (false = true) by decide)] at H; exact H
          clear H
          have H := H1
          clear H1
          obtain rfl := Option.some.inj H
          go_wp2_with (first | ((with_reducible refine gate_callee (f := 28) rfl ?_); refine goesL_ (some 55) rfl rfl Tryd.func28 (by kernel_rfl) rfl #[.slice A0 l0.length c0] rfl mp_ ?_; (with_reducible refine (spec_DrawSquareOver.calls kj7 _ _ l0 t561 t562 _ ?side1 ?side2 A49.out).mono ?_); (case side1 => repeat (first | exact (Kd.C_below HR0.out HB.out) | (with_reducible refine Kd.C_alloc ?_ _) | (with_reducible refine Kd.C_drewN ?_ _) | (with_reducible refine Kd.C_drew ?_))); (case side2 => exact HC0.out); rintro e w118 ⟨rfl, hb⟩; refine ⟨_, rfl, ?_⟩; replace HB := Aside0.mk (below_step bel_ hb); replace BK541 := bb_ (g := gb541) hb; replace BK542 := bb_ (g := gb542) hb; replace BK548 := bb_ (g := gb548) hb; replace BK554 := bb_ (g := gb554) hb; replace BK560 := bb_ (g := gb560) hb; (try clear hb); (try clear hb2); (try clear hk); (try clear hi)) | ((with_reducible refine gate_callee (f := 29) rfl ?_); refine goesL_ (some 61) rfl rfl Tryd.func29 (by kernel_rfl) rfl #[.int .i64 t561, .int .i64 t562] rfl mp_ ?_; (with_reducible refine (impl_SquareOver.calls t561 t562 t563 t564 t565 t566 false _ A50.out).mono ?_); rintro e w119 ⟨rfl, hb⟩; refine ⟨_, rfl, ?_⟩; replace HB := Aside0.mk (below_step bel_ hb); replace BK541 := bb_ (g := gb541) hb; replace BK542 := bb_ (g := gb542) hb; replace BK548 := bb_ (g := gb548) hb; replace BK554 := bb_ (g := gb554) hb; replace BK560 := bb_ (g := gb560) hb; (try clear hb); (try clear hb2); (try clear hk); (try clear hi)) | ((with_reducible refine gate_dst (N := 13) rfl ?_); refine box_event ?hg (N := 13) ?hd (cs := #[.bool false, .int .u64 0, .int .u64 0, .int .i64 0]) (t := 43) ?hr ?_; (case hd => rfl); (case hg => rfl); (case hr => first | (go_simp; done) | (go_simp; rfl)); intro gb568 hg w120 hbox hb; have BK568 := Aside0.mk (hbox); have GW568 := bs_ (w := w) hg; have GE568 := bs_ (w := w) hg; have NB541_568 := nlt_ (g := gb541) hg; have NB568_541 := ngt_ (g := gb541) hg; have NB542_568 := nlt_ (g := gb542) hg; have NB568_542 := ngt_ (g := gb542) hg; have NB548_568 := nlt_ (g := gb548) hg; have NB568_548 := ngt_ (g := gb548) hg; have NB554_568 := nlt_ (g := gb554) hg; have NB568_554 := ngt_ (g := gb554) hg; have NB560_568 := nlt_ (g := gb560) hg; have NB568_560 := ngt_ (g := gb560) hg; replace HB := Aside0.mk (below_step bel_ hb); replace BK541 := bb_ (g := gb541) hb; replace BK542 := bb_ (g := gb542) hb; replace BK548 := bb_ (g := gb548) hb; replace BK554 := bb_ (g := gb554) hb; replace BK560 := bb_ (g := gb560) hb; clear hb hbox hg; have hnb121 := NB568_541.out; have hnc121 := NB541_568.out; have hnb122 := NB568_542.out; have hnc122 := NB542_568.out; have hnb123 := NB568_548.out; have hnc123 := NB548_568.out; have hnb124 := NB568_554.out; have hnc124 := NB554_568.out; have hnb125 := NB568_560.out; have hnc125 := NB560_568.out; obtain ⟨hcz126_0, hcz126_1, hcz126_2, hcz126_3, hfz126_0, hfz126_1, hfz126_2, hfz126_3⟩ := cf4_ (w := w120) BK568.out; have hnb127 := NB548_541.out; have hnc127 := NB541_548.out; have hnb128 := NB548_542.out; have hnc128 := NB542_548.out; have hnb129 := NB548_554.out; have hnc129 := NB554_548.out; have hnb130 := NB548_560.out; have hnc130 := NB560_548.out; obtain ⟨hcz131_0, hcz131_1, hcz131_2, hcz131_3, hfz131_0, hfz131_1, hfz131_2, hfz131_3⟩ := cf4_ (w := w120) BK548.out) | (go_at_call 30; (with_reducible refine (impl_FracOk.calls t543 t544 t545 t546 true _ A52.out).mono ?_); rintro e w132 ⟨rfl, hb⟩; replace HB := Aside0.mk (below_step bel_ hb); replace BK541 := Aside0.mk (blk_below (g := gb541) (o := .cells #[.bool t533, .int .u64 t534, .int .u64 t535, .int .i64 t536] 43 (0, 0)) bk_ hb); replace BK542 := Aside0.mk (blk_below (g := gb542) (o := .cells #[.bool t537, .int .u64 t538, .int .u64 t539, .int .i64 t540] 43 (0, 0)) bk_ hb); replace BK548 := Aside0.mk (blk_below (g := gb548) (o := .cells #[.bool t543, .int .u64 t544, .int .u64 t545, .int .i64 t546] 43 (0, 0)) bk_ hb); replace BK554 := Aside0.mk (blk_below (g := gb554) (o := .cells #[.bool t549, .int .u64 t550, .int .u64 t551, .int .i64 t552] 43 (0, 0)) bk_ hb); replace BK560 := Aside0.mk (blk_below (g := gb560) (o := .cells #[.bool t555, .int .u64 t556, .int .u64 t557, .int .i64 t558] 43 (0, 0)) bk_ hb); replace BK568 := Aside0.mk (blk_below (g := gb568) (o := .cells #[.bool t563, .int .u64 t564, .int .u64 t565, .int .i64 t566] 43 (0, 0)) (pu_ #[.bool t563, .int .u64 t564, .int .u64 t565, .int .i64 0] 3 (h := (pu_ #[.bool t563, .int .u64 t564, .int .u64 0, .int .i64 0] 2 (h := (pu_ #[.bool t563, .int .u64 0, .int .u64 0, .int .i64 0] 1 (h := (pu_ #[.bool false, .int .u64 0, .int .u64 0, .int .i64 0] 0 (h := bk_)))))))) hb); (try clear hb); (try clear hb2); (try clear hk); (try clear hi)))
          all_goals go_ret
          all_goals exact ⟨rf_, bel_⟩
        ·rw [if_neg c94] at H
         have c94b0 : (t567 == false) = false := by simpa using c94
         (try (have c94s : (!t567) = false := by simpa using c94))
         (try (have c94b1 : decide (t567 = false) = false := by simpa using c94))
         (try (have c94b2 : (t567 == false) = false := by simpa using c94))
         (try (have c94b3 : ¬ (t567 = false) := by simpa using c94))
         clear c94
         exact absurd ((Option.some.inj H).trans hrt.out) (by decide)
      ·replace c53 := Bool.eq_false_iff.mpr c53
       subst c53
       have H1 : (some false) = some r := by rw [if_neg (show ¬ (false = true) by decide)] at H; exact H
       clear H
       have H := H1
       clear H1
       exact absurd ((Option.some.inj H).trans hrt.out) (by decide)
     ·replace c51 := Bool.eq_false_iff.mpr c51
      subst c51
      have H1 : (if t562 ≥ 1 then (if (t567 == (decide (t562 ≤ 1000000))) = true then (if t567 = true then ((spec_CompareWide.f kj7 t563 t564 t565 false 0 0).bind fun t574 => (if t574 ≥ 0 then ((impl_FracText.f kj7 t563 t564 t565 t566).bind fun t575 => (some (t575.toList != ([] : List UInt8)))) else (some false))) else (some true)) else (some false)) else (if (t567 == false) = true then (if t567 = true then ((spec_CompareWide.f kj7 t563 t564 t565 false 0 0).bind fun t576 => (if t576 ≥ 0 then ((impl_FracText.f kj7 t563 t564 t565 t566).bind fun t577 => (some (t577.toList != ([] : List UInt8)))) else (some false))) else (some true)) else (some false))) = some r := by rw [if_neg (show ¬ (false = true) by decide)] at H; exact H
      clear H
      have H := H1
      clear H1
      by_cases c133 : t562 ≥ 1
      ·rw [if_pos c133] at H
       have c133b0 : decide (1 ≤ t562) = true := decide_eq_true c133
       clear c133
       by_cases c134 : (t567 == (decide (t562 ≤ 1000000))) = true
       ·rw [if_pos c134] at H
        have c134b0 : (t567 == (decide (t562 ≤ 1000000))) = true := c134
        (try (have c134b1 : decide (t567 = (decide (t562 ≤ 1000000))) = true := by simpa using c134))
        (try (have c134b2 : (t567 == (decide (t562 ≤ 1000000))) = true := by simpa using c134))
        clear c134
        by_cases c135 : t567 = true
        ·subst c135
         have H1 : ((spec_CompareWide.f kj7 t563 t564 t565 false 0 0).bind fun t574 => (if t574 ≥ 0 then ((impl_FracText.f kj7 t563 t564 t565 t566).bind fun t575 => (some (t575.toList != ([] : List UInt8)))) else (some false))) = some r := by rw [if_pos rfl] at H; exact H
         clear H
         have H := H1
         clear H1
         replace H := Option.bind_eq_some_iff.mp H
         obtain ⟨t574, A1360, H⟩ := H
         replace H : (if t574 ≥ 0 then ((impl_FracText.f kj7 t563 t564 t565 t566).bind fun t575 => (some (t575.toList != ([] : List UInt8)))) else (some false)) = some r := H
         have A136 := Aside0.mk A1360
         clear A1360
         by_cases c137 : t574 ≥ 0
         ·rw [if_pos c137] at H
          have c137b0 : decide (0 ≤ t574) = true := decide_eq_true c137
          clear c137
          replace H := Option.bind_eq_some_iff.mp H
          obtain ⟨t575, A1380, H⟩ := H
          replace H : (some (t575.toList != ([] : List UInt8))) = some r := H
          have A138 := Aside0.mk A1380
          clear A1380
          obtain rfl := Option.some.inj H
          go_wp2_with (first | ((with_reducible refine gate_callee (f := 28) rfl ?_); refine goesL_ (some 55) rfl rfl Tryd.func28 (by kernel_rfl) rfl #[.slice A0 l0.length c0] rfl mp_ ?_; (with_reducible refine (spec_DrawSquareOver.calls kj7 _ _ l0 t561 t562 _ ?side1 ?side2 A49.out).mono ?_); (case side1 => repeat (first | exact (Kd.C_below HR0.out HB.out) | (with_reducible refine Kd.C_alloc ?_ _) | (with_reducible refine Kd.C_drewN ?_ _) | (with_reducible refine Kd.C_drew ?_))); (case side2 => exact HC0.out); rintro e w139 ⟨rfl, hb⟩; refine ⟨_, rfl, ?_⟩; replace HB := Aside0.mk (below_step bel_ hb); replace BK541 := bb_ (g := gb541) hb; replace BK542 := bb_ (g := gb542) hb; replace BK548 := bb_ (g := gb548) hb; replace BK554 := bb_ (g := gb554) hb; replace BK560 := bb_ (g := gb560) hb; (try clear hb); (try clear hb2); (try clear hk); (try clear hi)) | ((with_reducible refine gate_callee (f := 29) rfl ?_); refine goesL_ (some 61) rfl rfl Tryd.func29 (by kernel_rfl) rfl #[.int .i64 t561, .int .i64 t562] rfl mp_ ?_; (with_reducible refine (impl_SquareOver.calls t561 t562 t563 t564 t565 t566 true _ A50.out).mono ?_); rintro e w140 ⟨rfl, hb⟩; refine ⟨_, rfl, ?_⟩; replace HB := Aside0.mk (below_step bel_ hb); replace BK541 := bb_ (g := gb541) hb; replace BK542 := bb_ (g := gb542) hb; replace BK548 := bb_ (g := gb548) hb; replace BK554 := bb_ (g := gb554) hb; replace BK560 := bb_ (g := gb560) hb; (try clear hb); (try clear hb2); (try clear hk); (try clear hi)) | ((with_reducible refine gate_dst (N := 13) rfl ?_); refine box_event ?hg (N := 13) ?hd (cs := #[.bool false, .int .u64 0, .int .u64 0, .int .i64 0]) (t := 43) ?hr ?_; (case hd => rfl); (case hg => rfl); (case hr => first | (go_simp; done) | (go_simp; rfl)); intro gb568 hg w141 hbox hb; have BK568 := Aside0.mk (hbox); have GW568 := bs_ (w := w) hg; have GE568 := bs_ (w := w) hg; have NB541_568 := nlt_ (g := gb541) hg; have NB568_541 := ngt_ (g := gb541) hg; have NB542_568 := nlt_ (g := gb542) hg; have NB568_542 := ngt_ (g := gb542) hg; have NB548_568 := nlt_ (g := gb548) hg; have NB568_548 := ngt_ (g := gb548) hg; have NB554_568 := nlt_ (g := gb554) hg; have NB568_554 := ngt_ (g := gb554) hg; have NB560_568 := nlt_ (g := gb560) hg; have NB568_560 := ngt_ (g := gb560) hg; replace HB := Aside0.mk (below_step bel_ hb); replace BK541 := bb_ (g := gb541) hb; replace BK542 := bb_ (g := gb542) hb; replace BK548 := bb_ (g := gb548) hb; replace BK554 := bb_ (g := gb554) hb; replace BK560 := bb_ (g := gb560) hb; clear hb hbox hg; have hnb142 := NB568_541.out; have hnc142 := NB541_568.out; have hnb143 := NB568_542.out; have hnc143 := NB542_568.out; have hnb144 := NB568_548.out; have hnc144 := NB548_568.out; have hnb145 := NB568_554.out; have hnc145 := NB554_568.out; have hnb146 := NB568_560.out; have hnc146 := NB560_568.out; obtain ⟨hcz147_0, hcz147_1, hcz147_2, hcz147_3, hfz147_0, hfz147_1, hfz147_2, hfz147_3⟩ := cf4_ (w := w141) BK568.out) | (go_at_call 31; (with_reducible refine (spec_CompareWide.calls kj7 t563 t564 t565 false 0 0 t574 _ A136.out).mono ?_); rintro e w148 ⟨rfl, hb⟩; replace HB := Aside0.mk (below_step bel_ hb); replace BK541 := Aside0.mk (blk_below (g := gb541) (o := .cells #[.bool t533, .int .u64 t534, .int .u64 t535, .int .i64 t536] 43 (0, 0)) bk_ hb); replace BK542 := Aside0.mk (blk_below (g := gb542) (o := .cells #[.bool t537, .int .u64 t538, .int .u64 t539, .int .i64 t540] 43 (0, 0)) bk_ hb); replace BK548 := Aside0.mk (blk_below (g := gb548) (o := .cells #[.bool t543, .int .u64 t544, .int .u64 t545, .int .i64 t546] 43 (0, 0)) bk_ hb); replace BK554 := Aside0.mk (blk_below (g := gb554) (o := .cells #[.bool t549, .int .u64 t550, .int .u64 t551, .int .i64 t552] 43 (0, 0)) bk_ hb); replace BK560 := Aside0.mk (blk_below (g := gb560) (o := .cells #[.bool t555, .int .u64 t556, .int .u64 t557, .int .i64 t558] 43 (0, 0)) bk_ hb); replace BK568 := Aside0.mk (blk_below (g := gb568) (o := .cells #[.bool t563, .int .u64 t564, .int .u64 t565, .int .i64 t566] 43 (0, 0)) (pu_ #[.bool t563, .int .u64 t564, .int .u64 t565, .int .i64 0] 3 (h := (pu_ #[.bool t563, .int .u64 t564, .int .u64 0, .int .i64 0] 2 (h := (pu_ #[.bool t563, .int .u64 0, .int .u64 0, .int .i64 0] 1 (h := (pu_ #[.bool false, .int .u64 0, .int .u64 0, .int .i64 0] 0 (h := bk_)))))))) hb); (try clear hb); (try clear hb2); (try clear hk); (try clear hi); obtain ⟨hcz149_0, hcz149_1, hcz149_2, hcz149_3, hfz149_0, hfz149_1, hfz149_2, hfz149_3⟩ := cf4_ (w := w148) BK568.out) | (go_at_call 32; (with_reducible refine (impl_FracText.calls kj7 t563 t564 t565 t566 t575 _ A138.out (laid_ hl)).mono ?_); rintro e w150 ⟨rfl, hb⟩; replace HB := Aside0.mk (below_step bel_ hb); replace BK541 := bb_ (g := gb541) hb; replace BK542 := bb_ (g := gb542) hb; replace BK548 := bb_ (g := gb548) hb; replace BK554 := bb_ (g := gb554) hb; replace BK560 := bb_ (g := gb560) hb; replace BK568 := bb_ (g := gb568) hb; (try clear hb); (try clear hb2); (try clear hk); (try clear hi)))
          all_goals go_ret
          all_goals exact ⟨by first | exact rf_ | (have hr_ := hrt.out; cases ht_ : t575.toList <;> rw [ht_] at hr_ <;> first | rfl | cases hr_ | (simp [ht_]; done)), bel_⟩
         ·rw [if_neg c137] at H
          have c137b0 : decide (0 ≤ t574) = false := decide_eq_false c137
          clear c137
          exact absurd ((Option.some.inj H).trans hrt.out) (by decide)
        ·replace c135 := Bool.eq_false_iff.mpr c135
         subst c135
         have H1 : (some true) = some r := by rw [if_neg (show ¬ (false = true) by decide)] at H; exact H
         clear H
         have H := H1
         clear H1
         obtain rfl := Option.some.inj H
         go_wp2_with (first | ((with_reducible refine gate_callee (f := 28) rfl ?_); refine goesL_ (some 55) rfl rfl Tryd.func28 (by kernel_rfl) rfl #[.slice A0 l0.length c0] rfl mp_ ?_; (with_reducible refine (spec_DrawSquareOver.calls kj7 _ _ l0 t561 t562 _ ?side1 ?side2 A49.out).mono ?_); (case side1 => repeat (first | exact (Kd.C_below HR0.out HB.out) | (with_reducible refine Kd.C_alloc ?_ _) | (with_reducible refine Kd.C_drewN ?_ _) | (with_reducible refine Kd.C_drew ?_))); (case side2 => exact HC0.out); rintro e w151 ⟨rfl, hb⟩; refine ⟨_, rfl, ?_⟩; replace HB := Aside0.mk (below_step bel_ hb); replace BK541 := bb_ (g := gb541) hb; replace BK542 := bb_ (g := gb542) hb; replace BK548 := bb_ (g := gb548) hb; replace BK554 := bb_ (g := gb554) hb; replace BK560 := bb_ (g := gb560) hb; (try clear hb); (try clear hb2); (try clear hk); (try clear hi)) | ((with_reducible refine gate_callee (f := 29) rfl ?_); refine goesL_ (some 61) rfl rfl Tryd.func29 (by kernel_rfl) rfl #[.int .i64 t561, .int .i64 t562] rfl mp_ ?_; (with_reducible refine (impl_SquareOver.calls t561 t562 t563 t564 t565 t566 false _ A50.out).mono ?_); rintro e w152 ⟨rfl, hb⟩; refine ⟨_, rfl, ?_⟩; replace HB := Aside0.mk (below_step bel_ hb); replace BK541 := bb_ (g := gb541) hb; replace BK542 := bb_ (g := gb542) hb; replace BK548 := bb_ (g := gb548) hb; replace BK554 := bb_ (g := gb554) hb; replace BK560 := bb_ (g := gb560) hb; (try clear hb); (try clear hb2); (try clear hk); (try clear hi)) | ((with_reducible refine gate_dst (N := 13) rfl ?_); refine box_event ?hg (N := 13) ?hd (cs := #[.bool false, .int .u64 0, .int .u64 0, .int .i64 0]) (t := 43) ?hr ?_; (case hd => rfl); (case hg => rfl); (case hr => first | (go_simp; done) | (go_simp; rfl)); intro gb568 hg w153 hbox hb; have BK568 := Aside0.mk (hbox); have GW568 := bs_ (w := w) hg; have GE568 := bs_ (w := w) hg; have NB541_568 := nlt_ (g := gb541) hg; have NB568_541 := ngt_ (g := gb541) hg; have NB542_568 := nlt_ (g := gb542) hg; have NB568_542 := ngt_ (g := gb542) hg; have NB548_568 := nlt_ (g := gb548) hg; have NB568_548 := ngt_ (g := gb548) hg; have NB554_568 := nlt_ (g := gb554) hg; have NB568_554 := ngt_ (g := gb554) hg; have NB560_568 := nlt_ (g := gb560) hg; have NB568_560 := ngt_ (g := gb560) hg; replace HB := Aside0.mk (below_step bel_ hb); replace BK541 := bb_ (g := gb541) hb; replace BK542 := bb_ (g := gb542) hb; replace BK548 := bb_ (g := gb548) hb; replace BK554 := bb_ (g := gb554) hb; replace BK560 := bb_ (g := gb560) hb; clear hb hbox hg; have hnb154 := NB568_541.out; have hnc154 := NB541_568.out; have hnb155 := NB568_542.out; have hnc155 := NB542_568.out; have hnb156 := NB568_548.out; have hnc156 := NB548_568.out; have hnb157 := NB568_554.out; have hnc157 := NB554_568.out; have hnb158 := NB568_560.out; have hnc158 := NB560_568.out; obtain ⟨hcz159_0, hcz159_1, hcz159_2, hcz159_3, hfz159_0, hfz159_1, hfz159_2, hfz159_3⟩ := cf4_ (w := w153) BK568.out))
         all_goals go_ret
         all_goals exact ⟨rf_, bel_⟩
       ·rw [if_neg c134] at H
        have c134b0 : (t567 == (decide (t562 ≤ 1000000))) = false := by simpa using c134
        (try (have c134b1 : decide (t567 = (decide (t562 ≤ 1000000))) = false := by simpa using c134))
        (try (have c134b2 : (t567 == (decide (t562 ≤ 1000000))) = false := by simpa using c134))
        (try (have c134b3 : ¬ (t567 = (decide (t562 ≤ 1000000))) := by simpa using c134))
        clear c134
        exact absurd ((Option.some.inj H).trans hrt.out) (by decide)
      ·rw [if_neg c133] at H
       have c133b0 : decide (1 ≤ t562) = false := decide_eq_false c133
       clear c133
       by_cases c160 : (t567 == false) = true
       ·rw [if_pos c160] at H
        have c160b0 : (t567 == false) = true := c160
        (try (have c160s : (!t567) = true := by simpa using c160))
        (try (have c160b1 : decide (t567 = false) = true := by simpa using c160))
        (try (have c160b2 : (t567 == false) = true := by simpa using c160))
        clear c160
        by_cases c161 : t567 = true
        ·subst c161
         have H1 : ((spec_CompareWide.f kj7 t563 t564 t565 false 0 0).bind fun t576 => (if t576 ≥ 0 then ((impl_FracText.f kj7 t563 t564 t565 t566).bind fun t577 => (some (t577.toList != ([] : List UInt8)))) else (some false))) = some r := by rw [if_pos rfl] at H; exact H
         clear H
         have H := H1
         clear H1
         replace H := Option.bind_eq_some_iff.mp H
         obtain ⟨t576, A1620, H⟩ := H
         replace H : (if t576 ≥ 0 then ((impl_FracText.f kj7 t563 t564 t565 t566).bind fun t577 => (some (t577.toList != ([] : List UInt8)))) else (some false)) = some r := H
         have A162 := Aside0.mk A1620
         clear A1620
         by_cases c163 : t576 ≥ 0
         ·rw [if_pos c163] at H
          have c163b0 : decide (0 ≤ t576) = true := decide_eq_true c163
          clear c163
          replace H := Option.bind_eq_some_iff.mp H
          obtain ⟨t577, A1640, H⟩ := H
          replace H : (some (t577.toList != ([] : List UInt8))) = some r := H
          have A164 := Aside0.mk A1640
          clear A1640
          obtain rfl := Option.some.inj H
          go_wp2_with (first | ((with_reducible refine gate_callee (f := 28) rfl ?_); refine goesL_ (some 55) rfl rfl Tryd.func28 (by kernel_rfl) rfl #[.slice A0 l0.length c0] rfl mp_ ?_; (with_reducible refine (spec_DrawSquareOver.calls kj7 _ _ l0 t561 t562 _ ?side1 ?side2 A49.out).mono ?_); (case side1 => repeat (first | exact (Kd.C_below HR0.out HB.out) | (with_reducible refine Kd.C_alloc ?_ _) | (with_reducible refine Kd.C_drewN ?_ _) | (with_reducible refine Kd.C_drew ?_))); (case side2 => exact HC0.out); rintro e w165 ⟨rfl, hb⟩; refine ⟨_, rfl, ?_⟩; replace HB := Aside0.mk (below_step bel_ hb); replace BK541 := bb_ (g := gb541) hb; replace BK542 := bb_ (g := gb542) hb; replace BK548 := bb_ (g := gb548) hb; replace BK554 := bb_ (g := gb554) hb; replace BK560 := bb_ (g := gb560) hb; (try clear hb); (try clear hb2); (try clear hk); (try clear hi)) | ((with_reducible refine gate_callee (f := 29) rfl ?_); refine goesL_ (some 61) rfl rfl Tryd.func29 (by kernel_rfl) rfl #[.int .i64 t561, .int .i64 t562] rfl mp_ ?_; (with_reducible refine (impl_SquareOver.calls t561 t562 t563 t564 t565 t566 true _ A50.out).mono ?_); rintro e w166 ⟨rfl, hb⟩; refine ⟨_, rfl, ?_⟩; replace HB := Aside0.mk (below_step bel_ hb); replace BK541 := bb_ (g := gb541) hb; replace BK542 := bb_ (g := gb542) hb; replace BK548 := bb_ (g := gb548) hb; replace BK554 := bb_ (g := gb554) hb; replace BK560 := bb_ (g := gb560) hb; (try clear hb); (try clear hb2); (try clear hk); (try clear hi)) | ((with_reducible refine gate_dst (N := 13) rfl ?_); refine box_event ?hg (N := 13) ?hd (cs := #[.bool false, .int .u64 0, .int .u64 0, .int .i64 0]) (t := 43) ?hr ?_; (case hd => rfl); (case hg => rfl); (case hr => first | (go_simp; done) | (go_simp; rfl)); intro gb568 hg w167 hbox hb; have BK568 := Aside0.mk (hbox); have GW568 := bs_ (w := w) hg; have GE568 := bs_ (w := w) hg; have NB541_568 := nlt_ (g := gb541) hg; have NB568_541 := ngt_ (g := gb541) hg; have NB542_568 := nlt_ (g := gb542) hg; have NB568_542 := ngt_ (g := gb542) hg; have NB548_568 := nlt_ (g := gb548) hg; have NB568_548 := ngt_ (g := gb548) hg; have NB554_568 := nlt_ (g := gb554) hg; have NB568_554 := ngt_ (g := gb554) hg; have NB560_568 := nlt_ (g := gb560) hg; have NB568_560 := ngt_ (g := gb560) hg; replace HB := Aside0.mk (below_step bel_ hb); replace BK541 := bb_ (g := gb541) hb; replace BK542 := bb_ (g := gb542) hb; replace BK548 := bb_ (g := gb548) hb; replace BK554 := bb_ (g := gb554) hb; replace BK560 := bb_ (g := gb560) hb; clear hb hbox hg; have hnb168 := NB568_541.out; have hnc168 := NB541_568.out; have hnb169 := NB568_542.out; have hnc169 := NB542_568.out; have hnb170 := NB568_548.out; have hnc170 := NB548_568.out; have hnb171 := NB568_554.out; have hnc171 := NB554_568.out; have hnb172 := NB568_560.out; have hnc172 := NB560_568.out; obtain ⟨hcz173_0, hcz173_1, hcz173_2, hcz173_3, hfz173_0, hfz173_1, hfz173_2, hfz173_3⟩ := cf4_ (w := w167) BK568.out) | (go_at_call 31; (with_reducible refine (spec_CompareWide.calls kj7 t563 t564 t565 false 0 0 t576 _ A162.out).mono ?_); rintro e w174 ⟨rfl, hb⟩; replace HB := Aside0.mk (below_step bel_ hb); replace BK541 := Aside0.mk (blk_below (g := gb541) (o := .cells #[.bool t533, .int .u64 t534, .int .u64 t535, .int .i64 t536] 43 (0, 0)) bk_ hb); replace BK542 := Aside0.mk (blk_below (g := gb542) (o := .cells #[.bool t537, .int .u64 t538, .int .u64 t539, .int .i64 t540] 43 (0, 0)) bk_ hb); replace BK548 := Aside0.mk (blk_below (g := gb548) (o := .cells #[.bool t543, .int .u64 t544, .int .u64 t545, .int .i64 t546] 43 (0, 0)) bk_ hb); replace BK554 := Aside0.mk (blk_below (g := gb554) (o := .cells #[.bool t549, .int .u64 t550, .int .u64 t551, .int .i64 t552] 43 (0, 0)) bk_ hb); replace BK560 := Aside0.mk (blk_below (g := gb560) (o := .cells #[.bool t555, .int .u64 t556, .int .u64 t557, .int .i64 t558] 43 (0, 0)) bk_ hb); replace BK568 := Aside0.mk (blk_below (g := gb568) (o := .cells #[.bool t563, .int .u64 t564, .int .u64 t565, .int .i64 t566] 43 (0, 0)) (pu_ #[.bool t563, .int .u64 t564, .int .u64 t565, .int .i64 0] 3 (h := (pu_ #[.bool t563, .int .u64 t564, .int .u64 0, .int .i64 0] 2 (h := (pu_ #[.bool t563, .int .u64 0, .int .u64 0, .int .i64 0] 1 (h := (pu_ #[.bool false, .int .u64 0, .int .u64 0, .int .i64 0] 0 (h := bk_)))))))) hb); (try clear hb); (try clear hb2); (try clear hk); (try clear hi); obtain ⟨hcz175_0, hcz175_1, hcz175_2, hcz175_3, hfz175_0, hfz175_1, hfz175_2, hfz175_3⟩ := cf4_ (w := w174) BK568.out) | (go_at_call 32; (with_reducible refine (impl_FracText.calls kj7 t563 t564 t565 t566 t577 _ A164.out (laid_ hl)).mono ?_); rintro e w176 ⟨rfl, hb⟩; replace HB := Aside0.mk (below_step bel_ hb); replace BK541 := bb_ (g := gb541) hb; replace BK542 := bb_ (g := gb542) hb; replace BK548 := bb_ (g := gb548) hb; replace BK554 := bb_ (g := gb554) hb; replace BK560 := bb_ (g := gb560) hb; replace BK568 := bb_ (g := gb568) hb; (try clear hb); (try clear hb2); (try clear hk); (try clear hi)))
          all_goals go_ret
          all_goals exact ⟨by first | exact rf_ | (have hr_ := hrt.out; cases ht_ : t577.toList <;> rw [ht_] at hr_ <;> first | rfl | cases hr_ | (simp [ht_]; done)), bel_⟩
         ·rw [if_neg c163] at H
          have c163b0 : decide (0 ≤ t576) = false := decide_eq_false c163
          clear c163
          exact absurd ((Option.some.inj H).trans hrt.out) (by decide)
        ·replace c161 := Bool.eq_false_iff.mpr c161
         subst c161
         have H1 : (some true) = some r := by rw [if_neg (show ¬ (false = true) by decide)] at H; exact H
         clear H
         have H := H1
         clear H1
         obtain rfl := Option.some.inj H
         go_wp2_with (first | ((with_reducible refine gate_callee (f := 28) rfl ?_); refine goesL_ (some 55) rfl rfl Tryd.func28 (by kernel_rfl) rfl #[.slice A0 l0.length c0] rfl mp_ ?_; (with_reducible refine (spec_DrawSquareOver.calls kj7 _ _ l0 t561 t562 _ ?side1 ?side2 A49.out).mono ?_); (case side1 => repeat (first | exact (Kd.C_below HR0.out HB.out) | (with_reducible refine Kd.C_alloc ?_ _) | (with_reducible refine Kd.C_drewN ?_ _) | (with_reducible refine Kd.C_drew ?_))); (case side2 => exact HC0.out); rintro e w177 ⟨rfl, hb⟩; refine ⟨_, rfl, ?_⟩; replace HB := Aside0.mk (below_step bel_ hb); replace BK541 := bb_ (g := gb541) hb; replace BK542 := bb_ (g := gb542) hb; replace BK548 := bb_ (g := gb548) hb; replace BK554 := bb_ (g := gb554) hb; replace BK560 := bb_ (g := gb560) hb; (try clear hb); (try clear hb2); (try clear hk); (try clear hi)) | ((with_reducible refine gate_callee (f := 29) rfl ?_); refine goesL_ (some 61) rfl rfl Tryd.func29 (by kernel_rfl) rfl #[.int .i64 t561, .int .i64 t562] rfl mp_ ?_; (with_reducible refine (impl_SquareOver.calls t561 t562 t563 t564 t565 t566 false _ A50.out).mono ?_); rintro e w178 ⟨rfl, hb⟩; refine ⟨_, rfl, ?_⟩; replace HB := Aside0.mk (below_step bel_ hb); replace BK541 := bb_ (g := gb541) hb; replace BK542 := bb_ (g := gb542) hb; replace BK548 := bb_ (g := gb548) hb; replace BK554 := bb_ (g := gb554) hb; replace BK560 := bb_ (g := gb560) hb; (try clear hb); (try clear hb2); (try clear hk); (try clear hi)) | ((with_reducible refine gate_dst (N := 13) rfl ?_); refine box_event ?hg (N := 13) ?hd (cs := #[.bool false, .int .u64 0, .int .u64 0, .int .i64 0]) (t := 43) ?hr ?_; (case hd => rfl); (case hg => rfl); (case hr => first | (go_simp; done) | (go_simp; rfl)); intro gb568 hg w179 hbox hb; have BK568 := Aside0.mk (hbox); have GW568 := bs_ (w := w) hg; have GE568 := bs_ (w := w) hg; have NB541_568 := nlt_ (g := gb541) hg; have NB568_541 := ngt_ (g := gb541) hg; have NB542_568 := nlt_ (g := gb542) hg; have NB568_542 := ngt_ (g := gb542) hg; have NB548_568 := nlt_ (g := gb548) hg; have NB568_548 := ngt_ (g := gb548) hg; have NB554_568 := nlt_ (g := gb554) hg; have NB568_554 := ngt_ (g := gb554) hg; have NB560_568 := nlt_ (g := gb560) hg; have NB568_560 := ngt_ (g := gb560) hg; replace HB := Aside0.mk (below_step bel_ hb); replace BK541 := bb_ (g := gb541) hb; replace BK542 := bb_ (g := gb542) hb; replace BK548 := bb_ (g := gb548) hb; replace BK554 := bb_ (g := gb554) hb; replace BK560 := bb_ (g := gb560) hb; clear hb hbox hg; have hnb180 := NB568_541.out; have hnc180 := NB541_568.out; have hnb181 := NB568_542.out; have hnc181 := NB542_568.out; have hnb182 := NB568_548.out; have hnc182 := NB548_568.out; have hnb183 := NB568_554.out; have hnc183 := NB554_568.out; have hnb184 := NB568_560.out; have hnc184 := NB560_568.out; obtain ⟨hcz185_0, hcz185_1, hcz185_2, hcz185_3, hfz185_0, hfz185_1, hfz185_2, hfz185_3⟩ := cf4_ (w := w179) BK568.out))
         all_goals go_ret
         all_goals exact ⟨rf_, bel_⟩
       ·rw [if_neg c160] at H
        have c160b0 : (t567 == false) = false := by simpa using c160
        (try (have c160s : (!t567) = false := by simpa using c160))
        (try (have c160b1 : decide (t567 = false) = false := by simpa using c160))
        (try (have c160b2 : (t567 == false) = false := by simpa using c160))
        (try (have c160b3 : ¬ (t567 = false) := by simpa using c160))
        clear c160
        exact absurd ((Option.some.inj H).trans hrt.out) (by decide)
/-- THE ONE PURE STATEMENT of laws_FnFracSum: yours. -/
def laws_FnFracSum.Pure : Prop := ∀ (l0 : List Int), l0.length ≤ maxLen → l0.length * 1 ≤ 140737488351232 → (∀ x ∈ l0, (Lit.int .u8 x).wf = true) → ∃ k, laws_FnFracSum.f k l0 = some true
theorem laws_FnFracSum.walk (P : laws_FnFracSum.Pure) (a0 : Option Addr) (len0 cap0 : Nat) (z0 : List Int) (w : World) (w0 : (a0 = none ∧ len0 = 0 ∧ cap0 = 0 ∧ z0 = []) ∨ ∃ x, a0 = some x ∧ len0 ≤ cap0 ∧ cap0 ≤ maxLen ∧ z0.length = cap0 ∧ (∀ i, i < z0.length → w.cell? (x.add i) = some (.int .u8 (z0.getD i 0))) ∧ ∀ n ∈ z0, (Lit.int .u8 n).wf = true) (y0 : len0 * 1 ≤ 140737488351232) (hl : Laid w) :
  Calls Tryd.prog 6 #[.slice a0 len0 cap0] w fun e w' => e = .returned (.bool true) ∧ Below w.heap.size w w' := by
 obtain ⟨l0, rfl, hr0, hm0, hw0, hc0⟩ := ReadsInt.ofRowC w0
 obtain ⟨k, h⟩ := P l0 hm0 y0 hw0
 refine (laws_FnFracSum.calls k _ _ l0 true w (Kd.C_of_reads (d := (0 : Int)) (h1 := fun _ => rfl) hr0) hc0 h ⟨rfl⟩ hl).mono ?_
 rintro e w' ⟨rfl, hd⟩
 exact ⟨rfl, hd⟩
end Go.Proofs.YtkpgpifkbdpnkaaDoor.PFnFracSum
