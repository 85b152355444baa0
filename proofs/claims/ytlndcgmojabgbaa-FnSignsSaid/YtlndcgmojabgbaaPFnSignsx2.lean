/- Contracts of Go functions, each with the Lean function that says what it computes: begun by the print, turned by this session. No condition beyond what each theorem states. -/
import Derived.Test.YtlndcgmojabgbaaPFnSignsx0
import Derived.Test.YtlndcgmojabgbaaPFnSignsx1
namespace Go.Proofs.Ytlndcgmojabgbaa.PFnSigns
open Go.RowKit Go.Proofs.YtlndcgmojabgbaaW.PrintWords Go.Proofs.YtlndcgmojabgbaaW.PrintLast Go.Proofs.YtlndcgmojabgbaaW.PrintMore
attribute [local go_sem] max2_int min2_int max_two min_two max_three min_three max_four min_four   -- for this text's walks alone
set_option linter.unusedVariables false
set_option linter.unusedSimpArgs false

/-! ### spec_l8Right: function 93 -/
mutual
def spec_l8Right.j0 : Nat → List Int → Int → Int → Int → Int → Int → Int → Int → Int → Int → Option (Int × Int × Int × Int × Int × Int × Int × List Int × Int × Int)
  | 0, _, _, _, _, _, _, _, _, _, _ => none
  | k + 1, x1000, x1001, x1002, x153000, x153001, x153002, x153003, x153004, x153005, x153006 => (spec_l1Once.f x1000 x1001 x1002 4).bind fun bt159 => (if bt159.1 = true then ((spec_l1Below.f x1000 bt159.2.1 bt159.2.2 x153006).bind fun bt162 => (spec_l8Right.j1 k x1000 bt162.2.1 bt162.2.2 x153000 x153001 x153002 x153003 x153004 (wrap64 (1 + bt162.1)) x153006)) else (spec_l8Right.j1 k x1000 bt159.2.1 bt159.2.2 x153000 x153001 x153002 x153003 x153004 x153005 x153006))
def spec_l8Right.j1 : Nat → List Int → Int → Int → Int → Int → Int → Int → Int → Int → Int → Option (Int × Int × Int × Int × Int × Int × Int × List Int × Int × Int)
  | 0, _, _, _, _, _, _, _, _, _, _ => none
  | k + 1, x1000, x1001, x1002, x153000, x153001, x153002, x153003, x153004, x153005, x153006 => (spec_l1Below.f x1000 x1001 x1002 5).bind fun bt165 => (spec_l8Right.l0 k bt165.1 0 x1000 bt165.2.1 bt165.2.2 x153000 x153001 x153002 x153003 x153004 x153005 x153006 ([] : List Int))
def spec_l8Right.l0 : Nat → Int → Int → List Int → Int → Int → Int → Int → Int → Int → Int → Int → Int → List Int → Option (Int × Int × Int × Int × Int × Int × Int × List Int × Int × Int)
  | 0, _, _, _, _, _, _, _, _, _, _, _, _, _ => none
  | k + 1, x4, x5, x1000, x1001, x1002, x153000, x153001, x153002, x153003, x153004, x153005, x153006, x153007 => if x5 < x4 then ((spec_l1Below.f x1000 x1001 x1002 3).bind fun bt168 => (if x153007.length < 17592186044416 then (spec_l8Right.l0 k x4 (wrap64 (x5 + 1)) x1000 bt168.2.1 bt168.2.2 x153000 x153001 x153002 x153003 x153004 x153005 x153006 (x153007 ++ [wrap64 (bt168.1 - 1)])) else (none))) else (some (x153000, x153001, x153002, x153003, x153004, x153005, x153006, x153007, x1001, x1002))
end
def spec_l8Right.f (k : Nat) (s0_0 : List Int) (s0_1 : Int) (s0_2 : Int) : Option (Int × Int × Int × Int × Int × Int × Int × List Int × Int × Int) := (spec_l1Below.f s0_0 s0_1 s0_2 4).bind fun bt134 => ((spec_l1Below.f s0_0 bt134.2.1 bt134.2.2 4).bind fun bt137 => ((spec_l1Below.f s0_0 bt137.2.1 bt137.2.2 5).bind fun bt140 => ((spec_l1Below.f s0_0 bt140.2.1 bt140.2.2 3).bind fun bt143 => ((spec_l1Below.f s0_0 bt143.2.1 bt143.2.2 3).bind fun bt146 => ((spec_l1Below.f s0_0 bt146.2.1 bt146.2.2 3).bind fun bt149 => ((spec_l1Once.f s0_0 bt149.2.1 bt149.2.2 8).bind fun bt153 => (if bt153.1 = true then ((spec_l1Below.f s0_0 bt153.2.1 bt153.2.2 100).bind fun bt156 => (spec_l8Right.j0 k s0_0 bt156.2.1 bt156.2.2 (wrap64 (1 + bt134.1)) bt137.1 (wrap64 (2 + bt140.1)) (wrap64 (1 + bt156.1)) (wrap64 (1 + bt146.1)) 1 (wrap64 (1 + bt149.1)))) else (spec_l8Right.j0 k s0_0 bt153.2.1 bt153.2.2 (wrap64 (1 + bt134.1)) bt137.1 (wrap64 (2 + bt140.1)) (wrap64 (1 + bt143.1)) (wrap64 (1 + bt146.1)) 1 (wrap64 (1 + bt149.1))))))))))
theorem spec_l8Right.mono_l : ∀ k, (∀ y0 y1 y2 y3 y4 y5 y6 y7 y8 y9, LeO (spec_l8Right.j0 k y0 y1 y2 y3 y4 y5 y6 y7 y8 y9) (spec_l8Right.j0 (k + 1) y0 y1 y2 y3 y4 y5 y6 y7 y8 y9)) ∧ (∀ y0 y1 y2 y3 y4 y5 y6 y7 y8 y9, LeO (spec_l8Right.j1 k y0 y1 y2 y3 y4 y5 y6 y7 y8 y9) (spec_l8Right.j1 (k + 1) y0 y1 y2 y3 y4 y5 y6 y7 y8 y9)) ∧ (∀ y0 y1 y2 y3 y4 y5 y6 y7 y8 y9 y10 y11 y12, LeO (spec_l8Right.l0 k y0 y1 y2 y3 y4 y5 y6 y7 y8 y9 y10 y11 y12) (spec_l8Right.l0 (k + 1) y0 y1 y2 y3 y4 y5 y6 y7 y8 y9 y10 y11 y12))
  | 0 => ⟨fun _ _ _ _ _ _ _ _ _ _ r h => by simp [spec_l8Right.j0] at h, fun _ _ _ _ _ _ _ _ _ _ r h => by simp [spec_l8Right.j1] at h, fun _ _ _ _ _ _ _ _ _ _ _ _ _ r h => by simp [spec_l8Right.l0] at h⟩
  | k + 1 => by
    obtain ⟨ih0, ih1, ih2⟩ := spec_l8Right.mono_l k
    refine ⟨?_, ?_, ?_⟩
    · intro y0 y1 y2 y3 y4 y5 y6 y7 y8 y9
      unfold spec_l8Right.j0
      repeat' first
      | (with_reducible exact ih0 _ _ _ _ _ _ _ _ _ _)
      | (with_reducible exact ih1 _ _ _ _ _ _ _ _ _ _)
      | (with_reducible exact ih2 _ _ _ _ _ _ _ _ _ _ _ _ _)
      | (with_reducible exact LeO.refl _)
      | (with_reducible exact LeO.none _)
      | (with_reducible refine LeO.ite ?_ ?_)
      | (with_reducible refine LeO.bind ?_ (fun _ => ?_))
      | exact ih0 _ _ _ _ _ _ _ _ _ _
      | exact ih1 _ _ _ _ _ _ _ _ _ _
      | exact ih2 _ _ _ _ _ _ _ _ _ _ _ _ _
      | exact LeO.none _
      | refine LeO.ite ?_ ?_
      | refine LeO.bind ?_ (fun _ => ?_)
    · intro y0 y1 y2 y3 y4 y5 y6 y7 y8 y9
      unfold spec_l8Right.j1
      repeat' first
      | (with_reducible exact ih0 _ _ _ _ _ _ _ _ _ _)
      | (with_reducible exact ih1 _ _ _ _ _ _ _ _ _ _)
      | (with_reducible exact ih2 _ _ _ _ _ _ _ _ _ _ _ _ _)
      | (with_reducible exact LeO.refl _)
      | (with_reducible exact LeO.none _)
      | (with_reducible refine LeO.ite ?_ ?_)
      | (with_reducible refine LeO.bind ?_ (fun _ => ?_))
      | exact ih0 _ _ _ _ _ _ _ _ _ _
      | exact ih1 _ _ _ _ _ _ _ _ _ _
      | exact ih2 _ _ _ _ _ _ _ _ _ _ _ _ _
      | exact LeO.none _
      | refine LeO.ite ?_ ?_
      | refine LeO.bind ?_ (fun _ => ?_)
    · intro y0 y1 y2 y3 y4 y5 y6 y7 y8 y9 y10 y11 y12
      unfold spec_l8Right.l0
      repeat' first
      | (with_reducible exact ih0 _ _ _ _ _ _ _ _ _ _)
      | (with_reducible exact ih1 _ _ _ _ _ _ _ _ _ _)
      | (with_reducible exact ih2 _ _ _ _ _ _ _ _ _ _ _ _ _)
      | (with_reducible exact LeO.refl _)
      | (with_reducible exact LeO.none _)
      | (with_reducible refine LeO.ite ?_ ?_)
      | (with_reducible refine LeO.bind ?_ (fun _ => ?_))
      | exact ih0 _ _ _ _ _ _ _ _ _ _
      | exact ih1 _ _ _ _ _ _ _ _ _ _
      | exact ih2 _ _ _ _ _ _ _ _ _ _ _ _ _
      | exact LeO.none _
      | refine LeO.ite ?_ ?_
      | refine LeO.bind ?_ (fun _ => ?_)
theorem spec_l8Right.mono : ∀ a0 a1 a2 k, LeO (spec_l8Right.f k a0 a1 a2) (spec_l8Right.f (k + 1) a0 a1 a2) := by
  intro a0 a1 a2 k
  obtain ⟨ih0, ih1, ih2⟩ := spec_l8Right.mono_l k
  unfold spec_l8Right.f
  repeat' first
      | (with_reducible exact ih0 _ _ _ _ _ _ _ _ _ _)
      | (with_reducible exact ih1 _ _ _ _ _ _ _ _ _ _)
      | (with_reducible exact ih2 _ _ _ _ _ _ _ _ _ _ _ _ _)
      | (with_reducible exact LeO.refl _)
      | (with_reducible exact LeO.none _)
      | (with_reducible refine LeO.ite ?_ ?_)
      | (with_reducible refine LeO.bind ?_ (fun _ => ?_))
      | exact ih0 _ _ _ _ _ _ _ _ _ _
      | exact ih1 _ _ _ _ _ _ _ _ _ _
      | exact ih2 _ _ _ _ _ _ _ _ _ _ _ _ _
      | exact LeO.none _
      | refine LeO.ite ?_ ?_
      | refine LeO.bind ?_ (fun _ => ?_)
def spec_l8Right.T10 : Bool × List (List Nat × List Nat) := (true, [([], []), ([0], [0]), ([], []), ([2], [2]), ([3], [3]), ([4], [4]), ([1, 5, 3], [1, 5]), ([0, 1, 2, 3, 4, 5, 6], []), ([7, 6, 6, 0, 1, 2, 3, 4, 5, 6], [6, 7])])
def spec_l8Right.B10 : List Nat := [0, 1, 0, 4, 12, 28, 63, 127, 255]
theorem spec_l8Right.tab10 : rtab .any (opsOf Try.f93 10) = spec_l8Right.T10 := by kernel_rfl
theorem spec_l8Right.bits10 : waitsOk spec_l8Right.T10.2 spec_l8Right.B10 = true := by kernel_rfl
set_option maxHeartbeats 8000000 in
set_option maxRecDepth 100000 in
theorem spec_l8Right.calls (k : Nat) (g : Nat) (s0_0 : List Int) (s0_1 : Int) (s0_2 : Int) (r1 : Int) (r2 : Int) (r3 : Int) (r4 : Int) (r5 : Int) (r6 : Int) (r7 : Int) (r8 : List Int) (r9 : Int) (r10 : Int) (w0 w : World) (hI : IsS96 w0 w g s0_0 s0_1 s0_2) (hB : Below w0.heap.size w0 w) (h : spec_l8Right.f k s0_0 s0_1 s0_2 = some (r1, r2, r3, r4, r5, r6, r7, r8, r9, r10)) :
    Calls Try.prog 93 #[.pointer (some ⟨g, 0, none⟩)] w fun e w' => ∃ v7_ : Value, e = .returned (.agg #[.int .i64 r1, .int .i64 r2, .int .i64 r3, .int .i64 r4, .int .i64 r5, .int .i64 r6, .int .i64 r7, v7_]) ∧ Kd.R (Kd.int .i64) 3 w' w.heap.size (fun _ => True) v7_ r8 ∧ IsS96 w0 w' g s0_0 r9 r10 ∧ Below w0.heap.size w0 w' ∧ KeepBut w w' g none := by
  have hu43 := Try.underlying43
  have HI0 := Aside0.mk hI
  have HK := Aside0.mk (KeepBut.refl w g none)
  have HL := Aside0.mk hB.size
  clear hI
  have HW0 := Aside0.mk hB.size
  have HB := Aside0.mk hB
  clear hB
  have H : ((spec_l1Below.f s0_0 s0_1 s0_2 4).bind fun bt134 => ((spec_l1Below.f s0_0 bt134.2.1 bt134.2.2 4).bind fun bt137 => ((spec_l1Below.f s0_0 bt137.2.1 bt137.2.2 5).bind fun bt140 => ((spec_l1Below.f s0_0 bt140.2.1 bt140.2.2 3).bind fun bt143 => ((spec_l1Below.f s0_0 bt143.2.1 bt143.2.2 3).bind fun bt146 => ((spec_l1Below.f s0_0 bt146.2.1 bt146.2.2 3).bind fun bt149 => ((spec_l1Once.f s0_0 bt149.2.1 bt149.2.2 8).bind fun bt153 => (if bt153.1 = true then ((spec_l1Below.f s0_0 bt153.2.1 bt153.2.2 100).bind fun bt156 => (spec_l8Right.j0 k s0_0 bt156.2.1 bt156.2.2 (wrap64 (1 + bt134.1)) bt137.1 (wrap64 (2 + bt140.1)) (wrap64 (1 + bt156.1)) (wrap64 (1 + bt146.1)) 1 (wrap64 (1 + bt149.1)))) else (spec_l8Right.j0 k s0_0 bt153.2.1 bt153.2.2 (wrap64 (1 + bt134.1)) bt137.1 (wrap64 (2 + bt140.1)) (wrap64 (1 + bt143.1)) (wrap64 (1 + bt146.1)) 1 (wrap64 (1 + bt149.1))))))))))) = some (r1, r2, r3, r4, r5, r6, r7, r8, r9, r10) := h
  clear h
  replace H := Option.bind_eq_some_iff.mp H
  obtain ⟨⟨t134, t135, t136⟩, A20, H⟩ := H
  replace H : ((spec_l1Below.f s0_0 t135 t136 4).bind fun bt137 => ((spec_l1Below.f s0_0 bt137.2.1 bt137.2.2 5).bind fun bt140 => ((spec_l1Below.f s0_0 bt140.2.1 bt140.2.2 3).bind fun bt143 => ((spec_l1Below.f s0_0 bt143.2.1 bt143.2.2 3).bind fun bt146 => ((spec_l1Below.f s0_0 bt146.2.1 bt146.2.2 3).bind fun bt149 => ((spec_l1Once.f s0_0 bt149.2.1 bt149.2.2 8).bind fun bt153 => (if bt153.1 = true then ((spec_l1Below.f s0_0 bt153.2.1 bt153.2.2 100).bind fun bt156 => (spec_l8Right.j0 k s0_0 bt156.2.1 bt156.2.2 (wrap64 (1 + t134)) bt137.1 (wrap64 (2 + bt140.1)) (wrap64 (1 + bt156.1)) (wrap64 (1 + bt146.1)) 1 (wrap64 (1 + bt149.1)))) else (spec_l8Right.j0 k s0_0 bt153.2.1 bt153.2.2 (wrap64 (1 + t134)) bt137.1 (wrap64 (2 + bt140.1)) (wrap64 (1 + bt143.1)) (wrap64 (1 + bt146.1)) 1 (wrap64 (1 + bt149.1)))))))))) = some (r1, r2, r3, r4, r5, r6, r7, r8, r9, r10) := H
  have A2 := Aside0.mk A20
  clear A20
  replace H := Option.bind_eq_some_iff.mp H
  obtain ⟨⟨t137, t138, t139⟩, A30, H⟩ := H
  replace H : ((spec_l1Below.f s0_0 t138 t139 5).bind fun bt140 => ((spec_l1Below.f s0_0 bt140.2.1 bt140.2.2 3).bind fun bt143 => ((spec_l1Below.f s0_0 bt143.2.1 bt143.2.2 3).bind fun bt146 => ((spec_l1Below.f s0_0 bt146.2.1 bt146.2.2 3).bind fun bt149 => ((spec_l1Once.f s0_0 bt149.2.1 bt149.2.2 8).bind fun bt153 => (if bt153.1 = true then ((spec_l1Below.f s0_0 bt153.2.1 bt153.2.2 100).bind fun bt156 => (spec_l8Right.j0 k s0_0 bt156.2.1 bt156.2.2 (wrap64 (1 + t134)) t137 (wrap64 (2 + bt140.1)) (wrap64 (1 + bt156.1)) (wrap64 (1 + bt146.1)) 1 (wrap64 (1 + bt149.1)))) else (spec_l8Right.j0 k s0_0 bt153.2.1 bt153.2.2 (wrap64 (1 + t134)) t137 (wrap64 (2 + bt140.1)) (wrap64 (1 + bt143.1)) (wrap64 (1 + bt146.1)) 1 (wrap64 (1 + bt149.1))))))))) = some (r1, r2, r3, r4, r5, r6, r7, r8, r9, r10) := H
  have A3 := Aside0.mk A30
  clear A30
  replace H := Option.bind_eq_some_iff.mp H
  obtain ⟨⟨t140, t141, t142⟩, A40, H⟩ := H
  replace H : ((spec_l1Below.f s0_0 t141 t142 3).bind fun bt143 => ((spec_l1Below.f s0_0 bt143.2.1 bt143.2.2 3).bind fun bt146 => ((spec_l1Below.f s0_0 bt146.2.1 bt146.2.2 3).bind fun bt149 => ((spec_l1Once.f s0_0 bt149.2.1 bt149.2.2 8).bind fun bt153 => (if bt153.1 = true then ((spec_l1Below.f s0_0 bt153.2.1 bt153.2.2 100).bind fun bt156 => (spec_l8Right.j0 k s0_0 bt156.2.1 bt156.2.2 (wrap64 (1 + t134)) t137 (wrap64 (2 + t140)) (wrap64 (1 + bt156.1)) (wrap64 (1 + bt146.1)) 1 (wrap64 (1 + bt149.1)))) else (spec_l8Right.j0 k s0_0 bt153.2.1 bt153.2.2 (wrap64 (1 + t134)) t137 (wrap64 (2 + t140)) (wrap64 (1 + bt143.1)) (wrap64 (1 + bt146.1)) 1 (wrap64 (1 + bt149.1)))))))) = some (r1, r2, r3, r4, r5, r6, r7, r8, r9, r10) := H
  have A4 := Aside0.mk A40
  clear A40
  replace H := Option.bind_eq_some_iff.mp H
  obtain ⟨⟨t143, t144, t145⟩, A50, H⟩ := H
  replace H : ((spec_l1Below.f s0_0 t144 t145 3).bind fun bt146 => ((spec_l1Below.f s0_0 bt146.2.1 bt146.2.2 3).bind fun bt149 => ((spec_l1Once.f s0_0 bt149.2.1 bt149.2.2 8).bind fun bt153 => (if bt153.1 = true then ((spec_l1Below.f s0_0 bt153.2.1 bt153.2.2 100).bind fun bt156 => (spec_l8Right.j0 k s0_0 bt156.2.1 bt156.2.2 (wrap64 (1 + t134)) t137 (wrap64 (2 + t140)) (wrap64 (1 + bt156.1)) (wrap64 (1 + bt146.1)) 1 (wrap64 (1 + bt149.1)))) else (spec_l8Right.j0 k s0_0 bt153.2.1 bt153.2.2 (wrap64 (1 + t134)) t137 (wrap64 (2 + t140)) (wrap64 (1 + t143)) (wrap64 (1 + bt146.1)) 1 (wrap64 (1 + bt149.1))))))) = some (r1, r2, r3, r4, r5, r6, r7, r8, r9, r10) := H
  have A5 := Aside0.mk A50
  clear A50
  replace H := Option.bind_eq_some_iff.mp H
  obtain ⟨⟨t146, t147, t148⟩, A60, H⟩ := H
  replace H : ((spec_l1Below.f s0_0 t147 t148 3).bind fun bt149 => ((spec_l1Once.f s0_0 bt149.2.1 bt149.2.2 8).bind fun bt153 => (if bt153.1 = true then ((spec_l1Below.f s0_0 bt153.2.1 bt153.2.2 100).bind fun bt156 => (spec_l8Right.j0 k s0_0 bt156.2.1 bt156.2.2 (wrap64 (1 + t134)) t137 (wrap64 (2 + t140)) (wrap64 (1 + bt156.1)) (wrap64 (1 + t146)) 1 (wrap64 (1 + bt149.1)))) else (spec_l8Right.j0 k s0_0 bt153.2.1 bt153.2.2 (wrap64 (1 + t134)) t137 (wrap64 (2 + t140)) (wrap64 (1 + t143)) (wrap64 (1 + t146)) 1 (wrap64 (1 + bt149.1)))))) = some (r1, r2, r3, r4, r5, r6, r7, r8, r9, r10) := H
  have A6 := Aside0.mk A60
  clear A60
  replace H := Option.bind_eq_some_iff.mp H
  obtain ⟨⟨t149, t150, t151⟩, A70, H⟩ := H
  replace H : ((spec_l1Once.f s0_0 t150 t151 8).bind fun bt153 => (if bt153.1 = true then ((spec_l1Below.f s0_0 bt153.2.1 bt153.2.2 100).bind fun bt156 => (spec_l8Right.j0 k s0_0 bt156.2.1 bt156.2.2 (wrap64 (1 + t134)) t137 (wrap64 (2 + t140)) (wrap64 (1 + bt156.1)) (wrap64 (1 + t146)) 1 (wrap64 (1 + t149)))) else (spec_l8Right.j0 k s0_0 bt153.2.1 bt153.2.2 (wrap64 (1 + t134)) t137 (wrap64 (2 + t140)) (wrap64 (1 + t143)) (wrap64 (1 + t146)) 1 (wrap64 (1 + t149))))) = some (r1, r2, r3, r4, r5, r6, r7, r8, r9, r10) := H
  have A7 := Aside0.mk A70
  clear A70
  replace H := Option.bind_eq_some_iff.mp H
  obtain ⟨⟨t153, t154, t155⟩, A80, H⟩ := H
  replace H : (if t153 = true then ((spec_l1Below.f s0_0 t154 t155 100).bind fun bt156 => (spec_l8Right.j0 k s0_0 bt156.2.1 bt156.2.2 (wrap64 (1 + t134)) t137 (wrap64 (2 + t140)) (wrap64 (1 + bt156.1)) (wrap64 (1 + t146)) 1 (wrap64 (1 + t149)))) else (spec_l8Right.j0 k s0_0 t154 t155 (wrap64 (1 + t134)) t137 (wrap64 (2 + t140)) (wrap64 (1 + t143)) (wrap64 (1 + t146)) 1 (wrap64 (1 + t149)))) = some (r1, r2, r3, r4, r5, r6, r7, r8, r9, r10) := H
  have A8 := Aside0.mk A80
  clear A80
  have HC9 := Aside0.mk H
  clear H
  go_enter Try.func93, Try.ntmps93
  go_upto_if 25 with (first | ((with_reducible refine gate_dst (N := 2) rfl ?_); refine box_event ?hg (N := 2) ?hd (cs := #[.int .i64 0, .int .i64 0, .int .i64 0, .int .i64 0, .int .i64 0, .int .i64 0, .int .i64 0, .slice none 0 0]) (t := 43) ?hr ?_; (case hd => rfl); (case hg => rfl); (case hr => first | (go_simp; done) | (go_simp; rfl)); intro gb133 hg w10 hbox hb; have n0_ := Aside0.mk (IsS96.below (by repeat (first | (with_reducible first | exact HI0.out | apply IsS96.alloc | apply IsS96.drewN | apply IsS96.drew | apply IsS96.set_1 | apply IsS96.set_2) | exact HI0.out)) hb); have n1_ := Aside0.mk (KeepBut.trans (by repeat (first | (with_reducible first | exact HK.out | apply KeepBut.set_ | apply keep_drewN | apply keep_drew | apply keep_alloc) | exact HK.out)) (KeepBut.of_below hb g none) (.inl rfl)); have n2_ := Aside0.mk (below_step (by repeat (first | (with_reducible first | exact HB.out | apply below_alloc | apply pw_below_drewN | apply below_drew1 | refine below_set ?_ (IsS96.ge HI0.out)) | exact HB.out)) hb); have n3_ := Aside0.mk (hbox); have n4_ := Aside0.mk ((by rw [hg]; exact (keep_size (w := w) (g := g) (row := none) (by repeat (first | (with_reducible first | exact HK.out | apply KeepBut.set_ | apply keep_drewN | apply keep_drew | apply keep_alloc) | exact HK.out))) : w.heap.size ≤ gb133)); have n5_ := Aside0.mk ((Nat.le_trans HW0.out (by rw [hg]; exact (keep_size (w := w) (g := g) (row := none) (by repeat (first | (with_reducible first | exact HK.out | apply KeepBut.set_ | apply keep_drewN | apply keep_drew | apply keep_alloc) | exact HK.out))) : w.heap.size ≤ gb133) : w0.heap.size ≤ gb133)); have n6_ := Aside0.mk ((by rw [hg]; exact Nat.ne_of_lt (IsS96.lt (show IsS96 w0 _ g s0_0 s0_1 s0_2 from by repeat (first | (with_reducible first | exact HI0.out | apply IsS96.alloc | apply IsS96.drewN | apply IsS96.drew | apply IsS96.set_1 | apply IsS96.set_2) | exact HI0.out))) : g ≠ gb133)); have n7_ := Aside0.mk ((by rw [hg]; exact Nat.ne_of_gt (IsS96.lt (show IsS96 w0 _ g s0_0 s0_1 s0_2 from by repeat (first | (with_reducible first | exact HI0.out | apply IsS96.alloc | apply IsS96.drewN | apply IsS96.drew | apply IsS96.set_1 | apply IsS96.set_2) | exact HI0.out))) : gb133 ≠ g)); clear HI0; clear HK; clear HB; have HI0 := n0_; have HK := n1_; have HB := n2_; have BK133 := n3_; have GW133 := n4_; have GE133 := n5_; have NB0_133 := n6_; have NB133_0 := n7_; clear n0_ n1_ n2_ n3_ n4_ n5_ n6_ n7_; clear hb hbox hg) | ((with_reducible refine gate_callee (f := 89) rfl ?_); refine goesL_ (some 7) rfl rfl Try.func89 (by kernel_rfl) rfl #[.pointer (some ⟨g, 0, none⟩), .int .i64 4] rfl mp_ ?_; (with_reducible refine (spec_l1Below.calls g s0_0 s0_1 s0_2 4 t134 t135 t136 w0 _ ?side1 ?side2 A2.out).mono ?_); (case side1 => repeat (first | (with_reducible first | exact HI0.out | apply IsS96.alloc | apply IsS96.drewN | apply IsS96.drew | apply IsS96.set_1 | apply IsS96.set_2 | refine IsS96.far ?_ NB0_133.out _) | exact HI0.out)); (case side2 => repeat (first | (with_reducible first | exact HB.out | apply below_alloc | apply pw_below_drewN | apply below_drew1 | refine below_set ?_ (IsS96.ge HI0.out) | refine below_set ?_ GE133.out) | exact HB.out)); rintro e w11 ⟨rfl, hi, hb, hk⟩; refine ⟨_, rfl, ?_⟩; have n0_ := Aside0.mk (KeepBut.blk hk (g' := gb133) (o := .cells #[.int .i64 0, .int .i64 0, .int .i64 0, .int .i64 0, .int .i64 0, .int .i64 0, .int .i64 0, .slice none 0 0] 43 (0, 0)) (by (with_reducible repeat (first | refine bN_ _ ?_ | refine bd_ ?_ | refine ba_ _ ?_)); exact BK133.out) NB133_0.out (by simp)); have n1_ := Aside0.mk (KeepBut.trans (by repeat (first | (with_reducible first | exact HK.out | apply KeepBut.set_ | apply keep_drewN | apply keep_drew | apply keep_alloc | refine keep_far ?_ GW133.out _) | exact HK.out)) hk (.inl rfl)); have n2_ := Aside0.mk (hb); have n3_ := Aside0.mk (hi); clear BK133; clear HK; clear HB; clear HI0; have BK133 := n0_; have HK := n1_; have HB := n2_; have HI0 := n3_; clear n0_ n1_ n2_ n3_; (try clear hb); (try clear hb2); (try clear hk); (try clear hi)) | ((with_reducible refine gate_callee (f := 89) rfl ?_); refine goesL_ (some 10) rfl rfl Try.func89 (by kernel_rfl) rfl #[.pointer (some ⟨g, 0, none⟩), .int .i64 4] rfl mp_ ?_; (with_reducible refine (spec_l1Below.calls g s0_0 t135 t136 4 t137 t138 t139 w0 _ ?side1 ?side2 A3.out).mono ?_); (case side1 => repeat (first | (with_reducible first | exact HI0.out | apply IsS96.alloc | apply IsS96.drewN | apply IsS96.drew | apply IsS96.set_1 | apply IsS96.set_2 | refine IsS96.far ?_ NB0_133.out _) | exact HI0.out)); (case side2 => repeat (first | (with_reducible first | exact HB.out | apply below_alloc | apply pw_below_drewN | apply below_drew1 | refine below_set ?_ (IsS96.ge HI0.out) | refine below_set ?_ GE133.out) | exact HB.out)); rintro e w12 ⟨rfl, hi, hb, hk⟩; refine ⟨_, rfl, ?_⟩; have n0_ := Aside0.mk (KeepBut.blk hk (g' := gb133) (o := .cells #[.int .i64 0, .int .i64 0, .int .i64 0, .int .i64 0, .int .i64 0, .int .i64 0, .int .i64 0, .slice none 0 0] 43 (0, 0)) (by (with_reducible repeat (first | refine bN_ _ ?_ | refine bd_ ?_ | refine ba_ _ ?_)); exact BK133.out) NB133_0.out (by simp)); have n1_ := Aside0.mk (KeepBut.trans (by repeat (first | (with_reducible first | exact HK.out | apply KeepBut.set_ | apply keep_drewN | apply keep_drew | apply keep_alloc | refine keep_far ?_ GW133.out _) | exact HK.out)) hk (.inl rfl)); have n2_ := Aside0.mk (hb); have n3_ := Aside0.mk (hi); clear BK133; clear HK; clear HB; clear HI0; have BK133 := n0_; have HK := n1_; have HB := n2_; have HI0 := n3_; clear n0_ n1_ n2_ n3_; (try clear hb); (try clear hb2); (try clear hk); (try clear hi)) | ((with_reducible refine gate_callee (f := 89) rfl ?_); refine goesL_ (some 12) rfl rfl Try.func89 (by kernel_rfl) rfl #[.pointer (some ⟨g, 0, none⟩), .int .i64 5] rfl mp_ ?_; (with_reducible refine (spec_l1Below.calls g s0_0 t138 t139 5 t140 t141 t142 w0 _ ?side1 ?side2 A4.out).mono ?_); (case side1 => repeat (first | (with_reducible first | exact HI0.out | apply IsS96.alloc | apply IsS96.drewN | apply IsS96.drew | apply IsS96.set_1 | apply IsS96.set_2 | refine IsS96.far ?_ NB0_133.out _) | exact HI0.out)); (case side2 => repeat (first | (with_reducible first | exact HB.out | apply below_alloc | apply pw_below_drewN | apply below_drew1 | refine below_set ?_ (IsS96.ge HI0.out) | refine below_set ?_ GE133.out) | exact HB.out)); rintro e w13 ⟨rfl, hi, hb, hk⟩; refine ⟨_, rfl, ?_⟩; have n0_ := Aside0.mk (KeepBut.blk hk (g' := gb133) (o := .cells #[.int .i64 0, .int .i64 0, .int .i64 0, .int .i64 0, .int .i64 0, .int .i64 0, .int .i64 0, .slice none 0 0] 43 (0, 0)) (by (with_reducible repeat (first | refine bN_ _ ?_ | refine bd_ ?_ | refine ba_ _ ?_)); exact BK133.out) NB133_0.out (by simp)); have n1_ := Aside0.mk (KeepBut.trans (by repeat (first | (with_reducible first | exact HK.out | apply KeepBut.set_ | apply keep_drewN | apply keep_drew | apply keep_alloc | refine keep_far ?_ GW133.out _) | exact HK.out)) hk (.inl rfl)); have n2_ := Aside0.mk (hb); have n3_ := Aside0.mk (hi); clear BK133; clear HK; clear HB; clear HI0; have BK133 := n0_; have HK := n1_; have HB := n2_; have HI0 := n3_; clear n0_ n1_ n2_ n3_; (try clear hb); (try clear hb2); (try clear hk); (try clear hi)) | ((with_reducible refine gate_callee (f := 89) rfl ?_); refine goesL_ (some 15) rfl rfl Try.func89 (by kernel_rfl) rfl #[.pointer (some ⟨g, 0, none⟩), .int .i64 3] rfl mp_ ?_; (with_reducible refine (spec_l1Below.calls g s0_0 t141 t142 3 t143 t144 t145 w0 _ ?side1 ?side2 A5.out).mono ?_); (case side1 => repeat (first | (with_reducible first | exact HI0.out | apply IsS96.alloc | apply IsS96.drewN | apply IsS96.drew | apply IsS96.set_1 | apply IsS96.set_2 | refine IsS96.far ?_ NB0_133.out _) | exact HI0.out)); (case side2 => repeat (first | (with_reducible first | exact HB.out | apply below_alloc | apply pw_below_drewN | apply below_drew1 | refine below_set ?_ (IsS96.ge HI0.out) | refine below_set ?_ GE133.out) | exact HB.out)); rintro e w14 ⟨rfl, hi, hb, hk⟩; refine ⟨_, rfl, ?_⟩; have n0_ := Aside0.mk (KeepBut.blk hk (g' := gb133) (o := .cells #[.int .i64 0, .int .i64 0, .int .i64 0, .int .i64 0, .int .i64 0, .int .i64 0, .int .i64 0, .slice none 0 0] 43 (0, 0)) (by (with_reducible repeat (first | refine bN_ _ ?_ | refine bd_ ?_ | refine ba_ _ ?_)); exact BK133.out) NB133_0.out (by simp)); have n1_ := Aside0.mk (KeepBut.trans (by repeat (first | (with_reducible first | exact HK.out | apply KeepBut.set_ | apply keep_drewN | apply keep_drew | apply keep_alloc | refine keep_far ?_ GW133.out _) | exact HK.out)) hk (.inl rfl)); have n2_ := Aside0.mk (hb); have n3_ := Aside0.mk (hi); clear BK133; clear HK; clear HB; clear HI0; have BK133 := n0_; have HK := n1_; have HB := n2_; have HI0 := n3_; clear n0_ n1_ n2_ n3_; (try clear hb); (try clear hb2); (try clear hk); (try clear hi)) | ((with_reducible refine gate_callee (f := 89) rfl ?_); refine goesL_ (some 18) rfl rfl Try.func89 (by kernel_rfl) rfl #[.pointer (some ⟨g, 0, none⟩), .int .i64 3] rfl mp_ ?_; (with_reducible refine (spec_l1Below.calls g s0_0 t144 t145 3 t146 t147 t148 w0 _ ?side1 ?side2 A6.out).mono ?_); (case side1 => repeat (first | (with_reducible first | exact HI0.out | apply IsS96.alloc | apply IsS96.drewN | apply IsS96.drew | apply IsS96.set_1 | apply IsS96.set_2 | refine IsS96.far ?_ NB0_133.out _) | exact HI0.out)); (case side2 => repeat (first | (with_reducible first | exact HB.out | apply below_alloc | apply pw_below_drewN | apply below_drew1 | refine below_set ?_ (IsS96.ge HI0.out) | refine below_set ?_ GE133.out) | exact HB.out)); rintro e w15 ⟨rfl, hi, hb, hk⟩; refine ⟨_, rfl, ?_⟩; have n0_ := Aside0.mk (KeepBut.blk hk (g' := gb133) (o := .cells #[.int .i64 0, .int .i64 0, .int .i64 0, .int .i64 0, .int .i64 0, .int .i64 0, .int .i64 0, .slice none 0 0] 43 (0, 0)) (by (with_reducible repeat (first | refine bN_ _ ?_ | refine bd_ ?_ | refine ba_ _ ?_)); exact BK133.out) NB133_0.out (by simp)); have n1_ := Aside0.mk (KeepBut.trans (by repeat (first | (with_reducible first | exact HK.out | apply KeepBut.set_ | apply keep_drewN | apply keep_drew | apply keep_alloc | refine keep_far ?_ GW133.out _) | exact HK.out)) hk (.inl rfl)); have n2_ := Aside0.mk (hb); have n3_ := Aside0.mk (hi); clear BK133; clear HK; clear HB; clear HI0; have BK133 := n0_; have HK := n1_; have HB := n2_; have HI0 := n3_; clear n0_ n1_ n2_ n3_; (try clear hb); (try clear hb2); (try clear hk); (try clear hi)) | ((with_reducible refine gate_callee (f := 89) rfl ?_); refine goesL_ (some 21) rfl rfl Try.func89 (by kernel_rfl) rfl #[.pointer (some ⟨g, 0, none⟩), .int .i64 3] rfl mp_ ?_; (with_reducible refine (spec_l1Below.calls g s0_0 t147 t148 3 t149 t150 t151 w0 _ ?side1 ?side2 A7.out).mono ?_); (case side1 => repeat (first | (with_reducible first | exact HI0.out | apply IsS96.alloc | apply IsS96.drewN | apply IsS96.drew | apply IsS96.set_1 | apply IsS96.set_2 | refine IsS96.far ?_ NB0_133.out _) | exact HI0.out)); (case side2 => repeat (first | (with_reducible first | exact HB.out | apply below_alloc | apply pw_below_drewN | apply below_drew1 | refine below_set ?_ (IsS96.ge HI0.out) | refine below_set ?_ GE133.out) | exact HB.out)); rintro e w16 ⟨rfl, hi, hb, hk⟩; refine ⟨_, rfl, ?_⟩; have n0_ := Aside0.mk (KeepBut.blk hk (g' := gb133) (o := .cells #[.int .i64 0, .int .i64 0, .int .i64 0, .int .i64 0, .int .i64 0, .int .i64 0, .int .i64 0, .slice none 0 0] 43 (0, 0)) (by (with_reducible repeat (first | refine bN_ _ ?_ | refine bd_ ?_ | refine ba_ _ ?_)); exact BK133.out) NB133_0.out (by simp)); have n1_ := Aside0.mk (KeepBut.trans (by repeat (first | (with_reducible first | exact HK.out | apply KeepBut.set_ | apply keep_drewN | apply keep_drew | apply keep_alloc | refine keep_far ?_ GW133.out _) | exact HK.out)) hk (.inl rfl)); have n2_ := Aside0.mk (hb); have n3_ := Aside0.mk (hi); clear BK133; clear HK; clear HB; clear HI0; have BK133 := n0_; have HK := n1_; have HB := n2_; have HI0 := n3_; clear n0_ n1_ n2_ n3_; (try clear hb); (try clear hb2); (try clear hk); (try clear hi)) | ((with_reducible refine gate_dst (N := 3) rfl ?_); refine box_event ?hg (N := 3) ?hd (cs := #[.int .i64 0, .int .i64 0, .int .i64 0, .int .i64 0, .int .i64 0, .int .i64 0, .int .i64 0, .slice none 0 0]) (t := 43) ?hr ?_; (case hd => rfl); (case hg => rfl); (case hr => first | (go_simp; done) | (go_simp; rfl)); intro gb152 hg w17 hbox hb; have n0_ := Aside0.mk (IsS96.below (by repeat (first | (with_reducible first | exact HI0.out | apply IsS96.alloc | apply IsS96.drewN | apply IsS96.drew | apply IsS96.set_1 | apply IsS96.set_2 | refine IsS96.far ?_ NB0_133.out _) | exact HI0.out)) hb); have n1_ := bb_ (g := gb133) (o := .cells #[.int .i64 0, .int .i64 0, .int .i64 0, .int .i64 0, .int .i64 0, .int .i64 0, .int .i64 0, .slice none 0 0] 43 (0, 0)) hb; have n2_ := Aside0.mk (KeepBut.trans (by repeat (first | (with_reducible first | exact HK.out | apply KeepBut.set_ | apply keep_drewN | apply keep_drew | apply keep_alloc | refine keep_far ?_ GW133.out _) | exact HK.out)) (KeepBut.of_below hb g none) (.inl rfl)); have n3_ := Aside0.mk (below_step (by repeat (first | (with_reducible first | exact HB.out | apply below_alloc | apply pw_below_drewN | apply below_drew1 | refine below_set ?_ (IsS96.ge HI0.out) | refine below_set ?_ GE133.out) | exact HB.out)) hb); have n4_ := Aside0.mk (hbox); have n5_ := Aside0.mk ((by rw [hg]; exact (keep_size (w := w) (g := g) (row := none) (by repeat (first | (with_reducible first | exact HK.out | apply KeepBut.set_ | apply keep_drewN | apply keep_drew | apply keep_alloc | refine keep_far ?_ GW133.out _) | exact HK.out))) : w.heap.size ≤ gb152)); have n6_ := Aside0.mk ((Nat.le_trans HW0.out (by rw [hg]; exact (keep_size (w := w) (g := g) (row := none) (by repeat (first | (with_reducible first | exact HK.out | apply KeepBut.set_ | apply keep_drewN | apply keep_drew | apply keep_alloc | refine keep_far ?_ GW133.out _) | exact HK.out))) : w.heap.size ≤ gb152) : w0.heap.size ≤ gb152)); have n7_ := nlt_ (g := gb133) (o := .cells #[.int .i64 0, .int .i64 0, .int .i64 0, .int .i64 0, .int .i64 0, .int .i64 0, .int .i64 0, .slice none 0 0] 43 (0, 0)) hg; have n8_ := ngt_ (g := gb133) (o := .cells #[.int .i64 0, .int .i64 0, .int .i64 0, .int .i64 0, .int .i64 0, .int .i64 0, .int .i64 0, .slice none 0 0] 43 (0, 0)) hg; have n9_ := Aside0.mk ((by rw [hg]; exact Nat.ne_of_lt (IsS96.lt (show IsS96 w0 _ g s0_0 t150 t151 from by repeat (first | (with_reducible first | exact HI0.out | apply IsS96.alloc | apply IsS96.drewN | apply IsS96.drew | apply IsS96.set_1 | apply IsS96.set_2 | refine IsS96.far ?_ NB0_133.out _) | exact HI0.out))) : g ≠ gb152)); have n10_ := Aside0.mk ((by rw [hg]; exact Nat.ne_of_gt (IsS96.lt (show IsS96 w0 _ g s0_0 t150 t151 from by repeat (first | (with_reducible first | exact HI0.out | apply IsS96.alloc | apply IsS96.drewN | apply IsS96.drew | apply IsS96.set_1 | apply IsS96.set_2 | refine IsS96.far ?_ NB0_133.out _) | exact HI0.out))) : gb152 ≠ g)); clear HI0; clear BK133; clear HK; clear HB; have HI0 := n0_; have BK133 := n1_; have HK := n2_; have HB := n3_; have BK152 := n4_; have GW152 := n5_; have GE152 := n6_; have NB133_152 := n7_; have NB152_133 := n8_; have NB0_152 := n9_; have NB152_0 := n10_; clear n0_ n1_ n2_ n3_ n4_ n5_ n6_ n7_ n8_ n9_ n10_; clear hb hbox hg; have hnb18 := NB152_133.out; have hnc18 := NB133_152.out; have hnb19 := NB152_0.out; have hnc19 := NB0_152.out; have hcz20_0 : w17.cell? ⟨gb152, 0, none⟩ = some (.int .i64 0) := bc_; have hcz20_1 : w17.cell? ⟨gb152, 1, none⟩ = some (.int .i64 0) := bc_; have hcz20_2 : w17.cell? ⟨gb152, 2, none⟩ = some (.int .i64 0) := bc_; have hcz20_3 : w17.cell? ⟨gb152, 3, none⟩ = some (.int .i64 0) := bc_; have hcz20_4 : w17.cell? ⟨gb152, 4, none⟩ = some (.int .i64 0) := bc_; have hcz20_5 : w17.cell? ⟨gb152, 5, none⟩ = some (.int .i64 0) := bc_; have hcz20_6 : w17.cell? ⟨gb152, 6, none⟩ = some (.int .i64 0) := bc_; have hcz20_7 : w17.cell? ⟨gb152, 7, none⟩ = some (.slice none 0 0) := bc_; have hfz20_0 := blk_frozen BK152.out 0; have hfz20_1 := blk_frozen BK152.out 1; have hfz20_2 := blk_frozen BK152.out 2; have hfz20_3 := blk_frozen BK152.out 3; have hfz20_4 := blk_frozen BK152.out 4; have hfz20_5 := blk_frozen BK152.out 5; have hfz20_6 := blk_frozen BK152.out 6; have hfz20_7 := blk_frozen BK152.out 7) | ((with_reducible refine gate_callee (f := 99) rfl ?_); refine goesL_ (some 25) rfl rfl Try.func99 (by kernel_rfl) rfl #[.pointer (some ⟨g, 0, none⟩), .int .i64 8] rfl mp_ ?_; (with_reducible refine (spec_l1Once.calls g s0_0 t150 t151 8 t153 t154 t155 w0 _ ?side1 ?side2 A8.out).mono ?_); (case side1 => repeat (first | (with_reducible first | exact HI0.out | apply IsS96.alloc | apply IsS96.drewN | apply IsS96.drew | apply IsS96.set_1 | apply IsS96.set_2 | refine IsS96.far ?_ NB0_133.out _ | refine IsS96.far ?_ NB0_152.out _) | exact HI0.out)); (case side2 => repeat (first | (with_reducible first | exact HB.out | apply below_alloc | apply pw_below_drewN | apply below_drew1 | refine below_set ?_ (IsS96.ge HI0.out) | refine below_set ?_ GE133.out | refine below_set ?_ GE152.out) | exact HB.out)); rintro e w21 ⟨rfl, hi, hb, hk⟩; refine ⟨_, rfl, ?_⟩; have n0_ := Aside0.mk (KeepBut.blk hk (g' := gb133) (o := .cells #[.int .i64 0, .int .i64 0, .int .i64 0, .int .i64 0, .int .i64 0, .int .i64 0, .int .i64 0, .slice none 0 0] 43 (0, 0)) (by (with_reducible repeat (first | refine bN_ _ ?_ | refine bd_ ?_ | refine ba_ _ ?_)); refine blk_far ?_ NB133_152.out _; (with_reducible repeat (first | refine bN_ _ ?_ | refine bd_ ?_ | refine ba_ _ ?_)); refine blk_far ?_ NB133_152.out _; (with_reducible repeat (first | refine bN_ _ ?_ | refine bd_ ?_ | refine ba_ _ ?_)); refine blk_far ?_ NB133_152.out _; (with_reducible repeat (first | refine bN_ _ ?_ | refine bd_ ?_ | refine ba_ _ ?_)); refine blk_far ?_ NB133_152.out _; (with_reducible repeat (first | refine bN_ _ ?_ | refine bd_ ?_ | refine ba_ _ ?_)); refine blk_far ?_ NB133_152.out _; (with_reducible repeat (first | refine bN_ _ ?_ | refine bd_ ?_ | refine ba_ _ ?_)); refine blk_far ?_ NB133_152.out _; (with_reducible repeat (first | refine bN_ _ ?_ | refine bd_ ?_ | refine ba_ _ ?_)); refine blk_far ?_ NB133_152.out _; (with_reducible repeat (first | refine bN_ _ ?_ | refine bd_ ?_ | refine ba_ _ ?_)); refine blk_far ?_ NB133_152.out _; (with_reducible repeat (first | refine bN_ _ ?_ | refine bd_ ?_ | refine ba_ _ ?_)); exact BK133.out) NB133_0.out (by simp)); have n1_ := Aside0.mk (KeepBut.blk hk (g' := gb152) (o := .cells #[.int .i64 (wrap64 (1 + t134)), .int .i64 t137, .int .i64 (wrap64 (2 + t140)), .int .i64 (wrap64 (1 + t143)), .int .i64 (wrap64 (1 + t146)), .int .i64 1, .int .i64 (wrap64 (1 + t149)), .slice none 0 0] 43 (0, 0)) (by (with_reducible repeat (first | refine bN_ _ ?_ | refine bd_ ?_ | refine ba_ _ ?_)); refine blk_put (cs := #[.int .i64 (wrap64 (1 + t134)), .int .i64 t137, .int .i64 (wrap64 (2 + t140)), .int .i64 (wrap64 (1 + t143)), .int .i64 (wrap64 (1 + t146)), .int .i64 1, .int .i64 (wrap64 (1 + t149)), .slice none 0 0]) ?_ 7 _ rfl; (with_reducible repeat (first | refine bN_ _ ?_ | refine bd_ ?_ | refine ba_ _ ?_)); refine blk_put (cs := #[.int .i64 (wrap64 (1 + t134)), .int .i64 t137, .int .i64 (wrap64 (2 + t140)), .int .i64 (wrap64 (1 + t143)), .int .i64 (wrap64 (1 + t146)), .int .i64 1, .int .i64 0, .slice none 0 0]) ?_ 6 _ rfl; (with_reducible repeat (first | refine bN_ _ ?_ | refine bd_ ?_ | refine ba_ _ ?_)); refine blk_put (cs := #[.int .i64 (wrap64 (1 + t134)), .int .i64 t137, .int .i64 (wrap64 (2 + t140)), .int .i64 (wrap64 (1 + t143)), .int .i64 (wrap64 (1 + t146)), .int .i64 0, .int .i64 0, .slice none 0 0]) ?_ 5 _ rfl; (with_reducible repeat (first | refine bN_ _ ?_ | refine bd_ ?_ | refine ba_ _ ?_)); refine blk_put (cs := #[.int .i64 (wrap64 (1 + t134)), .int .i64 t137, .int .i64 (wrap64 (2 + t140)), .int .i64 (wrap64 (1 + t143)), .int .i64 0, .int .i64 0, .int .i64 0, .slice none 0 0]) ?_ 4 _ rfl; (with_reducible repeat (first | refine bN_ _ ?_ | refine bd_ ?_ | refine ba_ _ ?_)); refine blk_put (cs := #[.int .i64 (wrap64 (1 + t134)), .int .i64 t137, .int .i64 (wrap64 (2 + t140)), .int .i64 0, .int .i64 0, .int .i64 0, .int .i64 0, .slice none 0 0]) ?_ 3 _ rfl; (with_reducible repeat (first | refine bN_ _ ?_ | refine bd_ ?_ | refine ba_ _ ?_)); refine blk_put (cs := #[.int .i64 (wrap64 (1 + t134)), .int .i64 t137, .int .i64 0, .int .i64 0, .int .i64 0, .int .i64 0, .int .i64 0, .slice none 0 0]) ?_ 2 _ rfl; (with_reducible repeat (first | refine bN_ _ ?_ | refine bd_ ?_ | refine ba_ _ ?_)); refine blk_put (cs := #[.int .i64 (wrap64 (1 + t134)), .int .i64 0, .int .i64 0, .int .i64 0, .int .i64 0, .int .i64 0, .int .i64 0, .slice none 0 0]) ?_ 1 _ rfl; (with_reducible repeat (first | refine bN_ _ ?_ | refine bd_ ?_ | refine ba_ _ ?_)); refine blk_put (cs := #[.int .i64 0, .int .i64 0, .int .i64 0, .int .i64 0, .int .i64 0, .int .i64 0, .int .i64 0, .slice none 0 0]) ?_ 0 _ rfl; (with_reducible repeat (first | refine bN_ _ ?_ | refine bd_ ?_ | refine ba_ _ ?_)); exact BK152.out) NB152_0.out (by simp)); have n2_ := Aside0.mk (KeepBut.trans (by repeat (first | (with_reducible first | exact HK.out | apply KeepBut.set_ | apply keep_drewN | apply keep_drew | apply keep_alloc | refine keep_far ?_ GW133.out _ | refine keep_far ?_ GW152.out _) | exact HK.out)) hk (.inl rfl)); have n3_ := Aside0.mk (hb); have n4_ := Aside0.mk (hi); clear BK133; clear BK152; clear HK; clear HB; clear HI0; have BK133 := n0_; have BK152 := n1_; have HK := n2_; have HB := n3_; have HI0 := n4_; clear n0_ n1_ n2_ n3_ n4_; (try clear hb); (try clear hb2); (try clear hk); (try clear hi)))
  (try simp only [Act.put, la_, lb_, lc_])
  go_cut [] (fun wc => ∃ (kq : Nat) (x1001_8 : Int) (x1002_8 : Int) (x153003_8 : Int), Aside0 (spec_l8Right.j0 kq s0_0 x1001_8 x1002_8 (wrap64 (1 + t134)) t137 (wrap64 (2 + t140)) x153003_8 (wrap64 (1 + t146)) 1 (wrap64 (1 + t149)) = some (r1, r2, r3, r4, r5, r6, r7, r8, r9, r10)) ∧ Aside0 (kq ≤ k) ∧ Aside0 (wc.heap[gb133]? = some (.cells #[.int .i64 0, .int .i64 0, .int .i64 0, .int .i64 0, .int .i64 0, .int .i64 0, .int .i64 0, (.slice none 0 0)] 43 (0, 0))) ∧ Aside0 (wc.heap[gb152]? = some (.cells #[.int .i64 (wrap64 (1 + t134)), .int .i64 t137, .int .i64 (wrap64 (2 + t140)), .int .i64 x153003_8, .int .i64 (wrap64 (1 + t146)), .int .i64 1, .int .i64 (wrap64 (1 + t149)), (.slice none 0 0)] 43 (0, 0))) ∧ Aside0 (IsS96 w0 wc g s0_0 x1001_8 x1002_8) ∧ Aside0 (KeepBut w wc g none) ∧ Aside0 (Below w0.heap.size w0 wc))
  case first =>
    have H := HC9.out
    clear HC9
    by_cases c22 : t153 = true
    · subst c22
      have H1 : ((spec_l1Below.f s0_0 t154 t155 100).bind fun bt156 => (spec_l8Right.j0 k s0_0 bt156.2.1 bt156.2.2 (wrap64 (1 + t134)) t137 (wrap64 (2 + t140)) (wrap64 (1 + bt156.1)) (wrap64 (1 + t146)) 1 (wrap64 (1 + t149)))) = some (r1, r2, r3, r4, r5, r6, r7, r8, r9, r10) := by rw [if_pos rfl] at H; exact H
      clear H
      have H := H1
      clear H1
      replace H := Option.bind_eq_some_iff.mp H
      obtain ⟨⟨t156, t157, t158⟩, A230, H⟩ := H
      replace H : (spec_l8Right.j0 k s0_0 t157 t158 (wrap64 (1 + t134)) t137 (wrap64 (2 + t140)) (wrap64 (1 + t156)) (wrap64 (1 + t146)) 1 (wrap64 (1 + t149))) = some (r1, r2, r3, r4, r5, r6, r7, r8, r9, r10) := H
      have A23 := Aside0.mk A230
      clear A230
      have H' := Aside0.mk H
      clear H
      go_wp2_with (first | ((with_reducible refine gate_callee (f := 89) rfl ?_); refine goesL_ (some 27) rfl rfl Try.func89 (by kernel_rfl) rfl #[.pointer (some ⟨g, 0, none⟩), .int .i64 100] rfl mp_ ?_; (with_reducible refine (spec_l1Below.calls g s0_0 t154 t155 100 t156 t157 t158 w0 _ ?side1 ?side2 A23.out).mono ?_); (case side1 => repeat (first | (with_reducible first | exact HI0.out | apply IsS96.alloc | apply IsS96.drewN | apply IsS96.drew | apply IsS96.set_1 | apply IsS96.set_2 | refine IsS96.far ?_ NB0_133.out _ | refine IsS96.far ?_ NB0_152.out _) | exact HI0.out)); (case side2 => repeat (first | (with_reducible first | exact HB.out | apply below_alloc | apply pw_below_drewN | apply below_drew1 | refine below_set ?_ (IsS96.ge HI0.out) | refine below_set ?_ GE133.out | refine below_set ?_ GE152.out) | exact HB.out)); rintro e w24 ⟨rfl, hi, hb, hk⟩; refine ⟨_, rfl, ?_⟩; have n0_ := Aside0.mk (KeepBut.blk hk (g' := gb133) (o := .cells #[.int .i64 0, .int .i64 0, .int .i64 0, .int .i64 0, .int .i64 0, .int .i64 0, .int .i64 0, .slice none 0 0] 43 (0, 0)) (by (with_reducible repeat (first | refine bN_ _ ?_ | refine bd_ ?_ | refine ba_ _ ?_)); exact BK133.out) NB133_0.out (by simp)); have n1_ := Aside0.mk (KeepBut.blk hk (g' := gb152) (o := .cells #[.int .i64 (wrap64 (1 + t134)), .int .i64 t137, .int .i64 (wrap64 (2 + t140)), .int .i64 (wrap64 (1 + t143)), .int .i64 (wrap64 (1 + t146)), .int .i64 1, .int .i64 (wrap64 (1 + t149)), .slice none 0 0] 43 (0, 0)) (by (with_reducible repeat (first | refine bN_ _ ?_ | refine bd_ ?_ | refine ba_ _ ?_)); exact BK152.out) NB152_0.out (by simp)); have n2_ := Aside0.mk (KeepBut.trans (by repeat (first | (with_reducible first | exact HK.out | apply KeepBut.set_ | apply keep_drewN | apply keep_drew | apply keep_alloc | refine keep_far ?_ GW133.out _ | refine keep_far ?_ GW152.out _) | exact HK.out)) hk (.inl rfl)); have n3_ := Aside0.mk (hb); have n4_ := Aside0.mk (hi); clear BK133; clear BK152; clear HK; clear HB; clear HI0; have BK133 := n0_; have BK152 := n1_; have HK := n2_; have HB := n3_; have HI0 := n4_; clear n0_ n1_ n2_ n3_ n4_; (try clear hb); (try clear hb2); (try clear hk); (try clear hi); have hnb25 := NB152_133.out; have hnc25 := NB133_152.out; have hnb26 := NB152_0.out; have hnc26 := NB0_152.out; have hcz27_0 : w24.cell? ⟨gb152, 0, none⟩ = some (.int .i64 (wrap64 (1 + t134))) := bc_; have hcz27_1 : w24.cell? ⟨gb152, 1, none⟩ = some (.int .i64 t137) := bc_; have hcz27_2 : w24.cell? ⟨gb152, 2, none⟩ = some (.int .i64 (wrap64 (2 + t140))) := bc_; have hcz27_3 : w24.cell? ⟨gb152, 3, none⟩ = some (.int .i64 (wrap64 (1 + t143))) := bc_; have hcz27_4 : w24.cell? ⟨gb152, 4, none⟩ = some (.int .i64 (wrap64 (1 + t146))) := bc_; have hcz27_5 : w24.cell? ⟨gb152, 5, none⟩ = some (.int .i64 1) := bc_; have hcz27_6 : w24.cell? ⟨gb152, 6, none⟩ = some (.int .i64 (wrap64 (1 + t149))) := bc_; have hcz27_7 : w24.cell? ⟨gb152, 7, none⟩ = some (.slice none 0 0) := bc_; have hfz27_0 := blk_frozen BK152.out 0; have hfz27_1 := blk_frozen BK152.out 1; have hfz27_2 := blk_frozen BK152.out 2; have hfz27_3 := blk_frozen BK152.out 3; have hfz27_4 := blk_frozen BK152.out 4; have hfz27_5 := blk_frozen BK152.out 5; have hfz27_6 := blk_frozen BK152.out 6; have hfz27_7 := blk_frozen BK152.out 7))
      go_meet
      case rel => exact ⟨_, (t157), (t158), (wrap64 (1 + t156)), H', ⟨by first | omega | exact Nat.le_refl _⟩, ⟨by (with_reducible repeat (first | refine bN_ _ ?_ | refine bd_ ?_ | refine ba_ _ ?_)); refine blk_far ?_ NB133_152.out _; (with_reducible repeat (first | refine bN_ _ ?_ | refine bd_ ?_ | refine ba_ _ ?_)); exact BK133.out⟩, ⟨by (with_reducible repeat (first | refine bN_ _ ?_ | refine bd_ ?_ | refine ba_ _ ?_)); refine blk_put (cs := #[.int .i64 (wrap64 (1 + t134)), .int .i64 t137, .int .i64 (wrap64 (2 + t140)), .int .i64 (wrap64 (1 + t143)), .int .i64 (wrap64 (1 + t146)), .int .i64 1, .int .i64 (wrap64 (1 + t149)), .slice none 0 0]) ?_ 3 _ rfl; (with_reducible repeat (first | refine bN_ _ ?_ | refine bd_ ?_ | refine ba_ _ ?_)); exact BK152.out⟩, ⟨by repeat (first | (with_reducible first | exact HI0.out | apply IsS96.alloc | apply IsS96.drewN | apply IsS96.drew | apply IsS96.set_1 | apply IsS96.set_2 | refine IsS96.far ?_ NB0_133.out _ | refine IsS96.far ?_ NB0_152.out _) | exact HI0.out)⟩, ⟨by repeat (first | (with_reducible first | exact HK.out | apply KeepBut.set_ | apply keep_drewN | apply keep_drew | apply keep_alloc | refine keep_far ?_ GW133.out _ | refine keep_far ?_ GW152.out _) | exact HK.out)⟩, ⟨by repeat (first | (with_reducible first | exact HB.out | apply below_alloc | apply pw_below_drewN | apply below_drew1 | refine below_set ?_ (IsS96.ge HI0.out) | refine below_set ?_ GE133.out | refine below_set ?_ GE152.out) | exact HB.out)⟩⟩
    · replace c22 := Bool.eq_false_iff.mpr c22
      subst c22
      have H1 : (spec_l8Right.j0 k s0_0 t154 t155 (wrap64 (1 + t134)) t137 (wrap64 (2 + t140)) (wrap64 (1 + t143)) (wrap64 (1 + t146)) 1 (wrap64 (1 + t149))) = some (r1, r2, r3, r4, r5, r6, r7, r8, r9, r10) := by rw [if_neg (show ¬ (false = true) by decide)] at H; exact H
      clear H
      have H := H1
      clear H1
      have H' := Aside0.mk H
      clear H
      go_wp2
      go_meet
      case rel => exact ⟨_, (t154), (t155), (wrap64 (1 + t143)), H', ⟨by first | omega | exact Nat.le_refl _⟩, ⟨by (with_reducible repeat (first | refine bN_ _ ?_ | refine bd_ ?_ | refine ba_ _ ?_)); exact BK133.out⟩, ⟨by (with_reducible repeat (first | refine bN_ _ ?_ | refine bd_ ?_ | refine ba_ _ ?_)); exact BK152.out⟩, ⟨by repeat (first | (with_reducible first | exact HI0.out | apply IsS96.alloc | apply IsS96.drewN | apply IsS96.drew | apply IsS96.set_1 | apply IsS96.set_2 | refine IsS96.far ?_ NB0_133.out _ | refine IsS96.far ?_ NB0_152.out _) | exact HI0.out)⟩, ⟨by repeat (first | (with_reducible first | exact HK.out | apply KeepBut.set_ | apply keep_drewN | apply keep_drew | apply keep_alloc | refine keep_far ?_ GW133.out _ | refine keep_far ?_ GW152.out _) | exact HK.out)⟩, ⟨by repeat (first | (with_reducible first | exact HB.out | apply below_alloc | apply pw_below_drewN | apply below_drew1 | refine below_set ?_ (IsS96.ge HI0.out) | refine below_set ?_ GE133.out | refine below_set ?_ GE152.out) | exact HB.out)⟩⟩
  case rest =>
    clear HC9
    try clear c1
    try clear c2
    try clear p2
    try clear p6
    try clear c8
    try clear c9
    try clear c18
    try clear c19
    try clear c22
    try clear c25
    try clear c26
    try clear hcz20_0
    try clear hcz20_1
    try clear hcz20_2
    try clear hcz20_3
    try clear hcz20_4
    try clear hcz20_5
    try clear hcz20_6
    try clear hcz20_7
    try clear hcz27_0
    try clear hcz27_1
    try clear hcz27_2
    try clear hcz27_3
    try clear hcz27_4
    try clear hcz27_5
    try clear hcz27_6
    try clear hcz27_7
    try clear hfz20_0
    try clear hfz20_1
    try clear hfz20_2
    try clear hfz20_3
    try clear hfz20_4
    try clear hfz20_5
    try clear hfz20_6
    try clear hfz20_7
    try clear hfz27_0
    try clear hfz27_1
    try clear hfz27_2
    try clear hfz27_3
    try clear hfz27_4
    try clear hfz27_5
    try clear hfz27_6
    try clear hfz27_7
    obtain ⟨kq, x1001_8, x1002_8, x153003_8, HA, HJ8, BK133, BK152, HI0, HK, HB⟩ := hcut
    cases kq with
    | zero => exact absurd HA.out (by simp [spec_l8Right.j0])
    | succ kj8 =>
      have H := HA.out
      clear HA
      simp only [spec_l8Right.j0] at H
      replace H := Option.bind_eq_some_iff.mp H
      obtain ⟨⟨t159, t160, t161⟩, A280, H⟩ := H
      replace H : (if t159 = true then ((spec_l1Below.f s0_0 t160 t161 (wrap64 (1 + t149))).bind fun bt162 => (spec_l8Right.j1 kj8 s0_0 bt162.2.1 bt162.2.2 (wrap64 (1 + t134)) t137 (wrap64 (2 + t140)) x153003_8 (wrap64 (1 + t146)) (wrap64 (1 + bt162.1)) (wrap64 (1 + t149)))) else (spec_l8Right.j1 kj8 s0_0 t160 t161 (wrap64 (1 + t134)) t137 (wrap64 (2 + t140)) x153003_8 (wrap64 (1 + t146)) 1 (wrap64 (1 + t149)))) = some (r1, r2, r3, r4, r5, r6, r7, r8, r9, r10) := H
      have A28 := Aside0.mk A280
      clear A280
      have HC29 := Aside0.mk H
      clear H
      go_upto_if 31 with (first | ((with_reducible refine gate_callee (f := 99) rfl ?_); refine goesL_ (some 31) rfl rfl Try.func99 (by kernel_rfl) rfl #[.pointer (some ⟨g, 0, none⟩), .int .i64 4] rfl mp_ ?_; (with_reducible refine (spec_l1Once.calls g s0_0 x1001_8 x1002_8 4 t159 t160 t161 w0 _ ?side1 ?side2 A28.out).mono ?_); (case side1 => repeat (first | (with_reducible first | exact HI0.out | apply IsS96.alloc | apply IsS96.drewN | apply IsS96.drew | apply IsS96.set_1 | apply IsS96.set_2 | refine IsS96.far ?_ NB0_133.out _ | refine IsS96.far ?_ NB0_152.out _) | exact HI0.out)); (case side2 => repeat (first | (with_reducible first | exact HB.out | apply below_alloc | apply pw_below_drewN | apply below_drew1 | refine below_set ?_ (IsS96.ge HI0.out) | refine below_set ?_ GE133.out | refine below_set ?_ GE152.out) | exact HB.out)); rintro e w30 ⟨rfl, hi, hb, hk⟩; refine ⟨_, rfl, ?_⟩; have n0_ := Aside0.mk (KeepBut.blk hk (g' := gb133) (o := .cells #[.int .i64 0, .int .i64 0, .int .i64 0, .int .i64 0, .int .i64 0, .int .i64 0, .int .i64 0, .slice none 0 0] 43 (0, 0)) (by (with_reducible repeat (first | refine bN_ _ ?_ | refine bd_ ?_ | refine ba_ _ ?_)); exact BK133.out) NB133_0.out (by simp)); have n1_ := Aside0.mk (KeepBut.blk hk (g' := gb152) (o := .cells #[.int .i64 (wrap64 (1 + t134)), .int .i64 t137, .int .i64 (wrap64 (2 + t140)), .int .i64 x153003_8, .int .i64 (wrap64 (1 + t146)), .int .i64 1, .int .i64 (wrap64 (1 + t149)), .slice none 0 0] 43 (0, 0)) (by (with_reducible repeat (first | refine bN_ _ ?_ | refine bd_ ?_ | refine ba_ _ ?_)); exact BK152.out) NB152_0.out (by simp)); have n2_ := Aside0.mk (KeepBut.trans (by repeat (first | (with_reducible first | exact HK.out | apply KeepBut.set_ | apply keep_drewN | apply keep_drew | apply keep_alloc | refine keep_far ?_ GW133.out _ | refine keep_far ?_ GW152.out _) | exact HK.out)) hk (.inl rfl)); have n3_ := Aside0.mk (hb); have n4_ := Aside0.mk (hi); clear BK133; clear BK152; clear HK; clear HB; clear HI0; have BK133 := n0_; have BK152 := n1_; have HK := n2_; have HB := n3_; have HI0 := n4_; clear n0_ n1_ n2_ n3_ n4_; (try clear hb); (try clear hb2); (try clear hk); (try clear hi)))
      (try simp only [Act.put, la_, lb_, lc_])
      go_cut [] (fun wc => ∃ (kq : Nat) (x1001_28 : Int) (x1002_28 : Int) (x153005_28 : Int), Aside0 (spec_l8Right.j1 kq s0_0 x1001_28 x1002_28 (wrap64 (1 + t134)) t137 (wrap64 (2 + t140)) x153003_8 (wrap64 (1 + t146)) x153005_28 (wrap64 (1 + t149)) = some (r1, r2, r3, r4, r5, r6, r7, r8, r9, r10)) ∧ Aside0 (kq ≤ kj8) ∧ Aside0 (wc.heap[gb133]? = some (.cells #[.int .i64 0, .int .i64 0, .int .i64 0, .int .i64 0, .int .i64 0, .int .i64 0, .int .i64 0, (.slice none 0 0)] 43 (0, 0))) ∧ Aside0 (wc.heap[gb152]? = some (.cells #[.int .i64 (wrap64 (1 + t134)), .int .i64 t137, .int .i64 (wrap64 (2 + t140)), .int .i64 x153003_8, .int .i64 (wrap64 (1 + t146)), .int .i64 x153005_28, .int .i64 (wrap64 (1 + t149)), (.slice none 0 0)] 43 (0, 0))) ∧ Aside0 (IsS96 w0 wc g s0_0 x1001_28 x1002_28) ∧ Aside0 (KeepBut w wc g none) ∧ Aside0 (Below w0.heap.size w0 wc))
      case first =>
        have H := HC29.out
        clear HC29
        by_cases c31 : t159 = true
        · subst c31
          have H1 : ((spec_l1Below.f s0_0 t160 t161 (wrap64 (1 + t149))).bind fun bt162 => (spec_l8Right.j1 kj8 s0_0 bt162.2.1 bt162.2.2 (wrap64 (1 + t134)) t137 (wrap64 (2 + t140)) x153003_8 (wrap64 (1 + t146)) (wrap64 (1 + bt162.1)) (wrap64 (1 + t149)))) = some (r1, r2, r3, r4, r5, r6, r7, r8, r9, r10) := by rw [if_pos rfl] at H; exact H
          clear H
          have H := H1
          clear H1
          replace H := Option.bind_eq_some_iff.mp H
          obtain ⟨⟨t162, t163, t164⟩, A320, H⟩ := H
          replace H : (spec_l8Right.j1 kj8 s0_0 t163 t164 (wrap64 (1 + t134)) t137 (wrap64 (2 + t140)) x153003_8 (wrap64 (1 + t146)) (wrap64 (1 + t162)) (wrap64 (1 + t149))) = some (r1, r2, r3, r4, r5, r6, r7, r8, r9, r10) := H
          have A32 := Aside0.mk A320
          clear A320
          have H' := Aside0.mk H
          clear H
          have hnb33 := NB152_133.out
          have hnc33 := NB133_152.out
          have hnb34 := NB152_0.out
          have hnc34 := NB0_152.out
          have hcz35_0 : w30.cell? ⟨gb152, 0, none⟩ = some (.int .i64 (wrap64 (1 + t134))) := bc_
          have hcz35_1 : w30.cell? ⟨gb152, 1, none⟩ = some (.int .i64 t137) := bc_
          have hcz35_2 : w30.cell? ⟨gb152, 2, none⟩ = some (.int .i64 (wrap64 (2 + t140))) := bc_
          have hcz35_3 : w30.cell? ⟨gb152, 3, none⟩ = some (.int .i64 x153003_8) := bc_
          have hcz35_4 : w30.cell? ⟨gb152, 4, none⟩ = some (.int .i64 (wrap64 (1 + t146))) := bc_
          have hcz35_5 : w30.cell? ⟨gb152, 5, none⟩ = some (.int .i64 1) := bc_
          have hcz35_6 : w30.cell? ⟨gb152, 6, none⟩ = some (.int .i64 (wrap64 (1 + t149))) := bc_
          have hcz35_7 : w30.cell? ⟨gb152, 7, none⟩ = some (.slice none 0 0) := bc_
          have hfz35_0 := blk_frozen BK152.out 0
          have hfz35_1 := blk_frozen BK152.out 1
          have hfz35_2 := blk_frozen BK152.out 2
          have hfz35_3 := blk_frozen BK152.out 3
          have hfz35_4 := blk_frozen BK152.out 4
          have hfz35_5 := blk_frozen BK152.out 5
          have hfz35_6 := blk_frozen BK152.out 6
          have hfz35_7 := blk_frozen BK152.out 7
          go_wp2_with (first | ((with_reducible refine gate_callee (f := 89) rfl ?_); refine goesL_ (some 35) rfl rfl Try.func89 (by kernel_rfl) rfl #[.pointer (some ⟨g, 0, none⟩), .int .i64 (wrap64 (1 + t149))] rfl mp_ ?_; (with_reducible refine (spec_l1Below.calls g s0_0 t160 t161 (wrap64 (1 + t149)) t162 t163 t164 w0 _ ?side1 ?side2 A32.out).mono ?_); (case side1 => repeat (first | (with_reducible first | exact HI0.out | apply IsS96.alloc | apply IsS96.drewN | apply IsS96.drew | apply IsS96.set_1 | apply IsS96.set_2 | refine IsS96.far ?_ NB0_133.out _ | refine IsS96.far ?_ NB0_152.out _) | exact HI0.out)); (case side2 => repeat (first | (with_reducible first | exact HB.out | apply below_alloc | apply pw_below_drewN | apply below_drew1 | refine below_set ?_ (IsS96.ge HI0.out) | refine below_set ?_ GE133.out | refine below_set ?_ GE152.out) | exact HB.out)); rintro e w36 ⟨rfl, hi, hb, hk⟩; refine ⟨_, rfl, ?_⟩; have n0_ := Aside0.mk (KeepBut.blk hk (g' := gb133) (o := .cells #[.int .i64 0, .int .i64 0, .int .i64 0, .int .i64 0, .int .i64 0, .int .i64 0, .int .i64 0, .slice none 0 0] 43 (0, 0)) (by (with_reducible repeat (first | refine bN_ _ ?_ | refine bd_ ?_ | refine ba_ _ ?_)); exact BK133.out) NB133_0.out (by simp)); have n1_ := Aside0.mk (KeepBut.blk hk (g' := gb152) (o := .cells #[.int .i64 (wrap64 (1 + t134)), .int .i64 t137, .int .i64 (wrap64 (2 + t140)), .int .i64 x153003_8, .int .i64 (wrap64 (1 + t146)), .int .i64 1, .int .i64 (wrap64 (1 + t149)), .slice none 0 0] 43 (0, 0)) (by (with_reducible repeat (first | refine bN_ _ ?_ | refine bd_ ?_ | refine ba_ _ ?_)); exact BK152.out) NB152_0.out (by simp)); have n2_ := Aside0.mk (KeepBut.trans (by repeat (first | (with_reducible first | exact HK.out | apply KeepBut.set_ | apply keep_drewN | apply keep_drew | apply keep_alloc | refine keep_far ?_ GW133.out _ | refine keep_far ?_ GW152.out _) | exact HK.out)) hk (.inl rfl)); have n3_ := Aside0.mk (hb); have n4_ := Aside0.mk (hi); clear BK133; clear BK152; clear HK; clear HB; clear HI0; have BK133 := n0_; have BK152 := n1_; have HK := n2_; have HB := n3_; have HI0 := n4_; clear n0_ n1_ n2_ n3_ n4_; (try clear hb); (try clear hb2); (try clear hk); (try clear hi); have hcz37_0 : w36.cell? ⟨gb152, 0, none⟩ = some (.int .i64 (wrap64 (1 + t134))) := bc_; have hcz37_1 : w36.cell? ⟨gb152, 1, none⟩ = some (.int .i64 t137) := bc_; have hcz37_2 : w36.cell? ⟨gb152, 2, none⟩ = some (.int .i64 (wrap64 (2 + t140))) := bc_; have hcz37_3 : w36.cell? ⟨gb152, 3, none⟩ = some (.int .i64 x153003_8) := bc_; have hcz37_4 : w36.cell? ⟨gb152, 4, none⟩ = some (.int .i64 (wrap64 (1 + t146))) := bc_; have hcz37_5 : w36.cell? ⟨gb152, 5, none⟩ = some (.int .i64 1) := bc_; have hcz37_6 : w36.cell? ⟨gb152, 6, none⟩ = some (.int .i64 (wrap64 (1 + t149))) := bc_; have hcz37_7 : w36.cell? ⟨gb152, 7, none⟩ = some (.slice none 0 0) := bc_; have hfz37_0 := blk_frozen BK152.out 0; have hfz37_1 := blk_frozen BK152.out 1; have hfz37_2 := blk_frozen BK152.out 2; have hfz37_3 := blk_frozen BK152.out 3; have hfz37_4 := blk_frozen BK152.out 4; have hfz37_5 := blk_frozen BK152.out 5; have hfz37_6 := blk_frozen BK152.out 6; have hfz37_7 := blk_frozen BK152.out 7))
          go_meet
          case rel => exact ⟨_, (t163), (t164), (wrap64 (1 + t162)), H', ⟨by have := HJ8.out; first | omega | exact Nat.le_refl _⟩, ⟨by (with_reducible repeat (first | refine bN_ _ ?_ | refine bd_ ?_ | refine ba_ _ ?_)); refine blk_far ?_ NB133_152.out _; (with_reducible repeat (first | refine bN_ _ ?_ | refine bd_ ?_ | refine ba_ _ ?_)); exact BK133.out⟩, ⟨by (with_reducible repeat (first | refine bN_ _ ?_ | refine bd_ ?_ | refine ba_ _ ?_)); refine blk_put (cs := #[.int .i64 (wrap64 (1 + t134)), .int .i64 t137, .int .i64 (wrap64 (2 + t140)), .int .i64 x153003_8, .int .i64 (wrap64 (1 + t146)), .int .i64 1, .int .i64 (wrap64 (1 + t149)), .slice none 0 0]) ?_ 5 _ rfl; (with_reducible repeat (first | refine bN_ _ ?_ | refine bd_ ?_ | refine ba_ _ ?_)); exact BK152.out⟩, ⟨by repeat (first | (with_reducible first | exact HI0.out | apply IsS96.alloc | apply IsS96.drewN | apply IsS96.drew | apply IsS96.set_1 | apply IsS96.set_2 | refine IsS96.far ?_ NB0_133.out _ | refine IsS96.far ?_ NB0_152.out _) | exact HI0.out)⟩, ⟨by repeat (first | (with_reducible first | exact HK.out | apply KeepBut.set_ | apply keep_drewN | apply keep_drew | apply keep_alloc | refine keep_far ?_ GW133.out _ | refine keep_far ?_ GW152.out _) | exact HK.out)⟩, ⟨by repeat (first | (with_reducible first | exact HB.out | apply below_alloc | apply pw_below_drewN | apply below_drew1 | refine below_set ?_ (IsS96.ge HI0.out) | refine below_set ?_ GE133.out | refine below_set ?_ GE152.out) | exact HB.out)⟩⟩
        · replace c31 := Bool.eq_false_iff.mpr c31
          subst c31
          have H1 : (spec_l8Right.j1 kj8 s0_0 t160 t161 (wrap64 (1 + t134)) t137 (wrap64 (2 + t140)) x153003_8 (wrap64 (1 + t146)) 1 (wrap64 (1 + t149))) = some (r1, r2, r3, r4, r5, r6, r7, r8, r9, r10) := by rw [if_neg (show ¬ (false = true) by decide)] at H; exact H
          clear H
          have H := H1
          clear H1
          have H' := Aside0.mk H
          clear H
          go_wp2
          go_meet
          case rel => exact ⟨_, (t160), (t161), (1), H', ⟨by have := HJ8.out; first | omega | exact Nat.le_refl _⟩, ⟨by (with_reducible repeat (first | refine bN_ _ ?_ | refine bd_ ?_ | refine ba_ _ ?_)); exact BK133.out⟩, ⟨by (with_reducible repeat (first | refine bN_ _ ?_ | refine bd_ ?_ | refine ba_ _ ?_)); exact BK152.out⟩, ⟨by repeat (first | (with_reducible first | exact HI0.out | apply IsS96.alloc | apply IsS96.drewN | apply IsS96.drew | apply IsS96.set_1 | apply IsS96.set_2 | refine IsS96.far ?_ NB0_133.out _ | refine IsS96.far ?_ NB0_152.out _) | exact HI0.out)⟩, ⟨by repeat (first | (with_reducible first | exact HK.out | apply KeepBut.set_ | apply keep_drewN | apply keep_drew | apply keep_alloc | refine keep_far ?_ GW133.out _ | refine keep_far ?_ GW152.out _) | exact HK.out)⟩, ⟨by repeat (first | (with_reducible first | exact HB.out | apply below_alloc | apply pw_below_drewN | apply below_drew1 | refine below_set ?_ (IsS96.ge HI0.out) | refine below_set ?_ GE133.out | refine below_set ?_ GE152.out) | exact HB.out)⟩⟩
      case rest =>
        clear HC29
        try clear c1
        try clear c2
        try clear p2
        try clear c3
        try clear p6
        try clear c8
        try clear c9
        try clear c18
        try clear c19
        try clear c22
        try clear c25
        try clear c26
        try clear c31
        try clear c33
        try clear c34
        try clear hcz20_0
        try clear hcz20_1
        try clear hcz20_2
        try clear hcz20_3
        try clear hcz20_4
        try clear hcz20_5
        try clear hcz20_6
        try clear hcz20_7
        try clear hcz27_0
        try clear hcz27_1
        try clear hcz27_2
        try clear hcz27_3
        try clear hcz27_4
        try clear hcz27_5
        try clear hcz27_6
        try clear hcz27_7
        try clear hcz35_0
        try clear hcz35_1
        try clear hcz35_2
        try clear hcz35_3
        try clear hcz35_4
        try clear hcz35_5
        try clear hcz35_6
        try clear hcz35_7
        try clear hcz37_0
        try clear hcz37_1
        try clear hcz37_2
        try clear hcz37_3
        try clear hcz37_4
        try clear hcz37_5
        try clear hcz37_6
        try clear hcz37_7
        try clear hfz20_0
        try clear hfz20_1
        try clear hfz20_2
        try clear hfz20_3
        try clear hfz20_4
        try clear hfz20_5
        try clear hfz20_6
        try clear hfz20_7
        try clear hfz27_0
        try clear hfz27_1
        try clear hfz27_2
        try clear hfz27_3
        try clear hfz27_4
        try clear hfz27_5
        try clear hfz27_6
        try clear hfz27_7
        try clear hfz35_0
        try clear hfz35_1
        try clear hfz35_2
        try clear hfz35_3
        try clear hfz35_4
        try clear hfz35_5
        try clear hfz35_6
        try clear hfz35_7
        try clear hfz37_0
        try clear hfz37_1
        try clear hfz37_2
        try clear hfz37_3
        try clear hfz37_4
        try clear hfz37_5
        try clear hfz37_6
        try clear hfz37_7
        try clear p2
        try clear p6
        obtain ⟨kq, x1001_28, x1002_28, x153005_28, HA, HJ28, BK133, BK152, HI0, HK, HB⟩ := hcut
        cases kq with
        | zero => exact absurd HA.out (by simp [spec_l8Right.j1])
        | succ kj28 =>
          have H := HA.out
          clear HA
          simp only [spec_l8Right.j1] at H
          replace H := Option.bind_eq_some_iff.mp H
          obtain ⟨⟨t165, t166, t167⟩, A380, H⟩ := H
          replace H : (spec_l8Right.l0 kj28 t165 0 s0_0 t166 t167 (wrap64 (1 + t134)) t137 (wrap64 (2 + t140)) x153003_8 (wrap64 (1 + t146)) x153005_28 (wrap64 (1 + t149)) ([] : List Int)) = some (r1, r2, r3, r4, r5, r6, r7, r8, r9, r10) := H
          have A38 := Aside0.mk A380
          clear A380
          have H' := Aside0.mk H
          clear H
          go_wp2_with (first | ((with_reducible refine gate_callee (f := 89) rfl ?_); refine goesL_ (some 39) rfl rfl Try.func89 (by kernel_rfl) rfl #[.pointer (some ⟨g, 0, none⟩), .int .i64 5] rfl mp_ ?_; (with_reducible refine (spec_l1Below.calls g s0_0 x1001_28 x1002_28 5 t165 t166 t167 w0 _ ?side1 ?side2 A38.out).mono ?_); (case side1 => repeat (first | (with_reducible first | exact HI0.out | apply IsS96.alloc | apply IsS96.drewN | apply IsS96.drew | apply IsS96.set_1 | apply IsS96.set_2 | refine IsS96.far ?_ NB0_133.out _ | refine IsS96.far ?_ NB0_152.out _) | exact HI0.out)); (case side2 => repeat (first | (with_reducible first | exact HB.out | apply below_alloc | apply pw_below_drewN | apply below_drew1 | refine below_set ?_ (IsS96.ge HI0.out) | refine below_set ?_ GE133.out | refine below_set ?_ GE152.out) | exact HB.out)); rintro e w39 ⟨rfl, hi, hb, hk⟩; refine ⟨_, rfl, ?_⟩; have n0_ := Aside0.mk (KeepBut.blk hk (g' := gb133) (o := .cells #[.int .i64 0, .int .i64 0, .int .i64 0, .int .i64 0, .int .i64 0, .int .i64 0, .int .i64 0, .slice none 0 0] 43 (0, 0)) (by (with_reducible repeat (first | refine bN_ _ ?_ | refine bd_ ?_ | refine ba_ _ ?_)); exact BK133.out) NB133_0.out (by simp)); have n1_ := Aside0.mk (KeepBut.blk hk (g' := gb152) (o := .cells #[.int .i64 (wrap64 (1 + t134)), .int .i64 t137, .int .i64 (wrap64 (2 + t140)), .int .i64 x153003_8, .int .i64 (wrap64 (1 + t146)), .int .i64 x153005_28, .int .i64 (wrap64 (1 + t149)), .slice none 0 0] 43 (0, 0)) (by (with_reducible repeat (first | refine bN_ _ ?_ | refine bd_ ?_ | refine ba_ _ ?_)); exact BK152.out) NB152_0.out (by simp)); have n2_ := Aside0.mk (KeepBut.trans (by repeat (first | (with_reducible first | exact HK.out | apply KeepBut.set_ | apply keep_drewN | apply keep_drew | apply keep_alloc | refine keep_far ?_ GW133.out _ | refine keep_far ?_ GW152.out _) | exact HK.out)) hk (.inl rfl)); have n3_ := Aside0.mk (hb); have n4_ := Aside0.mk (hi); clear BK133; clear BK152; clear HK; clear HB; clear HI0; have BK133 := n0_; have BK152 := n1_; have HK := n2_; have HB := n3_; have HI0 := n4_; clear n0_ n1_ n2_ n3_ n4_; (try clear hb); (try clear hb2); (try clear hk); (try clear hi)))
          go_loopg [5] kj28 (fun kq v5 w' => ∃ (x5_3 : Int) (x1001_3 : Int) (x1002_3 : Int) (x153007_3 : List Int) (u153007 : Value), v5 = .int .i64 x5_3 ∧ Aside0 (spec_l8Right.l0 kq t165 x5_3 s0_0 x1001_3 x1002_3 (wrap64 (1 + t134)) t137 (wrap64 (2 + t140)) x153003_8 (wrap64 (1 + t146)) x153005_28 (wrap64 (1 + t149)) x153007_3 = some (r1, r2, r3, r4, r5, r6, r7, r8, r9, r10)) ∧ Aside0 (kq ≤ kj28) ∧ Aside0 (Kd.R (Kd.int .i64) 3 w' w.heap.size (fun _ => True) u153007 x153007_3) ∧ Aside0 (w'.heap[gb133]? = some (.cells #[.int .i64 0, .int .i64 0, .int .i64 0, .int .i64 0, .int .i64 0, .int .i64 0, .int .i64 0, (.slice none 0 0)] 43 (0, 0))) ∧ Aside0 (w'.heap[gb152]? = some (.cells #[.int .i64 (wrap64 (1 + t134)), .int .i64 t137, .int .i64 (wrap64 (2 + t140)), .int .i64 x153003_8, .int .i64 (wrap64 (1 + t146)), .int .i64 x153005_28, .int .i64 (wrap64 (1 + t149)), u153007] 43 (0, 0))) ∧ Aside0 (IsS96 w0 w' g s0_0 x1001_3 x1002_3) ∧ Aside0 (KeepBut w w' g none) ∧ Aside0 (Below w0.heap.size w0 w'))
          case atStart => exact ⟨(0), (t166), (t167), (([] : List Int)), (.slice none 0 0), (by first | rfl | (simp; done) | (simp [*]; done)), H', ⟨Nat.le_refl _⟩, ⟨by first | exact Kd.R_nil _ _ _ _ _ | exact Kd.N_nil _ _ _ _ _ | exact Kd.V_nil _ _ _ _ _ | exact Kd.Q_nil _ _ _ _ _ | exact Kd.S_nil _ _ _ _ _⟩, ⟨by (with_reducible repeat (first | refine bN_ _ ?_ | refine bd_ ?_ | refine ba_ _ ?_)); exact BK133.out⟩, ⟨by (with_reducible repeat (first | refine bN_ _ ?_ | refine bd_ ?_ | refine ba_ _ ?_)); exact BK152.out⟩, ⟨by repeat (first | (with_reducible first | exact HI0.out | apply IsS96.alloc | apply IsS96.drewN | apply IsS96.drew | apply IsS96.set_1 | apply IsS96.set_2 | refine IsS96.far ?_ NB0_133.out _ | refine IsS96.far ?_ NB0_152.out _) | exact HI0.out)⟩, ⟨by repeat (first | (with_reducible first | exact HK.out | apply KeepBut.set_ | apply keep_drewN | apply keep_drew | apply keep_alloc | refine keep_far ?_ GW133.out _ | refine keep_far ?_ GW152.out _) | exact HK.out)⟩, ⟨by repeat (first | (with_reducible first | exact HB.out | apply below_alloc | apply pw_below_drewN | apply below_drew1 | refine below_set ?_ (IsS96.ge HI0.out) | refine below_set ?_ GE133.out | refine below_set ?_ GE152.out) | exact HB.out)⟩⟩
          case round =>
            clear H'
            try clear c1
            try clear c2
            try clear p2
            try clear c3
            try clear p6
            try clear c8
            try clear c9
            try clear c18
            try clear c19
            try clear c22
            try clear c25
            try clear c26
            try clear c31
            try clear c33
            try clear c34
            try clear hcz20_0
            try clear hcz20_1
            try clear hcz20_2
            try clear hcz20_3
            try clear hcz20_4
            try clear hcz20_5
            try clear hcz20_6
            try clear hcz20_7
            try clear hcz27_0
            try clear hcz27_1
            try clear hcz27_2
            try clear hcz27_3
            try clear hcz27_4
            try clear hcz27_5
            try clear hcz27_6
            try clear hcz27_7
            try clear hcz35_0
            try clear hcz35_1
            try clear hcz35_2
            try clear hcz35_3
            try clear hcz35_4
            try clear hcz35_5
            try clear hcz35_6
            try clear hcz35_7
            try clear hcz37_0
            try clear hcz37_1
            try clear hcz37_2
            try clear hcz37_3
            try clear hcz37_4
            try clear hcz37_5
            try clear hcz37_6
            try clear hcz37_7
            try clear hfz20_0
            try clear hfz20_1
            try clear hfz20_2
            try clear hfz20_3
            try clear hfz20_4
            try clear hfz20_5
            try clear hfz20_6
            try clear hfz20_7
            try clear hfz27_0
            try clear hfz27_1
            try clear hfz27_2
            try clear hfz27_3
            try clear hfz27_4
            try clear hfz27_5
            try clear hfz27_6
            try clear hfz27_7
            try clear hfz35_0
            try clear hfz35_1
            try clear hfz35_2
            try clear hfz35_3
            try clear hfz35_4
            try clear hfz35_5
            try clear hfz35_6
            try clear hfz35_7
            try clear hfz37_0
            try clear hfz37_1
            try clear hfz37_2
            try clear hfz37_3
            try clear hfz37_4
            try clear hfz37_5
            try clear hfz37_6
            try clear hfz37_7
            try clear p2
            try clear p6
            obtain ⟨x5_3, x1001_3, x1002_3, x153007_3, u153007, rfl, HA, HK3, HO_153007, BK133, BK152, HI0, HK, HB⟩ := hrel
            cases gk with
            | zero => exact absurd HA.out (by simp [spec_l8Right.l0])
            | succ k3 =>
              have H := HA.out
              clear HA
              simp only [spec_l8Right.l0] at H
              by_cases c40 : x5_3 < t165
              · rw [if_pos c40] at H
                have c40b0 : decide (x5_3 < t165) = true := decide_eq_true c40
                clear c40
                replace H := Option.bind_eq_some_iff.mp H
                obtain ⟨⟨t168, t169, t170⟩, A410, H⟩ := H
                replace H : (if x153007_3.length < 17592186044416 then (spec_l8Right.l0 k3 t165 (wrap64 (x5_3 + 1)) s0_0 t169 t170 (wrap64 (1 + t134)) t137 (wrap64 (2 + t140)) x153003_8 (wrap64 (1 + t146)) x153005_28 (wrap64 (1 + t149)) (x153007_3 ++ [wrap64 (t168 - 1)])) else (none)) = some (r1, r2, r3, r4, r5, r6, r7, r8, r9, r10) := H
                have A41 := Aside0.mk A410
                clear A410
                by_cases c42 : x153007_3.length < 17592186044416
                · rw [if_pos c42] at H
                  have LMc42 := Aside0.mk c42
                  clear c42
                  obtain ⟨y171, hy171⟩ : ∃ y_ : List Int, y_ = (x153007_3 ++ [wrap64 (t168 - 1)]) := ⟨_, rfl⟩
                  replace H : (spec_l8Right.l0 k3 t165 (wrap64 (x5_3 + 1)) s0_0 t169 t170 (wrap64 (1 + t134)) t137 (wrap64 (2 + t140)) x153003_8 (wrap64 (1 + t146)) x153005_28 (wrap64 (1 + t149)) y171) = some (r1, r2, r3, r4, r5, r6, r7, r8, r9, r10) := by first | (rw [hy171]; with_reducible exact H) | (have H2_ := (Option.bind_some _ _).symm.trans H; rw [hy171]; with_reducible exact H2_) | (have H2_ := (Option.bind_some _ _).symm.trans H; with_reducible exact H2_) | with_reducible exact H | (rw [hy171]; exact H) | exact H
                  have Ny171 := Aside0.mk hy171
                  clear hy171
                  have H' := Aside0.mk H
                  clear H
                  try go_wp2
                  have n0_ := Aside0.mk (Kd.R_drew HO_153007.out)
                  have n1_ := Aside0.mk (blk_drew BK133.out)
                  have n2_ := Aside0.mk (blk_drew BK152.out)
                  have n3_ := Aside0.mk (IsS96.drew HI0.out)
                  have n4_ := Aside0.mk (keep_drew HK.out)
                  have n5_ := Aside0.mk (below_drew1 HB.out)
                  clear HO_153007
                  clear BK133
                  clear BK152
                  clear HI0
                  clear HK
                  clear HB
                  have HO_153007 := n0_
                  have BK133 := n1_
                  have BK152 := n2_
                  have HI0 := n3_
                  have HK := n4_
                  have HB := n5_
                  clear n0_ n1_ n2_ n3_ n4_ n5_
                  refine start_ (n := 9) (S := fun w' => w'.cell? ⟨gb152, 0, none⟩ = some (.int .i64 (wrap64 (1 + t134))) ∧ w'.cell? ⟨gb152, 1, none⟩ = some (.int .i64 t137) ∧ w'.cell? ⟨gb152, 2, none⟩ = some (.int .i64 (wrap64 (2 + t140))) ∧ w'.cell? ⟨gb152, 3, none⟩ = some (.int .i64 x153003_8) ∧ w'.cell? ⟨gb152, 4, none⟩ = some (.int .i64 (wrap64 (1 + t146))) ∧ w'.cell? ⟨gb152, 5, none⟩ = some (.int .i64 x153005_28) ∧ w'.cell? ⟨gb152, 6, none⟩ = some (.int .i64 (wrap64 (1 + t149))) ∧ w'.cell? ⟨gb152, 7, none⟩ = some (u153007)) (ds := [8]) #[false, false, false, false, false, false, false, false, false] (by kernel_rfl) rfl rfl ⟨bc_, bc_, bc_, bc_, bc_, bc_, bc_, bc_⟩ (fun hHeld => ?_); refine with_tabW spec_l8Right.tab10 spec_l8Right.bits10 (fun HT_ HW_ => ?_)
                  generalize wr.drew = w43 at HO_153007 BK133 BK152 HI0 HK HB hHeld ⊢
                  refine pure_ (i := 0) (N := some 45) (v := ?_) (a' := ?_) #[true, false, false, false, false, false, false, false, false] rfl rfl (any_of HT_.out (by kernel_rfl)) (fun _ _ _ h => h) (Or.inl ⟨by rfl, ?_⟩) ?_ ?_
                  rotate_left
                  · intro w'
                    go_simp
                    with_reducible rfl
                  rotate_left
                  · simp only [Act.put, la_, lb_, lc_, i64_w, i32_w]
                    rfl
                  refine pure_ (i := 2) (N := some 47) (v := ?_) (a' := ?_) #[true, false, true, false, false, false, false, false, false] rfl rfl (any_of HT_.out (by kernel_rfl)) (fun _ _ _ h => h) (Or.inl ⟨by rfl, ?_⟩) ?_ ?_
                  rotate_left
                  · intro w'
                    go_simp
                    with_reducible rfl
                  rotate_left
                  · simp only [Act.put, la_, lb_, lc_, i64_w, i32_w]
                    rfl
                  refine take_ (i := 1) (N := some 46) (v := ?_) (a' := ?_) #[true, true, true, false, false, false, false, false, false] rfl rfl (take_ofW HT_.out HW_.out (by kernel_rfl)) (fun _ _ _ h => h) (Or.inl ⟨by rfl, ?_⟩) hHeld ?_ ?_
                  rotate_left
                  · rintro w' ⟨s0, s1, s2, s3, s4, s5, s6, s7⟩
                    go_simp
                    with_reducible rfl
                  rotate_left
                  · simp only [Act.put, la_, lb_, lc_, i64_w, i32_w]
                    rfl
                  refine one_ (i := 3) (N := some 48) #[true, true, true, true, false, false, false, false, false] rfl rfl (one_of HT_.out (by kernel_rfl)) (by decide) (fun K hK => ?_)
                  refine goes_ Try.func89 (by kernel_rfl) rfl #[.pointer (some ⟨g, 0, none⟩), .int .i64 3] (by rfl) rfl rfl mp_ ?_
                  with_reducible refine (spec_l1Below.calls g s0_0 x1001_3 x1002_3 3 t168 t169 t170 w0 _ ?side1 ?side2 A41.out).mono ?_
                  (case side1 => repeat (first | (with_reducible first | exact HI0.out | apply IsS96.alloc | apply IsS96.drewN | apply IsS96.drew | apply IsS96.set_1 | apply IsS96.set_2 | refine IsS96.far ?_ NB0_133.out _ | refine IsS96.far ?_ NB0_152.out _) | exact HI0.out))
                  (case side2 => repeat (first | (with_reducible first | exact HB.out | apply below_alloc | apply pw_below_drewN | apply below_drew1 | refine below_set ?_ (IsS96.ge HI0.out) | refine below_set ?_ GE133.out | refine below_set ?_ GE152.out) | exact HB.out))
                  rintro e w44 ⟨rfl, hi, hb, hk⟩
                  refine ⟨_, rfl, ?_⟩
                  have n0_ := Aside0.mk (Kd.R_mono (Kd.R_keep (IsS96.apart (show IsS96 w0 _ g s0_0 x1001_3 x1002_3 from by repeat (first | (with_reducible first | exact HI0.out | apply IsS96.alloc | apply IsS96.drewN | apply IsS96.drew | apply IsS96.set_1 | apply IsS96.set_2 | refine IsS96.far ?_ NB0_133.out _ | refine IsS96.far ?_ NB0_152.out _) | exact HI0.out)) (by (with_reducible repeat (first | apply Kd.R_alloc | apply Kd.R_drewN | apply Kd.R_drew)); exact HO_153007.out) (by decide)) hk (fun _ h => h.2)) (fun _ h => h.1))
                  have n1_ := Aside0.mk (KeepBut.blk hk (g' := gb133) (o := .cells #[.int .i64 0, .int .i64 0, .int .i64 0, .int .i64 0, .int .i64 0, .int .i64 0, .int .i64 0, .slice none 0 0] 43 (0, 0)) (by (with_reducible repeat (first | refine bN_ _ ?_ | refine bd_ ?_ | refine ba_ _ ?_)); exact BK133.out) NB133_0.out (by simp))
                  have n2_ := Aside0.mk (KeepBut.blk hk (g' := gb152) (o := .cells #[.int .i64 (wrap64 (1 + t134)), .int .i64 t137, .int .i64 (wrap64 (2 + t140)), .int .i64 x153003_8, .int .i64 (wrap64 (1 + t146)), .int .i64 x153005_28, .int .i64 (wrap64 (1 + t149)), u153007] 43 (0, 0)) (by (with_reducible repeat (first | refine bN_ _ ?_ | refine bd_ ?_ | refine ba_ _ ?_)); exact BK152.out) NB152_0.out (by simp))
                  have n3_ := Aside0.mk (KeepBut.trans (by repeat (first | (with_reducible first | exact HK.out | apply KeepBut.set_ | apply keep_drewN | apply keep_drew | apply keep_alloc | refine keep_far ?_ GW133.out _ | refine keep_far ?_ GW152.out _) | exact HK.out)) hk (.inl rfl))
                  have n4_ := Aside0.mk (hb)
                  have n5_ := Aside0.mk (hi)
                  clear HO_153007
                  clear BK133
                  clear BK152
                  clear HK
                  clear HB
                  clear HI0
                  have HO_153007 := n0_
                  have BK133 := n1_
                  have BK152 := n2_
                  have HK := n3_
                  have HB := n4_
                  have HI0 := n5_
                  clear n0_ n1_ n2_ n3_ n4_ n5_
                  (try clear hb)
                  (try clear hb2)
                  (try clear hk)
                  (try clear hi)
                  refine hK.out _ _ ⟨bc_, bc_, bc_, bc_, bc_, bc_, bc_, bc_⟩ (fun hHeld => ?_)
                  clear hK K
                  refine norm_ (a' := ?_) ?_ ?_
                  rotate_left
                  · show Act.put _ (some 48) _ = _
                    simp only [Act.put, la_, lb_, lc_, i64_w, i32_w]
                    rfl
                  refine pure_ (i := 4) (N := some 49) (v := ?_) (a' := ?_) #[true, true, true, true, true, false, false, false, false] rfl rfl (any_of HT_.out (by kernel_rfl)) (fun _ _ _ h => h) (Or.inl ⟨by rfl, ?_⟩) ?_ ?_
                  rotate_left
                  · intro w'
                    go_simp
                    with_reducible rfl
                  rotate_left
                  · simp only [Act.put, la_, lb_, lc_, i64_w, i32_w]
                    rfl
                  refine one_ (i := 5) (N := some 50) #[true, true, true, true, true, true, false, false, false] rfl rfl (one_of HT_.out (by kernel_rfl)) (by decide) (fun K hK => ?_)
                  refine value_ (w1 := ?_) (v := ?_) (by rfl) rfl ?_ ?_
                  rotate_left 2
                  · go_simp
                    constructor
                    · rfl
                    · rfl
                  refine hK.out _ _ ⟨(blk_cell (blk_alloc BK152.out _) 0).trans rfl, (blk_cell (blk_alloc BK152.out _) 1).trans rfl, (blk_cell (blk_alloc BK152.out _) 2).trans rfl, (blk_cell (blk_alloc BK152.out _) 3).trans rfl, (blk_cell (blk_alloc BK152.out _) 4).trans rfl, (blk_cell (blk_alloc BK152.out _) 5).trans rfl, (blk_cell (blk_alloc BK152.out _) 6).trans rfl, (blk_cell (blk_alloc BK152.out _) 7).trans rfl⟩ (fun hHeld => ?_)
                  clear hK K
                  refine norm_ (a' := ?_) ?_ ?_
                  rotate_left
                  · show Act.put _ (some 50) _ = _
                    simp only [Act.put, la_, lb_, lc_, i64_w, i32_w]
                    rfl
                  refine one_ (i := 6) (N := some 51) #[true, true, true, true, true, true, true, false, false] rfl rfl (one_of HT_.out (by kernel_rfl)) (by decide) (fun K hK => ?_)
                  refine Kd.R_append_step (Kd.int .i64) w.heap.size (by rfl) (.tmp 46) (.tmp 50) 41 3 (.int .i64 0) 8 rfl Try.underlying41 info3 rfl (by decide) (by omega) u153007 x153007_3 (wrap64 (t168 - 1)) [.int .i64 (wrap64 (t168 - 1))] (fun _ => True) (fun _ => False) rfl rfl ?aP (fun _ hk => hk.elim) ?aF ?aO (Below.refl _ _) ?aS ?aL ?_
                  (case aP => exact rfl)
                  (case aF => exact (fun _ _ => trivial))
                  (case aO => exact (by (with_reducible repeat (first | apply Kd.R_alloc | apply Kd.R_drewN | apply Kd.R_drew)); exact HO_153007.out))
                  (case aS => exact (keep_size (w := w) (g := g) (row := none) (by repeat (first | (with_reducible first | exact HK.out | apply KeepBut.set_ | apply keep_drewN | apply keep_drew | apply keep_alloc | refine keep_far ?_ GW133.out _ | refine keep_far ?_ GW152.out _) | exact HK.out))))
                  (case aL => have := LMc42.out; omega)
                  intro v172 w45 ho hb hg hat
                  rw [← Ny171.out] at ho
                  have n0_ := Aside0.mk (blk_grown (g := gb133) (o := .cells #[.int .i64 0, .int .i64 0, .int .i64 0, .int .i64 0, .int .i64 0, .int .i64 0, .int .i64 0, .slice none 0 0] 43 (0, 0)) (by (with_reducible repeat (first | refine bN_ _ ?_ | refine bd_ ?_ | refine ba_ _ ?_)); exact BK133.out) hg (Kd.R_ne HO_153007.out BK133.out (by decide)))
                  have n1_ := Aside0.mk (blk_grown (g := gb152) (o := .cells #[.int .i64 (wrap64 (1 + t134)), .int .i64 t137, .int .i64 (wrap64 (2 + t140)), .int .i64 x153003_8, .int .i64 (wrap64 (1 + t146)), .int .i64 x153005_28, .int .i64 (wrap64 (1 + t149)), u153007] 43 (0, 0)) (by (with_reducible repeat (first | refine bN_ _ ?_ | refine bd_ ?_ | refine ba_ _ ?_)); exact BK152.out) hg (Kd.R_ne HO_153007.out BK152.out (by decide)))
                  have n2_ := Aside0.mk (IsS96.grown (by repeat (first | (with_reducible first | exact HI0.out | apply IsS96.alloc | apply IsS96.drewN | apply IsS96.drew | apply IsS96.set_1 | apply IsS96.set_2 | refine IsS96.far ?_ NB0_133.out _ | refine IsS96.far ?_ NB0_152.out _) | exact HI0.out)) hg (IsS96.own_ne HI0.out HO_153007.out (by decide)))
                  have n3_ := Aside0.mk (below_weaken (by repeat (first | (with_reducible first | exact HB.out | apply below_alloc | apply pw_below_drewN | apply below_drew1 | refine below_set ?_ (IsS96.ge HI0.out) | refine below_set ?_ GE133.out | refine below_set ?_ GE152.out) | exact HB.out)) HL.out hb)
                  have n4_ := Aside0.mk (KeepBut.trans (by repeat (first | (with_reducible first | exact HK.out | apply KeepBut.set_ | apply keep_drewN | apply keep_drew | apply keep_alloc | refine keep_far ?_ GW133.out _ | refine keep_far ?_ GW152.out _) | exact HK.out)) (KeepBut.of_grown hg g) (Kd.R_base2 HO_153007.out))
                  have n5_ := Aside0.mk (ho)
                  clear BK133
                  clear BK152
                  clear HI0
                  clear HB
                  clear HK
                  clear HO_153007
                  have BK133 := n0_
                  have BK152 := n1_
                  have HI0 := n2_
                  have HB := n3_
                  have HK := n4_
                  have HO173 := n5_
                  clear n0_ n1_ n2_ n3_ n4_ n5_
                  clear ho hb hg hat
                  obtain ⟨Ao46, co46, eo46⟩ := Kd.R_slice HO173.out
                  (first | subst eo46 | (injection eo46 with f1_ f2_ f3_; have f4_ := f1_.symm; have f5_ := f3_.symm; clear f1_ f2_ f3_; subst f4_; subst f5_))
                  refine hK.out _ _ ⟨bc_, bc_, bc_, bc_, bc_, bc_, bc_, bc_⟩ (fun hHeld => ?_)
                  clear hK K
                  refine norm_ (a' := ?_) ?_ ?_
                  rotate_left
                  · show Act.put _ (some 51) _ = _
                    simp only [Act.put, la_, lb_, lc_, i64_w, i32_w]
                    rfl
                  refine pure_ (i := 7) (N := some 52) (v := ?_) (a' := ?_) #[true, true, true, true, true, true, true, true, false] rfl rfl (any_of HT_.out (by kernel_rfl)) (fun _ _ _ h => h) (Or.inl ⟨by rfl, ?_⟩) ?_ ?_
                  rotate_left
                  · intro w'
                    go_simp
                    with_reducible rfl
                  rotate_left
                  · simp only [Act.put, la_, lb_, lc_, i64_w, i32_w]
                    rfl
                  refine last_ (i := 8) (N := none) #[true, true, true, true, true, true, true, true, true] rfl rfl (one_of HT_.out (by kernel_rfl)) (by decide) (fun K hK => ?_)
                  have hs47 : w45.cell? ⟨gb152, 7, none⟩ = some (u153007) := (blk_cell BK152.out 7).trans rfl
                  have hfs47 := blk_frozen BK152.out 7
                  have hns47_0 := NB133_152.out
                  have hms47_0 := NB152_133.out
                  refine skip_ (w1 := ?_) (by rfl) rfl ?_ ?_
                  rotate_left
                  · go_simp
                    rfl
                  refine hK.out _ _ ?_
                  clear hK K
                  refine done_ (done_of HT_.out (by kernel_rfl)) ?_
                  try go_wp2
                  go_roundg k3
                  case measure => have := HJ8.out; have := HJ28.out; have := HK3.out; omega
                  case rel => exact ⟨(wrap64 (x5_3 + 1)), (t169), (t170), (y171), (.slice Ao46 y171.length co46), (by first | rfl | (simp; done) | (simp [*]; done)), H', ⟨by have := HJ8.out; have := HJ28.out; have := HK3.out; omega⟩, ⟨by (with_reducible repeat (first | apply Kd.R_alloc | apply Kd.R_drewN | apply Kd.R_drew)); exact Kd.R_mono (Kd.R_far (p := ⟨gb152, 7, none⟩) (Kd.R_types HO173.out BK152.out (by decide)) (fun _ hk => hk.2) (.slice Ao46 y171.length co46)) (fun _ hk => trivial)⟩, ⟨by (with_reducible repeat (first | refine bN_ _ ?_ | refine bd_ ?_ | refine ba_ _ ?_)); refine blk_far ?_ NB133_152.out _; (with_reducible repeat (first | refine bN_ _ ?_ | refine bd_ ?_ | refine ba_ _ ?_)); exact BK133.out⟩, ⟨by (with_reducible repeat (first | refine bN_ _ ?_ | refine bd_ ?_ | refine ba_ _ ?_)); refine blk_put (cs := #[.int .i64 (wrap64 (1 + t134)), .int .i64 t137, .int .i64 (wrap64 (2 + t140)), .int .i64 x153003_8, .int .i64 (wrap64 (1 + t146)), .int .i64 x153005_28, .int .i64 (wrap64 (1 + t149)), u153007]) ?_ 7 _ rfl; (with_reducible repeat (first | refine bN_ _ ?_ | refine bd_ ?_ | refine ba_ _ ?_)); exact BK152.out⟩, ⟨by repeat (first | (with_reducible first | exact HI0.out | apply IsS96.alloc | apply IsS96.drewN | apply IsS96.drew | apply IsS96.set_1 | apply IsS96.set_2 | refine IsS96.far ?_ NB0_133.out _ | refine IsS96.far ?_ NB0_152.out _) | exact HI0.out)⟩, ⟨by repeat (first | (with_reducible first | exact HK.out | apply KeepBut.set_ | apply keep_drewN | apply keep_drew | apply keep_alloc | refine keep_far ?_ GW133.out _ | refine keep_far ?_ GW152.out _) | exact HK.out)⟩, ⟨by repeat (first | (with_reducible first | exact HB.out | apply below_alloc | apply pw_below_drewN | apply below_drew1 | refine below_set ?_ (IsS96.ge HI0.out) | refine below_set ?_ GE133.out | refine below_set ?_ GE152.out) | exact HB.out)⟩⟩
                · rw [if_neg c42] at H
                  exact absurd H (by simp)
              · rw [if_neg c40] at H
                have c40b0 : decide (x5_3 < t165) = false := decide_eq_false c40
                clear c40
                simp only [Option.some.injEq, Prod.mk.injEq] at H
                obtain ⟨rfl, rfl, rfl, rfl, rfl, rfl, rfl, rfl, rfl, rfl⟩ := H
                have hnb48 := NB152_133.out
                have hnc48 := NB133_152.out
                have hnb49 := NB152_0.out
                have hnc49 := NB0_152.out
                have hcz50_0 : wr.cell? ⟨gb152, 0, none⟩ = some (.int .i64 (wrap64 (1 + t134))) := bc_
                have hcz50_1 : wr.cell? ⟨gb152, 1, none⟩ = some (.int .i64 t137) := bc_
                have hcz50_2 : wr.cell? ⟨gb152, 2, none⟩ = some (.int .i64 (wrap64 (2 + t140))) := bc_
                have hcz50_3 : wr.cell? ⟨gb152, 3, none⟩ = some (.int .i64 x153003_8) := bc_
                have hcz50_4 : wr.cell? ⟨gb152, 4, none⟩ = some (.int .i64 (wrap64 (1 + t146))) := bc_
                have hcz50_5 : wr.cell? ⟨gb152, 5, none⟩ = some (.int .i64 x153005_28) := bc_
                have hcz50_6 : wr.cell? ⟨gb152, 6, none⟩ = some (.int .i64 (wrap64 (1 + t149))) := bc_
                have hcz50_7 : wr.cell? ⟨gb152, 7, none⟩ = some (u153007) := bc_
                have hfz50_0 := blk_frozen BK152.out 0
                have hfz50_1 := blk_frozen BK152.out 1
                have hfz50_2 := blk_frozen BK152.out 2
                have hfz50_3 := blk_frozen BK152.out 3
                have hfz50_4 := blk_frozen BK152.out 4
                have hfz50_5 := blk_frozen BK152.out 5
                have hfz50_6 := blk_frozen BK152.out 6
                have hfz50_7 := blk_frozen BK152.out 7
                have hnb51 := NB133_0.out
                have hnc51 := NB0_133.out
                have hcz52_0 : wr.cell? ⟨gb133, 0, none⟩ = some (.int .i64 0) := bc_
                have hcz52_1 : wr.cell? ⟨gb133, 1, none⟩ = some (.int .i64 0) := bc_
                have hcz52_2 : wr.cell? ⟨gb133, 2, none⟩ = some (.int .i64 0) := bc_
                have hcz52_3 : wr.cell? ⟨gb133, 3, none⟩ = some (.int .i64 0) := bc_
                have hcz52_4 : wr.cell? ⟨gb133, 4, none⟩ = some (.int .i64 0) := bc_
                have hcz52_5 : wr.cell? ⟨gb133, 5, none⟩ = some (.int .i64 0) := bc_
                have hcz52_6 : wr.cell? ⟨gb133, 6, none⟩ = some (.int .i64 0) := bc_
                have hcz52_7 : wr.cell? ⟨gb133, 7, none⟩ = some (.slice none 0 0) := bc_
                have hfz52_0 := blk_frozen BK133.out 0
                have hfz52_1 := blk_frozen BK133.out 1
                have hfz52_2 := blk_frozen BK133.out 2
                have hfz52_3 := blk_frozen BK133.out 3
                have hfz52_4 := blk_frozen BK133.out 4
                have hfz52_5 := blk_frozen BK133.out 5
                have hfz52_6 := blk_frozen BK133.out 6
                have hfz52_7 := blk_frozen BK133.out 7
                obtain ⟨Ao53, co53, eo53⟩ := Kd.R_slice HO_153007.out
                subst eo53
                go_wp2
                refine bodyPost_ret (results_cell_row rfl _ _ gb133 43 #[.int .i64 (wrap64 (1 + t134)), .int .i64 t137, .int .i64 (wrap64 (2 + t140)), .int .i64 x153003_8, .int .i64 (wrap64 (1 + t146)), .int .i64 x153005_28, .int .i64 (wrap64 (1 + t149)), .slice Ao53 x153007_3.length co53] (0, 0) _ rfl (by (with_reducible repeat (first | refine bN_ _ ?_ | refine bd_ ?_ | refine ba_ _ ?_)); refine blk_put (cs := #[.int .i64 (wrap64 (1 + t134)), .int .i64 t137, .int .i64 (wrap64 (2 + t140)), .int .i64 x153003_8, .int .i64 (wrap64 (1 + t146)), .int .i64 x153005_28, .int .i64 (wrap64 (1 + t149)), .slice none 0 0]) ?_ 7 _ rfl; (with_reducible repeat (first | refine bN_ _ ?_ | refine bd_ ?_ | refine ba_ _ ?_)); refine blk_put (cs := #[.int .i64 (wrap64 (1 + t134)), .int .i64 t137, .int .i64 (wrap64 (2 + t140)), .int .i64 x153003_8, .int .i64 (wrap64 (1 + t146)), .int .i64 x153005_28, .int .i64 0, .slice none 0 0]) ?_ 6 _ rfl; (with_reducible repeat (first | refine bN_ _ ?_ | refine bd_ ?_ | refine ba_ _ ?_)); refine blk_put (cs := #[.int .i64 (wrap64 (1 + t134)), .int .i64 t137, .int .i64 (wrap64 (2 + t140)), .int .i64 x153003_8, .int .i64 (wrap64 (1 + t146)), .int .i64 0, .int .i64 0, .slice none 0 0]) ?_ 5 _ rfl; (with_reducible repeat (first | refine bN_ _ ?_ | refine bd_ ?_ | refine ba_ _ ?_)); refine blk_put (cs := #[.int .i64 (wrap64 (1 + t134)), .int .i64 t137, .int .i64 (wrap64 (2 + t140)), .int .i64 x153003_8, .int .i64 0, .int .i64 0, .int .i64 0, .slice none 0 0]) ?_ 4 _ rfl; (with_reducible repeat (first | refine bN_ _ ?_ | refine bd_ ?_ | refine ba_ _ ?_)); refine blk_put (cs := #[.int .i64 (wrap64 (1 + t134)), .int .i64 t137, .int .i64 (wrap64 (2 + t140)), .int .i64 0, .int .i64 0, .int .i64 0, .int .i64 0, .slice none 0 0]) ?_ 3 _ rfl; (with_reducible repeat (first | refine bN_ _ ?_ | refine bd_ ?_ | refine ba_ _ ?_)); refine blk_put (cs := #[.int .i64 (wrap64 (1 + t134)), .int .i64 t137, .int .i64 0, .int .i64 0, .int .i64 0, .int .i64 0, .int .i64 0, .slice none 0 0]) ?_ 2 _ rfl; (with_reducible repeat (first | refine bN_ _ ?_ | refine bd_ ?_ | refine ba_ _ ?_)); refine blk_put (cs := #[.int .i64 (wrap64 (1 + t134)), .int .i64 0, .int .i64 0, .int .i64 0, .int .i64 0, .int .i64 0, .int .i64 0, .slice none 0 0]) ?_ 1 _ rfl; (with_reducible repeat (first | refine bN_ _ ?_ | refine bd_ ?_ | refine ba_ _ ?_)); refine blk_put (cs := #[.int .i64 0, .int .i64 0, .int .i64 0, .int .i64 0, .int .i64 0, .int .i64 0, .int .i64 0, .slice none 0 0]) ?_ 0 _ rfl; (with_reducible repeat (first | refine bN_ _ ?_ | refine bd_ ?_ | refine ba_ _ ?_)); exact BK133.out) Try.underlying43 rfl (by kernel_rfl)) rfl ?_
                exact ⟨_, by first | rfl | (simp [errW_none, errW_some] <;> rfl) | (simp [*, errW_none, errW_some] <;> rfl), by (with_reducible repeat (first | apply Kd.R_alloc | apply Kd.R_drewN | apply Kd.R_drew)); exact Kd.R_mono (Kd.R_far (p := ⟨gb133, 7, none⟩) (Kd.R_far (p := ⟨gb133, 6, none⟩) (Kd.R_far (p := ⟨gb133, 5, none⟩) (Kd.R_far (p := ⟨gb133, 4, none⟩) (Kd.R_far (p := ⟨gb133, 3, none⟩) (Kd.R_far (p := ⟨gb133, 2, none⟩) (Kd.R_far (p := ⟨gb133, 1, none⟩) (Kd.R_far (p := ⟨gb133, 0, none⟩) (Kd.R_types HO_153007.out BK133.out (by decide)) (fun _ hk => hk.2) (.int .i64 (wrap64 (1 + t134)))) (fun _ hk => hk.2) (.int .i64 t137)) (fun _ hk => hk.2) (.int .i64 (wrap64 (2 + t140)))) (fun _ hk => hk.2) (.int .i64 x153003_8)) (fun _ hk => hk.2) (.int .i64 (wrap64 (1 + t146)))) (fun _ hk => hk.2) (.int .i64 x153005_28)) (fun _ hk => hk.2) (.int .i64 (wrap64 (1 + t149)))) (fun _ hk => hk.2) (.slice Ao53 x153007_3.length co53)) (fun _ hk => trivial), by repeat (first | (with_reducible first | exact HI0.out | apply IsS96.alloc | apply IsS96.drewN | apply IsS96.drew | apply IsS96.set_1 | apply IsS96.set_2 | refine IsS96.far ?_ NB0_133.out _ | refine IsS96.far ?_ NB0_152.out _) | exact HI0.out), by repeat (first | (with_reducible first | exact HB.out | apply below_alloc | apply pw_below_drewN | apply below_drew1 | refine below_set ?_ (IsS96.ge HI0.out) | refine below_set ?_ GE133.out | refine below_set ?_ GE152.out) | exact HB.out), by repeat (first | (with_reducible first | exact HK.out | apply KeepBut.set_ | apply keep_drewN | apply keep_drew | apply keep_alloc | refine keep_far ?_ GW133.out _ | refine keep_far ?_ GW152.out _) | exact HK.out)⟩

end Go.Proofs.Ytlndcgmojabgbaa.PFnSigns
