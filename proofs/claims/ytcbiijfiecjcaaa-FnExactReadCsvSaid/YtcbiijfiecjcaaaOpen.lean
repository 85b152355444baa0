/- Arguments opened: structs of numbers by value, rows of strings, whatever the program. Conditions stand in each lemma. -/
import Derived.WalkKit
import Derived.ProofKit
import Derived.OpenShut
import Derived.SliceStrings
set_option linter.unusedVariables false
namespace Go.Proofs.Ytcbiijfiecjcaaa.Open
open Go.ChangeShapes Go.WideShapes Go.ChangeAt Go.RowKit
section
variable {H : Type} {enc : TypeId × Value → H} {P : Program} {w : World} {base : Nat} {spare : Nat → Bool} {held : Bool}
theorem take1 {α : Type} {l : List α} {i : Nat} {v : α} (h : (l.drop i).take 1 = [v]) : l[i]? = some v := by
  have := congrArg (fun m => m[0]?) h
  simpa using this
theorem take3 {α : Type} {l : List α} {i : Nat} {a b c : α} (h : (l.drop i).take 3 = [a, b, c]) : l[i]? = some a ∧ l[i + 1]? = some b ∧ l[i + 2]? = some c := by
  have h0 := congrArg (fun m => m[0]?) h
  have h1 := congrArg (fun m => m[1]?) h
  have h2 := congrArg (fun m => m[2]?) h
  simp at h0 h1 h2
  exact ⟨h0, h1, h2⟩
theorem wide_cells {t : TypeId} {f0 f1 f2 : Field} {fuel : Nat} {cs : List Value} {x : DataW H × List MemPlace} (hs : P.underlying t = some (.struct #[f0, f1, f2])) (hC : P.cellsOf t = 3)
    (h0 : P.underlying f0.type = some .bool) (h1 : P.underlying f1.type = some (.int .u64)) (h2 : P.underlying f2.type = some (.int .u64))
    (c0 : P.cellsOf f0.type = 1) (c1 : P.cellsOf f1.type = 1) (c2 : P.cellsOf f2.type = 1) (o0 : f0.offset = 0) (o1 : f1.offset = 1) (o2 : f2.offset = 2)
    (h : DataW.trod enc P w base spare held fuel t cs = some x) :
    ∃ a0 a1 a2, cs = [.bool a0, .int .u64 a1, .int .u64 a2] ∧ (Lit.int .u64 a1).wf = true ∧ (Lit.int .u64 a2).wf = true := by
  obtain ⟨xs, n, _, _, hl, hlen, hf⟩ := DataW.trod_struct hs h
  match xs, hlen with
  | [y0, y1, y2], _ =>
    have g0 := hf 0 f0 rfl
    have g1 := hf 1 f1 rfl
    have g2 := hf 2 f2 rfl
    rw [o0, c0] at g0
    rw [o1, c1] at g1
    rw [o2, c2] at g2
    obtain ⟨a0, e0, _⟩ := DataW.trod_bool h0 (x := y0) g0
    obtain ⟨a1, e1, _, w1⟩ := DataW.trod_int h1 (x := y1) g1
    obtain ⟨a2, e2, _, w2⟩ := DataW.trod_int h2 (x := y2) g2
    have k0 := take1 e0
    have k1 := take1 e1
    have k2 := take1 e2
    rw [hC] at hl
    refine ⟨a0, a1, a2, ?_, w1, w2⟩
    match cs, hl with
    | [b0, b1, b2], _ => simp at k0 k1 k2; rw [k0, k1, k2]
theorem frac_cells {t : TypeId} {g0 g1 f0 f1 f2 : Field} {fuel : Nat} {cs : List Value} {x : DataW H × List MemPlace} (hs : P.underlying t = some (.struct #[g0, g1])) (hC : P.cellsOf t = 4)
    (hw : P.underlying g0.type = some (.struct #[f0, f1, f2])) (hwC : P.cellsOf g0.type = 3) (hd : P.underlying g1.type = some (.int .i64)) (hdC : P.cellsOf g1.type = 1) (p0 : g0.offset = 0) (p1 : g1.offset = 3)
    (h0 : P.underlying f0.type = some .bool) (h1 : P.underlying f1.type = some (.int .u64)) (h2 : P.underlying f2.type = some (.int .u64))
    (c0 : P.cellsOf f0.type = 1) (c1 : P.cellsOf f1.type = 1) (c2 : P.cellsOf f2.type = 1) (o0 : f0.offset = 0) (o1 : f1.offset = 1) (o2 : f2.offset = 2)
    (h : DataW.trod enc P w base spare held fuel t cs = some x) :
    ∃ a0 a1 a2 a3, cs = [.bool a0, .int .u64 a1, .int .u64 a2, .int .i64 a3] ∧ (Lit.int .u64 a1).wf = true ∧ (Lit.int .u64 a2).wf = true ∧ (Lit.int .i64 a3).wf = true := by
  obtain ⟨xs, n, _, _, hl, hlen, hf⟩ := DataW.trod_struct hs h
  match xs, hlen with
  | [y0, y1], _ =>
    have q0 := hf 0 g0 rfl
    have q1 := hf 1 g1 rfl
    rw [p0, hwC] at q0
    rw [p1, hdC] at q1
    obtain ⟨a0, a1, a2, e0, w1, w2⟩ := wide_cells hw hwC h0 h1 h2 c0 c1 c2 o0 o1 o2 (x := y0) q0
    obtain ⟨a3, e1, _, w3⟩ := DataW.trod_int hd (x := y1) q1
    obtain ⟨k0, k1, k2⟩ := take3 e0
    have k3 := take1 e1
    rw [hC] at hl
    refine ⟨a0, a1, a2, a3, ?_, w1, w2, w3⟩
    match cs, hl with
    | [b0, b1, b2, b3], _ => simp at k0 k1 k2 k3; rw [k0, k1, k2, k3]
theorem open_wide {r : Reach} {b0 : Nat} {t : TypeId} {v : Value} {d : DataW H} {p : List MemPlace} {f0 f1 f2 : Field} (hs : P.underlying t = some (.struct #[f0, f1, f2])) (hC : P.cellsOf t = 3)
    (h0 : P.underlying f0.type = some .bool) (h1 : P.underlying f1.type = some (.int .u64)) (h2 : P.underlying f2.type = some (.int .u64))
    (c0 : P.cellsOf f0.type = 1) (c1 : P.cellsOf f1.type = 1) (c2 : P.cellsOf f2.type = 1) (o0 : f0.offset = 0) (o1 : f1.offset = 1) (o2 : f2.offset = 2)
    (hv : Value.okWide P w r b0 t v) (h : DataW.Trod enc P w base spare held t v d p) :
    ∃ a0 a1 a2, v = .agg #[.bool a0, .int .u64 a1, .int .u64 a2] ∧ (Lit.int .u64 a1).wf = true ∧ (Lit.int .u64 a2).wf = true := by
  obtain ⟨cs, rfl, hsz⟩ := okWide_struct hs hv
  obtain ⟨fuel, hf⟩ := h
  obtain ⟨a0, a1, a2, e, w1, w2⟩ := wide_cells hs hC h0 h1 h2 c0 c1 c2 o0 o1 o2 hf
  refine ⟨a0, a1, a2, ?_, w1, w2⟩
  simp only [Value.cells] at e
  exact congrArg Value.agg (Array.ext' e)
theorem open_frac {r : Reach} {b0 : Nat} {t : TypeId} {v : Value} {d : DataW H} {p : List MemPlace} {g0 g1 f0 f1 f2 : Field} (hs : P.underlying t = some (.struct #[g0, g1])) (hC : P.cellsOf t = 4)
    (hw : P.underlying g0.type = some (.struct #[f0, f1, f2])) (hwC : P.cellsOf g0.type = 3) (hd : P.underlying g1.type = some (.int .i64)) (hdC : P.cellsOf g1.type = 1) (p0 : g0.offset = 0) (p1 : g1.offset = 3)
    (h0 : P.underlying f0.type = some .bool) (h1 : P.underlying f1.type = some (.int .u64)) (h2 : P.underlying f2.type = some (.int .u64))
    (c0 : P.cellsOf f0.type = 1) (c1 : P.cellsOf f1.type = 1) (c2 : P.cellsOf f2.type = 1) (o0 : f0.offset = 0) (o1 : f1.offset = 1) (o2 : f2.offset = 2)
    (hv : Value.okWide P w r b0 t v) (h : DataW.Trod enc P w base spare held t v d p) :
    ∃ a0 a1 a2 a3, v = .agg #[.bool a0, .int .u64 a1, .int .u64 a2, .int .i64 a3] ∧ (Lit.int .u64 a1).wf = true ∧ (Lit.int .u64 a2).wf = true ∧ (Lit.int .i64 a3).wf = true := by
  obtain ⟨cs, rfl, hsz⟩ := okWide_struct hs hv
  obtain ⟨fuel, hf⟩ := h
  obtain ⟨a0, a1, a2, a3, e, w1, w2, w3⟩ := frac_cells hs hC hw hwC hd hdC p0 p1 h0 h1 h2 c0 c1 c2 o0 o1 o2 hf
  refine ⟨a0, a1, a2, a3, ?_, w1, w2, w3⟩
  simp only [Value.cells] at e
  exact congrArg Value.agg (Array.ext' e)
end

end Go.Proofs.Ytcbiijfiecjcaaa.Open
