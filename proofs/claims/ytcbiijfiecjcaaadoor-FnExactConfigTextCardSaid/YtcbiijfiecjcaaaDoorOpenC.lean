/- Arguments opened: structs of numbers by value, rows of strings, whatever the program. Conditions stand in each lemma. -/
import Derived.WalkKit
import Derived.ProofKit
import Derived.OpenShut
import Derived.SliceStrings
import Derived.Test.YtcbiijfiecjcaaaDoorWWords
set_option linter.unusedVariables false
namespace Go.Proofs.YtcbiijfiecjcaaaDoor.OpenC
open Go.ChangeShapes Go.WideShapes Go.ChangeAt Go.RowKit
section
variable {H : Type} {enc : TypeId × Value → H} {P : Program} {w : World} {base : Nat} {spare : Nat → Bool} {held : Bool}
theorem take1 {α : Type} {l : List α} {i : Nat} {v : α} (h : (l.drop i).take 1 = [v]) : l[i]? = some v := by
  have := congrArg (fun m => m[0]?) h
  simpa using this
theorem take3 {α : Type} {l : List α} {i : Nat} {a b c : α} (h : (l.drop i).take 3 = [a, b, c]) : l[i]? = some a ∧ l[i + 1]? = some b ∧ l[i + 2]? = some c := by
  have h0 := congrArg (fun m => m[0]?) h
  have h1 := congrArg (fun m => m[1]?) h
  have h2 := congrArg (fun m => m[2]?) h
  simp at h0 h1 h2
  exact ⟨h0, h1, h2⟩
theorem wide_cells {t : TypeId} {f0 f1 f2 : Field} {fuel : Nat} {cs : List Value} {x : DataW H × List MemPlace} (hs : P.underlying t = some (.struct #[f0, f1, f2])) (hC : P.cellsOf t = 3)
    (h0 : P.underlying f0.type = some .bool) (h1 : P.underlying f1.type = some (.int .u64)) (h2 : P.underlying f2.type = some (.int .u64))
    (c0 : P.cellsOf f0.type = 1) (c1 : P.cellsOf f1.type = 1) (c2 : P.cellsOf f2.type = 1) (o0 : f0.offset = 0) (o1 : f1.offset = 1) (o2 : f2.offset = 2)
    (h : DataW.trod enc P w base spare held fuel t cs = some x) :
    ∃ a0 a1 a2, cs = [.bool a0, .int .u64 a1, .int .u64 a2] ∧ (Lit.int .u64 a1).wf = true ∧ (Lit.int .u64 a2).wf = true := by
  obtain ⟨xs, n, _, _, hl, hlen, hf⟩ := DataW.trod_struct hs h
  match xs, hlen with
  | [y0, y1, y2], _ =>
    have g0 := hf 0 f0 rfl
    have g1 := hf 1 f1 rfl
    have g2 := hf 2 f2 rfl
    rw [o0, c0] at g0
    rw [o1, c1] at g1
    rw [o2, c2] at g2
    obtain ⟨a0, e0, _⟩ := DataW.trod_bool h0 (x := y0) g0
    obtain ⟨a1, e1, _, w1⟩ := DataW.trod_int h1 (x := y1) g1
    obtain ⟨a2, e2, _, w2⟩ := DataW.trod_int h2 (x := y2) g2
    have k0 := take1 e0
    have k1 := take1 e1
    have k2 := take1 e2
    rw [hC] at hl
    refine ⟨a0, a1, a2, ?_, w1, w2⟩
    match cs, hl with
    | [b0, b1, b2], _ => simp at k0 k1 k2; rw [k0, k1, k2]
theorem frac_cells {t : TypeId} {g0 g1 f0 f1 f2 : Field} {fuel : Nat} {cs : List Value} {x : DataW H × List MemPlace} (hs : P.underlying t = some (.struct #[g0, g1])) (hC : P.cellsOf t = 4)
    (hw : P.underlying g0.type = some (.struct #[f0, f1, f2])) (hwC : P.cellsOf g0.type = 3) (hd : P.underlying g1.type = some (.int .i64)) (hdC : P.cellsOf g1.type = 1) (p0 : g0.offset = 0) (p1 : g1.offset = 3)
    (h0 : P.underlying f0.type = some .bool) (h1 : P.underlying f1.type = some (.int .u64)) (h2 : P.underlying f2.type = some (.int .u64))
    (c0 : P.cellsOf f0.type = 1) (c1 : P.cellsOf f1.type = 1) (c2 : P.cellsOf f2.type = 1) (o0 : f0.offset = 0) (o1 : f1.offset = 1) (o2 : f2.offset = 2)
    (h : DataW.trod enc P w base spare held fuel t cs = some x) :
    ∃ a0 a1 a2 a3, cs = [.bool a0, .int .u64 a1, .int .u64 a2, .int .i64 a3] ∧ (Lit.int .u64 a1).wf = true ∧ (Lit.int .u64 a2).wf = true ∧ (Lit.int .i64 a3).wf = true := by
  obtain ⟨xs, n, _, _, hl, hlen, hf⟩ := DataW.trod_struct hs h
  match xs, hlen with
  | [y0, y1], _ =>
    have q0 := hf 0 g0 rfl
    have q1 := hf 1 g1 rfl
    rw [p0, hwC] at q0
    rw [p1, hdC] at q1
    obtain ⟨a0, a1, a2, e0, w1, w2⟩ := wide_cells hw hwC h0 h1 h2 c0 c1 c2 o0 o1 o2 (x := y0) q0
    obtain ⟨a3, e1, _, w3⟩ := DataW.trod_int hd (x := y1) q1
    obtain ⟨k0, k1, k2⟩ := take3 e0
    have k3 := take1 e1
    rw [hC] at hl
    refine ⟨a0, a1, a2, a3, ?_, w1, w2, w3⟩
    match cs, hl with
    | [b0, b1, b2, b3], _ => simp at k0 k1 k2 k3; rw [k0, k1, k2, k3]
theorem open_wide {r : Reach} {b0 : Nat} {t : TypeId} {v : Value} {d : DataW H} {p : List MemPlace} {f0 f1 f2 : Field} (hs : P.underlying t = some (.struct #[f0, f1, f2])) (hC : P.cellsOf t = 3)
    (h0 : P.underlying f0.type = some .bool) (h1 : P.underlying f1.type = some (.int .u64)) (h2 : P.underlying f2.type = some (.int .u64))
    (c0 : P.cellsOf f0.type = 1) (c1 : P.cellsOf f1.type = 1) (c2 : P.cellsOf f2.type = 1) (o0 : f0.offset = 0) (o1 : f1.offset = 1) (o2 : f2.offset = 2)
    (hv : Value.okWide P w r b0 t v) (h : DataW.Trod enc P w base spare held t v d p) :
    ∃ a0 a1 a2, v = .agg #[.bool a0, .int .u64 a1, .int .u64 a2] ∧ (Lit.int .u64 a1).wf = true ∧ (Lit.int .u64 a2).wf = true := by
  obtain ⟨cs, rfl, hsz⟩ := okWide_struct hs hv
  obtain ⟨fuel, hf⟩ := h
  obtain ⟨a0, a1, a2, e, w1, w2⟩ := wide_cells hs hC h0 h1 h2 c0 c1 c2 o0 o1 o2 hf
  refine ⟨a0, a1, a2, ?_, w1, w2⟩
  simp only [Value.cells] at e
  exact congrArg Value.agg (Array.ext' e)
theorem open_frac {r : Reach} {b0 : Nat} {t : TypeId} {v : Value} {d : DataW H} {p : List MemPlace} {g0 g1 f0 f1 f2 : Field} (hs : P.underlying t = some (.struct #[g0, g1])) (hC : P.cellsOf t = 4)
    (hw : P.underlying g0.type = some (.struct #[f0, f1, f2])) (hwC : P.cellsOf g0.type = 3) (hd : P.underlying g1.type = some (.int .i64)) (hdC : P.cellsOf g1.type = 1) (p0 : g0.offset = 0) (p1 : g1.offset = 3)
    (h0 : P.underlying f0.type = some .bool) (h1 : P.underlying f1.type = some (.int .u64)) (h2 : P.underlying f2.type = some (.int .u64))
    (c0 : P.cellsOf f0.type = 1) (c1 : P.cellsOf f1.type = 1) (c2 : P.cellsOf f2.type = 1) (o0 : f0.offset = 0) (o1 : f1.offset = 1) (o2 : f2.offset = 2)
    (hv : Value.okWide P w r b0 t v) (h : DataW.Trod enc P w base spare held t v d p) :
    ∃ a0 a1 a2 a3, v = .agg #[.bool a0, .int .u64 a1, .int .u64 a2, .int .i64 a3] ∧ (Lit.int .u64 a1).wf = true ∧ (Lit.int .u64 a2).wf = true ∧ (Lit.int .i64 a3).wf = true := by
  obtain ⟨cs, rfl, hsz⟩ := okWide_struct hs hv
  obtain ⟨fuel, hf⟩ := h
  obtain ⟨a0, a1, a2, a3, e, w1, w2, w3⟩ := frac_cells hs hC hw hwC hd hdC p0 p1 h0 h1 h2 c0 c1 c2 o0 o1 o2 hf
  refine ⟨a0, a1, a2, a3, ?_, w1, w2, w3⟩
  simp only [Value.cells] at e
  exact congrArg Value.agg (Array.ext' e)
end
section
open Go.Proofs.YtcbiijfiecjcaaaDoorW.PrintWords
variable {H : Type} {enc : TypeId × Value → H} {P : Program} {w : World}
/-- A slice of integers that came in: the numbers that it reads as. -/
theorem ints_cell {t e : TypeId} {fuel : Nat} {v : Value} {x : DataW H × List MemPlace} (ht : P.underlying t = some (.slice e)) (he : P.underlying e = some (.int .i64)) (hc : P.cellsOf e = 1) (h : DataW.trod enc P w 0 (fun _ => true) true fuel t [v] = some x) :
    ∃ (A : Option Addr) (len cap : Nat) (l : List Int), v = .slice A len cap ∧ len = l.length ∧ ReadsInt w .i64 A l.length l ∧ l.length ≤ cap ∧ l.length ≤ maxLen ∧ (∀ n ∈ l, (Lit.int .i64 n).wf = true) := by
  have row : ∃ (A : Option Addr) (len cap : Nat) (zs : List Int), v = .slice A len cap ∧ ((A = none ∧ len = 0 ∧ cap = 0 ∧ zs = []) ∨ ∃ x, A = some x ∧ len ≤ cap ∧ cap ≤ maxLen ∧ zs.length = cap ∧ (∀ i, i < zs.length → w.cell? (x.add i) = some (.int .i64 (zs.getD i 0))) ∧ ∀ n ∈ zs, (Lit.int .i64 n).wf = true) := by
    rcases open_ints ht he hc h with ⟨hcs, _⟩ | ⟨x, l, c, zs, hcs, _, hl, hm, hz, _, hcell, hwz⟩
    · simp at hcs
      exact ⟨none, 0, 0, [], hcs, .inl ⟨rfl, rfl, rfl, rfl⟩⟩
    · simp at hcs
      exact ⟨_, l, c, zs, hcs, .inr ⟨_, rfl, hl, hm, by simpa using hz, hcell, hwz⟩⟩
  obtain ⟨A, len, cap, zs, e1, hr⟩ := row
  obtain ⟨l, e2, r, m, wf, c⟩ := ReadsInt.ofRowC hr
  exact ⟨A, len, cap, l, e1, e2, r, c, m, wf⟩
theorem int_at {t : TypeId} {fuel i : Nat} {cs : List Value} {y : Option (DataW H × List MemPlace)} {z : DataW H × List MemPlace} (hy : y = some z) (ht : P.underlying t = some (.int .i64)) (hc : P.cellsOf t = 1) (h : DataW.trod enc P w 0 (fun _ => true) true fuel t ((cs.drop i).take (P.cellsOf t)) = y) : ∃ a, cs[i]? = some (.int .i64 a) ∧ (Lit.int .i64 a).wf = true := by
  rw [hc, hy] at h
  obtain ⟨a, e, _, w1⟩ := DataW.trod_int ht h
  exact ⟨a, take1 e, w1⟩
theorem take1_some {α : Type} {l : List α} {i : Nat} {v : α} (h : l[i]? = some v) : (l.drop i).take 1 = [v] := by
  have hi := (List.getElem?_eq_some_iff.1 h).1
  rw [List.drop_eq_getElem_cons hi]
  have := (List.getElem?_eq_some_iff.1 h).2
  simp [this]
theorem open_config {r : Reach} {b0 : Nat} {t e : TypeId} {v : Value} {d : DataW H} {p : List MemPlace} {f0 f1 f2 f3 f4 f5 f6 f7 : Field} (hs : P.underlying t = some (.struct #[f0, f1, f2, f3, f4, f5, f6, f7])) (hC : P.cellsOf t = 8)
    (h0 : P.underlying f0.type = some (.int .i64)) (h1 : P.underlying f1.type = some (.int .i64)) (h2 : P.underlying f2.type = some (.int .i64)) (h3 : P.underlying f3.type = some (.int .i64)) (h4 : P.underlying f4.type = some (.int .i64)) (h5 : P.underlying f5.type = some (.int .i64)) (h6 : P.underlying f6.type = some (.int .i64)) (h7 : P.underlying f7.type = some (.slice e)) (he : P.underlying e = some (.int .i64))
    (o0 : f0.offset = 0) (o1 : f1.offset = 1) (o2 : f2.offset = 2) (o3 : f3.offset = 3) (o4 : f4.offset = 4) (o5 : f5.offset = 5) (o6 : f6.offset = 6) (o7 : f7.offset = 7)
    (c0 : P.cellsOf f0.type = 1) (c1 : P.cellsOf f1.type = 1) (c2 : P.cellsOf f2.type = 1) (c3 : P.cellsOf f3.type = 1) (c4 : P.cellsOf f4.type = 1) (c5 : P.cellsOf f5.type = 1) (c6 : P.cellsOf f6.type = 1) (c7 : P.cellsOf f7.type = 1) (hce : P.cellsOf e = 1)
    (hv : Value.okWide P w r b0 t v) (h : DataW.Trod enc P w 0 (fun _ => true) true t v d p) :
    ∃ (a0 a1 a2 a3 a4 a5 a6 : Int) (A : Option Addr) (len cap : Nat) (l : List Int), v = .agg #[.int .i64 a0, .int .i64 a1, .int .i64 a2, .int .i64 a3, .int .i64 a4, .int .i64 a5, .int .i64 a6, .slice A len cap] ∧ len = l.length ∧ ReadsInt w .i64 A l.length l ∧ l.length ≤ cap ∧ l.length ≤ maxLen ∧ (∀ n ∈ l, (Lit.int .i64 n).wf = true) ∧
      (Lit.int .i64 a0).wf = true ∧ (Lit.int .i64 a1).wf = true ∧ (Lit.int .i64 a2).wf = true ∧ (Lit.int .i64 a3).wf = true ∧ (Lit.int .i64 a4).wf = true ∧ (Lit.int .i64 a5).wf = true ∧ (Lit.int .i64 a6).wf = true := by
  obtain ⟨cs, rfl, hsz⟩ := okWide_struct hs hv
  obtain ⟨fuel, hf⟩ := h
  simp only [Value.cells] at hf
  obtain ⟨xs, n, _, _, hl, hlen, hg⟩ := DataW.trod_struct hs hf
  match xs, hlen with
  | [y0, y1, y2, y3, y4, y5, y6, y7], _ =>
    have g0 := hg 0 f0 rfl
    have g1 := hg 1 f1 rfl
    have g2 := hg 2 f2 rfl
    have g3 := hg 3 f3 rfl
    have g4 := hg 4 f4 rfl
    have g5 := hg 5 f5 rfl
    have g6 := hg 6 f6 rfl
    have g7 := hg 7 f7 rfl
    rw [o0] at g0
    rw [o1] at g1
    rw [o2] at g2
    rw [o3] at g3
    rw [o4] at g4
    rw [o5] at g5
    rw [o6] at g6
    rw [o7, c7] at g7
    obtain ⟨a0, e0, w0⟩ := int_at (z := y0) rfl h0 c0 g0
    obtain ⟨a1, e1, w1⟩ := int_at (z := y1) rfl h1 c1 g1
    obtain ⟨a2, e2, w2⟩ := int_at (z := y2) rfl h2 c2 g2
    obtain ⟨a3, e3, w3⟩ := int_at (z := y3) rfl h3 c3 g3
    obtain ⟨a4, e4, w4⟩ := int_at (z := y4) rfl h4 c4 g4
    obtain ⟨a5, e5, w5⟩ := int_at (z := y5) rfl h5 c5 g5
    obtain ⟨a6, e6, w6⟩ := int_at (z := y6) rfl h6 c6 g6
    rw [hC] at hl
    have hlt : 7 < cs.toList.length := by omega
    have e7 : cs.toList[7]? = some (cs.toList[7]'hlt) := List.getElem?_eq_getElem hlt
    rw [take1_some e7] at g7
    obtain ⟨A, len, cap, l, ev, q1, q2, q3, q4, q5⟩ := ints_cell h7 he hce (x := y7) g7
    rw [ev] at e7
    refine ⟨a0, a1, a2, a3, a4, a5, a6, A, len, cap, l, ?_, q1, q2, q3, q4, q5, w0, w1, w2, w3, w4, w5, w6⟩
    refine congrArg Value.agg (Array.ext' ?_)
    generalize cs.toList = k at *
    match k, hl with
    | [b0, b1, b2, b3, b4, b5, b6, b7], _ =>
      simp at e0 e1 e2 e3 e4 e5 e6 e7
      rw [e0, e1, e2, e3, e4, e5, e6, e7]
end

end Go.Proofs.YtcbiijfiecjcaaaDoor.OpenC
