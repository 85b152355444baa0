/- Arguments opened: structs of numbers by value, rows of strings, whatever the program. Conditions stand in each lemma. -/
import Derived.WalkKit
import Derived.ProofKit
import Derived.OpenShut
import Derived.SliceStrings
import Derived.Test.YtcbiijfiecjcaaaDoorWWords
set_option linter.unusedVariables false
namespace Go.Proofs.YtcbiijfiecjcaaaDoor.OpenS
open Go.ChangeShapes Go.WideShapes Go.ChangeAt Go.RowKit
section
variable {H : Type} {enc : TypeId × Value → H} {P : Program} {w : World} {base : Nat} {spare : Nat → Bool} {held : Bool}
theorem take1 {α : Type} {l : List α} {i : Nat} {v : α} (h : (l.drop i).take 1 = [v]) : l[i]? = some v := by
  have := congrArg (fun m => m[0]?) h
  simpa using this
theorem take3 {α : Type} {l : List α} {i : Nat} {a b c : α} (h : (l.drop i).take 3 = [a, b, c]) : l[i]? = some a ∧ l[i + 1]? = some b ∧ l[i + 2]? = some c := by
  have h0 := congrArg (fun m => m[0]?) h
  have h1 := congrArg (fun m => m[1]?) h
  have h2 := congrArg (fun m => m[2]?) h
  simp at h0 h1 h2
  exact ⟨h0, h1, h2⟩
theorem wide_cells {t : TypeId} {f0 f1 f2 : Field} {fuel : Nat} {cs : List Value} {x : DataW H × List MemPlace} (hs : P.underlying t = some (.struct #[f0, f1, f2])) (hC : P.cellsOf t = 3)
    (h0 : P.underlying f0.type = some .bool) (h1 : P.underlying f1.type = some (.int .u64)) (h2 : P.underlying f2.type = some (.int .u64))
    (c0 : P.cellsOf f0.type = 1) (c1 : P.cellsOf f1.type = 1) (c2 : P.cellsOf f2.type = 1) (o0 : f0.offset = 0) (o1 : f1.offset = 1) (o2 : f2.offset = 2)
    (h : DataW.trod enc P w base spare held fuel t cs = some x) :
    ∃ a0 a1 a2, cs = [.bool a0, .int .u64 a1, .int .u64 a2] ∧ (Lit.int .u64 a1).wf = true ∧ (Lit.int .u64 a2).wf = true := by
  obtain ⟨xs, n, _, _, hl, hlen, hf⟩ := DataW.trod_struct hs h
  match xs, hlen with
  | [y0, y1, y2], _ =>
    have g0 := hf 0 f0 rfl
    have g1 := hf 1 f1 rfl
    have g2 := hf 2 f2 rfl
    rw [o0, c0] at g0
    rw [o1, c1] at g1
    rw [o2, c2] at g2
    obtain ⟨a0, e0, _⟩ := DataW.trod_bool h0 (x := y0) g0
    obtain ⟨a1, e1, _, w1⟩ := DataW.trod_int h1 (x := y1) g1
    obtain ⟨a2, e2, _, w2⟩ := DataW.trod_int h2 (x := y2) g2
    have k0 := take1 e0
    have k1 := take1 e1
    have k2 := take1 e2
    rw [hC] at hl
    refine ⟨a0, a1, a2, ?_, w1, w2⟩
    match cs, hl with
    | [b0, b1, b2], _ => simp at k0 k1 k2; rw [k0, k1, k2]
theorem frac_cells {t : TypeId} {g0 g1 f0 f1 f2 : Field} {fuel : Nat} {cs : List Value} {x : DataW H × List MemPlace} (hs : P.underlying t = some (.struct #[g0, g1])) (hC : P.cellsOf t = 4)
    (hw : P.underlying g0.type = some (.struct #[f0, f1, f2])) (hwC : P.cellsOf g0.type = 3) (hd : P.underlying g1.type = some (.int .i64)) (hdC : P.cellsOf g1.type = 1) (p0 : g0.offset = 0) (p1 : g1.offset = 3)
    (h0 : P.underlying f0.type = some .bool) (h1 : P.underlying f1.type = some (.int .u64)) (h2 : P.underlying f2.type = some (.int .u64))
    (c0 : P.cellsOf f0.type = 1) (c1 : P.cellsOf f1.type = 1) (c2 : P.cellsOf f2.type = 1) (o0 : f0.offset = 0) (o1 : f1.offset = 1) (o2 : f2.offset = 2)
    (h : DataW.trod enc P w base spare held fuel t cs = some x) :
    ∃ a0 a1 a2 a3, cs = [.bool a0, .int .u64 a1, .int .u64 a2, .int .i64 a3] ∧ (Lit.int .u64 a1).wf = true ∧ (Lit.int .u64 a2).wf = true ∧ (Lit.int .i64 a3).wf = true := by
  obtain ⟨xs, n, _, _, hl, hlen, hf⟩ := DataW.trod_struct hs h
  match xs, hlen with
  | [y0, y1], _ =>
    have q0 := hf 0 g0 rfl
    have q1 := hf 1 g1 rfl
    rw [p0, hwC] at q0
    rw [p1, hdC] at q1
    obtain ⟨a0, a1, a2, e0, w1, w2⟩ := wide_cells hw hwC h0 h1 h2 c0 c1 c2 o0 o1 o2 (x := y0) q0
    obtain ⟨a3, e1, _, w3⟩ := DataW.trod_int hd (x := y1) q1
    obtain ⟨k0, k1, k2⟩ := take3 e0
    have k3 := take1 e1
    rw [hC] at hl
    refine ⟨a0, a1, a2, a3, ?_, w1, w2, w3⟩
    match cs, hl with
    | [b0, b1, b2, b3], _ => simp at k0 k1 k2 k3; rw [k0, k1, k2, k3]
theorem open_wide {r : Reach} {b0 : Nat} {t : TypeId} {v : Value} {d : DataW H} {p : List MemPlace} {f0 f1 f2 : Field} (hs : P.underlying t = some (.struct #[f0, f1, f2])) (hC : P.cellsOf t = 3)
    (h0 : P.underlying f0.type = some .bool) (h1 : P.underlying f1.type = some (.int .u64)) (h2 : P.underlying f2.type = some (.int .u64))
    (c0 : P.cellsOf f0.type = 1) (c1 : P.cellsOf f1.type = 1) (c2 : P.cellsOf f2.type = 1) (o0 : f0.offset = 0) (o1 : f1.offset = 1) (o2 : f2.offset = 2)
    (hv : Value.okWide P w r b0 t v) (h : DataW.Trod enc P w base spare held t v d p) :
    ∃ a0 a1 a2, v = .agg #[.bool a0, .int .u64 a1, .int .u64 a2] ∧ (Lit.int .u64 a1).wf = true ∧ (Lit.int .u64 a2).wf = true := by
  obtain ⟨cs, rfl, hsz⟩ := okWide_struct hs hv
  obtain ⟨fuel, hf⟩ := h
  obtain ⟨a0, a1, a2, e, w1, w2⟩ := wide_cells hs hC h0 h1 h2 c0 c1 c2 o0 o1 o2 hf
  refine ⟨a0, a1, a2, ?_, w1, w2⟩
  simp only [Value.cells] at e
  exact congrArg Value.agg (Array.ext' e)
theorem open_frac {r : Reach} {b0 : Nat} {t : TypeId} {v : Value} {d : DataW H} {p : List MemPlace} {g0 g1 f0 f1 f2 : Field} (hs : P.underlying t = some (.struct #[g0, g1])) (hC : P.cellsOf t = 4)
    (hw : P.underlying g0.type = some (.struct #[f0, f1, f2])) (hwC : P.cellsOf g0.type = 3) (hd : P.underlying g1.type = some (.int .i64)) (hdC : P.cellsOf g1.type = 1) (p0 : g0.offset = 0) (p1 : g1.offset = 3)
    (h0 : P.underlying f0.type = some .bool) (h1 : P.underlying f1.type = some (.int .u64)) (h2 : P.underlying f2.type = some (.int .u64))
    (c0 : P.cellsOf f0.type = 1) (c1 : P.cellsOf f1.type = 1) (c2 : P.cellsOf f2.type = 1) (o0 : f0.offset = 0) (o1 : f1.offset = 1) (o2 : f2.offset = 2)
    (hv : Value.okWide P w r b0 t v) (h : DataW.Trod enc P w base spare held t v d p) :
    ∃ a0 a1 a2 a3, v = .agg #[.bool a0, .int .u64 a1, .int .u64 a2, .int .i64 a3] ∧ (Lit.int .u64 a1).wf = true ∧ (Lit.int .u64 a2).wf = true ∧ (Lit.int .i64 a3).wf = true := by
  obtain ⟨cs, rfl, hsz⟩ := okWide_struct hs hv
  obtain ⟨fuel, hf⟩ := h
  obtain ⟨a0, a1, a2, a3, e, w1, w2, w3⟩ := frac_cells hs hC hw hwC hd hdC p0 p1 h0 h1 h2 c0 c1 c2 o0 o1 o2 hf
  refine ⟨a0, a1, a2, a3, ?_, w1, w2, w3⟩
  simp only [Value.cells] at e
  exact congrArg Value.agg (Array.ext' e)
end
section
open Go.Proofs.YtcbiijfiecjcaaaDoorW.PrintWords
variable {H : Type} {enc : TypeId × Value → H} {P : Program} {w : World}
/-- A row of strings that came in, by its one value. -/
theorem strs_cell {t e : TypeId} {fuel : Nat} {a : Option Addr} {len cap : Nat} {x : DataW H × List MemPlace} (ht : P.underlying t = some (.slice e)) (he : P.underlying e = some .string) (hc : P.cellsOf e = 1) (h : DataW.trod enc P w 0 (fun _ => true) true fuel t [.slice a len cap] = some x) :
    ∃ l : List ByteArray, len = l.length ∧ Kd.C Kd.string w a l.length l ∧ l.length ≤ cap ∧ l.length ≤ maxLen ∧ (∀ s ∈ l, s.size ≤ maxLen) := by
  rcases open_strings ht he hc h with ⟨hcs, _⟩ | ⟨ad, n, c, ss, hcs, _, hl, hm, hz, _, hcell, hsz⟩
  · simp at hcs
    obtain ⟨rfl, rfl, rfl⟩ := hcs
    exact ⟨[], rfl, ⟨rfl, by simp, fun h => absurd h (Nat.lt_irrefl 0)⟩, Nat.le_refl _, by simp, by simp⟩
  · simp at hcs
    obtain ⟨rfl, rfl, rfl⟩ := hcs
    have hz' : ss.length = cap := by simpa using hz
    have htl : (ss.take len).length = len := by rw [List.length_take]; omega
    refine ⟨ss.take len, htl.symm, ?_, by rw [htl]; exact hl, by rw [htl]; omega, fun s hs => hsz s (List.mem_of_mem_take hs)⟩
    rw [htl]
    refine ⟨htl, by unfold maxLen at hm; omega, fun _ => ⟨ad, rfl, fun j p hj => ?_⟩⟩
    have hj1 : j < len := by
      have := (List.getElem?_eq_some_iff.1 hj).1
      rw [htl] at this; exact this
    have hj2 : ss[j]? = some p := by rw [List.getElem?_take_of_lt hj1] at hj; exact hj
    have hj3 := (List.getElem?_eq_some_iff.1 hj2).1
    refine ⟨[.string p], rfl, rfl, fun i u hu => ?_⟩
    have hi : i = 0 := by
      have := (List.getElem?_eq_some_iff.1 hu).1
      simp at this; exact this
    subst hi
    have hu' : u = .string p := by simpa using hu.symm
    subst hu'
    have hcj := hcell j hj3
    rw [List.getD_eq_getElem?_getD, hj2] at hcj
    simpa [Kd.string, Kd.scalar] using hcj
/-- A row of strings that came in. -/
theorem open_strs {r : Reach} {b0 : Nat} {t e : TypeId} {v : Value} {d : DataW H} {p : List MemPlace} (ht : P.underlying t = some (.slice e)) (he : P.underlying e = some .string) (hc : P.cellsOf e = 1) (hv : Value.okWide P w r b0 t v) (h : DataW.Trod enc P w 0 (fun _ => true) true t v d p) :
    ∃ (A : Option Addr) (len cap : Nat) (l : List ByteArray), v = .slice A len cap ∧ len = l.length ∧ Kd.C Kd.string w A l.length l ∧ l.length ≤ cap ∧ l.length ≤ maxLen ∧ (∀ s ∈ l, s.size ≤ maxLen) := by
  obtain ⟨a, len, cap, rfl⟩ := okWide_slice ht hv
  obtain ⟨fuel, hf⟩ := h
  simp only [Value.cells] at hf
  obtain ⟨l, h1, h2, h3, h4, h5⟩ := strs_cell ht he hc hf
  exact ⟨a, len, cap, l, rfl, h1, h2, h3, h4, h5⟩
theorem rows_of {α : Type} {Q : Nat → α → Prop} : ∀ n : Nat, (∀ i, i < n → ∃ x, Q i x) → ∃ l : List α, l.length = n ∧ ∀ i x, l[i]? = some x → Q i x
  | 0, _ => ⟨[], rfl, fun i x h => by simp at h⟩
  | n + 1, h => by
    obtain ⟨l, h1, h2⟩ := rows_of n (fun i hi => h i (by omega))
    obtain ⟨x, hx⟩ := h n (by omega)
    refine ⟨l ++ [x], by simp [h1], fun i y hy => ?_⟩
    by_cases c : i < n
    · rw [List.getElem?_append_left (by omega)] at hy
      exact h2 i y hy
    · have hlt := (List.getElem?_eq_some_iff.1 hy).1
      simp only [List.length_append, List.length_singleton] at hlt
      have : i = n := by omega
      subst this
      rw [List.getElem?_append_right (by omega), h1] at hy
      simp at hy
      subst hy
      exact hx
/-- Rows of strings that came in. -/
theorem open_strss {r : Reach} {b0 : Nat} {t u e : TypeId} {v : Value} {d : DataW H} {p : List MemPlace} (ht : P.underlying t = some (.slice u)) (hu : P.underlying u = some (.slice e)) (he : P.underlying e = some .string) (hcu : P.cellsOf u = 1) (hc : P.cellsOf e = 1) (hv : Value.okWide P w r b0 t v) (h : DataW.Trod enc P w 0 (fun _ => true) true t v d p) :
    ∃ (A : Option Addr) (len cap : Nat) (l : List (List ByteArray)), v = .slice A len cap ∧ len = l.length ∧ Kd.C (Kd.slice e Kd.string) w A l.length l ∧ l.length ≤ cap ∧ l.length ≤ maxLen ∧ (∀ q ∈ l, q.length ≤ maxLen ∧ ∀ s ∈ q, s.size ≤ maxLen) := by
  obtain ⟨a, len, cap, rfl⟩ := okWide_slice ht hv
  obtain ⟨fuel, hf⟩ := h
  simp only [Value.cells] at hf
  rcases DataW.trod_slice ht hf with ⟨hcs, _⟩ | ⟨ad, n, c, elems, rest, fu, _, hcs, _, _, hl, hm, hlen, hel, _, _⟩
  · simp at hcs
    obtain ⟨rfl, rfl, rfl⟩ := hcs
    exact ⟨none, 0, 0, [], rfl, rfl, ⟨rfl, by simp, fun h => absurd h (Nat.lt_irrefl 0)⟩, Nat.le_refl _, by simp, by simp⟩
  · simp at hcs
    obtain ⟨rfl, rfl, rfl⟩ := hcs
    have each : ∀ i, i < len → ∃ x : List ByteArray, (∃ A c, w.cell? (ad.add i) = some (.slice A x.length c) ∧ x.length ≤ c ∧ Kd.C Kd.string w A x.length x) ∧ x.length ≤ maxLen ∧ (∀ s ∈ x, s.size ≤ maxLen) := by
      intro i hi
      have hb := hel i hi
      rw [hcu, Nat.mul_one, List.getElem?_eq_getElem (by omega), Option.bind_eq_some_iff] at hb
      obtain ⟨cs', hcs', hy'⟩ := hb
      rcases open_strings hu he hc hy' with ⟨e1, _⟩ | ⟨ad2, n2, c2, ss, e1, _⟩
      · subst e1
        obtain ⟨x, h1, h2, h3, h4, h5⟩ := strs_cell hu he hc hy'
        exact ⟨x, ⟨_, _, by rw [← h1]; exact cell_of_cells?_one hcs', h3, h2⟩, h4, h5⟩
      · subst e1
        obtain ⟨x, h1, h2, h3, h4, h5⟩ := strs_cell hu he hc hy'
        exact ⟨x, ⟨_, _, by rw [← h1]; exact cell_of_cells?_one hcs', h3, h2⟩, h4, h5⟩
    obtain ⟨l, l1, l2⟩ := rows_of len each
    refine ⟨some ad, len, cap, l, rfl, l1.symm, ⟨rfl, by unfold maxLen at hm; omega, fun _ => ⟨ad, rfl, fun j q hj => ?_⟩⟩, by omega, by omega, fun q hq => ?_⟩
    · obtain ⟨⟨A, c, h1, h2, h3⟩, _⟩ := l2 j q hj
      refine ⟨[.slice A q.length c], rfl, ⟨A, c, rfl, h2, h3⟩, fun i u hu => ?_⟩
      have hi : i = 0 := by
        have := (List.getElem?_eq_some_iff.1 hu).1
        simp at this; exact this
      subst hi
      have hu' : u = .slice A q.length c := by simpa using hu.symm
      subst hu'
      simpa [Kd.slice] using h1
    · obtain ⟨i, hi⟩ := List.getElem?_of_mem hq
      exact (l2 i q hi).2
end

end Go.Proofs.YtcbiijfiecjcaaaDoor.OpenS
