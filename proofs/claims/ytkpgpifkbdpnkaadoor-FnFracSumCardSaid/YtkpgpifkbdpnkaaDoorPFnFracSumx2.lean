/- Contracts of Go functions, each with the Lean function that says what it computes: begun by the print, turned by this session. No condition beyond what each theorem states. -/
import Derived.Test.YtkpgpifkbdpnkaaDoorPFnFracSumx0
namespace Go.Proofs.YtkpgpifkbdpnkaaDoor.PFnFracSum
open Go.RowKit Go.Proofs.YtkpgpifkbdpnkaaDoorVFnFracSum.PrintWords Go.Proofs.YtkpgpifkbdpnkaaDoorVFnFracSum.PrintLast Go.Proofs.YtkpgpifkbdpnkaaDoorVFnFracSum.PrintMore
attribute [local go_sem] max2_int min2_int max_two min_two max_three min_three max_four min_four   -- for this text's walks alone
set_option linter.unusedVariables false
set_option linter.unusedSimpArgs false
/-! ### laws_big: function 9 -/
def laws_big.f (l0 : List Int) : Option (Bool) := some (decide ((l0.length : Int) > 1048576))
set_option maxHeartbeats 8000000 in
set_option maxRecDepth 100000 in
theorem laws_big.calls (A0 : Option Addr) (c0 : Nat) (l0 : List Int) (r : Bool) (w : World) (hr0 : Kd.C (Kd.int .u8) w A0 l0.length l0) (hc0 : l0.length ≤ c0) (h : laws_big.f l0 = some r) :
  Calls Tryd.prog 9 #[.slice A0 l0.length c0] w fun e w' => e = .returned (.bool r) ∧ Drawn0 w w' := by
 have HR0 := Aside0.mk hr0
 have HC0 := Aside0.mk hc0
 clear hr0 hc0
 have H : (some (decide ((l0.length : Int) > 1048576))) = some r := h
 clear h
 obtain rfl := Option.some.inj H
 go_enter Tryd.func9, Tryd.ntmps9
 go_wp2
 go_ret
 exact ⟨by first | rfl | (simp; done) | (simp [*]; done), by repeat (first | exact Drawn0.refl _ | apply Drawn0.step)⟩
/-- A state of type 90 at block g of W; what its slices lead to came in by w0. -/
def IsS90 (w0 W : World) (g : Nat) (f0 : List Int) (f1 : Int) (f2 : Int) : Prop := ∃ A0 c0, W.heap[g]? = some (.cells #[.slice A0 f0.length c0, .int .i64 f1, .int .i64 f2] 90 (0, 0)) ∧ w0.heap.size ≤ g ∧ Kd.C (Kd.int .u8) w0 A0 f0.length f0
theorem IsS90.grown {w0 W : World} {g : Nat} {f0 : List Int} {f1 : Int} {f2 : Int} {W1 : World} {row : Option Nat} (h : IsS90 w0 W g f0 f1 f2) (hw : W.grownBy W1 row) (hne : some g ≠ row) : IsS90 w0 W1 g f0 f1 f2 := by
 obtain ⟨A0, c0, hb, hg, hr0⟩ := h
 exact ⟨A0, c0, blk_grown hb hw hne, hg, hr0⟩
theorem IsS90.own_neN {w0 W : World} {g : Nat} {f0 : List Int} {f1 : Int} {f2 : Int} {α : Type} {d : Kd α} {e : Nat} {base : Nat} {ok : Nat → Prop} {v : Value} {xs : List α} (h : IsS90 w0 W g f0 f1 f2) (ho : Kd.N d e W base ok v xs) (ht : e ≠ 90) : some g ≠ v.ownBlock := by
 obtain ⟨A0, c0, hb, hg, hr0⟩ := h
 exact Kd.N_ne ho hb ht
theorem IsS90.fresh {w0 W : World} {g : Nat} {f0 : List Int} {f1 : Int} {f2 : Int} (h : IsS90 w0 W g f0 f1 f2) : ∀ k, W.heap.size ≤ k → k ≠ g := by
 obtain ⟨A0, c0, hb, hg, hr0⟩ := h
 exact Kd.freshB hb
theorem IsS90.kept {w0 W : World} {g : Nat} {f0 : List Int} {f1 : Int} {f2 : Int} {W1 : World} {S : Nat → Prop} (h : IsS90 w0 W g f0 f1 f2) (hk : Kept W W1 S) (hne : ¬ S g) : IsS90 w0 W1 g f0 f1 f2 := by
 obtain ⟨A0, c0, hb, hg, hr0⟩ := h
 exact ⟨A0, c0, blk_kept hb hk hne, hg, hr0⟩
theorem IsS90.below {w0 W : World} {g : Nat} {f0 : List Int} {f1 : Int} {f2 : Int} {W1 : World} (h : IsS90 w0 W g f0 f1 f2) (hw : Below W.heap.size W W1) : IsS90 w0 W1 g f0 f1 f2 := h.grown (grown_of_below hw none) (by simp)
theorem IsS90.alloc {w0 W : World} {g : Nat} {f0 : List Int} {f1 : Int} {f2 : Int} (h : IsS90 w0 W g f0 f1 f2) (o : Obj) : IsS90 w0 (W.alloc o) g f0 f1 f2 := h.below (below_alloc (Below.refl _ _) o)
theorem IsS90.drewN {w0 W : World} {g : Nat} {f0 : List Int} {f1 : Int} {f2 : Int} (h : IsS90 w0 W g f0 f1 f2) (m : Nat) : IsS90 w0 (W.drewN m) g f0 f1 f2 := h
theorem IsS90.drew {w0 W : World} {g : Nat} {f0 : List Int} {f1 : Int} {f2 : Int} (h : IsS90 w0 W g f0 f1 f2) : IsS90 w0 W.drew g f0 f1 f2 := h
theorem IsS90.at_ {w0 W : World} {g : Nat} {f0 : List Int} {f1 : Int} {f2 : Int} {w' : World} {m : Nat} (hq : W.drewN m = w') (h : IsS90 w0 W g f0 f1 f2) : IsS90 w0 w' g f0 f1 f2 := by subst hq; exact IsS90.drewN h m
theorem IsS90.apart {w0 W : World} {g : Nat} {f0 : List Int} {f1 : Int} {f2 : Int} {α : Type} {d : Kd α} {e : Nat} {base : Nat} {ok : Nat → Prop} {v : Value} {xs : List α} (h : IsS90 w0 W g f0 f1 f2) (ho : d.R e W base ok v xs) (ht : ∀ q, q ∈ e :: d.E → q ≠ 90) : d.R e W base (fun k => ok k ∧ k ≠ g) v xs := by
 obtain ⟨A0, c0, hb, hg, hr0⟩ := h
 exact Kd.R_types ho hb ht
theorem IsS90.own_ne {w0 W : World} {g : Nat} {f0 : List Int} {f1 : Int} {f2 : Int} {α : Type} {d : Kd α} {e : Nat} {base : Nat} {ok : Nat → Prop} {v : Value} {xs : List α} (h : IsS90 w0 W g f0 f1 f2) (ho : d.R e W base ok v xs) (ht : e ≠ 90) : some g ≠ v.ownBlock := by
 obtain ⟨A0, c0, hb, hg, hr0⟩ := h
 exact Kd.R_ne ho hb ht
theorem IsS90.apartQ {w0 W : World} {g : Nat} {f0 : List Int} {f1 : Int} {f2 : Int} {α : Type} {d : Kd α} {e : Nat} {base : Nat} {ok : Nat → Prop} {v : Value} {xs : List α} (h : IsS90 w0 W g f0 f1 f2) (ho : d.Q e W base ok v xs) (ht : ∀ q, q ∈ e :: d.E → q ≠ 90) : d.Q e W base (fun k => ok k ∧ k ≠ g) v xs := by
 obtain ⟨A0, c0, hb, hg, hr0⟩ := h
 exact Kd.Q_types ho hb ht
theorem IsS90.own_neQ {w0 W : World} {g : Nat} {f0 : List Int} {f1 : Int} {f2 : Int} {α : Type} {d : Kd α} {e : Nat} {base : Nat} {ok : Nat → Prop} {v : Value} {xs : List α} (h : IsS90 w0 W g f0 f1 f2) (ho : d.Q e W base ok v xs) (ht : e ≠ 90) : some g ≠ v.ownBlock := by
 obtain ⟨A0, c0, hb, hg, hr0⟩ := h
 exact Kd.Q_ne ho hb ht
theorem IsS90.apartS {w0 W : World} {g : Nat} {f0 : List Int} {f1 : Int} {f2 : Int} {α : Type} {d : Kd α} {e : Nat} {base : Nat} {ok : Nat → Prop} {v : Value} {xs : List α} (h : IsS90 w0 W g f0 f1 f2) (ho : d.S e W base ok v xs) (ht : ∀ q, q ∈ e :: d.E → q ≠ 90) : d.S e W base (fun k => ok k ∧ k ≠ g) v xs := by
 obtain ⟨A0, c0, hb, hg, hr0⟩ := h
 exact Kd.S_types ho hb ht
theorem IsS90.own_neS {w0 W : World} {g : Nat} {f0 : List Int} {f1 : Int} {f2 : Int} {α : Type} {d : Kd α} {e : Nat} {base : Nat} {ok : Nat → Prop} {v : Value} {xs : List α} (h : IsS90 w0 W g f0 f1 f2) (ho : d.S e W base ok v xs) (ht : e ≠ 90) : some g ≠ v.ownBlock := by
 obtain ⟨A0, c0, hb, hg, hr0⟩ := h
 exact Kd.S_ne ho hb ht
theorem IsS90.lt {w0 W : World} {g : Nat} {f0 : List Int} {f1 : Int} {f2 : Int} (h : IsS90 w0 W g f0 f1 f2) : g < W.heap.size := by
 obtain ⟨A0, c0, hb, hg, hr0⟩ := h
 exact blk_lt hb
theorem IsS90.ge {w0 W : World} {g : Nat} {f0 : List Int} {f1 : Int} {f2 : Int} (h : IsS90 w0 W g f0 f1 f2) : w0.heap.size ≤ g := by
 obtain ⟨A0, c0, hb, hg, hr0⟩ := h
 exact hg
theorem IsS90.ne_blk {w0 W : World} {g : Nat} {f0 : List Int} {f1 : Int} {f2 : Int} {a : Nat} {cs : Array Value} {t : TypeId} {fr : Nat × Nat} (h : IsS90 w0 W g f0 f1 f2) (hb2 : W.heap[a]? = some (.cells cs t fr)) (ht : t ≠ 90) : g ≠ a := by
 obtain ⟨A0, c0, hb, hg, hr0⟩ := h
 rintro rfl
 rw [hb] at hb2
 injection hb2 with hb2
 injection hb2 with _ ht2
 exact ht ht2.symm
theorem IsS90.far {w0 W : World} {g : Nat} {f0 : List Int} {f1 : Int} {f2 : Int} {p : Addr} (h : IsS90 w0 W g f0 f1 f2) (hne : g ≠ p.block) (u : Value) : IsS90 w0 (W.setCell p u) g f0 f1 f2 := by
 obtain ⟨A0, c0, hb, hg, hr0⟩ := h
 exact ⟨A0, c0, blk_far hb hne u, hg, hr0⟩
theorem cellS90_0 {W : World} {g : Nat} {A0 : Option Addr} {c0 : Nat} {f0 : List Int} {f1 : Int} {f2 : Int} (h : W.heap[g]? = some (.cells #[.slice A0 f0.length c0, .int .i64 f1, .int .i64 f2] 90 (0, 0))) : W.cell? ⟨g, 0, none⟩ = some (.slice A0 f0.length c0) := (blk_cell h 0).trans rfl
theorem cellS90_1 {W : World} {g : Nat} {A0 : Option Addr} {c0 : Nat} {f0 : List Int} {f1 : Int} {f2 : Int} (h : W.heap[g]? = some (.cells #[.slice A0 f0.length c0, .int .i64 f1, .int .i64 f2] 90 (0, 0))) : W.cell? ⟨g, 1, none⟩ = some (.int .i64 f1) := (blk_cell h 1).trans rfl
theorem IsS90.set_1 {w0 W : World} {g : Nat} {f0 : List Int} {f1 : Int} {f2 : Int} (h : IsS90 w0 W g f0 f1 f2) (x : Int) : IsS90 w0 (W.setCell ⟨g, 1, none⟩ (.int .i64 x)) g f0 x f2 := by
 obtain ⟨A0, c0, hb, hg, hr0⟩ := h
 exact ⟨A0, c0, by simpa using blk_set hb 1 (.int .i64 x), hg, hr0⟩
theorem cellS90_2 {W : World} {g : Nat} {A0 : Option Addr} {c0 : Nat} {f0 : List Int} {f1 : Int} {f2 : Int} (h : W.heap[g]? = some (.cells #[.slice A0 f0.length c0, .int .i64 f1, .int .i64 f2] 90 (0, 0))) : W.cell? ⟨g, 2, none⟩ = some (.int .i64 f2) := (blk_cell h 2).trans rfl
theorem IsS90.set_2 {w0 W : World} {g : Nat} {f0 : List Int} {f1 : Int} {f2 : Int} (h : IsS90 w0 W g f0 f1 f2) (x : Int) : IsS90 w0 (W.setCell ⟨g, 2, none⟩ (.int .i64 x)) g f0 f1 x := by
 obtain ⟨A0, c0, hb, hg, hr0⟩ := h
 exact ⟨A0, c0, by simpa using blk_set hb 2 (.int .i64 x), hg, hr0⟩
theorem belI_ {p : Prop} (h : p := by repeat (first | (with_reducible first | exact HB.out | apply below_alloc | apply pw_below_drewN | apply below_drew1 | refine below_set ?_ (Aside0.out (by assumption)) | refine below_set ?_ (IsS90.ge (Aside0.out (by assumption)))) | exact HB.out)) : p := h
theorem is_ {p : Prop} (h : p := by repeat (first | (with_reducible first | exact Aside0.out (by assumption) | apply IsS90.alloc | apply IsS90.drewN | apply IsS90.drew | apply IsS90.set_1 | apply IsS90.set_2 | refine IsS90.far ?_ (Aside0.out (by assumption)) _) | exact Aside0.out (by assumption))) : p := h
theorem kw_ {w W : World} {g : Nat} {row : Option Nat} (h : KeepBut w W g row := by repeat (first | (with_reducible first | exact HK.out | apply KeepBut.set_ | apply keep_drewN | apply keep_drew | apply keep_alloc | refine keep_far ?_ (Aside0.out (by assumption)) _) | exact HK.out)) : KeepBut w W g row := h
theorem IsS90.new (w0 W : World) (A0 : Option Addr) (c0 : Nat) (f0 : List Int) (f1 : Int) (f2 : Int) (hB : Below w0.heap.size w0 W) (hr0 : Kd.C (Kd.int .u8) w0 A0 f0.length f0) : IsS90 w0 (W.alloc (.cells #[.slice A0 f0.length c0, .int .i64 f1, .int .i64 f2] 90)) W.heap.size f0 f1 f2 := ⟨A0, c0, by simpa using heap_alloc_new W _, hB.size, hr0⟩
/-! ### spec_l1New: function 44 -/
def spec_l1New.l0 : Nat → List Int → Int → Int → Option (List Int × Int × Int)
 | 0, _, _, _ => none
 | k + 1, x0, x3, x4 => if x4 < (x0.length : Int) then (if x4 < 4000 then (if 0 ≤ x4 then (spec_l1New.l0 k x0 (Go.bits .and .i64 (wrap64 ((wrap64 ((wrap64 (x3 * 131)) + (wrap64 (rd x0 x4)))) + 7)) 1073741823) (wrap64 (x4 + 1))) else (none)) else (some (x0, 0, x3))) else (some (x0, 0, x3))
def spec_l1New.f (k : Nat) (l0 : List Int) : Option (List Int × Int × Int) := spec_l1New.l0 k l0 (wrap64 (28507 + (l0.length : Int))) 0
theorem spec_l1New.mono_l : ∀ k, (∀ y0 y1 y2, LeO (spec_l1New.l0 k y0 y1 y2) (spec_l1New.l0 (k + 1) y0 y1 y2))
 | 0 => fun _ _ _ r h => by simp [spec_l1New.l0] at h
 | k + 1 => by
  have ih0 := spec_l1New.mono_l k
  ·intro y0 y1 y2
   unfold spec_l1New.l0
   repeat' first
   | (with_reducible exact ih0 _ _ _)
   | (with_reducible exact LeO.refl _)
   | (with_reducible exact LeO.none _)
   | (with_reducible refine LeO.ite ?_ ?_)
   | (with_reducible refine LeO.bind ?_ (fun _ => ?_))
   | exact ih0 _ _ _
   | exact LeO.none _
   | refine LeO.ite ?_ ?_
   | refine LeO.bind ?_ (fun _ => ?_)
theorem spec_l1New.mono : ∀ a0 k, LeO (spec_l1New.f k a0) (spec_l1New.f (k + 1) a0) := by
 intro a0 k
 have ih0 := spec_l1New.mono_l k
 unfold spec_l1New.f
 repeat' first
   | (with_reducible exact ih0 _ _ _)
   | (with_reducible exact LeO.refl _)
   | (with_reducible exact LeO.none _)
   | (with_reducible refine LeO.ite ?_ ?_)
   | (with_reducible refine LeO.bind ?_ (fun _ => ?_))
   | exact ih0 _ _ _
   | exact LeO.none _
   | refine LeO.ite ?_ ?_
   | refine LeO.bind ?_ (fun _ => ?_)
set_option maxHeartbeats 8000000 in
set_option maxRecDepth 100000 in
theorem spec_l1New.calls (k : Nat) (A0 : Option Addr) (c0 : Nat) (l0 : List Int) (r1 : List Int) (r2 : Int) (r3 : Int) (w0 w : World) (hB : Below w0.heap.size w0 w) (hr0 : Kd.C (Kd.int .u8) w0 A0 l0.length l0) (hc0 : l0.length ≤ c0) (h : spec_l1New.f k l0 = some (r1, r2, r3)) :
  Calls Tryd.prog 44 #[.slice A0 l0.length c0] w fun e w' => ∃ g_ : Nat, e = .returned (.pointer (some ⟨g_, 0, none⟩)) ∧ IsS90 w0 w' g_ r1 r2 r3 ∧ Below w0.heap.size w0 w' ∧ Below w.heap.size w w' := by
 have hu90 := Tryd.underlying90
 have HR0 := Aside0.mk hr0
 have HC0 := Aside0.mk hc0
 clear hr0 hc0
 have HBW := Aside0.mk (Below.refl w.heap.size w)
 have HW0 := Aside0.mk hB.size
 have HB := Aside0.mk hB
 clear hB
 have H : (spec_l1New.l0 k l0 (wrap64 (28507 + (l0.length : Int))) 0) = some (r1, r2, r3) := h
 clear h
 have H' := Aside0.mk H
 clear H
 go_enter Tryd.func44, Tryd.ntmps44
 go_wp2
 go_loopg [3, 4] k (fun kq v3 v4 w' => ∃ (x3_1 : Int) (x4_1 : Int), v3 = .int .i64 x3_1 ∧ v4 = .int .i64 x4_1 ∧ Aside0 (spec_l1New.l0 kq l0 x3_1 x4_1 = some (r1, r2, r3)) ∧ Aside0 (kq ≤ k) ∧ Aside0 (Below w0.heap.size w0 w') ∧ Aside0 (Below w.heap.size w w'))
 case atStart => exact ⟨(wrap64 (28507 + (l0.length : Int))), (0), (by first | rfl | (simp; done) | (simp [*]; done)), (by first | rfl | (simp; done) | (simp [*]; done)), H', ⟨Nat.le_refl _⟩, ⟨bel_⟩, ⟨by repeat (first | (with_reducible first | exact HBW.out | apply below_alloc | apply pw_below_drewN | apply below_drew1) | exact HBW.out)⟩⟩
 case round =>
  clear H' HBW
  obtain ⟨x3_1, x4_1, rfl, rfl, HA, HK1, HB, HBW⟩ := hrel
  cases gk with
  | zero => exact absurd HA.out (by simp [spec_l1New.l0])
  | succ k1 =>
   have H := HA.out
   clear HA
   simp only [spec_l1New.l0] at H
   by_cases c2 : x4_1 < (l0.length : Int)
   ·rw [if_pos c2] at H
    have c2b0 : decide (x4_1 < (l0.length : Int)) = true := decide_eq_true c2
    clear c2
    by_cases c3 : x4_1 < 4000
    ·rw [if_pos c3] at H
     have c3b0 : decide (x4_1 < 4000) = true := decide_eq_true c3
     clear c3
     by_cases c4 : 0 ≤ x4_1
     ·rw [if_pos c4] at H
      have c4b0 : decide (0 ≤ x4_1) = true := decide_eq_true c4
      clear c4
      have H' := Aside0.mk H
      clear H
      have p101 : 0 ≤ (x4_1 : Int) := of_decide_eq_true (by first | (with_reducible assumption) | assumption)
      have q101 : x4_1 < (l0.length : Int) := of_decide_eq_true (by first | (with_reducible assumption) | assumption)
      obtain ⟨ad101, e101, hx101_0⟩ := Kd.at_int HR0.out x4_1 p101 q101
      cases e101
      replace hx101_0 := pw_cell_below HB.out hx101_0
      replace p101 := eq_true p101
      replace q101 := eq_true q101
      go_wp2
      go_roundg k1
      case measure => have := HK1.out; omega
      case rel => exact ⟨(Go.bits .and .i64 (wrap64 ((wrap64 ((wrap64 (x3_1 * 131)) + (wrap64 (rd l0 x4_1)))) + 7)) 1073741823), (wrap64 (x4_1 + 1)), (by first | rfl | (simp; done) | (simp [*]; done)), (by first | rfl | (simp; done) | (simp [*]; done)), H', ⟨by have := HK1.out; omega⟩, ⟨bel_⟩, ⟨by repeat (first | (with_reducible first | exact HBW.out | apply below_alloc | apply pw_below_drewN | apply below_drew1) | exact HBW.out)⟩⟩
     ·rw [if_neg c4] at H
      exact absurd H (by simp)
    ·rw [if_neg c3] at H
     have c3b0 : decide (x4_1 < 4000) = false := decide_eq_false c3
     clear c3
     simp only [Option.some.injEq, Prod.mk.injEq] at H
     obtain ⟨rfl, rfl, rfl⟩ := H
     go_wp2_with (first | ((with_reducible refine gate_dst (N := 31) rfl ?_); refine box_event ?hg (N := 31) ?hd (cs := #[.slice A0 l0.length c0, .int .i64 0, .int .i64 x3_1]) (t := 90) ?hr ?_; (case hd => rfl); (case hg => rfl); (case hr => first | (go_simp; done) | (go_simp; rfl)); intro gb102 hg w5 hbox hb; have BK102 := Aside0.mk (hbox); have GW102 := Aside0.mk ((by rw [hg]; exact (below_size (by repeat (first | (with_reducible first | exact HBW.out | apply below_alloc | apply pw_below_drewN | apply below_drew1) | exact HBW.out))) : w.heap.size ≤ gb102)); have GE102 := Aside0.mk ((Nat.le_trans HW0.out (by rw [hg]; exact (below_size (by repeat (first | (with_reducible first | exact HBW.out | apply below_alloc | apply pw_below_drewN | apply below_drew1) | exact HBW.out))) : w.heap.size ≤ gb102) : w0.heap.size ≤ gb102)); replace HB := Aside0.mk (below_step bel_ hb); replace HBW := Aside0.mk (below_step HBW.out hb); clear hb hbox hg))
     go_ret
     exact ⟨_, rfl, (show IsS90 w0 _ gb102 l0 0 x3_1 from ⟨_, _, by (with_reducible repeat (first | refine bN_ _ ?_ | refine bd_ ?_ | refine ba_ _ ?_)); exact BK102.out, GE102.out, HR0.out⟩), bel_, by repeat (first | (with_reducible first | exact HBW.out | apply below_alloc | apply pw_below_drewN | apply below_drew1 | refine below_set ?_ GW102.out) | exact HBW.out)⟩
   ·rw [if_neg c2] at H
    have c2b0 : decide (x4_1 < (l0.length : Int)) = false := decide_eq_false c2
    clear c2
    simp only [Option.some.injEq, Prod.mk.injEq] at H
    obtain ⟨rfl, rfl, rfl⟩ := H
    go_wp2_with (first | ((with_reducible refine gate_dst (N := 31) rfl ?_); refine box_event ?hg (N := 31) ?hd (cs := #[.slice A0 l0.length c0, .int .i64 0, .int .i64 x3_1]) (t := 90) ?hr ?_; (case hd => rfl); (case hg => rfl); (case hr => first | (go_simp; done) | (go_simp; rfl)); intro gb103 hg w6 hbox hb; have BK103 := Aside0.mk (hbox); have GW103 := Aside0.mk ((by rw [hg]; exact (below_size (by repeat (first | (with_reducible first | exact HBW.out | apply below_alloc | apply pw_below_drewN | apply below_drew1) | exact HBW.out))) : w.heap.size ≤ gb103)); have GE103 := Aside0.mk ((Nat.le_trans HW0.out (by rw [hg]; exact (below_size (by repeat (first | (with_reducible first | exact HBW.out | apply below_alloc | apply pw_below_drewN | apply below_drew1) | exact HBW.out))) : w.heap.size ≤ gb103) : w0.heap.size ≤ gb103)); replace HB := Aside0.mk (below_step bel_ hb); replace HBW := Aside0.mk (below_step HBW.out hb); clear hb hbox hg))
    go_ret
    exact ⟨_, rfl, (show IsS90 w0 _ gb103 l0 0 x3_1 from ⟨_, _, by (with_reducible repeat (first | refine bN_ _ ?_ | refine bd_ ?_ | refine ba_ _ ?_)); exact BK103.out, GE103.out, HR0.out⟩), bel_, by repeat (first | (with_reducible first | exact HBW.out | apply below_alloc | apply pw_below_drewN | apply below_drew1 | refine below_set ?_ GW103.out) | exact HBW.out)⟩
/-! ### spec_l1Byte: function 85 -/
def spec_l1Byte.f (s0_0 : List Int) (s0_1 : Int) (s0_2 : Int) : Option (Int × Int × Int) := if s0_1 < (s0_0.length : Int) then (if 0 ≤ s0_1 then (some (Go.bits .and .i64 (wrap64 ((Go.bits .and .i64 (Go.bits .xor .i64 ((wrap64 ((wrap64 (s0_2 * 6364136223846793005)) + 1442695040888963407)) / 8589934592) ((wrap64 ((wrap64 (s0_2 * 6364136223846793005)) + 1442695040888963407)) / 35184372088832)) 255) + (wrap64 (rd s0_0 s0_1)))) 255, wrap64 (s0_1 + 1), wrap64 ((wrap64 (s0_2 * 6364136223846793005)) + 1442695040888963407))) else (none)) else (some (Go.bits .and .i64 (Go.bits .xor .i64 ((wrap64 ((wrap64 (s0_2 * 6364136223846793005)) + 1442695040888963407)) / 8589934592) ((wrap64 ((wrap64 (s0_2 * 6364136223846793005)) + 1442695040888963407)) / 35184372088832)) 255, s0_1, wrap64 ((wrap64 (s0_2 * 6364136223846793005)) + 1442695040888963407)))
set_option maxHeartbeats 8000000 in
set_option maxRecDepth 100000 in
theorem spec_l1Byte.calls (g : Nat) (s0_0 : List Int) (s0_1 : Int) (s0_2 : Int) (r1 : Int) (r2 : Int) (r3 : Int) (w0 w : World) (hI : IsS90 w0 w g s0_0 s0_1 s0_2) (hB : Below w0.heap.size w0 w) (h : spec_l1Byte.f s0_0 s0_1 s0_2 = some (r1, r2, r3)) :
  Calls Tryd.prog 85 #[.pointer (some ⟨g, 0, none⟩)] w fun e w' => e = .returned (.int .i64 r1) ∧ IsS90 w0 w' g s0_0 r2 r3 ∧ Below w0.heap.size w0 w' ∧ KeepBut w w' g none := by
 have HI0 := Aside0.mk hI
 have HK := Aside0.mk (KeepBut.refl w g none)
 have HL := Aside0.mk hB.size
 clear hI
 have HW0 := Aside0.mk hB.size
 have HB := Aside0.mk hB
 clear hB
 have H : (if s0_1 < (s0_0.length : Int) then (if 0 ≤ s0_1 then (some (Go.bits .and .i64 (wrap64 ((Go.bits .and .i64 (Go.bits .xor .i64 ((wrap64 ((wrap64 (s0_2 * 6364136223846793005)) + 1442695040888963407)) / 8589934592) ((wrap64 ((wrap64 (s0_2 * 6364136223846793005)) + 1442695040888963407)) / 35184372088832)) 255) + (wrap64 (rd s0_0 s0_1)))) 255, wrap64 (s0_1 + 1), wrap64 ((wrap64 (s0_2 * 6364136223846793005)) + 1442695040888963407))) else (none)) else (some (Go.bits .and .i64 (Go.bits .xor .i64 ((wrap64 ((wrap64 (s0_2 * 6364136223846793005)) + 1442695040888963407)) / 8589934592) ((wrap64 ((wrap64 (s0_2 * 6364136223846793005)) + 1442695040888963407)) / 35184372088832)) 255, s0_1, wrap64 ((wrap64 (s0_2 * 6364136223846793005)) + 1442695040888963407)))) = some (r1, r2, r3) := h
 clear h
 by_cases c2 : s0_1 < (s0_0.length : Int)
 ·rw [if_pos c2] at H
  have c2b0 : decide (s0_1 < (s0_0.length : Int)) = true := decide_eq_true c2
  clear c2
  by_cases c3 : 0 ≤ s0_1
  ·rw [if_pos c3] at H
   have c3b0 : decide (0 ≤ s0_1) = true := decide_eq_true c3
   clear c3
   simp only [Option.some.injEq, Prod.mk.injEq] at H
   obtain ⟨rfl, rfl, rfl⟩ := H
   obtain ⟨ASz4_0, cSz4_0, HGz4, hgz4, HSz4_0⟩ := HI0.out
   have hcz4_0 := cellS90_0 HGz4
   have hcz4_1 := cellS90_1 HGz4
   have hcz4_2 := cellS90_2 HGz4
   have hfz4_1 := blk_frozen HGz4 1
   have hfz4_2 := blk_frozen HGz4 2
   clear HGz4 hgz4
   have p104 : 0 ≤ (s0_1 : Int) := of_decide_eq_true (by first | (with_reducible assumption) | assumption)
   have q104 : s0_1 < (s0_0.length : Int) := of_decide_eq_true (by first | (with_reducible assumption) | assumption)
   obtain ⟨ad104, e104, hx104_0⟩ := Kd.at_int HSz4_0 s0_1 p104 q104
   cases e104
   have hn104_0 : ad104.block ≠ g := Nat.ne_of_lt (Nat.lt_of_lt_of_le (by have := World.block_lt_of_cell? _ _ hx104_0; first | rwa [add_block] at this | exact this) (IsS90.ge HI0.out))
   replace hx104_0 := pw_cell_below HB.out hx104_0
   replace hx104_0 := (cell_far (p := ⟨g, 2, none⟩) (by first | (rw [add_block]; exact hn104_0) | (show (Addr.add _ _).block ≠ _; rw [add_block]; exact hn104_0) | exact hn104_0) (.int .i64 (wrap64 ((wrap64 (s0_2 * 6364136223846793005)) + 1442695040888963407)))).trans hx104_0
   (try have hy104_0 := fun (n_ : Nat) => (show (((w.drewN n_).setCell ⟨g, 2, none⟩ (.int .i64 (wrap64 ((wrap64 (s0_2 * 6364136223846793005)) + 1442695040888963407))))).cell? _ = some _ from hx104_0))
   clear hn104_0
   replace p104 := eq_true p104
   replace q104 := eq_true q104
   go_enter Tryd.func85, Tryd.ntmps85
   go_wp2
   repeat (go_quiet (fail); try go_wp2)
   go_ret
   exact ⟨rf_, is_, belI_, kw_ (w := w)⟩
  ·rw [if_neg c3] at H
   exact absurd H (by simp)
 ·rw [if_neg c2] at H
  have c2b0 : decide (s0_1 < (s0_0.length : Int)) = false := decide_eq_false c2
  clear c2
  simp only [Option.some.injEq, Prod.mk.injEq] at H
  obtain ⟨rfl, rfl, rfl⟩ := H
  obtain ⟨ASz5_0, cSz5_0, HGz5, hgz5, HSz5_0⟩ := HI0.out
  have hcz5_0 := cellS90_0 HGz5
  have hcz5_1 := cellS90_1 HGz5
  have hcz5_2 := cellS90_2 HGz5
  have hfz5_1 := blk_frozen HGz5 1
  have hfz5_2 := blk_frozen HGz5 2
  clear HGz5 hgz5
  go_enter Tryd.func85, Tryd.ntmps85
  go_wp2
  repeat (go_quiet (fail); try go_wp2)
  go_ret
  exact ⟨rf_, is_, belI_, kw_ (w := w)⟩
/-! ### spec_l1Below: function 52 -/
def spec_l1Below.f (s0_0 : List Int) (s0_1 : Int) (s0_2 : Int) (a1 : Int) : Option (Int × Int × Int) := if a1 ≤ 0 then (some (0, s0_1, s0_2)) else (if a1 ≤ 256 then ((spec_l1Byte.f s0_0 s0_1 s0_2).bind fun bt105 => (if a1 = 0 then (none) else (some (Int.tmod bt105.1 a1, bt105.2.1, bt105.2.2)))) else ((spec_l1Byte.f s0_0 s0_1 s0_2).bind fun bt108 => ((spec_l1Byte.f s0_0 bt108.2.1 bt108.2.2).bind fun bt111 => ((spec_l1Byte.f s0_0 bt111.2.1 bt111.2.2).bind fun bt114 => ((spec_l1Byte.f s0_0 bt114.2.1 bt114.2.2).bind fun bt117 => (if a1 = 0 then (none) else (some (Int.tmod (wrap64 ((wrap64 ((wrap64 ((wrap64 (bt108.1 * 16777216)) + (wrap64 (bt111.1 * 65536)))) + (wrap64 (bt114.1 * 256)))) + bt117.1)) a1, bt117.2.1, bt117.2.2))))))))
set_option maxHeartbeats 8000000 in
set_option maxRecDepth 100000 in
theorem spec_l1Below.calls (g : Nat) (s0_0 : List Int) (s0_1 : Int) (s0_2 : Int) (a1 : Int) (r1 : Int) (r2 : Int) (r3 : Int) (w0 w : World) (hI : IsS90 w0 w g s0_0 s0_1 s0_2) (hB : Below w0.heap.size w0 w) (h : spec_l1Below.f s0_0 s0_1 s0_2 a1 = some (r1, r2, r3)) :
  Calls Tryd.prog 52 #[.pointer (some ⟨g, 0, none⟩), .int .i64 a1] w fun e w' => e = .returned (.int .i64 r1) ∧ IsS90 w0 w' g s0_0 r2 r3 ∧ Below w0.heap.size w0 w' ∧ KeepBut w w' g none := by
 have HI0 := Aside0.mk hI
 have HK := Aside0.mk (KeepBut.refl w g none)
 have HL := Aside0.mk hB.size
 clear hI
 have HW0 := Aside0.mk hB.size
 have HB := Aside0.mk hB
 clear hB
 have H : (if a1 ≤ 0 then (some (0, s0_1, s0_2)) else (if a1 ≤ 256 then ((spec_l1Byte.f s0_0 s0_1 s0_2).bind fun bt105 => (if a1 = 0 then (none) else (some (Int.tmod bt105.1 a1, bt105.2.1, bt105.2.2)))) else ((spec_l1Byte.f s0_0 s0_1 s0_2).bind fun bt108 => ((spec_l1Byte.f s0_0 bt108.2.1 bt108.2.2).bind fun bt111 => ((spec_l1Byte.f s0_0 bt111.2.1 bt111.2.2).bind fun bt114 => ((spec_l1Byte.f s0_0 bt114.2.1 bt114.2.2).bind fun bt117 => (if a1 = 0 then (none) else (some (Int.tmod (wrap64 ((wrap64 ((wrap64 ((wrap64 (bt108.1 * 16777216)) + (wrap64 (bt111.1 * 65536)))) + (wrap64 (bt114.1 * 256)))) + bt117.1)) a1, bt117.2.1, bt117.2.2))))))))) = some (r1, r2, r3) := h
 clear h
 by_cases c3 : a1 ≤ 0
 ·rw [if_pos c3] at H
  have c3b0 : decide (a1 ≤ 0) = true := decide_eq_true c3
  clear c3
  simp only [Option.some.injEq, Prod.mk.injEq] at H
  obtain ⟨rfl, rfl, rfl⟩ := H
  go_enter Tryd.func52, Tryd.ntmps52
  go_wp2
  go_ret
  exact ⟨rf_, is_, belI_, kw_ (w := w)⟩
 ·rw [if_neg c3] at H
  have c3b0 : decide (a1 ≤ 0) = false := decide_eq_false c3
  clear c3
  by_cases c4 : a1 ≤ 256
  ·rw [if_pos c4] at H
   have c4b0 : decide (a1 ≤ 256) = true := decide_eq_true c4
   clear c4
   replace H := Option.bind_eq_some_iff.mp H
   obtain ⟨⟨t105, t106, t107⟩, A50, H⟩ := H
   replace H : (if a1 = 0 then (none) else (some (Int.tmod t105 a1, t106, t107))) = some (r1, r2, r3) := H
   have A5 := Aside0.mk A50
   clear A50
   by_cases c6 : a1 = 0
   ·rw [if_pos c6] at H
    exact absurd H (by simp)
   ·rw [if_neg c6] at H
    have c6b0 : (a1 == 0) = false := beq_eq_false_iff_ne.mpr c6
    have c6b1 : (a1 != 0) = true := bne_iff_ne.mpr c6
    simp only [Option.some.injEq, Prod.mk.injEq] at H
    obtain ⟨rfl, rfl, rfl⟩ := H
    go_enter Tryd.func52, Tryd.ntmps52
    go_wp2_with (first | ((with_reducible refine gate_callee (f := 85) rfl ?_); refine goesL_ (some 14) rfl rfl Tryd.func85 (by kernel_rfl) rfl #[.pointer (some ⟨g, 0, none⟩)] rfl mp_ ?_; (with_reducible refine (spec_l1Byte.calls g s0_0 s0_1 s0_2 t105 t106 t107 w0 _ ?side1 ?side2 A5.out).mono ?_); (case side1 => exact is_); (case side2 => exact belI_); rintro e w7 ⟨rfl, hi, hb, hk⟩; refine ⟨_, rfl, ?_⟩; replace HB := Aside0.mk (hb); replace HK := Aside0.mk (KeepBut.trans (kw_ (w := w)) hk (.inl rfl)); replace HI0 := Aside0.mk (hi); (try clear hb); (try clear hb2); (try clear hk); (try clear hi)))
    go_ret
    exact ⟨rf_, is_, belI_, kw_ (w := w)⟩
  ·rw [if_neg c4] at H
   have c4b0 : decide (a1 ≤ 256) = false := decide_eq_false c4
   clear c4
   replace H := Option.bind_eq_some_iff.mp H
   obtain ⟨⟨t108, t109, t110⟩, A80, H⟩ := H
   replace H : ((spec_l1Byte.f s0_0 t109 t110).bind fun bt111 => ((spec_l1Byte.f s0_0 bt111.2.1 bt111.2.2).bind fun bt114 => ((spec_l1Byte.f s0_0 bt114.2.1 bt114.2.2).bind fun bt117 => (if a1 = 0 then (none) else (some (Int.tmod (wrap64 ((wrap64 ((wrap64 ((wrap64 (t108 * 16777216)) + (wrap64 (bt111.1 * 65536)))) + (wrap64 (bt114.1 * 256)))) + bt117.1)) a1, bt117.2.1, bt117.2.2)))))) = some (r1, r2, r3) := H
   have A8 := Aside0.mk A80
   clear A80
   replace H := Option.bind_eq_some_iff.mp H
   obtain ⟨⟨t111, t112, t113⟩, A90, H⟩ := H
   replace H : ((spec_l1Byte.f s0_0 t112 t113).bind fun bt114 => ((spec_l1Byte.f s0_0 bt114.2.1 bt114.2.2).bind fun bt117 => (if a1 = 0 then (none) else (some (Int.tmod (wrap64 ((wrap64 ((wrap64 ((wrap64 (t108 * 16777216)) + (wrap64 (t111 * 65536)))) + (wrap64 (bt114.1 * 256)))) + bt117.1)) a1, bt117.2.1, bt117.2.2))))) = some (r1, r2, r3) := H
   have A9 := Aside0.mk A90
   clear A90
   replace H := Option.bind_eq_some_iff.mp H
   obtain ⟨⟨t114, t115, t116⟩, A100, H⟩ := H
   replace H : ((spec_l1Byte.f s0_0 t115 t116).bind fun bt117 => (if a1 = 0 then (none) else (some (Int.tmod (wrap64 ((wrap64 ((wrap64 ((wrap64 (t108 * 16777216)) + (wrap64 (t111 * 65536)))) + (wrap64 (t114 * 256)))) + bt117.1)) a1, bt117.2.1, bt117.2.2)))) = some (r1, r2, r3) := H
   have A10 := Aside0.mk A100
   clear A100
   replace H := Option.bind_eq_some_iff.mp H
   obtain ⟨⟨t117, t118, t119⟩, A110, H⟩ := H
   replace H : (if a1 = 0 then (none) else (some (Int.tmod (wrap64 ((wrap64 ((wrap64 ((wrap64 (t108 * 16777216)) + (wrap64 (t111 * 65536)))) + (wrap64 (t114 * 256)))) + t117)) a1, t118, t119))) = some (r1, r2, r3) := H
   have A11 := Aside0.mk A110
   clear A110
   by_cases c12 : a1 = 0
   ·rw [if_pos c12] at H
    exact absurd H (by simp)
   ·rw [if_neg c12] at H
    have c12b0 : (a1 == 0) = false := beq_eq_false_iff_ne.mpr c12
    have c12b1 : (a1 != 0) = true := bne_iff_ne.mpr c12
    simp only [Option.some.injEq, Prod.mk.injEq] at H
    obtain ⟨rfl, rfl, rfl⟩ := H
    go_enter Tryd.func52, Tryd.ntmps52
    go_wp2_with (first | ((with_reducible refine gate_callee (f := 85) rfl ?_); refine goesL_ (some 18) rfl rfl Tryd.func85 (by kernel_rfl) rfl #[.pointer (some ⟨g, 0, none⟩)] rfl mp_ ?_; (with_reducible refine (spec_l1Byte.calls g s0_0 s0_1 s0_2 t108 t109 t110 w0 _ ?side1 ?side2 A8.out).mono ?_); (case side1 => exact is_); (case side2 => exact belI_); rintro e w13 ⟨rfl, hi, hb, hk⟩; refine ⟨_, rfl, ?_⟩; replace HB := Aside0.mk (hb); replace HK := Aside0.mk (KeepBut.trans (kw_ (w := w)) hk (.inl rfl)); replace HI0 := Aside0.mk (hi); (try clear hb); (try clear hb2); (try clear hk); (try clear hi)) | ((with_reducible refine gate_callee (f := 85) rfl ?_); refine goesL_ (some 20) rfl rfl Tryd.func85 (by kernel_rfl) rfl #[.pointer (some ⟨g, 0, none⟩)] rfl mp_ ?_; (with_reducible refine (spec_l1Byte.calls g s0_0 t109 t110 t111 t112 t113 w0 _ ?side1 ?side2 A9.out).mono ?_); (case side1 => exact is_); (case side2 => exact belI_); rintro e w14 ⟨rfl, hi, hb, hk⟩; refine ⟨_, rfl, ?_⟩; replace HB := Aside0.mk (hb); replace HK := Aside0.mk (KeepBut.trans (kw_ (w := w)) hk (.inl rfl)); replace HI0 := Aside0.mk (hi); (try clear hb); (try clear hb2); (try clear hk); (try clear hi)) | ((with_reducible refine gate_callee (f := 85) rfl ?_); refine goesL_ (some 22) rfl rfl Tryd.func85 (by kernel_rfl) rfl #[.pointer (some ⟨g, 0, none⟩)] rfl mp_ ?_; (with_reducible refine (spec_l1Byte.calls g s0_0 t112 t113 t114 t115 t116 w0 _ ?side1 ?side2 A10.out).mono ?_); (case side1 => exact is_); (case side2 => exact belI_); rintro e w15 ⟨rfl, hi, hb, hk⟩; refine ⟨_, rfl, ?_⟩; replace HB := Aside0.mk (hb); replace HK := Aside0.mk (KeepBut.trans (kw_ (w := w)) hk (.inl rfl)); replace HI0 := Aside0.mk (hi); (try clear hb); (try clear hb2); (try clear hk); (try clear hi)) | ((with_reducible refine gate_callee (f := 85) rfl ?_); refine goesL_ (some 24) rfl rfl Tryd.func85 (by kernel_rfl) rfl #[.pointer (some ⟨g, 0, none⟩)] rfl mp_ ?_; (with_reducible refine (spec_l1Byte.calls g s0_0 t115 t116 t117 t118 t119 w0 _ ?side1 ?side2 A11.out).mono ?_); (case side1 => exact is_); (case side2 => exact belI_); rintro e w16 ⟨rfl, hi, hb, hk⟩; refine ⟨_, rfl, ?_⟩; replace HB := Aside0.mk (hb); replace HK := Aside0.mk (KeepBut.trans (kw_ (w := w)) hk (.inl rfl)); replace HI0 := Aside0.mk (hi); (try clear hb); (try clear hb2); (try clear hk); (try clear hi)))
    go_ret
    exact ⟨rf_, is_, belI_, kw_ (w := w)⟩
/-! ### spec_WideOk: function 24 -/
def spec_WideOk.f (a0_0 : Bool) (a0_1 : Int) (a0_2 : Int) : Option (Bool) := if a0_1 < 9223372036854775808 then (if a0_0 = true then (if a0_1 > 0 then (some true) else (some (decide (a0_2 > 0)))) else (some true)) else (some false)
set_option maxHeartbeats 8000000 in
set_option maxRecDepth 100000 in
theorem spec_WideOk.calls (a0_0 : Bool) (a0_1 : Int) (a0_2 : Int) (r : Bool) (w : World) (h : spec_WideOk.f a0_0 a0_1 a0_2 = some r) :
  Calls Tryd.prog 24 #[.agg #[.bool a0_0, .int .u64 a0_1, .int .u64 a0_2]] w fun e w' => e = .returned (.bool r) ∧ Below w.heap.size w w' := by
 have hu28 := Tryd.underlying28
 have HB := Aside0.mk (Below.refl w.heap.size w)
 have H : (if a0_1 < 9223372036854775808 then (if a0_0 = true then (if a0_1 > 0 then (some true) else (some (decide (a0_2 > 0)))) else (some true)) else (some false)) = some r := h
 clear h
 by_cases c2 : a0_1 < 9223372036854775808
 ·rw [if_pos c2] at H
  have c2b0 : decide (a0_1 < 9223372036854775808) = true := decide_eq_true c2
  clear c2
  by_cases c3 : a0_0 = true
  ·subst c3
   have H1 : (if a0_1 > 0 then (some true) else (some (decide (a0_2 > 0)))) = some r := by rw [if_pos rfl] at H; exact H
   clear H
   have H := H1
   clear H1
   by_cases c4 : a0_1 > 0
   ·rw [if_pos c4] at H
    have c4b0 : decide (0 < a0_1) = true := decide_eq_true c4
    clear c4
    obtain rfl := Option.some.inj H
    go_enter Tryd.func24, Tryd.ntmps24
    go_wp2_with (first | ((with_reducible refine gate_dst (N := 1) rfl ?_); refine box_event ?hg (N := 1) ?hd (cs := #[.bool true, .int .u64 a0_1, .int .u64 a0_2]) (t := 28) ?hr ?_; (case hd => rfl); (case hg => rfl); (case hr => first | (go_simp; done) | (go_simp; rfl)); intro gb120 hg w5 hbox hb; have BK120 := Aside0.mk (hbox); have GW120 := bs_ (w := w) hg; have GE120 := bs_ (w := w) hg; replace HB := Aside0.mk (below_step bel_ hb); clear hb hbox hg; obtain ⟨hcz6_0, hcz6_1, hcz6_2, hfz6_0, hfz6_1, hfz6_2⟩ := cf3_ (w := w5) BK120.out))
    go_ret
    exact ⟨rf_, bel_⟩
   ·rw [if_neg c4] at H
    have c4b0 : decide (0 < a0_1) = false := decide_eq_false c4
    clear c4
    obtain rfl := Option.some.inj H
    go_enter Tryd.func24, Tryd.ntmps24
    go_wp2_with (first | ((with_reducible refine gate_dst (N := 1) rfl ?_); refine box_event ?hg (N := 1) ?hd (cs := #[.bool true, .int .u64 a0_1, .int .u64 a0_2]) (t := 28) ?hr ?_; (case hd => rfl); (case hg => rfl); (case hr => first | (go_simp; done) | (go_simp; rfl)); intro gb120 hg w7 hbox hb; have BK120 := Aside0.mk (hbox); have GW120 := bs_ (w := w) hg; have GE120 := bs_ (w := w) hg; replace HB := Aside0.mk (below_step bel_ hb); clear hb hbox hg; obtain ⟨hcz8_0, hcz8_1, hcz8_2, hfz8_0, hfz8_1, hfz8_2⟩ := cf3_ (w := w7) BK120.out))
    go_ret
    exact ⟨rf_, bel_⟩
  ·replace c3 := Bool.eq_false_iff.mpr c3
   subst c3
   have H1 : (some true) = some r := by rw [if_neg (show ¬ (false = true) by decide)] at H; exact H
   clear H
   have H := H1
   clear H1
   obtain rfl := Option.some.inj H
   go_enter Tryd.func24, Tryd.ntmps24
   go_wp2_with (first | ((with_reducible refine gate_dst (N := 1) rfl ?_); refine box_event ?hg (N := 1) ?hd (cs := #[.bool false, .int .u64 a0_1, .int .u64 a0_2]) (t := 28) ?hr ?_; (case hd => rfl); (case hg => rfl); (case hr => first | (go_simp; done) | (go_simp; rfl)); intro gb120 hg w9 hbox hb; have BK120 := Aside0.mk (hbox); have GW120 := bs_ (w := w) hg; have GE120 := bs_ (w := w) hg; replace HB := Aside0.mk (below_step bel_ hb); clear hb hbox hg; obtain ⟨hcz10_0, hcz10_1, hcz10_2, hfz10_0, hfz10_1, hfz10_2⟩ := cf3_ (w := w9) BK120.out))
   go_ret
   exact ⟨rf_, bel_⟩
 ·rw [if_neg c2] at H
  have c2b0 : decide (a0_1 < 9223372036854775808) = false := decide_eq_false c2
  clear c2
  obtain rfl := Option.some.inj H
  go_enter Tryd.func24, Tryd.ntmps24
  go_wp2_with (first | ((with_reducible refine gate_dst (N := 1) rfl ?_); refine box_event ?hg (N := 1) ?hd (cs := #[.bool a0_0, .int .u64 a0_1, .int .u64 a0_2]) (t := 28) ?hr ?_; (case hd => rfl); (case hg => rfl); (case hr => first | (go_simp; done) | (go_simp; rfl)); intro gb120 hg w11 hbox hb; have BK120 := Aside0.mk (hbox); have GW120 := bs_ (w := w) hg; have GE120 := bs_ (w := w) hg; replace HB := Aside0.mk (below_step bel_ hb); clear hb hbox hg; obtain ⟨hcz12_0, hcz12_1, hcz12_2, hfz12_0, hfz12_1, hfz12_2⟩ := cf3_ (w := w11) BK120.out))
  go_ret
  exact ⟨rf_, bel_⟩
/-! ### spec_l3Zero: function 61 -/
def spec_l3Zero.f (a0_0 : Bool) (a0_1 : Int) (a0_2 : Int) : Option (Bool) := if a0_1 = 0 then (some (a0_2 == 0)) else (some false)
set_option maxHeartbeats 8000000 in
set_option maxRecDepth 100000 in
theorem spec_l3Zero.calls (a0_0 : Bool) (a0_1 : Int) (a0_2 : Int) (r : Bool) (w : World) (h : spec_l3Zero.f a0_0 a0_1 a0_2 = some r) :
  Calls Tryd.prog 61 #[.agg #[.bool a0_0, .int .u64 a0_1, .int .u64 a0_2]] w fun e w' => e = .returned (.bool r) ∧ Below w.heap.size w w' := by
 have hu28 := Tryd.underlying28
 have HB := Aside0.mk (Below.refl w.heap.size w)
 have H : (if a0_1 = 0 then (some (a0_2 == 0)) else (some false)) = some r := h
 clear h
 by_cases c2 : a0_1 = 0
 ·rw [if_pos c2] at H
  have c2b0 : (a0_1 == 0) = true := beq_iff_eq.mpr c2
  have c2b1 : (a0_1 != 0) = false := bne_eq_false_iff_eq.mpr c2
  clear c2
  obtain rfl := Option.some.inj H
  go_enter Tryd.func61, Tryd.ntmps61
  go_wp2_with (first | ((with_reducible refine gate_dst (N := 1) rfl ?_); refine box_event ?hg (N := 1) ?hd (cs := #[.bool a0_0, .int .u64 a0_1, .int .u64 a0_2]) (t := 28) ?hr ?_; (case hd => rfl); (case hg => rfl); (case hr => first | (go_simp; done) | (go_simp; rfl)); intro gb121 hg w3 hbox hb; have BK121 := Aside0.mk (hbox); have GW121 := bs_ (w := w) hg; have GE121 := bs_ (w := w) hg; replace HB := Aside0.mk (below_step bel_ hb); clear hb hbox hg; obtain ⟨hcz4_0, hcz4_1, hcz4_2, hfz4_0, hfz4_1, hfz4_2⟩ := cf3_ (w := w3) BK121.out))
  go_ret
  exact ⟨rf_, bel_⟩
 ·rw [if_neg c2] at H
  have c2b0 : (a0_1 == 0) = false := beq_eq_false_iff_ne.mpr c2
  have c2b1 : (a0_1 != 0) = true := bne_iff_ne.mpr c2
  obtain rfl := Option.some.inj H
  go_enter Tryd.func61, Tryd.ntmps61
  go_wp2_with (first | ((with_reducible refine gate_dst (N := 1) rfl ?_); refine box_event ?hg (N := 1) ?hd (cs := #[.bool a0_0, .int .u64 a0_1, .int .u64 a0_2]) (t := 28) ?hr ?_; (case hd => rfl); (case hg => rfl); (case hr => first | (go_simp; done) | (go_simp; rfl)); intro gb121 hg w5 hbox hb; have BK121 := Aside0.mk (hbox); have GW121 := bs_ (w := w) hg; have GE121 := bs_ (w := w) hg; replace HB := Aside0.mk (below_step bel_ hb); clear hb hbox hg; obtain ⟨hcz6_0, hcz6_1, hcz6_2, hfz6_0, hfz6_1, hfz6_2⟩ := cf3_ (w := w5) BK121.out))
  go_ret
  exact ⟨rf_, bel_⟩
/-! ### spec_l3Abs: function 99 -/
def spec_l3Abs.f (a0 : Int) : Option (Int) := if a0 < 0 then (some (IntKind.u64.wrap ((IntKind.u64.wrap (wrap64 (-(wrap64 (a0 + 1))))) + 1))) else (some (IntKind.u64.wrap (a0)))
set_option maxHeartbeats 8000000 in
set_option maxRecDepth 100000 in
theorem spec_l3Abs.calls (a0 : Int) (r : Int) (w : World) (h : spec_l3Abs.f a0 = some r) :
  Calls Tryd.prog 99 #[.int .i64 a0] w fun e w' => e = .returned (.int .u64 r) ∧ Drawn0 w w' := by
 have H : (if a0 < 0 then (some (IntKind.u64.wrap ((IntKind.u64.wrap (wrap64 (-(wrap64 (a0 + 1))))) + 1))) else (some (IntKind.u64.wrap (a0)))) = some r := h
 clear h
 by_cases c2 : a0 < 0
 ·rw [if_pos c2] at H
  have c2b0 : decide (a0 < 0) = true := decide_eq_true c2
  clear c2
  obtain rfl := Option.some.inj H
  go_enter Tryd.func99, Tryd.ntmps99
  go_wp2
  go_ret
  exact ⟨by first | rfl | (simp; done) | (simp [*]; done), by repeat (first | exact Drawn0.refl _ | apply Drawn0.step)⟩
 ·rw [if_neg c2] at H
  have c2b0 : decide (a0 < 0) = false := decide_eq_false c2
  clear c2
  obtain rfl := Option.some.inj H
  go_enter Tryd.func99, Tryd.ntmps99
  go_wp2
  go_ret
  exact ⟨by first | rfl | (simp; done) | (simp [*]; done), by repeat (first | exact Drawn0.refl _ | apply Drawn0.step)⟩
/-! ### spec_l3Product: function 100 -/
def spec_l3Product.f (a0 : Int) (a1 : Int) : Option (Int × Int) := some (IntKind.u64.wrap ((IntKind.u64.wrap ((IntKind.u64.wrap ((a0 / 4294967296) * (a1 / 4294967296))) + ((IntKind.u64.wrap ((IntKind.u64.wrap ((a0 / 4294967296) * (Go.bits .and .u64 a1 4294967295))) + ((IntKind.u64.wrap ((Go.bits .and .u64 a0 4294967295) * (Go.bits .and .u64 a1 4294967295))) / 4294967296))) / 4294967296))) + ((IntKind.u64.wrap ((IntKind.u64.wrap ((Go.bits .and .u64 a0 4294967295) * (a1 / 4294967296))) + (Go.bits .and .u64 (IntKind.u64.wrap ((IntKind.u64.wrap ((a0 / 4294967296) * (Go.bits .and .u64 a1 4294967295))) + ((IntKind.u64.wrap ((Go.bits .and .u64 a0 4294967295) * (Go.bits .and .u64 a1 4294967295))) / 4294967296))) 4294967295))) / 4294967296)), IntKind.u64.wrap ((IntKind.u64.wrap ((IntKind.u64.wrap ((IntKind.u64.wrap ((Go.bits .and .u64 a0 4294967295) * (a1 / 4294967296))) + (Go.bits .and .u64 (IntKind.u64.wrap ((IntKind.u64.wrap ((a0 / 4294967296) * (Go.bits .and .u64 a1 4294967295))) + ((IntKind.u64.wrap ((Go.bits .and .u64 a0 4294967295) * (Go.bits .and .u64 a1 4294967295))) / 4294967296))) 4294967295))) * 4294967296)) + (Go.bits .and .u64 (IntKind.u64.wrap ((Go.bits .and .u64 a0 4294967295) * (Go.bits .and .u64 a1 4294967295))) 4294967295)))
set_option maxHeartbeats 8000000 in
set_option maxRecDepth 100000 in
theorem spec_l3Product.calls (a0 : Int) (a1 : Int) (r1 : Int) (r2 : Int) (w : World) (h : spec_l3Product.f a0 a1 = some (r1, r2)) :
  Calls Tryd.prog 100 #[.int .u64 a0, .int .u64 a1] w fun e w' => e = .returned (.tuple #[.int .u64 r1, .int .u64 r2]) ∧ Drawn0 w w' := by
 have H : (some (IntKind.u64.wrap ((IntKind.u64.wrap ((IntKind.u64.wrap ((a0 / 4294967296) * (a1 / 4294967296))) + ((IntKind.u64.wrap ((IntKind.u64.wrap ((a0 / 4294967296) * (Go.bits .and .u64 a1 4294967295))) + ((IntKind.u64.wrap ((Go.bits .and .u64 a0 4294967295) * (Go.bits .and .u64 a1 4294967295))) / 4294967296))) / 4294967296))) + ((IntKind.u64.wrap ((IntKind.u64.wrap ((Go.bits .and .u64 a0 4294967295) * (a1 / 4294967296))) + (Go.bits .and .u64 (IntKind.u64.wrap ((IntKind.u64.wrap ((a0 / 4294967296) * (Go.bits .and .u64 a1 4294967295))) + ((IntKind.u64.wrap ((Go.bits .and .u64 a0 4294967295) * (Go.bits .and .u64 a1 4294967295))) / 4294967296))) 4294967295))) / 4294967296)), IntKind.u64.wrap ((IntKind.u64.wrap ((IntKind.u64.wrap ((IntKind.u64.wrap ((Go.bits .and .u64 a0 4294967295) * (a1 / 4294967296))) + (Go.bits .and .u64 (IntKind.u64.wrap ((IntKind.u64.wrap ((a0 / 4294967296) * (Go.bits .and .u64 a1 4294967295))) + ((IntKind.u64.wrap ((Go.bits .and .u64 a0 4294967295) * (Go.bits .and .u64 a1 4294967295))) / 4294967296))) 4294967295))) * 4294967296)) + (Go.bits .and .u64 (IntKind.u64.wrap ((Go.bits .and .u64 a0 4294967295) * (Go.bits .and .u64 a1 4294967295))) 4294967295)))) = some (r1, r2) := h
 clear h
 simp only [Option.some.injEq, Prod.mk.injEq] at H
 obtain ⟨rfl, rfl⟩ := H
 go_enter Tryd.func100, Tryd.ntmps100
 go_wp2
 go_ret2
 exact ⟨by first | rfl | (simp; done) | (simp [*]; done), by repeat (first | exact Drawn0.refl _ | apply Drawn0.step)⟩
/-! ### spec_ScaleWide: function 58 -/
def spec_ScaleWide.f (a0_0 : Bool) (a0_1 : Int) (a0_2 : Int) (a1 : Int) : Option (Bool × Int × Int × Bool) := (spec_WideOk.f a0_0 a0_1 a0_2).bind fun t124 => (if t124 = true then ((spec_l3Abs.f a1).bind fun t125 => ((spec_l3Product.f a0_1 t125).bind fun bt126 => ((spec_l3Product.f a0_2 t125).bind fun bt128 => ((spec_l3Zero.f (a0_0 != (decide (a1 < 0))) (IntKind.u64.wrap (bt126.2 + bt128.1)) bt128.2).bind fun t131 => (if t131 = true then (if bt126.1 > 0 then (some (false, 0, 0, false)) else (if (IntKind.u64.wrap (bt126.2 + bt128.1)) < bt126.2 then (some (false, 0, 0, false)) else ((spec_WideOk.f false (IntKind.u64.wrap (bt126.2 + bt128.1)) bt128.2).bind fun t132 => (if t132 = true then (some (false, IntKind.u64.wrap (bt126.2 + bt128.1), bt128.2, true)) else (some (false, 0, 0, false)))))) else (if bt126.1 > 0 then (some (false, 0, 0, false)) else (if (IntKind.u64.wrap (bt126.2 + bt128.1)) < bt126.2 then (some (false, 0, 0, false)) else ((spec_WideOk.f (a0_0 != (decide (a1 < 0))) (IntKind.u64.wrap (bt126.2 + bt128.1)) bt128.2).bind fun t133 => (if t133 = true then (some ((a0_0 != (decide (a1 < 0))), IntKind.u64.wrap (bt126.2 + bt128.1), bt128.2, true)) else (some (false, 0, 0, false))))))))))) else (some (false, 0, 0, false)))
set_option maxHeartbeats 8000000 in
set_option maxRecDepth 100000 in
theorem spec_ScaleWide.calls (a0_0 : Bool) (a0_1 : Int) (a0_2 : Int) (a1 : Int) (r1 : Bool) (r2 : Int) (r3 : Int) (r4 : Bool) (w : World) (h : spec_ScaleWide.f a0_0 a0_1 a0_2 a1 = some (r1, r2, r3, r4)) :
  Calls Tryd.prog 58 #[.agg #[.bool a0_0, .int .u64 a0_1, .int .u64 a0_2], .int .i64 a1] w fun e w' => e = .returned (.tuple #[.agg #[.bool r1, .int .u64 r2, .int .u64 r3], .bool r4]) ∧ Below w.heap.size w w' := by
 have hu28 := Tryd.underlying28
 have HB := Aside0.mk (Below.refl w.heap.size w)
 have H : ((spec_WideOk.f a0_0 a0_1 a0_2).bind fun t124 => (if t124 = true then ((spec_l3Abs.f a1).bind fun t125 => ((spec_l3Product.f a0_1 t125).bind fun bt126 => ((spec_l3Product.f a0_2 t125).bind fun bt128 => ((spec_l3Zero.f (a0_0 != (decide (a1 < 0))) (IntKind.u64.wrap (bt126.2 + bt128.1)) bt128.2).bind fun t131 => (if t131 = true then (if bt126.1 > 0 then (some (false, 0, 0, false)) else (if (IntKind.u64.wrap (bt126.2 + bt128.1)) < bt126.2 then (some (false, 0, 0, false)) else ((spec_WideOk.f false (IntKind.u64.wrap (bt126.2 + bt128.1)) bt128.2).bind fun t132 => (if t132 = true then (some (false, IntKind.u64.wrap (bt126.2 + bt128.1), bt128.2, true)) else (some (false, 0, 0, false)))))) else (if bt126.1 > 0 then (some (false, 0, 0, false)) else (if (IntKind.u64.wrap (bt126.2 + bt128.1)) < bt126.2 then (some (false, 0, 0, false)) else ((spec_WideOk.f (a0_0 != (decide (a1 < 0))) (IntKind.u64.wrap (bt126.2 + bt128.1)) bt128.2).bind fun t133 => (if t133 = true then (some ((a0_0 != (decide (a1 < 0))), IntKind.u64.wrap (bt126.2 + bt128.1), bt128.2, true)) else (some (false, 0, 0, false))))))))))) else (some (false, 0, 0, false)))) = some (r1, r2, r3, r4) := h
 clear h
 replace H := Option.bind_eq_some_iff.mp H
 obtain ⟨t124, A30, H⟩ := H
 replace H : (if t124 = true then ((spec_l3Abs.f a1).bind fun t125 => ((spec_l3Product.f a0_1 t125).bind fun bt126 => ((spec_l3Product.f a0_2 t125).bind fun bt128 => ((spec_l3Zero.f (a0_0 != (decide (a1 < 0))) (IntKind.u64.wrap (bt126.2 + bt128.1)) bt128.2).bind fun t131 => (if t131 = true then (if bt126.1 > 0 then (some (false, 0, 0, false)) else (if (IntKind.u64.wrap (bt126.2 + bt128.1)) < bt126.2 then (some (false, 0, 0, false)) else ((spec_WideOk.f false (IntKind.u64.wrap (bt126.2 + bt128.1)) bt128.2).bind fun t132 => (if t132 = true then (some (false, IntKind.u64.wrap (bt126.2 + bt128.1), bt128.2, true)) else (some (false, 0, 0, false)))))) else (if bt126.1 > 0 then (some (false, 0, 0, false)) else (if (IntKind.u64.wrap (bt126.2 + bt128.1)) < bt126.2 then (some (false, 0, 0, false)) else ((spec_WideOk.f (a0_0 != (decide (a1 < 0))) (IntKind.u64.wrap (bt126.2 + bt128.1)) bt128.2).bind fun t133 => (if t133 = true then (some ((a0_0 != (decide (a1 < 0))), IntKind.u64.wrap (bt126.2 + bt128.1), bt128.2, true)) else (some (false, 0, 0, false))))))))))) else (some (false, 0, 0, false))) = some (r1, r2, r3, r4) := H
 have A3 := Aside0.mk A30
 clear A30
 by_cases c4 : t124 = true
 ·subst c4
  have H1 : ((spec_l3Abs.f a1).bind fun t125 => ((spec_l3Product.f a0_1 t125).bind fun bt126 => ((spec_l3Product.f a0_2 t125).bind fun bt128 => ((spec_l3Zero.f (a0_0 != (decide (a1 < 0))) (IntKind.u64.wrap (bt126.2 + bt128.1)) bt128.2).bind fun t131 => (if t131 = true then (if bt126.1 > 0 then (some (false, 0, 0, false)) else (if (IntKind.u64.wrap (bt126.2 + bt128.1)) < bt126.2 then (some (false, 0, 0, false)) else ((spec_WideOk.f false (IntKind.u64.wrap (bt126.2 + bt128.1)) bt128.2).bind fun t132 => (if t132 = true then (some (false, IntKind.u64.wrap (bt126.2 + bt128.1), bt128.2, true)) else (some (false, 0, 0, false)))))) else (if bt126.1 > 0 then (some (false, 0, 0, false)) else (if (IntKind.u64.wrap (bt126.2 + bt128.1)) < bt126.2 then (some (false, 0, 0, false)) else ((spec_WideOk.f (a0_0 != (decide (a1 < 0))) (IntKind.u64.wrap (bt126.2 + bt128.1)) bt128.2).bind fun t133 => (if t133 = true then (some ((a0_0 != (decide (a1 < 0))), IntKind.u64.wrap (bt126.2 + bt128.1), bt128.2, true)) else (some (false, 0, 0, false))))))))))) = some (r1, r2, r3, r4) := by rw [if_pos rfl] at H; exact H
  clear H
  have H := H1
  clear H1
  replace H := Option.bind_eq_some_iff.mp H
  obtain ⟨t125, A50, H⟩ := H
  replace H : ((spec_l3Product.f a0_1 t125).bind fun bt126 => ((spec_l3Product.f a0_2 t125).bind fun bt128 => ((spec_l3Zero.f (a0_0 != (decide (a1 < 0))) (IntKind.u64.wrap (bt126.2 + bt128.1)) bt128.2).bind fun t131 => (if t131 = true then (if bt126.1 > 0 then (some (false, 0, 0, false)) else (if (IntKind.u64.wrap (bt126.2 + bt128.1)) < bt126.2 then (some (false, 0, 0, false)) else ((spec_WideOk.f false (IntKind.u64.wrap (bt126.2 + bt128.1)) bt128.2).bind fun t132 => (if t132 = true then (some (false, IntKind.u64.wrap (bt126.2 + bt128.1), bt128.2, true)) else (some (false, 0, 0, false)))))) else (if bt126.1 > 0 then (some (false, 0, 0, false)) else (if (IntKind.u64.wrap (bt126.2 + bt128.1)) < bt126.2 then (some (false, 0, 0, false)) else ((spec_WideOk.f (a0_0 != (decide (a1 < 0))) (IntKind.u64.wrap (bt126.2 + bt128.1)) bt128.2).bind fun t133 => (if t133 = true then (some ((a0_0 != (decide (a1 < 0))), IntKind.u64.wrap (bt126.2 + bt128.1), bt128.2, true)) else (some (false, 0, 0, false)))))))))) = some (r1, r2, r3, r4) := H
  have A5 := Aside0.mk A50
  clear A50
  replace H := Option.bind_eq_some_iff.mp H
  obtain ⟨⟨t126, t127⟩, A60, H⟩ := H
  replace H : ((spec_l3Product.f a0_2 t125).bind fun bt128 => ((spec_l3Zero.f (a0_0 != (decide (a1 < 0))) (IntKind.u64.wrap (t127 + bt128.1)) bt128.2).bind fun t131 => (if t131 = true then (if t126 > 0 then (some (false, 0, 0, false)) else (if (IntKind.u64.wrap (t127 + bt128.1)) < t127 then (some (false, 0, 0, false)) else ((spec_WideOk.f false (IntKind.u64.wrap (t127 + bt128.1)) bt128.2).bind fun t132 => (if t132 = true then (some (false, IntKind.u64.wrap (t127 + bt128.1), bt128.2, true)) else (some (false, 0, 0, false)))))) else (if t126 > 0 then (some (false, 0, 0, false)) else (if (IntKind.u64.wrap (t127 + bt128.1)) < t127 then (some (false, 0, 0, false)) else ((spec_WideOk.f (a0_0 != (decide (a1 < 0))) (IntKind.u64.wrap (t127 + bt128.1)) bt128.2).bind fun t133 => (if t133 = true then (some ((a0_0 != (decide (a1 < 0))), IntKind.u64.wrap (t127 + bt128.1), bt128.2, true)) else (some (false, 0, 0, false))))))))) = some (r1, r2, r3, r4) := H
  have A6 := Aside0.mk A60
  clear A60
  replace H := Option.bind_eq_some_iff.mp H
  obtain ⟨⟨t128, t129⟩, A70, H⟩ := H
  replace H : ((spec_l3Zero.f (a0_0 != (decide (a1 < 0))) (IntKind.u64.wrap (t127 + t128)) t129).bind fun t131 => (if t131 = true then (if t126 > 0 then (some (false, 0, 0, false)) else (if (IntKind.u64.wrap (t127 + t128)) < t127 then (some (false, 0, 0, false)) else ((spec_WideOk.f false (IntKind.u64.wrap (t127 + t128)) t129).bind fun t132 => (if t132 = true then (some (false, IntKind.u64.wrap (t127 + t128), t129, true)) else (some (false, 0, 0, false)))))) else (if t126 > 0 then (some (false, 0, 0, false)) else (if (IntKind.u64.wrap (t127 + t128)) < t127 then (some (false, 0, 0, false)) else ((spec_WideOk.f (a0_0 != (decide (a1 < 0))) (IntKind.u64.wrap (t127 + t128)) t129).bind fun t133 => (if t133 = true then (some ((a0_0 != (decide (a1 < 0))), IntKind.u64.wrap (t127 + t128), t129, true)) else (some (false, 0, 0, false)))))))) = some (r1, r2, r3, r4) := H
  have A7 := Aside0.mk A70
  clear A70
  replace H := Option.bind_eq_some_iff.mp H
  obtain ⟨t131, A80, H⟩ := H
  replace H : (if t131 = true then (if t126 > 0 then (some (false, 0, 0, false)) else (if (IntKind.u64.wrap (t127 + t128)) < t127 then (some (false, 0, 0, false)) else ((spec_WideOk.f false (IntKind.u64.wrap (t127 + t128)) t129).bind fun t132 => (if t132 = true then (some (false, IntKind.u64.wrap (t127 + t128), t129, true)) else (some (false, 0, 0, false)))))) else (if t126 > 0 then (some (false, 0, 0, false)) else (if (IntKind.u64.wrap (t127 + t128)) < t127 then (some (false, 0, 0, false)) else ((spec_WideOk.f (a0_0 != (decide (a1 < 0))) (IntKind.u64.wrap (t127 + t128)) t129).bind fun t133 => (if t133 = true then (some ((a0_0 != (decide (a1 < 0))), IntKind.u64.wrap (t127 + t128), t129, true)) else (some (false, 0, 0, false))))))) = some (r1, r2, r3, r4) := H
  have A8 := Aside0.mk A80
  clear A80
  by_cases c9 : t131 = true
  ·subst c9
   have H1 : (if t126 > 0 then (some (false, 0, 0, false)) else (if (IntKind.u64.wrap (t127 + t128)) < t127 then (some (false, 0, 0, false)) else ((spec_WideOk.f false (IntKind.u64.wrap (t127 + t128)) t129).bind fun t132 => (if t132 = true then (some (false, IntKind.u64.wrap (t127 + t128), t129, true)) else (some (false, 0, 0, false)))))) = some (r1, r2, r3, r4) := by rw [if_pos rfl] at H; exact H
   clear H
   have H := H1
   clear H1
   by_cases c10 : t126 > 0
   ·rw [if_pos c10] at H
    have c10b0 : decide (0 < t126) = true := decide_eq_true c10
    clear c10
    simp only [Option.some.injEq, Prod.mk.injEq] at H
    obtain ⟨rfl, rfl, rfl, rfl⟩ := H
    go_enter Tryd.func58, Tryd.ntmps58
    go_wp2_with (first | ((with_reducible refine gate_dst (N := 2) rfl ?_); refine box_event ?hg (N := 2) ?hd (cs := #[.bool a0_0, .int .u64 a0_1, .int .u64 a0_2]) (t := 28) ?hr ?_; (case hd => rfl); (case hg => rfl); (case hr => first | (go_simp; done) | (go_simp; rfl)); intro gb122 hg w11 hbox hb; have BK122 := Aside0.mk (hbox); have GW122 := bs_ (w := w) hg; have GE122 := bs_ (w := w) hg; replace HB := Aside0.mk (below_step bel_ hb); clear hb hbox hg) | ((with_reducible refine gate_dst (N := 4) rfl ?_); refine box_event ?hg (N := 4) ?hd (cs := #[.bool false, .int .u64 0, .int .u64 0]) (t := 28) ?hr ?_; (case hd => rfl); (case hg => rfl); (case hr => first | (go_simp; done) | (go_simp; rfl)); intro gb123 hg w12 hbox hb; have BK123 := Aside0.mk (hbox); have GW123 := bs_ (w := w) hg; have GE123 := bs_ (w := w) hg; have NB122_123 := nlt_ (g := gb122) hg; have NB123_122 := ngt_ (g := gb122) hg; replace HB := Aside0.mk (below_step bel_ hb); replace BK122 := bb_ (g := gb122) hb; clear hb hbox hg; have hnb13 := NB122_123.out; have hnc13 := NB123_122.out; obtain ⟨hcz14_0, hcz14_1, hcz14_2, hfz14_0, hfz14_1, hfz14_2⟩ := cf3_ (w := w12) BK122.out) | ((with_reducible refine gate_callee (f := 24) rfl ?_); refine goesL_ (some 14) rfl rfl Tryd.func24 (by kernel_rfl) rfl #[.agg #[.bool a0_0, .int .u64 a0_1, .int .u64 a0_2]] rfl mp_ ?_; (with_reducible refine (spec_WideOk.calls a0_0 a0_1 a0_2 true _ A3.out).mono ?_); rintro e w15 ⟨rfl, hb⟩; refine ⟨_, rfl, ?_⟩; replace HB := Aside0.mk (below_step bel_ hb); replace BK122 := bb_ (g := gb122) hb; replace BK123 := bb_ (g := gb123) hb; (try clear hb); (try clear hb2); (try clear hk); (try clear hi)) | ((with_reducible refine gate_callee (f := 99) rfl ?_); refine goesL_ (some 18) rfl rfl Tryd.func99 (by kernel_rfl) rfl #[.int .i64 a1] rfl mp_ ?_; (with_reducible refine (spec_l3Abs.calls a1 t125 _ A5.out).mono ?_); rintro e w' ⟨rfl, ⟨nd, rfl⟩⟩; refine ⟨_, rfl, ?_⟩; (try (rw [drewN_self w15]; generalize hq_ : World.drewN w15 _ = w15; have n0_ : Aside0 (w15.heap[gb122]? = some (.cells #[.bool a0_0, .int .u64 a0_1, .int .u64 a0_2] 28 (0, 0))) := ⟨by rw [← hq_]; exact bk_⟩; have n1_ : Aside0 (w15.heap[gb123]? = some (.cells #[.bool false, .int .u64 0, .int .u64 0] 28 (0, 0))) := ⟨by rw [← hq_]; exact bk_⟩; have n2_ : Aside0 (Below w.heap.size w w15) := ⟨by rw [← hq_]; exact bel_⟩; clear BK122 BK123 HB hq_; have BK122 := n0_; have BK123 := n1_; have HB := n2_; clear n0_ n1_ n2_)); obtain ⟨hcz16_0, hcz16_1, hcz16_2, hfz16_0, hfz16_1, hfz16_2⟩ := cf3_ (w := w15) BK122.out) | ((with_reducible refine gate_callee (f := 100) rfl ?_); refine goesL_ (some 23) rfl rfl Tryd.func100 (by kernel_rfl) rfl #[.int .u64 a0_1, .int .u64 t125] rfl mp_ ?_; (with_reducible refine (spec_l3Product.calls a0_1 t125 t126 t127 _ A6.out).mono ?_); rintro e w' ⟨rfl, ⟨nd, rfl⟩⟩; refine ⟨_, rfl, ?_⟩; (try (rw [drewN_self w15]; generalize hq_ : World.drewN w15 _ = w15; have n0_ : Aside0 (w15.heap[gb122]? = some (.cells #[.bool a0_0, .int .u64 a0_1, .int .u64 a0_2] 28 (0, 0))) := ⟨by rw [← hq_]; exact bk_⟩; have n1_ : Aside0 (w15.heap[gb123]? = some (.cells #[.bool false, .int .u64 0, .int .u64 0] 28 (0, 0))) := ⟨by rw [← hq_]; exact bk_⟩; have n2_ : Aside0 (Below w.heap.size w w15) := ⟨by rw [← hq_]; exact bel_⟩; clear BK122 BK123 HB hq_; have BK122 := n0_; have BK123 := n1_; have HB := n2_; clear n0_ n1_ n2_)); (try (obtain ⟨hcz16_0, hcz16_1, hcz16_2, hfz16_0, hfz16_1, hfz16_2⟩ := cf3_ (w := w15) BK122.out))) | ((with_reducible refine gate_callee (f := 100) rfl ?_); refine goesL_ (some 30) rfl rfl Tryd.func100 (by kernel_rfl) rfl #[.int .u64 a0_2, .int .u64 t125] rfl mp_ ?_; (with_reducible refine (spec_l3Product.calls a0_2 t125 t128 t129 _ A7.out).mono ?_); rintro e w' ⟨rfl, ⟨nd, rfl⟩⟩; refine ⟨_, rfl, ?_⟩; (try (rw [drewN_self w15]; generalize hq_ : World.drewN w15 _ = w15; have n0_ : Aside0 (w15.heap[gb122]? = some (.cells #[.bool a0_0, .int .u64 a0_1, .int .u64 a0_2] 28 (0, 0))) := ⟨by rw [← hq_]; exact bk_⟩; have n1_ : Aside0 (w15.heap[gb123]? = some (.cells #[.bool false, .int .u64 0, .int .u64 0] 28 (0, 0))) := ⟨by rw [← hq_]; exact bk_⟩; have n2_ : Aside0 (Below w.heap.size w w15) := ⟨by rw [← hq_]; exact bel_⟩; clear BK122 BK123 HB hq_; have BK122 := n0_; have BK123 := n1_; have HB := n2_; clear n0_ n1_ n2_)); (try (obtain ⟨hcz16_0, hcz16_1, hcz16_2, hfz16_0, hfz16_1, hfz16_2⟩ := cf3_ (w := w15) BK122.out))) | ((with_reducible refine gate_dst (N := 12) rfl ?_); refine box_event ?hg (N := 12) ?hd (cs := #[.bool false, .int .u64 0, .int .u64 0]) (t := 28) ?hr ?_; (case hd => rfl); (case hg => rfl); (case hr => first | (go_simp; done) | (go_simp; rfl)); intro gb130 hg w17 hbox hb; have BK130 := Aside0.mk (hbox); have GW130 := bs_ (w := w) hg; have GE130 := bs_ (w := w) hg; have NB122_130 := nlt_ (g := gb122) hg; have NB130_122 := ngt_ (g := gb122) hg; have NB123_130 := nlt_ (g := gb123) hg; have NB130_123 := ngt_ (g := gb123) hg; replace HB := Aside0.mk (below_step bel_ hb); replace BK122 := bb_ (g := gb122) hb; replace BK123 := bb_ (g := gb123) hb; clear hb hbox hg; have hnb18 := NB130_122.out; have hnc18 := NB122_130.out; have hnb19 := NB130_123.out; have hnc19 := NB123_130.out; obtain ⟨hcz20_0, hcz20_1, hcz20_2, hfz20_0, hfz20_1, hfz20_2⟩ := cf3_ (w := w17) BK130.out) | ((with_reducible refine gate_callee (f := 61) rfl ?_); refine goesL_ (some 45) rfl rfl Tryd.func61 (by kernel_rfl) rfl #[.agg #[.bool (a0_0 != (decide (a1 < 0))), .int .u64 (IntKind.u64.wrap (t127 + t128)), .int .u64 t129]] rfl mp_ ?_; (with_reducible refine (spec_l3Zero.calls (a0_0 != (decide (a1 < 0))) (IntKind.u64.wrap (t127 + t128)) t129 true _ A8.out).mono ?_); rintro e w21 ⟨rfl, hb⟩; refine ⟨_, rfl, ?_⟩; replace HB := Aside0.mk (below_step bel_ hb); replace BK122 := Aside0.mk (blk_below (g := gb122) (o := .cells #[.bool a0_0, .int .u64 a0_1, .int .u64 a0_2] 28 (0, 0)) bk_ hb); replace BK123 := Aside0.mk (blk_below (g := gb123) (o := .cells #[.bool false, .int .u64 0, .int .u64 0] 28 (0, 0)) bk_ hb); replace BK130 := Aside0.mk (blk_below (g := gb130) (o := .cells #[.bool (a0_0 != (decide (a1 < 0))), .int .u64 (IntKind.u64.wrap (t127 + t128)), .int .u64 t129] 28 (0, 0)) (pu_ #[.bool (a0_0 != (decide (a1 < 0))), .int .u64 (IntKind.u64.wrap (t127 + t128)), .int .u64 0] 2 (h := (pu_ #[.bool (a0_0 != (decide (a1 < 0))), .int .u64 0, .int .u64 0] 1 (h := (pu_ #[.bool false, .int .u64 0, .int .u64 0] 0 (h := bk_)))))) hb); (try clear hb); (try clear hb2); (try clear hk); (try clear hi); obtain ⟨hcz22_0, hcz22_1, hcz22_2, hfz22_0, hfz22_1, hfz22_2⟩ := cf3_ (w := w21) BK130.out; obtain ⟨hcz23_0, hcz23_1, hcz23_2, hfz23_0, hfz23_1, hfz23_2⟩ := cf3_ (w := w21) BK123.out))
    refine bodyPost_ret (results_ct rfl _ _ gb123 28 #[.bool false, .int .u64 0, .int .u64 0] (0, 0) _ rfl (pu_ #[.bool false, .int .u64 0, .int .u64 0] 2 (h := (pu_ #[.bool false, .int .u64 0, .int .u64 0] 1 (h := (pu_ #[.bool false, .int .u64 0, .int .u64 0] 0 (h := bk_)))))) Tryd.underlying28 rfl (by kernel_rfl)) rfl ?_
    exact ⟨rf_, bel_⟩
   ·rw [if_neg c10] at H
    have c10b0 : decide (0 < t126) = false := decide_eq_false c10
    clear c10
    by_cases c24 : (IntKind.u64.wrap (t127 + t128)) < t127
    ·rw [if_pos c24] at H
     have c24b0 : decide ((IntKind.u64.wrap (t127 + t128)) < t127) = true := decide_eq_true c24
     clear c24
     simp only [Option.some.injEq, Prod.mk.injEq] at H
     obtain ⟨rfl, rfl, rfl, rfl⟩ := H
     go_enter Tryd.func58, Tryd.ntmps58
     go_wp2_with (first | ((with_reducible refine gate_dst (N := 2) rfl ?_); refine box_event ?hg (N := 2) ?hd (cs := #[.bool a0_0, .int .u64 a0_1, .int .u64 a0_2]) (t := 28) ?hr ?_; (case hd => rfl); (case hg => rfl); (case hr => first | (go_simp; done) | (go_simp; rfl)); intro gb122 hg w25 hbox hb; have BK122 := Aside0.mk (hbox); have GW122 := bs_ (w := w) hg; have GE122 := bs_ (w := w) hg; replace HB := Aside0.mk (below_step bel_ hb); clear hb hbox hg) | ((with_reducible refine gate_dst (N := 4) rfl ?_); refine box_event ?hg (N := 4) ?hd (cs := #[.bool false, .int .u64 0, .int .u64 0]) (t := 28) ?hr ?_; (case hd => rfl); (case hg => rfl); (case hr => first | (go_simp; done) | (go_simp; rfl)); intro gb123 hg w26 hbox hb; have BK123 := Aside0.mk (hbox); have GW123 := bs_ (w := w) hg; have GE123 := bs_ (w := w) hg; have NB122_123 := nlt_ (g := gb122) hg; have NB123_122 := ngt_ (g := gb122) hg; replace HB := Aside0.mk (below_step bel_ hb); replace BK122 := bb_ (g := gb122) hb; clear hb hbox hg; have hnb27 := NB122_123.out; have hnc27 := NB123_122.out; obtain ⟨hcz28_0, hcz28_1, hcz28_2, hfz28_0, hfz28_1, hfz28_2⟩ := cf3_ (w := w26) BK122.out) | ((with_reducible refine gate_callee (f := 24) rfl ?_); refine goesL_ (some 14) rfl rfl Tryd.func24 (by kernel_rfl) rfl #[.agg #[.bool a0_0, .int .u64 a0_1, .int .u64 a0_2]] rfl mp_ ?_; (with_reducible refine (spec_WideOk.calls a0_0 a0_1 a0_2 true _ A3.out).mono ?_); rintro e w29 ⟨rfl, hb⟩; refine ⟨_, rfl, ?_⟩; replace HB := Aside0.mk (below_step bel_ hb); replace BK122 := bb_ (g := gb122) hb; replace BK123 := bb_ (g := gb123) hb; (try clear hb); (try clear hb2); (try clear hk); (try clear hi)) | ((with_reducible refine gate_callee (f := 99) rfl ?_); refine goesL_ (some 18) rfl rfl Tryd.func99 (by kernel_rfl) rfl #[.int .i64 a1] rfl mp_ ?_; (with_reducible refine (spec_l3Abs.calls a1 t125 _ A5.out).mono ?_); rintro e w' ⟨rfl, ⟨nd, rfl⟩⟩; refine ⟨_, rfl, ?_⟩; (try (rw [drewN_self w29]; generalize hq_ : World.drewN w29 _ = w29; have n0_ : Aside0 (w29.heap[gb122]? = some (.cells #[.bool a0_0, .int .u64 a0_1, .int .u64 a0_2] 28 (0, 0))) := ⟨by rw [← hq_]; exact bk_⟩; have n1_ : Aside0 (w29.heap[gb123]? = some (.cells #[.bool false, .int .u64 0, .int .u64 0] 28 (0, 0))) := ⟨by rw [← hq_]; exact bk_⟩; have n2_ : Aside0 (Below w.heap.size w w29) := ⟨by rw [← hq_]; exact bel_⟩; clear BK122 BK123 HB hq_; have BK122 := n0_; have BK123 := n1_; have HB := n2_; clear n0_ n1_ n2_)); obtain ⟨hcz30_0, hcz30_1, hcz30_2, hfz30_0, hfz30_1, hfz30_2⟩ := cf3_ (w := w29) BK122.out) | ((with_reducible refine gate_callee (f := 100) rfl ?_); refine goesL_ (some 23) rfl rfl Tryd.func100 (by kernel_rfl) rfl #[.int .u64 a0_1, .int .u64 t125] rfl mp_ ?_; (with_reducible refine (spec_l3Product.calls a0_1 t125 t126 t127 _ A6.out).mono ?_); rintro e w' ⟨rfl, ⟨nd, rfl⟩⟩; refine ⟨_, rfl, ?_⟩; (try (rw [drewN_self w29]; generalize hq_ : World.drewN w29 _ = w29; have n0_ : Aside0 (w29.heap[gb122]? = some (.cells #[.bool a0_0, .int .u64 a0_1, .int .u64 a0_2] 28 (0, 0))) := ⟨by rw [← hq_]; exact bk_⟩; have n1_ : Aside0 (w29.heap[gb123]? = some (.cells #[.bool false, .int .u64 0, .int .u64 0] 28 (0, 0))) := ⟨by rw [← hq_]; exact bk_⟩; have n2_ : Aside0 (Below w.heap.size w w29) := ⟨by rw [← hq_]; exact bel_⟩; clear BK122 BK123 HB hq_; have BK122 := n0_; have BK123 := n1_; have HB := n2_; clear n0_ n1_ n2_)); (try (obtain ⟨hcz30_0, hcz30_1, hcz30_2, hfz30_0, hfz30_1, hfz30_2⟩ := cf3_ (w := w29) BK122.out))) | ((with_reducible refine gate_callee (f := 100) rfl ?_); refine goesL_ (some 30) rfl rfl Tryd.func100 (by kernel_rfl) rfl #[.int .u64 a0_2, .int .u64 t125] rfl mp_ ?_; (with_reducible refine (spec_l3Product.calls a0_2 t125 t128 t129 _ A7.out).mono ?_); rintro e w' ⟨rfl, ⟨nd, rfl⟩⟩; refine ⟨_, rfl, ?_⟩; (try (rw [drewN_self w29]; generalize hq_ : World.drewN w29 _ = w29; have n0_ : Aside0 (w29.heap[gb122]? = some (.cells #[.bool a0_0, .int .u64 a0_1, .int .u64 a0_2] 28 (0, 0))) := ⟨by rw [← hq_]; exact bk_⟩; have n1_ : Aside0 (w29.heap[gb123]? = some (.cells #[.bool false, .int .u64 0, .int .u64 0] 28 (0, 0))) := ⟨by rw [← hq_]; exact bk_⟩; have n2_ : Aside0 (Below w.heap.size w w29) := ⟨by rw [← hq_]; exact bel_⟩; clear BK122 BK123 HB hq_; have BK122 := n0_; have BK123 := n1_; have HB := n2_; clear n0_ n1_ n2_)); (try (obtain ⟨hcz30_0, hcz30_1, hcz30_2, hfz30_0, hfz30_1, hfz30_2⟩ := cf3_ (w := w29) BK122.out))) | ((with_reducible refine gate_dst (N := 12) rfl ?_); refine box_event ?hg (N := 12) ?hd (cs := #[.bool false, .int .u64 0, .int .u64 0]) (t := 28) ?hr ?_; (case hd => rfl); (case hg => rfl); (case hr => first | (go_simp; done) | (go_simp; rfl)); intro gb130 hg w31 hbox hb; have BK130 := Aside0.mk (hbox); have GW130 := bs_ (w := w) hg; have GE130 := bs_ (w := w) hg; have NB122_130 := nlt_ (g := gb122) hg; have NB130_122 := ngt_ (g := gb122) hg; have NB123_130 := nlt_ (g := gb123) hg; have NB130_123 := ngt_ (g := gb123) hg; replace HB := Aside0.mk (below_step bel_ hb); replace BK122 := bb_ (g := gb122) hb; replace BK123 := bb_ (g := gb123) hb; clear hb hbox hg; have hnb32 := NB130_122.out; have hnc32 := NB122_130.out; have hnb33 := NB130_123.out; have hnc33 := NB123_130.out; obtain ⟨hcz34_0, hcz34_1, hcz34_2, hfz34_0, hfz34_1, hfz34_2⟩ := cf3_ (w := w31) BK130.out) | ((with_reducible refine gate_callee (f := 61) rfl ?_); refine goesL_ (some 45) rfl rfl Tryd.func61 (by kernel_rfl) rfl #[.agg #[.bool (a0_0 != (decide (a1 < 0))), .int .u64 (IntKind.u64.wrap (t127 + t128)), .int .u64 t129]] rfl mp_ ?_; (with_reducible refine (spec_l3Zero.calls (a0_0 != (decide (a1 < 0))) (IntKind.u64.wrap (t127 + t128)) t129 true _ A8.out).mono ?_); rintro e w35 ⟨rfl, hb⟩; refine ⟨_, rfl, ?_⟩; replace HB := Aside0.mk (below_step bel_ hb); replace BK122 := Aside0.mk (blk_below (g := gb122) (o := .cells #[.bool a0_0, .int .u64 a0_1, .int .u64 a0_2] 28 (0, 0)) bk_ hb); replace BK123 := Aside0.mk (blk_below (g := gb123) (o := .cells #[.bool false, .int .u64 0, .int .u64 0] 28 (0, 0)) bk_ hb); replace BK130 := Aside0.mk (blk_below (g := gb130) (o := .cells #[.bool (a0_0 != (decide (a1 < 0))), .int .u64 (IntKind.u64.wrap (t127 + t128)), .int .u64 t129] 28 (0, 0)) (pu_ #[.bool (a0_0 != (decide (a1 < 0))), .int .u64 (IntKind.u64.wrap (t127 + t128)), .int .u64 0] 2 (h := (pu_ #[.bool (a0_0 != (decide (a1 < 0))), .int .u64 0, .int .u64 0] 1 (h := (pu_ #[.bool false, .int .u64 0, .int .u64 0] 0 (h := bk_)))))) hb); (try clear hb); (try clear hb2); (try clear hk); (try clear hi); obtain ⟨hcz36_0, hcz36_1, hcz36_2, hfz36_0, hfz36_1, hfz36_2⟩ := cf3_ (w := w35) BK130.out; obtain ⟨hcz37_0, hcz37_1, hcz37_2, hfz37_0, hfz37_1, hfz37_2⟩ := cf3_ (w := w35) BK123.out))
     refine bodyPost_ret (results_ct rfl _ _ gb123 28 #[.bool false, .int .u64 0, .int .u64 0] (0, 0) _ rfl (pu_ #[.bool false, .int .u64 0, .int .u64 0] 2 (h := (pu_ #[.bool false, .int .u64 0, .int .u64 0] 1 (h := (pu_ #[.bool false, .int .u64 0, .int .u64 0] 0 (h := bk_)))))) Tryd.underlying28 rfl (by kernel_rfl)) rfl ?_
     exact ⟨rf_, bel_⟩
    ·rw [if_neg c24] at H
     have c24b0 : decide ((IntKind.u64.wrap (t127 + t128)) < t127) = false := decide_eq_false c24
     clear c24
     replace H := Option.bind_eq_some_iff.mp H
     obtain ⟨t132, A380, H⟩ := H
     replace H : (if t132 = true then (some (false, IntKind.u64.wrap (t127 + t128), t129, true)) else (some (false, 0, 0, false))) = some (r1, r2, r3, r4) := H
     have A38 := Aside0.mk A380
     clear A380
     by_cases c39 : t132 = true
     ·subst c39
      have H1 : (some (false, IntKind.u64.wrap (t127 + t128), t129, true)) = some (r1, r2, r3, r4) := by rw [if_pos rfl] at H; exact H
      clear H
      have H := H1
      clear H1
      simp only [Option.some.injEq, Prod.mk.injEq] at H
      obtain ⟨rfl, rfl, rfl, rfl⟩ := H
      go_enter Tryd.func58, Tryd.ntmps58
      go_wp2_with (first | ((with_reducible refine gate_dst (N := 2) rfl ?_); refine box_event ?hg (N := 2) ?hd (cs := #[.bool a0_0, .int .u64 a0_1, .int .u64 a0_2]) (t := 28) ?hr ?_; (case hd => rfl); (case hg => rfl); (case hr => first | (go_simp; done) | (go_simp; rfl)); intro gb122 hg w40 hbox hb; have BK122 := Aside0.mk (hbox); have GW122 := bs_ (w := w) hg; have GE122 := bs_ (w := w) hg; replace HB := Aside0.mk (below_step bel_ hb); clear hb hbox hg) | ((with_reducible refine gate_dst (N := 4) rfl ?_); refine box_event ?hg (N := 4) ?hd (cs := #[.bool false, .int .u64 0, .int .u64 0]) (t := 28) ?hr ?_; (case hd => rfl); (case hg => rfl); (case hr => first | (go_simp; done) | (go_simp; rfl)); intro gb123 hg w41 hbox hb; have BK123 := Aside0.mk (hbox); have GW123 := bs_ (w := w) hg; have GE123 := bs_ (w := w) hg; have NB122_123 := nlt_ (g := gb122) hg; have NB123_122 := ngt_ (g := gb122) hg; replace HB := Aside0.mk (below_step bel_ hb); replace BK122 := bb_ (g := gb122) hb; clear hb hbox hg; have hnb42 := NB122_123.out; have hnc42 := NB123_122.out; obtain ⟨hcz43_0, hcz43_1, hcz43_2, hfz43_0, hfz43_1, hfz43_2⟩ := cf3_ (w := w41) BK122.out) | ((with_reducible refine gate_callee (f := 24) rfl ?_); refine goesL_ (some 14) rfl rfl Tryd.func24 (by kernel_rfl) rfl #[.agg #[.bool a0_0, .int .u64 a0_1, .int .u64 a0_2]] rfl mp_ ?_; (with_reducible refine (spec_WideOk.calls a0_0 a0_1 a0_2 true _ A3.out).mono ?_); rintro e w44 ⟨rfl, hb⟩; refine ⟨_, rfl, ?_⟩; replace HB := Aside0.mk (below_step bel_ hb); replace BK122 := bb_ (g := gb122) hb; replace BK123 := bb_ (g := gb123) hb; (try clear hb); (try clear hb2); (try clear hk); (try clear hi)) | ((with_reducible refine gate_callee (f := 99) rfl ?_); refine goesL_ (some 18) rfl rfl Tryd.func99 (by kernel_rfl) rfl #[.int .i64 a1] rfl mp_ ?_; (with_reducible refine (spec_l3Abs.calls a1 t125 _ A5.out).mono ?_); rintro e w' ⟨rfl, ⟨nd, rfl⟩⟩; refine ⟨_, rfl, ?_⟩; (try (rw [drewN_self w44]; generalize hq_ : World.drewN w44 _ = w44; have n0_ : Aside0 (w44.heap[gb122]? = some (.cells #[.bool a0_0, .int .u64 a0_1, .int .u64 a0_2] 28 (0, 0))) := ⟨by rw [← hq_]; exact bk_⟩; have n1_ : Aside0 (w44.heap[gb123]? = some (.cells #[.bool false, .int .u64 0, .int .u64 0] 28 (0, 0))) := ⟨by rw [← hq_]; exact bk_⟩; have n2_ : Aside0 (Below w.heap.size w w44) := ⟨by rw [← hq_]; exact bel_⟩; clear BK122 BK123 HB hq_; have BK122 := n0_; have BK123 := n1_; have HB := n2_; clear n0_ n1_ n2_)); obtain ⟨hcz45_0, hcz45_1, hcz45_2, hfz45_0, hfz45_1, hfz45_2⟩ := cf3_ (w := w44) BK122.out) | ((with_reducible refine gate_callee (f := 100) rfl ?_); refine goesL_ (some 23) rfl rfl Tryd.func100 (by kernel_rfl) rfl #[.int .u64 a0_1, .int .u64 t125] rfl mp_ ?_; (with_reducible refine (spec_l3Product.calls a0_1 t125 t126 t127 _ A6.out).mono ?_); rintro e w' ⟨rfl, ⟨nd, rfl⟩⟩; refine ⟨_, rfl, ?_⟩; (try (rw [drewN_self w44]; generalize hq_ : World.drewN w44 _ = w44; have n0_ : Aside0 (w44.heap[gb122]? = some (.cells #[.bool a0_0, .int .u64 a0_1, .int .u64 a0_2] 28 (0, 0))) := ⟨by rw [← hq_]; exact bk_⟩; have n1_ : Aside0 (w44.heap[gb123]? = some (.cells #[.bool false, .int .u64 0, .int .u64 0] 28 (0, 0))) := ⟨by rw [← hq_]; exact bk_⟩; have n2_ : Aside0 (Below w.heap.size w w44) := ⟨by rw [← hq_]; exact bel_⟩; clear BK122 BK123 HB hq_; have BK122 := n0_; have BK123 := n1_; have HB := n2_; clear n0_ n1_ n2_)); (try (obtain ⟨hcz45_0, hcz45_1, hcz45_2, hfz45_0, hfz45_1, hfz45_2⟩ := cf3_ (w := w44) BK122.out))) | ((with_reducible refine gate_callee (f := 100) rfl ?_); refine goesL_ (some 30) rfl rfl Tryd.func100 (by kernel_rfl) rfl #[.int .u64 a0_2, .int .u64 t125] rfl mp_ ?_; (with_reducible refine (spec_l3Product.calls a0_2 t125 t128 t129 _ A7.out).mono ?_); rintro e w' ⟨rfl, ⟨nd, rfl⟩⟩; refine ⟨_, rfl, ?_⟩; (try (rw [drewN_self w44]; generalize hq_ : World.drewN w44 _ = w44; have n0_ : Aside0 (w44.heap[gb122]? = some (.cells #[.bool a0_0, .int .u64 a0_1, .int .u64 a0_2] 28 (0, 0))) := ⟨by rw [← hq_]; exact bk_⟩; have n1_ : Aside0 (w44.heap[gb123]? = some (.cells #[.bool false, .int .u64 0, .int .u64 0] 28 (0, 0))) := ⟨by rw [← hq_]; exact bk_⟩; have n2_ : Aside0 (Below w.heap.size w w44) := ⟨by rw [← hq_]; exact bel_⟩; clear BK122 BK123 HB hq_; have BK122 := n0_; have BK123 := n1_; have HB := n2_; clear n0_ n1_ n2_)); (try (obtain ⟨hcz45_0, hcz45_1, hcz45_2, hfz45_0, hfz45_1, hfz45_2⟩ := cf3_ (w := w44) BK122.out))) | ((with_reducible refine gate_dst (N := 12) rfl ?_); refine box_event ?hg (N := 12) ?hd (cs := #[.bool false, .int .u64 0, .int .u64 0]) (t := 28) ?hr ?_; (case hd => rfl); (case hg => rfl); (case hr => first | (go_simp; done) | (go_simp; rfl)); intro gb130 hg w46 hbox hb; have BK130 := Aside0.mk (hbox); have GW130 := bs_ (w := w) hg; have GE130 := bs_ (w := w) hg; have NB122_130 := nlt_ (g := gb122) hg; have NB130_122 := ngt_ (g := gb122) hg; have NB123_130 := nlt_ (g := gb123) hg; have NB130_123 := ngt_ (g := gb123) hg; replace HB := Aside0.mk (below_step bel_ hb); replace BK122 := bb_ (g := gb122) hb; replace BK123 := bb_ (g := gb123) hb; clear hb hbox hg; have hnb47 := NB130_122.out; have hnc47 := NB122_130.out; have hnb48 := NB130_123.out; have hnc48 := NB123_130.out; obtain ⟨hcz49_0, hcz49_1, hcz49_2, hfz49_0, hfz49_1, hfz49_2⟩ := cf3_ (w := w46) BK130.out) | ((with_reducible refine gate_callee (f := 61) rfl ?_); refine goesL_ (some 45) rfl rfl Tryd.func61 (by kernel_rfl) rfl #[.agg #[.bool (a0_0 != (decide (a1 < 0))), .int .u64 (IntKind.u64.wrap (t127 + t128)), .int .u64 t129]] rfl mp_ ?_; (with_reducible refine (spec_l3Zero.calls (a0_0 != (decide (a1 < 0))) (IntKind.u64.wrap (t127 + t128)) t129 true _ A8.out).mono ?_); rintro e w50 ⟨rfl, hb⟩; refine ⟨_, rfl, ?_⟩; replace HB := Aside0.mk (below_step bel_ hb); replace BK122 := Aside0.mk (blk_below (g := gb122) (o := .cells #[.bool a0_0, .int .u64 a0_1, .int .u64 a0_2] 28 (0, 0)) bk_ hb); replace BK123 := Aside0.mk (blk_below (g := gb123) (o := .cells #[.bool false, .int .u64 0, .int .u64 0] 28 (0, 0)) bk_ hb); replace BK130 := Aside0.mk (blk_below (g := gb130) (o := .cells #[.bool (a0_0 != (decide (a1 < 0))), .int .u64 (IntKind.u64.wrap (t127 + t128)), .int .u64 t129] 28 (0, 0)) (pu_ #[.bool (a0_0 != (decide (a1 < 0))), .int .u64 (IntKind.u64.wrap (t127 + t128)), .int .u64 0] 2 (h := (pu_ #[.bool (a0_0 != (decide (a1 < 0))), .int .u64 0, .int .u64 0] 1 (h := (pu_ #[.bool false, .int .u64 0, .int .u64 0] 0 (h := bk_)))))) hb); (try clear hb); (try clear hb2); (try clear hk); (try clear hi); obtain ⟨hcz51_0, hcz51_1, hcz51_2, hfz51_0, hfz51_1, hfz51_2⟩ := cf3_ (w := w50) BK130.out) | (go_at_call 24; (with_reducible refine (spec_WideOk.calls false (IntKind.u64.wrap (t127 + t128)) t129 true _ A38.out).mono ?_); rintro e w52 ⟨rfl, hb⟩; replace HB := Aside0.mk (below_step bel_ hb); replace BK122 := Aside0.mk (blk_below (g := gb122) (o := .cells #[.bool a0_0, .int .u64 a0_1, .int .u64 a0_2] 28 (0, 0)) bk_ hb); replace BK123 := Aside0.mk (blk_below (g := gb123) (o := .cells #[.bool false, .int .u64 0, .int .u64 0] 28 (0, 0)) bk_ hb); replace BK130 := Aside0.mk (blk_below (g := gb130) (o := .cells #[.bool false, .int .u64 (IntKind.u64.wrap (t127 + t128)), .int .u64 t129] 28 (0, 0)) (pu_ #[.bool (a0_0 != (decide (a1 < 0))), .int .u64 (IntKind.u64.wrap (t127 + t128)), .int .u64 t129] 0 (h := bk_)) hb); (try clear hb); (try clear hb2); (try clear hk); (try clear hi); obtain ⟨hcz53_0, hcz53_1, hcz53_2, hfz53_0, hfz53_1, hfz53_2⟩ := cf3_ (w := w52) BK130.out; obtain ⟨hcz54_0, hcz54_1, hcz54_2, hfz54_0, hfz54_1, hfz54_2⟩ := cf3_ (w := w52) BK123.out))
      refine bodyPost_ret (results_ct rfl _ _ gb123 28 #[.bool false, .int .u64 (IntKind.u64.wrap (t127 + t128)), .int .u64 t129] (0, 0) _ rfl (pu_ #[.bool false, .int .u64 (IntKind.u64.wrap (t127 + t128)), .int .u64 0] 2 (h := (pu_ #[.bool false, .int .u64 0, .int .u64 0] 1 (h := (pu_ #[.bool false, .int .u64 0, .int .u64 0] 0 (h := bk_)))))) Tryd.underlying28 rfl (by kernel_rfl)) rfl ?_
      exact ⟨rf_, bel_⟩
     ·replace c39 := Bool.eq_false_iff.mpr c39
      subst c39
      have H1 : (some (false, 0, 0, false)) = some (r1, r2, r3, r4) := by rw [if_neg (show ¬ (false = true) by decide)] at H; exact H
      clear H
      have H := H1
      clear H1
      simp only [Option.some.injEq, Prod.mk.injEq] at H
      obtain ⟨rfl, rfl, rfl, rfl⟩ := H
      go_enter Tryd.func58, Tryd.ntmps58
      go_wp2_with (first | ((with_reducible refine gate_dst (N := 2) rfl ?_); refine box_event ?hg (N := 2) ?hd (cs := #[.bool a0_0, .int .u64 a0_1, .int .u64 a0_2]) (t := 28) ?hr ?_; (case hd => rfl); (case hg => rfl); (case hr => first | (go_simp; done) | (go_simp; rfl)); intro gb122 hg w55 hbox hb; have BK122 := Aside0.mk (hbox); have GW122 := bs_ (w := w) hg; have GE122 := bs_ (w := w) hg; replace HB := Aside0.mk (below_step bel_ hb); clear hb hbox hg) | ((with_reducible refine gate_dst (N := 4) rfl ?_); refine box_event ?hg (N := 4) ?hd (cs := #[.bool false, .int .u64 0, .int .u64 0]) (t := 28) ?hr ?_; (case hd => rfl); (case hg => rfl); (case hr => first | (go_simp; done) | (go_simp; rfl)); intro gb123 hg w56 hbox hb; have BK123 := Aside0.mk (hbox); have GW123 := bs_ (w := w) hg; have GE123 := bs_ (w := w) hg; have NB122_123 := nlt_ (g := gb122) hg; have NB123_122 := ngt_ (g := gb122) hg; replace HB := Aside0.mk (below_step bel_ hb); replace BK122 := bb_ (g := gb122) hb; clear hb hbox hg; have hnb57 := NB122_123.out; have hnc57 := NB123_122.out; obtain ⟨hcz58_0, hcz58_1, hcz58_2, hfz58_0, hfz58_1, hfz58_2⟩ := cf3_ (w := w56) BK122.out) | ((with_reducible refine gate_callee (f := 24) rfl ?_); refine goesL_ (some 14) rfl rfl Tryd.func24 (by kernel_rfl) rfl #[.agg #[.bool a0_0, .int .u64 a0_1, .int .u64 a0_2]] rfl mp_ ?_; (with_reducible refine (spec_WideOk.calls a0_0 a0_1 a0_2 true _ A3.out).mono ?_); rintro e w59 ⟨rfl, hb⟩; refine ⟨_, rfl, ?_⟩; replace HB := Aside0.mk (below_step bel_ hb); replace BK122 := bb_ (g := gb122) hb; replace BK123 := bb_ (g := gb123) hb; (try clear hb); (try clear hb2); (try clear hk); (try clear hi)) | ((with_reducible refine gate_callee (f := 99) rfl ?_); refine goesL_ (some 18) rfl rfl Tryd.func99 (by kernel_rfl) rfl #[.int .i64 a1] rfl mp_ ?_; (with_reducible refine (spec_l3Abs.calls a1 t125 _ A5.out).mono ?_); rintro e w' ⟨rfl, ⟨nd, rfl⟩⟩; refine ⟨_, rfl, ?_⟩; (try (rw [drewN_self w59]; generalize hq_ : World.drewN w59 _ = w59; have n0_ : Aside0 (w59.heap[gb122]? = some (.cells #[.bool a0_0, .int .u64 a0_1, .int .u64 a0_2] 28 (0, 0))) := ⟨by rw [← hq_]; exact bk_⟩; have n1_ : Aside0 (w59.heap[gb123]? = some (.cells #[.bool false, .int .u64 0, .int .u64 0] 28 (0, 0))) := ⟨by rw [← hq_]; exact bk_⟩; have n2_ : Aside0 (Below w.heap.size w w59) := ⟨by rw [← hq_]; exact bel_⟩; clear BK122 BK123 HB hq_; have BK122 := n0_; have BK123 := n1_; have HB := n2_; clear n0_ n1_ n2_)); obtain ⟨hcz60_0, hcz60_1, hcz60_2, hfz60_0, hfz60_1, hfz60_2⟩ := cf3_ (w := w59) BK122.out) | ((with_reducible refine gate_callee (f := 100) rfl ?_); refine goesL_ (some 23) rfl rfl Tryd.func100 (by kernel_rfl) rfl #[.int .u64 a0_1, .int .u64 t125] rfl mp_ ?_; (with_reducible refine (spec_l3Product.calls a0_1 t125 t126 t127 _ A6.out).mono ?_); rintro e w' ⟨rfl, ⟨nd, rfl⟩⟩; refine ⟨_, rfl, ?_⟩; (try (rw [drewN_self w59]; generalize hq_ : World.drewN w59 _ = w59; have n0_ : Aside0 (w59.heap[gb122]? = some (.cells #[.bool a0_0, .int .u64 a0_1, .int .u64 a0_2] 28 (0, 0))) := ⟨by rw [← hq_]; exact bk_⟩; have n1_ : Aside0 (w59.heap[gb123]? = some (.cells #[.bool false, .int .u64 0, .int .u64 0] 28 (0, 0))) := ⟨by rw [← hq_]; exact bk_⟩; have n2_ : Aside0 (Below w.heap.size w w59) := ⟨by rw [← hq_]; exact bel_⟩; clear BK122 BK123 HB hq_; have BK122 := n0_; have BK123 := n1_; have HB := n2_; clear n0_ n1_ n2_)); (try (obtain ⟨hcz60_0, hcz60_1, hcz60_2, hfz60_0, hfz60_1, hfz60_2⟩ := cf3_ (w := w59) BK122.out))) | ((with_reducible refine gate_callee (f := 100) rfl ?_); refine goesL_ (some 30) rfl rfl Tryd.func100 (by kernel_rfl) rfl #[.int .u64 a0_2, .int .u64 t125] rfl mp_ ?_; (with_reducible refine (spec_l3Product.calls a0_2 t125 t128 t129 _ A7.out).mono ?_); rintro e w' ⟨rfl, ⟨nd, rfl⟩⟩; refine ⟨_, rfl, ?_⟩; (try (rw [drewN_self w59]; generalize hq_ : World.drewN w59 _ = w59; have n0_ : Aside0 (w59.heap[gb122]? = some (.cells #[.bool a0_0, .int .u64 a0_1, .int .u64 a0_2] 28 (0, 0))) := ⟨by rw [← hq_]; exact bk_⟩; have n1_ : Aside0 (w59.heap[gb123]? = some (.cells #[.bool false, .int .u64 0, .int .u64 0] 28 (0, 0))) := ⟨by rw [← hq_]; exact bk_⟩; have n2_ : Aside0 (Below w.heap.size w w59) := ⟨by rw [← hq_]; exact bel_⟩; clear BK122 BK123 HB hq_; have BK122 := n0_; have BK123 := n1_; have HB := n2_; clear n0_ n1_ n2_)); (try (obtain ⟨hcz60_0, hcz60_1, hcz60_2, hfz60_0, hfz60_1, hfz60_2⟩ := cf3_ (w := w59) BK122.out))) | ((with_reducible refine gate_dst (N := 12) rfl ?_); refine box_event ?hg (N := 12) ?hd (cs := #[.bool false, .int .u64 0, .int .u64 0]) (t := 28) ?hr ?_; (case hd => rfl); (case hg => rfl); (case hr => first | (go_simp; done) | (go_simp; rfl)); intro gb130 hg w61 hbox hb; have BK130 := Aside0.mk (hbox); have GW130 := bs_ (w := w) hg; have GE130 := bs_ (w := w) hg; have NB122_130 := nlt_ (g := gb122) hg; have NB130_122 := ngt_ (g := gb122) hg; have NB123_130 := nlt_ (g := gb123) hg; have NB130_123 := ngt_ (g := gb123) hg; replace HB := Aside0.mk (below_step bel_ hb); replace BK122 := bb_ (g := gb122) hb; replace BK123 := bb_ (g := gb123) hb; clear hb hbox hg; have hnb62 := NB130_122.out; have hnc62 := NB122_130.out; have hnb63 := NB130_123.out; have hnc63 := NB123_130.out; obtain ⟨hcz64_0, hcz64_1, hcz64_2, hfz64_0, hfz64_1, hfz64_2⟩ := cf3_ (w := w61) BK130.out) | ((with_reducible refine gate_callee (f := 61) rfl ?_); refine goesL_ (some 45) rfl rfl Tryd.func61 (by kernel_rfl) rfl #[.agg #[.bool (a0_0 != (decide (a1 < 0))), .int .u64 (IntKind.u64.wrap (t127 + t128)), .int .u64 t129]] rfl mp_ ?_; (with_reducible refine (spec_l3Zero.calls (a0_0 != (decide (a1 < 0))) (IntKind.u64.wrap (t127 + t128)) t129 true _ A8.out).mono ?_); rintro e w65 ⟨rfl, hb⟩; refine ⟨_, rfl, ?_⟩; replace HB := Aside0.mk (below_step bel_ hb); replace BK122 := Aside0.mk (blk_below (g := gb122) (o := .cells #[.bool a0_0, .int .u64 a0_1, .int .u64 a0_2] 28 (0, 0)) bk_ hb); replace BK123 := Aside0.mk (blk_below (g := gb123) (o := .cells #[.bool false, .int .u64 0, .int .u64 0] 28 (0, 0)) bk_ hb); replace BK130 := Aside0.mk (blk_below (g := gb130) (o := .cells #[.bool (a0_0 != (decide (a1 < 0))), .int .u64 (IntKind.u64.wrap (t127 + t128)), .int .u64 t129] 28 (0, 0)) (pu_ #[.bool (a0_0 != (decide (a1 < 0))), .int .u64 (IntKind.u64.wrap (t127 + t128)), .int .u64 0] 2 (h := (pu_ #[.bool (a0_0 != (decide (a1 < 0))), .int .u64 0, .int .u64 0] 1 (h := (pu_ #[.bool false, .int .u64 0, .int .u64 0] 0 (h := bk_)))))) hb); (try clear hb); (try clear hb2); (try clear hk); (try clear hi); obtain ⟨hcz66_0, hcz66_1, hcz66_2, hfz66_0, hfz66_1, hfz66_2⟩ := cf3_ (w := w65) BK130.out) | (go_at_call 24; (with_reducible refine (spec_WideOk.calls false (IntKind.u64.wrap (t127 + t128)) t129 false _ A38.out).mono ?_); rintro e w67 ⟨rfl, hb⟩; replace HB := Aside0.mk (below_step bel_ hb); replace BK122 := Aside0.mk (blk_below (g := gb122) (o := .cells #[.bool a0_0, .int .u64 a0_1, .int .u64 a0_2] 28 (0, 0)) bk_ hb); replace BK123 := Aside0.mk (blk_below (g := gb123) (o := .cells #[.bool false, .int .u64 0, .int .u64 0] 28 (0, 0)) bk_ hb); replace BK130 := Aside0.mk (blk_below (g := gb130) (o := .cells #[.bool false, .int .u64 (IntKind.u64.wrap (t127 + t128)), .int .u64 t129] 28 (0, 0)) (pu_ #[.bool (a0_0 != (decide (a1 < 0))), .int .u64 (IntKind.u64.wrap (t127 + t128)), .int .u64 t129] 0 (h := bk_)) hb); (try clear hb); (try clear hb2); (try clear hk); (try clear hi); obtain ⟨hcz68_0, hcz68_1, hcz68_2, hfz68_0, hfz68_1, hfz68_2⟩ := cf3_ (w := w67) BK123.out))
      refine bodyPost_ret (results_ct rfl _ _ gb123 28 #[.bool false, .int .u64 0, .int .u64 0] (0, 0) _ rfl (pu_ #[.bool false, .int .u64 0, .int .u64 0] 2 (h := (pu_ #[.bool false, .int .u64 0, .int .u64 0] 1 (h := (pu_ #[.bool false, .int .u64 0, .int .u64 0] 0 (h := bk_)))))) Tryd.underlying28 rfl (by kernel_rfl)) rfl ?_
      exact ⟨rf_, bel_⟩
  ·replace c9 := Bool.eq_false_iff.mpr c9
   subst c9
   have H1 : (if t126 > 0 then (some (false, 0, 0, false)) else (if (IntKind.u64.wrap (t127 + t128)) < t127 then (some (false, 0, 0, false)) else ((spec_WideOk.f (a0_0 != (decide (a1 < 0))) (IntKind.u64.wrap (t127 + t128)) t129).bind fun t133 => (if t133 = true then (some ((a0_0 != (decide (a1 < 0))), IntKind.u64.wrap (t127 + t128), t129, true)) else (some (false, 0, 0, false)))))) = some (r1, r2, r3, r4) := by rw [if_neg (show ¬ (false = true) by decide)] at H; exact H
   clear H
   have H := H1
   clear H1
   by_cases c69 : t126 > 0
   ·rw [if_pos c69] at H
    have c69b0 : decide (0 < t126) = true := decide_eq_true c69
    clear c69
    simp only [Option.some.injEq, Prod.mk.injEq] at H
    obtain ⟨rfl, rfl, rfl, rfl⟩ := H
    go_enter Tryd.func58, Tryd.ntmps58
    go_wp2_with (first | ((with_reducible refine gate_dst (N := 2) rfl ?_); refine box_event ?hg (N := 2) ?hd (cs := #[.bool a0_0, .int .u64 a0_1, .int .u64 a0_2]) (t := 28) ?hr ?_; (case hd => rfl); (case hg => rfl); (case hr => first | (go_simp; done) | (go_simp; rfl)); intro gb122 hg w70 hbox hb; have BK122 := Aside0.mk (hbox); have GW122 := bs_ (w := w) hg; have GE122 := bs_ (w := w) hg; replace HB := Aside0.mk (below_step bel_ hb); clear hb hbox hg) | ((with_reducible refine gate_dst (N := 4) rfl ?_); refine box_event ?hg (N := 4) ?hd (cs := #[.bool false, .int .u64 0, .int .u64 0]) (t := 28) ?hr ?_; (case hd => rfl); (case hg => rfl); (case hr => first | (go_simp; done) | (go_simp; rfl)); intro gb123 hg w71 hbox hb; have BK123 := Aside0.mk (hbox); have GW123 := bs_ (w := w) hg; have GE123 := bs_ (w := w) hg; have NB122_123 := nlt_ (g := gb122) hg; have NB123_122 := ngt_ (g := gb122) hg; replace HB := Aside0.mk (below_step bel_ hb); replace BK122 := bb_ (g := gb122) hb; clear hb hbox hg; have hnb72 := NB122_123.out; have hnc72 := NB123_122.out; obtain ⟨hcz73_0, hcz73_1, hcz73_2, hfz73_0, hfz73_1, hfz73_2⟩ := cf3_ (w := w71) BK122.out) | ((with_reducible refine gate_callee (f := 24) rfl ?_); refine goesL_ (some 14) rfl rfl Tryd.func24 (by kernel_rfl) rfl #[.agg #[.bool a0_0, .int .u64 a0_1, .int .u64 a0_2]] rfl mp_ ?_; (with_reducible refine (spec_WideOk.calls a0_0 a0_1 a0_2 true _ A3.out).mono ?_); rintro e w74 ⟨rfl, hb⟩; refine ⟨_, rfl, ?_⟩; replace HB := Aside0.mk (below_step bel_ hb); replace BK122 := bb_ (g := gb122) hb; replace BK123 := bb_ (g := gb123) hb; (try clear hb); (try clear hb2); (try clear hk); (try clear hi)) | ((with_reducible refine gate_callee (f := 99) rfl ?_); refine goesL_ (some 18) rfl rfl Tryd.func99 (by kernel_rfl) rfl #[.int .i64 a1] rfl mp_ ?_; (with_reducible refine (spec_l3Abs.calls a1 t125 _ A5.out).mono ?_); rintro e w' ⟨rfl, ⟨nd, rfl⟩⟩; refine ⟨_, rfl, ?_⟩; (try (rw [drewN_self w74]; generalize hq_ : World.drewN w74 _ = w74; have n0_ : Aside0 (w74.heap[gb122]? = some (.cells #[.bool a0_0, .int .u64 a0_1, .int .u64 a0_2] 28 (0, 0))) := ⟨by rw [← hq_]; exact bk_⟩; have n1_ : Aside0 (w74.heap[gb123]? = some (.cells #[.bool false, .int .u64 0, .int .u64 0] 28 (0, 0))) := ⟨by rw [← hq_]; exact bk_⟩; have n2_ : Aside0 (Below w.heap.size w w74) := ⟨by rw [← hq_]; exact bel_⟩; clear BK122 BK123 HB hq_; have BK122 := n0_; have BK123 := n1_; have HB := n2_; clear n0_ n1_ n2_)); obtain ⟨hcz75_0, hcz75_1, hcz75_2, hfz75_0, hfz75_1, hfz75_2⟩ := cf3_ (w := w74) BK122.out) | ((with_reducible refine gate_callee (f := 100) rfl ?_); refine goesL_ (some 23) rfl rfl Tryd.func100 (by kernel_rfl) rfl #[.int .u64 a0_1, .int .u64 t125] rfl mp_ ?_; (with_reducible refine (spec_l3Product.calls a0_1 t125 t126 t127 _ A6.out).mono ?_); rintro e w' ⟨rfl, ⟨nd, rfl⟩⟩; refine ⟨_, rfl, ?_⟩; (try (rw [drewN_self w74]; generalize hq_ : World.drewN w74 _ = w74; have n0_ : Aside0 (w74.heap[gb122]? = some (.cells #[.bool a0_0, .int .u64 a0_1, .int .u64 a0_2] 28 (0, 0))) := ⟨by rw [← hq_]; exact bk_⟩; have n1_ : Aside0 (w74.heap[gb123]? = some (.cells #[.bool false, .int .u64 0, .int .u64 0] 28 (0, 0))) := ⟨by rw [← hq_]; exact bk_⟩; have n2_ : Aside0 (Below w.heap.size w w74) := ⟨by rw [← hq_]; exact bel_⟩; clear BK122 BK123 HB hq_; have BK122 := n0_; have BK123 := n1_; have HB := n2_; clear n0_ n1_ n2_)); (try (obtain ⟨hcz75_0, hcz75_1, hcz75_2, hfz75_0, hfz75_1, hfz75_2⟩ := cf3_ (w := w74) BK122.out))) | ((with_reducible refine gate_callee (f := 100) rfl ?_); refine goesL_ (some 30) rfl rfl Tryd.func100 (by kernel_rfl) rfl #[.int .u64 a0_2, .int .u64 t125] rfl mp_ ?_; (with_reducible refine (spec_l3Product.calls a0_2 t125 t128 t129 _ A7.out).mono ?_); rintro e w' ⟨rfl, ⟨nd, rfl⟩⟩; refine ⟨_, rfl, ?_⟩; (try (rw [drewN_self w74]; generalize hq_ : World.drewN w74 _ = w74; have n0_ : Aside0 (w74.heap[gb122]? = some (.cells #[.bool a0_0, .int .u64 a0_1, .int .u64 a0_2] 28 (0, 0))) := ⟨by rw [← hq_]; exact bk_⟩; have n1_ : Aside0 (w74.heap[gb123]? = some (.cells #[.bool false, .int .u64 0, .int .u64 0] 28 (0, 0))) := ⟨by rw [← hq_]; exact bk_⟩; have n2_ : Aside0 (Below w.heap.size w w74) := ⟨by rw [← hq_]; exact bel_⟩; clear BK122 BK123 HB hq_; have BK122 := n0_; have BK123 := n1_; have HB := n2_; clear n0_ n1_ n2_)); (try (obtain ⟨hcz75_0, hcz75_1, hcz75_2, hfz75_0, hfz75_1, hfz75_2⟩ := cf3_ (w := w74) BK122.out))) | ((with_reducible refine gate_dst (N := 12) rfl ?_); refine box_event ?hg (N := 12) ?hd (cs := #[.bool false, .int .u64 0, .int .u64 0]) (t := 28) ?hr ?_; (case hd => rfl); (case hg => rfl); (case hr => first | (go_simp; done) | (go_simp; rfl)); intro gb130 hg w76 hbox hb; have BK130 := Aside0.mk (hbox); have GW130 := bs_ (w := w) hg; have GE130 := bs_ (w := w) hg; have NB122_130 := nlt_ (g := gb122) hg; have NB130_122 := ngt_ (g := gb122) hg; have NB123_130 := nlt_ (g := gb123) hg; have NB130_123 := ngt_ (g := gb123) hg; replace HB := Aside0.mk (below_step bel_ hb); replace BK122 := bb_ (g := gb122) hb; replace BK123 := bb_ (g := gb123) hb; clear hb hbox hg; have hnb77 := NB130_122.out; have hnc77 := NB122_130.out; have hnb78 := NB130_123.out; have hnc78 := NB123_130.out; obtain ⟨hcz79_0, hcz79_1, hcz79_2, hfz79_0, hfz79_1, hfz79_2⟩ := cf3_ (w := w76) BK130.out) | ((with_reducible refine gate_callee (f := 61) rfl ?_); refine goesL_ (some 45) rfl rfl Tryd.func61 (by kernel_rfl) rfl #[.agg #[.bool (a0_0 != (decide (a1 < 0))), .int .u64 (IntKind.u64.wrap (t127 + t128)), .int .u64 t129]] rfl mp_ ?_; (with_reducible refine (spec_l3Zero.calls (a0_0 != (decide (a1 < 0))) (IntKind.u64.wrap (t127 + t128)) t129 false _ A8.out).mono ?_); rintro e w80 ⟨rfl, hb⟩; refine ⟨_, rfl, ?_⟩; replace HB := Aside0.mk (below_step bel_ hb); replace BK122 := Aside0.mk (blk_below (g := gb122) (o := .cells #[.bool a0_0, .int .u64 a0_1, .int .u64 a0_2] 28 (0, 0)) bk_ hb); replace BK123 := Aside0.mk (blk_below (g := gb123) (o := .cells #[.bool false, .int .u64 0, .int .u64 0] 28 (0, 0)) bk_ hb); replace BK130 := Aside0.mk (blk_below (g := gb130) (o := .cells #[.bool (a0_0 != (decide (a1 < 0))), .int .u64 (IntKind.u64.wrap (t127 + t128)), .int .u64 t129] 28 (0, 0)) (pu_ #[.bool (a0_0 != (decide (a1 < 0))), .int .u64 (IntKind.u64.wrap (t127 + t128)), .int .u64 0] 2 (h := (pu_ #[.bool (a0_0 != (decide (a1 < 0))), .int .u64 0, .int .u64 0] 1 (h := (pu_ #[.bool false, .int .u64 0, .int .u64 0] 0 (h := bk_)))))) hb); (try clear hb); (try clear hb2); (try clear hk); (try clear hi); obtain ⟨hcz81_0, hcz81_1, hcz81_2, hfz81_0, hfz81_1, hfz81_2⟩ := cf3_ (w := w80) BK123.out))
    refine bodyPost_ret (results_ct rfl _ _ gb123 28 #[.bool false, .int .u64 0, .int .u64 0] (0, 0) _ rfl (pu_ #[.bool false, .int .u64 0, .int .u64 0] 2 (h := (pu_ #[.bool false, .int .u64 0, .int .u64 0] 1 (h := (pu_ #[.bool false, .int .u64 0, .int .u64 0] 0 (h := bk_)))))) Tryd.underlying28 rfl (by kernel_rfl)) rfl ?_
    exact ⟨rf_, bel_⟩
   ·rw [if_neg c69] at H
    have c69b0 : decide (0 < t126) = false := decide_eq_false c69
    clear c69
    by_cases c82 : (IntKind.u64.wrap (t127 + t128)) < t127
    ·rw [if_pos c82] at H
     have c82b0 : decide ((IntKind.u64.wrap (t127 + t128)) < t127) = true := decide_eq_true c82
     clear c82
     simp only [Option.some.injEq, Prod.mk.injEq] at H
     obtain ⟨rfl, rfl, rfl, rfl⟩ := H
     go_enter Tryd.func58, Tryd.ntmps58
     go_wp2_with (first | ((with_reducible refine gate_dst (N := 2) rfl ?_); refine box_event ?hg (N := 2) ?hd (cs := #[.bool a0_0, .int .u64 a0_1, .int .u64 a0_2]) (t := 28) ?hr ?_; (case hd => rfl); (case hg => rfl); (case hr => first | (go_simp; done) | (go_simp; rfl)); intro gb122 hg w83 hbox hb; have BK122 := Aside0.mk (hbox); have GW122 := bs_ (w := w) hg; have GE122 := bs_ (w := w) hg; replace HB := Aside0.mk (below_step bel_ hb); clear hb hbox hg) | ((with_reducible refine gate_dst (N := 4) rfl ?_); refine box_event ?hg (N := 4) ?hd (cs := #[.bool false, .int .u64 0, .int .u64 0]) (t := 28) ?hr ?_; (case hd => rfl); (case hg => rfl); (case hr => first | (go_simp; done) | (go_simp; rfl)); intro gb123 hg w84 hbox hb; have BK123 := Aside0.mk (hbox); have GW123 := bs_ (w := w) hg; have GE123 := bs_ (w := w) hg; have NB122_123 := nlt_ (g := gb122) hg; have NB123_122 := ngt_ (g := gb122) hg; replace HB := Aside0.mk (below_step bel_ hb); replace BK122 := bb_ (g := gb122) hb; clear hb hbox hg; have hnb85 := NB122_123.out; have hnc85 := NB123_122.out; obtain ⟨hcz86_0, hcz86_1, hcz86_2, hfz86_0, hfz86_1, hfz86_2⟩ := cf3_ (w := w84) BK122.out) | ((with_reducible refine gate_callee (f := 24) rfl ?_); refine goesL_ (some 14) rfl rfl Tryd.func24 (by kernel_rfl) rfl #[.agg #[.bool a0_0, .int .u64 a0_1, .int .u64 a0_2]] rfl mp_ ?_; (with_reducible refine (spec_WideOk.calls a0_0 a0_1 a0_2 true _ A3.out).mono ?_); rintro e w87 ⟨rfl, hb⟩; refine ⟨_, rfl, ?_⟩; replace HB := Aside0.mk (below_step bel_ hb); replace BK122 := bb_ (g := gb122) hb; replace BK123 := bb_ (g := gb123) hb; (try clear hb); (try clear hb2); (try clear hk); (try clear hi)) | ((with_reducible refine gate_callee (f := 99) rfl ?_); refine goesL_ (some 18) rfl rfl Tryd.func99 (by kernel_rfl) rfl #[.int .i64 a1] rfl mp_ ?_; (with_reducible refine (spec_l3Abs.calls a1 t125 _ A5.out).mono ?_); rintro e w' ⟨rfl, ⟨nd, rfl⟩⟩; refine ⟨_, rfl, ?_⟩; (try (rw [drewN_self w87]; generalize hq_ : World.drewN w87 _ = w87; have n0_ : Aside0 (w87.heap[gb122]? = some (.cells #[.bool a0_0, .int .u64 a0_1, .int .u64 a0_2] 28 (0, 0))) := ⟨by rw [← hq_]; exact bk_⟩; have n1_ : Aside0 (w87.heap[gb123]? = some (.cells #[.bool false, .int .u64 0, .int .u64 0] 28 (0, 0))) := ⟨by rw [← hq_]; exact bk_⟩; have n2_ : Aside0 (Below w.heap.size w w87) := ⟨by rw [← hq_]; exact bel_⟩; clear BK122 BK123 HB hq_; have BK122 := n0_; have BK123 := n1_; have HB := n2_; clear n0_ n1_ n2_)); obtain ⟨hcz88_0, hcz88_1, hcz88_2, hfz88_0, hfz88_1, hfz88_2⟩ := cf3_ (w := w87) BK122.out) | ((with_reducible refine gate_callee (f := 100) rfl ?_); refine goesL_ (some 23) rfl rfl Tryd.func100 (by kernel_rfl) rfl #[.int .u64 a0_1, .int .u64 t125] rfl mp_ ?_; (with_reducible refine (spec_l3Product.calls a0_1 t125 t126 t127 _ A6.out).mono ?_); rintro e w' ⟨rfl, ⟨nd, rfl⟩⟩; refine ⟨_, rfl, ?_⟩; (try (rw [drewN_self w87]; generalize hq_ : World.drewN w87 _ = w87; have n0_ : Aside0 (w87.heap[gb122]? = some (.cells #[.bool a0_0, .int .u64 a0_1, .int .u64 a0_2] 28 (0, 0))) := ⟨by rw [← hq_]; exact bk_⟩; have n1_ : Aside0 (w87.heap[gb123]? = some (.cells #[.bool false, .int .u64 0, .int .u64 0] 28 (0, 0))) := ⟨by rw [← hq_]; exact bk_⟩; have n2_ : Aside0 (Below w.heap.size w w87) := ⟨by rw [← hq_]; exact bel_⟩; clear BK122 BK123 HB hq_; have BK122 := n0_; have BK123 := n1_; have HB := n2_; clear n0_ n1_ n2_)); (try (obtain ⟨hcz88_0, hcz88_1, hcz88_2, hfz88_0, hfz88_1, hfz88_2⟩ := cf3_ (w := w87) BK122.out))) | ((with_reducible refine gate_callee (f := 100) rfl ?_); refine goesL_ (some 30) rfl rfl Tryd.func100 (by kernel_rfl) rfl #[.int .u64 a0_2, .int .u64 t125] rfl mp_ ?_; (with_reducible refine (spec_l3Product.calls a0_2 t125 t128 t129 _ A7.out).mono ?_); rintro e w' ⟨rfl, ⟨nd, rfl⟩⟩; refine ⟨_, rfl, ?_⟩; (try (rw [drewN_self w87]; generalize hq_ : World.drewN w87 _ = w87; have n0_ : Aside0 (w87.heap[gb122]? = some (.cells #[.bool a0_0, .int .u64 a0_1, .int .u64 a0_2] 28 (0, 0))) := ⟨by rw [← hq_]; exact bk_⟩; have n1_ : Aside0 (w87.heap[gb123]? = some (.cells #[.bool false, .int .u64 0, .int .u64 0] 28 (0, 0))) := ⟨by rw [← hq_]; exact bk_⟩; have n2_ : Aside0 (Below w.heap.size w w87) := ⟨by rw [← hq_]; exact bel_⟩; clear BK122 BK123 HB hq_; have BK122 := n0_; have BK123 := n1_; have HB := n2_; clear n0_ n1_ n2_)); (try (obtain ⟨hcz88_0, hcz88_1, hcz88_2, hfz88_0, hfz88_1, hfz88_2⟩ := cf3_ (w := w87) BK122.out))) | ((with_reducible refine gate_dst (N := 12) rfl ?_); refine box_event ?hg (N := 12) ?hd (cs := #[.bool false, .int .u64 0, .int .u64 0]) (t := 28) ?hr ?_; (case hd => rfl); (case hg => rfl); (case hr => first | (go_simp; done) | (go_simp; rfl)); intro gb130 hg w89 hbox hb; have BK130 := Aside0.mk (hbox); have GW130 := bs_ (w := w) hg; have GE130 := bs_ (w := w) hg; have NB122_130 := nlt_ (g := gb122) hg; have NB130_122 := ngt_ (g := gb122) hg; have NB123_130 := nlt_ (g := gb123) hg; have NB130_123 := ngt_ (g := gb123) hg; replace HB := Aside0.mk (below_step bel_ hb); replace BK122 := bb_ (g := gb122) hb; replace BK123 := bb_ (g := gb123) hb; clear hb hbox hg; have hnb90 := NB130_122.out; have hnc90 := NB122_130.out; have hnb91 := NB130_123.out; have hnc91 := NB123_130.out; obtain ⟨hcz92_0, hcz92_1, hcz92_2, hfz92_0, hfz92_1, hfz92_2⟩ := cf3_ (w := w89) BK130.out) | ((with_reducible refine gate_callee (f := 61) rfl ?_); refine goesL_ (some 45) rfl rfl Tryd.func61 (by kernel_rfl) rfl #[.agg #[.bool (a0_0 != (decide (a1 < 0))), .int .u64 (IntKind.u64.wrap (t127 + t128)), .int .u64 t129]] rfl mp_ ?_; (with_reducible refine (spec_l3Zero.calls (a0_0 != (decide (a1 < 0))) (IntKind.u64.wrap (t127 + t128)) t129 false _ A8.out).mono ?_); rintro e w93 ⟨rfl, hb⟩; refine ⟨_, rfl, ?_⟩; replace HB := Aside0.mk (below_step bel_ hb); replace BK122 := Aside0.mk (blk_below (g := gb122) (o := .cells #[.bool a0_0, .int .u64 a0_1, .int .u64 a0_2] 28 (0, 0)) bk_ hb); replace BK123 := Aside0.mk (blk_below (g := gb123) (o := .cells #[.bool false, .int .u64 0, .int .u64 0] 28 (0, 0)) bk_ hb); replace BK130 := Aside0.mk (blk_below (g := gb130) (o := .cells #[.bool (a0_0 != (decide (a1 < 0))), .int .u64 (IntKind.u64.wrap (t127 + t128)), .int .u64 t129] 28 (0, 0)) (pu_ #[.bool (a0_0 != (decide (a1 < 0))), .int .u64 (IntKind.u64.wrap (t127 + t128)), .int .u64 0] 2 (h := (pu_ #[.bool (a0_0 != (decide (a1 < 0))), .int .u64 0, .int .u64 0] 1 (h := (pu_ #[.bool false, .int .u64 0, .int .u64 0] 0 (h := bk_)))))) hb); (try clear hb); (try clear hb2); (try clear hk); (try clear hi); obtain ⟨hcz94_0, hcz94_1, hcz94_2, hfz94_0, hfz94_1, hfz94_2⟩ := cf3_ (w := w93) BK123.out))
     refine bodyPost_ret (results_ct rfl _ _ gb123 28 #[.bool false, .int .u64 0, .int .u64 0] (0, 0) _ rfl (pu_ #[.bool false, .int .u64 0, .int .u64 0] 2 (h := (pu_ #[.bool false, .int .u64 0, .int .u64 0] 1 (h := (pu_ #[.bool false, .int .u64 0, .int .u64 0] 0 (h := bk_)))))) Tryd.underlying28 rfl (by kernel_rfl)) rfl ?_
     exact ⟨rf_, bel_⟩
    ·rw [if_neg c82] at H
     have c82b0 : decide ((IntKind.u64.wrap (t127 + t128)) < t127) = false := decide_eq_false c82
     clear c82
     replace H := Option.bind_eq_some_iff.mp H
     obtain ⟨t133, A950, H⟩ := H
     replace H : (if t133 = true then (some ((a0_0 != (decide (a1 < 0))), IntKind.u64.wrap (t127 + t128), t129, true)) else (some (false, 0, 0, false))) = some (r1, r2, r3, r4) := H
     have A95 := Aside0.mk A950
     clear A950
     by_cases c96 : t133 = true
     ·subst c96
      have H1 : (some ((a0_0 != (decide (a1 < 0))), IntKind.u64.wrap (t127 + t128), t129, true)) = some (r1, r2, r3, r4) := by rw [if_pos rfl] at H; exact H
      clear H
      have H := H1
      clear H1
      simp only [Option.some.injEq, Prod.mk.injEq] at H
      obtain ⟨rfl, rfl, rfl, rfl⟩ := H
      go_enter Tryd.func58, Tryd.ntmps58
      go_wp2_with (first | ((with_reducible refine gate_dst (N := 2) rfl ?_); refine box_event ?hg (N := 2) ?hd (cs := #[.bool a0_0, .int .u64 a0_1, .int .u64 a0_2]) (t := 28) ?hr ?_; (case hd => rfl); (case hg => rfl); (case hr => first | (go_simp; done) | (go_simp; rfl)); intro gb122 hg w97 hbox hb; have BK122 := Aside0.mk (hbox); have GW122 := bs_ (w := w) hg; have GE122 := bs_ (w := w) hg; replace HB := Aside0.mk (below_step bel_ hb); clear hb hbox hg) | ((with_reducible refine gate_dst (N := 4) rfl ?_); refine box_event ?hg (N := 4) ?hd (cs := #[.bool false, .int .u64 0, .int .u64 0]) (t := 28) ?hr ?_; (case hd => rfl); (case hg => rfl); (case hr => first | (go_simp; done) | (go_simp; rfl)); intro gb123 hg w98 hbox hb; have BK123 := Aside0.mk (hbox); have GW123 := bs_ (w := w) hg; have GE123 := bs_ (w := w) hg; have NB122_123 := nlt_ (g := gb122) hg; have NB123_122 := ngt_ (g := gb122) hg; replace HB := Aside0.mk (below_step bel_ hb); replace BK122 := bb_ (g := gb122) hb; clear hb hbox hg; have hnb99 := NB122_123.out; have hnc99 := NB123_122.out; obtain ⟨hcz100_0, hcz100_1, hcz100_2, hfz100_0, hfz100_1, hfz100_2⟩ := cf3_ (w := w98) BK122.out) | ((with_reducible refine gate_callee (f := 24) rfl ?_); refine goesL_ (some 14) rfl rfl Tryd.func24 (by kernel_rfl) rfl #[.agg #[.bool a0_0, .int .u64 a0_1, .int .u64 a0_2]] rfl mp_ ?_; (with_reducible refine (spec_WideOk.calls a0_0 a0_1 a0_2 true _ A3.out).mono ?_); rintro e w101 ⟨rfl, hb⟩; refine ⟨_, rfl, ?_⟩; replace HB := Aside0.mk (below_step bel_ hb); replace BK122 := bb_ (g := gb122) hb; replace BK123 := bb_ (g := gb123) hb; (try clear hb); (try clear hb2); (try clear hk); (try clear hi)) | ((with_reducible refine gate_callee (f := 99) rfl ?_); refine goesL_ (some 18) rfl rfl Tryd.func99 (by kernel_rfl) rfl #[.int .i64 a1] rfl mp_ ?_; (with_reducible refine (spec_l3Abs.calls a1 t125 _ A5.out).mono ?_); rintro e w' ⟨rfl, ⟨nd, rfl⟩⟩; refine ⟨_, rfl, ?_⟩; (try (rw [drewN_self w101]; generalize hq_ : World.drewN w101 _ = w101; have n0_ : Aside0 (w101.heap[gb122]? = some (.cells #[.bool a0_0, .int .u64 a0_1, .int .u64 a0_2] 28 (0, 0))) := ⟨by rw [← hq_]; exact bk_⟩; have n1_ : Aside0 (w101.heap[gb123]? = some (.cells #[.bool false, .int .u64 0, .int .u64 0] 28 (0, 0))) := ⟨by rw [← hq_]; exact bk_⟩; have n2_ : Aside0 (Below w.heap.size w w101) := ⟨by rw [← hq_]; exact bel_⟩; clear BK122 BK123 HB hq_; have BK122 := n0_; have BK123 := n1_; have HB := n2_; clear n0_ n1_ n2_)); obtain ⟨hcz102_0, hcz102_1, hcz102_2, hfz102_0, hfz102_1, hfz102_2⟩ := cf3_ (w := w101) BK122.out) | ((with_reducible refine gate_callee (f := 100) rfl ?_); refine goesL_ (some 23) rfl rfl Tryd.func100 (by kernel_rfl) rfl #[.int .u64 a0_1, .int .u64 t125] rfl mp_ ?_; (with_reducible refine (spec_l3Product.calls a0_1 t125 t126 t127 _ A6.out).mono ?_); rintro e w' ⟨rfl, ⟨nd, rfl⟩⟩; refine ⟨_, rfl, ?_⟩; (try (rw [drewN_self w101]; generalize hq_ : World.drewN w101 _ = w101; have n0_ : Aside0 (w101.heap[gb122]? = some (.cells #[.bool a0_0, .int .u64 a0_1, .int .u64 a0_2] 28 (0, 0))) := ⟨by rw [← hq_]; exact bk_⟩; have n1_ : Aside0 (w101.heap[gb123]? = some (.cells #[.bool false, .int .u64 0, .int .u64 0] 28 (0, 0))) := ⟨by rw [← hq_]; exact bk_⟩; have n2_ : Aside0 (Below w.heap.size w w101) := ⟨by rw [← hq_]; exact bel_⟩; clear BK122 BK123 HB hq_; have BK122 := n0_; have BK123 := n1_; have HB := n2_; clear n0_ n1_ n2_)); (try (obtain ⟨hcz102_0, hcz102_1, hcz102_2, hfz102_0, hfz102_1, hfz102_2⟩ := cf3_ (w := w101) BK122.out))) | ((with_reducible refine gate_callee (f := 100) rfl ?_); refine goesL_ (some 30) rfl rfl Tryd.func100 (by kernel_rfl) rfl #[.int .u64 a0_2, .int .u64 t125] rfl mp_ ?_; (with_reducible refine (spec_l3Product.calls a0_2 t125 t128 t129 _ A7.out).mono ?_); rintro e w' ⟨rfl, ⟨nd, rfl⟩⟩; refine ⟨_, rfl, ?_⟩; (try (rw [drewN_self w101]; generalize hq_ : World.drewN w101 _ = w101; have n0_ : Aside0 (w101.heap[gb122]? = some (.cells #[.bool a0_0, .int .u64 a0_1, .int .u64 a0_2] 28 (0, 0))) := ⟨by rw [← hq_]; exact bk_⟩; have n1_ : Aside0 (w101.heap[gb123]? = some (.cells #[.bool false, .int .u64 0, .int .u64 0] 28 (0, 0))) := ⟨by rw [← hq_]; exact bk_⟩; have n2_ : Aside0 (Below w.heap.size w w101) := ⟨by rw [← hq_]; exact bel_⟩; clear BK122 BK123 HB hq_; have BK122 := n0_; have BK123 := n1_; have HB := n2_; clear n0_ n1_ n2_)); (try (obtain ⟨hcz102_0, hcz102_1, hcz102_2, hfz102_0, hfz102_1, hfz102_2⟩ := cf3_ (w := w101) BK122.out))) | ((with_reducible refine gate_dst (N := 12) rfl ?_); refine box_event ?hg (N := 12) ?hd (cs := #[.bool false, .int .u64 0, .int .u64 0]) (t := 28) ?hr ?_; (case hd => rfl); (case hg => rfl); (case hr => first | (go_simp; done) | (go_simp; rfl)); intro gb130 hg w103 hbox hb; have BK130 := Aside0.mk (hbox); have GW130 := bs_ (w := w) hg; have GE130 := bs_ (w := w) hg; have NB122_130 := nlt_ (g := gb122) hg; have NB130_122 := ngt_ (g := gb122) hg; have NB123_130 := nlt_ (g := gb123) hg; have NB130_123 := ngt_ (g := gb123) hg; replace HB := Aside0.mk (below_step bel_ hb); replace BK122 := bb_ (g := gb122) hb; replace BK123 := bb_ (g := gb123) hb; clear hb hbox hg; have hnb104 := NB130_122.out; have hnc104 := NB122_130.out; have hnb105 := NB130_123.out; have hnc105 := NB123_130.out; obtain ⟨hcz106_0, hcz106_1, hcz106_2, hfz106_0, hfz106_1, hfz106_2⟩ := cf3_ (w := w103) BK130.out) | ((with_reducible refine gate_callee (f := 61) rfl ?_); refine goesL_ (some 45) rfl rfl Tryd.func61 (by kernel_rfl) rfl #[.agg #[.bool (a0_0 != (decide (a1 < 0))), .int .u64 (IntKind.u64.wrap (t127 + t128)), .int .u64 t129]] rfl mp_ ?_; (with_reducible refine (spec_l3Zero.calls (a0_0 != (decide (a1 < 0))) (IntKind.u64.wrap (t127 + t128)) t129 false _ A8.out).mono ?_); rintro e w107 ⟨rfl, hb⟩; refine ⟨_, rfl, ?_⟩; replace HB := Aside0.mk (below_step bel_ hb); replace BK122 := Aside0.mk (blk_below (g := gb122) (o := .cells #[.bool a0_0, .int .u64 a0_1, .int .u64 a0_2] 28 (0, 0)) bk_ hb); replace BK123 := Aside0.mk (blk_below (g := gb123) (o := .cells #[.bool false, .int .u64 0, .int .u64 0] 28 (0, 0)) bk_ hb); replace BK130 := Aside0.mk (blk_below (g := gb130) (o := .cells #[.bool (a0_0 != (decide (a1 < 0))), .int .u64 (IntKind.u64.wrap (t127 + t128)), .int .u64 t129] 28 (0, 0)) (pu_ #[.bool (a0_0 != (decide (a1 < 0))), .int .u64 (IntKind.u64.wrap (t127 + t128)), .int .u64 0] 2 (h := (pu_ #[.bool (a0_0 != (decide (a1 < 0))), .int .u64 0, .int .u64 0] 1 (h := (pu_ #[.bool false, .int .u64 0, .int .u64 0] 0 (h := bk_)))))) hb); (try clear hb); (try clear hb2); (try clear hk); (try clear hi); obtain ⟨hcz108_0, hcz108_1, hcz108_2, hfz108_0, hfz108_1, hfz108_2⟩ := cf3_ (w := w107) BK130.out) | (go_at_call 24; (with_reducible refine (spec_WideOk.calls (a0_0 != (decide (a1 < 0))) (IntKind.u64.wrap (t127 + t128)) t129 true _ A95.out).mono ?_); rintro e w109 ⟨rfl, hb⟩; replace HB := Aside0.mk (below_step bel_ hb); replace BK122 := bb_ (g := gb122) hb; replace BK123 := bb_ (g := gb123) hb; replace BK130 := bb_ (g := gb130) hb; (try clear hb); (try clear hb2); (try clear hk); (try clear hi); obtain ⟨hcz110_0, hcz110_1, hcz110_2, hfz110_0, hfz110_1, hfz110_2⟩ := cf3_ (w := w109) BK130.out; obtain ⟨hcz111_0, hcz111_1, hcz111_2, hfz111_0, hfz111_1, hfz111_2⟩ := cf3_ (w := w109) BK123.out))
      refine bodyPost_ret (results_ct rfl _ _ gb123 28 #[.bool (a0_0 != (decide (a1 < 0))), .int .u64 (IntKind.u64.wrap (t127 + t128)), .int .u64 t129] (0, 0) _ rfl (pu_ #[.bool (a0_0 != (decide (a1 < 0))), .int .u64 (IntKind.u64.wrap (t127 + t128)), .int .u64 0] 2 (h := (pu_ #[.bool (a0_0 != (decide (a1 < 0))), .int .u64 0, .int .u64 0] 1 (h := (pu_ #[.bool false, .int .u64 0, .int .u64 0] 0 (h := bk_)))))) Tryd.underlying28 rfl (by kernel_rfl)) rfl ?_
      exact ⟨rf_, bel_⟩
     ·replace c96 := Bool.eq_false_iff.mpr c96
      subst c96
      have H1 : (some (false, 0, 0, false)) = some (r1, r2, r3, r4) := by rw [if_neg (show ¬ (false = true) by decide)] at H; exact H
      clear H
      have H := H1
      clear H1
      simp only [Option.some.injEq, Prod.mk.injEq] at H
      obtain ⟨rfl, rfl, rfl, rfl⟩ := H
      go_enter Tryd.func58, Tryd.ntmps58
      go_wp2_with (first | ((with_reducible refine gate_dst (N := 2) rfl ?_); refine box_event ?hg (N := 2) ?hd (cs := #[.bool a0_0, .int .u64 a0_1, .int .u64 a0_2]) (t := 28) ?hr ?_; (case hd => rfl); (case hg => rfl); (case hr => first | (go_simp; done) | (go_simp; rfl)); intro gb122 hg w112 hbox hb; have BK122 := Aside0.mk (hbox); have GW122 := bs_ (w := w) hg; have GE122 := bs_ (w := w) hg; replace HB := Aside0.mk (below_step bel_ hb); clear hb hbox hg) | ((with_reducible refine gate_dst (N := 4) rfl ?_); refine box_event ?hg (N := 4) ?hd (cs := #[.bool false, .int .u64 0, .int .u64 0]) (t := 28) ?hr ?_; (case hd => rfl); (case hg => rfl); (case hr => first | (go_simp; done) | (go_simp; rfl)); intro gb123 hg w113 hbox hb; have BK123 := Aside0.mk (hbox); have GW123 := bs_ (w := w) hg; have GE123 := bs_ (w := w) hg; have NB122_123 := nlt_ (g := gb122) hg; have NB123_122 := ngt_ (g := gb122) hg; replace HB := Aside0.mk (below_step bel_ hb); replace BK122 := bb_ (g := gb122) hb; clear hb hbox hg; have hnb114 := NB122_123.out; have hnc114 := NB123_122.out; obtain ⟨hcz115_0, hcz115_1, hcz115_2, hfz115_0, hfz115_1, hfz115_2⟩ := cf3_ (w := w113) BK122.out) | ((with_reducible refine gate_callee (f := 24) rfl ?_); refine goesL_ (some 14) rfl rfl Tryd.func24 (by kernel_rfl) rfl #[.agg #[.bool a0_0, .int .u64 a0_1, .int .u64 a0_2]] rfl mp_ ?_; (with_reducible refine (spec_WideOk.calls a0_0 a0_1 a0_2 true _ A3.out).mono ?_); rintro e w116 ⟨rfl, hb⟩; refine ⟨_, rfl, ?_⟩; replace HB := Aside0.mk (below_step bel_ hb); replace BK122 := bb_ (g := gb122) hb; replace BK123 := bb_ (g := gb123) hb; (try clear hb); (try clear hb2); (try clear hk); (try clear hi)) | ((with_reducible refine gate_callee (f := 99) rfl ?_); refine goesL_ (some 18) rfl rfl Tryd.func99 (by kernel_rfl) rfl #[.int .i64 a1] rfl mp_ ?_; (with_reducible refine (spec_l3Abs.calls a1 t125 _ A5.out).mono ?_); rintro e w' ⟨rfl, ⟨nd, rfl⟩⟩; refine ⟨_, rfl, ?_⟩; (try (rw [drewN_self w116]; generalize hq_ : World.drewN w116 _ = w116; have n0_ : Aside0 (w116.heap[gb122]? = some (.cells #[.bool a0_0, .int .u64 a0_1, .int .u64 a0_2] 28 (0, 0))) := ⟨by rw [← hq_]; exact bk_⟩; have n1_ : Aside0 (w116.heap[gb123]? = some (.cells #[.bool false, .int .u64 0, .int .u64 0] 28 (0, 0))) := ⟨by rw [← hq_]; exact bk_⟩; have n2_ : Aside0 (Below w.heap.size w w116) := ⟨by rw [← hq_]; exact bel_⟩; clear BK122 BK123 HB hq_; have BK122 := n0_; have BK123 := n1_; have HB := n2_; clear n0_ n1_ n2_)); obtain ⟨hcz117_0, hcz117_1, hcz117_2, hfz117_0, hfz117_1, hfz117_2⟩ := cf3_ (w := w116) BK122.out) | ((with_reducible refine gate_callee (f := 100) rfl ?_); refine goesL_ (some 23) rfl rfl Tryd.func100 (by kernel_rfl) rfl #[.int .u64 a0_1, .int .u64 t125] rfl mp_ ?_; (with_reducible refine (spec_l3Product.calls a0_1 t125 t126 t127 _ A6.out).mono ?_); rintro e w' ⟨rfl, ⟨nd, rfl⟩⟩; refine ⟨_, rfl, ?_⟩; (try (rw [drewN_self w116]; generalize hq_ : World.drewN w116 _ = w116; have n0_ : Aside0 (w116.heap[gb122]? = some (.cells #[.bool a0_0, .int .u64 a0_1, .int .u64 a0_2] 28 (0, 0))) := ⟨by rw [← hq_]; exact bk_⟩; have n1_ : Aside0 (w116.heap[gb123]? = some (.cells #[.bool false, .int .u64 0, .int .u64 0] 28 (0, 0))) := ⟨by rw [← hq_]; exact bk_⟩; have n2_ : Aside0 (Below w.heap.size w w116) := ⟨by rw [← hq_]; exact bel_⟩; clear BK122 BK123 HB hq_; have BK122 := n0_; have BK123 := n1_; have HB := n2_; clear n0_ n1_ n2_)); (try (obtain ⟨hcz117_0, hcz117_1, hcz117_2, hfz117_0, hfz117_1, hfz117_2⟩ := cf3_ (w := w116) BK122.out))) | ((with_reducible refine gate_callee (f := 100) rfl ?_); refine goesL_ (some 30) rfl rfl Tryd.func100 (by kernel_rfl) rfl #[.int .u64 a0_2, .int .u64 t125] rfl mp_ ?_; (with_reducible refine (spec_l3Product.calls a0_2 t125 t128 t129 _ A7.out).mono ?_); rintro e w' ⟨rfl, ⟨nd, rfl⟩⟩; refine ⟨_, rfl, ?_⟩; (try (rw [drewN_self w116]; generalize hq_ : World.drewN w116 _ = w116; have n0_ : Aside0 (w116.heap[gb122]? = some (.cells #[.bool a0_0, .int .u64 a0_1, .int .u64 a0_2] 28 (0, 0))) := ⟨by rw [← hq_]; exact bk_⟩; have n1_ : Aside0 (w116.heap[gb123]? = some (.cells #[.bool false, .int .u64 0, .int .u64 0] 28 (0, 0))) := ⟨by rw [← hq_]; exact bk_⟩; have n2_ : Aside0 (Below w.heap.size w w116) := ⟨by rw [← hq_]; exact bel_⟩; clear BK122 BK123 HB hq_; have BK122 := n0_; have BK123 := n1_; have HB := n2_; clear n0_ n1_ n2_)); (try (obtain ⟨hcz117_0, hcz117_1, hcz117_2, hfz117_0, hfz117_1, hfz117_2⟩ := cf3_ (w := w116) BK122.out))) | ((with_reducible refine gate_dst (N := 12) rfl ?_); refine box_event ?hg (N := 12) ?hd (cs := #[.bool false, .int .u64 0, .int .u64 0]) (t := 28) ?hr ?_; (case hd => rfl); (case hg => rfl); (case hr => first | (go_simp; done) | (go_simp; rfl)); intro gb130 hg w118 hbox hb; have BK130 := Aside0.mk (hbox); have GW130 := bs_ (w := w) hg; have GE130 := bs_ (w := w) hg; have NB122_130 := nlt_ (g := gb122) hg; have NB130_122 := ngt_ (g := gb122) hg; have NB123_130 := nlt_ (g := gb123) hg; have NB130_123 := ngt_ (g := gb123) hg; replace HB := Aside0.mk (below_step bel_ hb); replace BK122 := bb_ (g := gb122) hb; replace BK123 := bb_ (g := gb123) hb; clear hb hbox hg; have hnb119 := NB130_122.out; have hnc119 := NB122_130.out; have hnb120 := NB130_123.out; have hnc120 := NB123_130.out; obtain ⟨hcz121_0, hcz121_1, hcz121_2, hfz121_0, hfz121_1, hfz121_2⟩ := cf3_ (w := w118) BK130.out) | ((with_reducible refine gate_callee (f := 61) rfl ?_); refine goesL_ (some 45) rfl rfl Tryd.func61 (by kernel_rfl) rfl #[.agg #[.bool (a0_0 != (decide (a1 < 0))), .int .u64 (IntKind.u64.wrap (t127 + t128)), .int .u64 t129]] rfl mp_ ?_; (with_reducible refine (spec_l3Zero.calls (a0_0 != (decide (a1 < 0))) (IntKind.u64.wrap (t127 + t128)) t129 false _ A8.out).mono ?_); rintro e w122 ⟨rfl, hb⟩; refine ⟨_, rfl, ?_⟩; replace HB := Aside0.mk (below_step bel_ hb); replace BK122 := Aside0.mk (blk_below (g := gb122) (o := .cells #[.bool a0_0, .int .u64 a0_1, .int .u64 a0_2] 28 (0, 0)) bk_ hb); replace BK123 := Aside0.mk (blk_below (g := gb123) (o := .cells #[.bool false, .int .u64 0, .int .u64 0] 28 (0, 0)) bk_ hb); replace BK130 := Aside0.mk (blk_below (g := gb130) (o := .cells #[.bool (a0_0 != (decide (a1 < 0))), .int .u64 (IntKind.u64.wrap (t127 + t128)), .int .u64 t129] 28 (0, 0)) (pu_ #[.bool (a0_0 != (decide (a1 < 0))), .int .u64 (IntKind.u64.wrap (t127 + t128)), .int .u64 0] 2 (h := (pu_ #[.bool (a0_0 != (decide (a1 < 0))), .int .u64 0, .int .u64 0] 1 (h := (pu_ #[.bool false, .int .u64 0, .int .u64 0] 0 (h := bk_)))))) hb); (try clear hb); (try clear hb2); (try clear hk); (try clear hi); obtain ⟨hcz123_0, hcz123_1, hcz123_2, hfz123_0, hfz123_1, hfz123_2⟩ := cf3_ (w := w122) BK130.out) | (go_at_call 24; (with_reducible refine (spec_WideOk.calls (a0_0 != (decide (a1 < 0))) (IntKind.u64.wrap (t127 + t128)) t129 false _ A95.out).mono ?_); rintro e w124 ⟨rfl, hb⟩; replace HB := Aside0.mk (below_step bel_ hb); replace BK122 := bb_ (g := gb122) hb; replace BK123 := bb_ (g := gb123) hb; replace BK130 := bb_ (g := gb130) hb; (try clear hb); (try clear hb2); (try clear hk); (try clear hi); obtain ⟨hcz125_0, hcz125_1, hcz125_2, hfz125_0, hfz125_1, hfz125_2⟩ := cf3_ (w := w124) BK123.out))
      refine bodyPost_ret (results_ct rfl _ _ gb123 28 #[.bool false, .int .u64 0, .int .u64 0] (0, 0) _ rfl (pu_ #[.bool false, .int .u64 0, .int .u64 0] 2 (h := (pu_ #[.bool false, .int .u64 0, .int .u64 0] 1 (h := (pu_ #[.bool false, .int .u64 0, .int .u64 0] 0 (h := bk_)))))) Tryd.underlying28 rfl (by kernel_rfl)) rfl ?_
      exact ⟨rf_, bel_⟩
 ·replace c4 := Bool.eq_false_iff.mpr c4
  subst c4
  have H1 : (some (false, 0, 0, false)) = some (r1, r2, r3, r4) := by rw [if_neg (show ¬ (false = true) by decide)] at H; exact H
  clear H
  have H := H1
  clear H1
  simp only [Option.some.injEq, Prod.mk.injEq] at H
  obtain ⟨rfl, rfl, rfl, rfl⟩ := H
  go_enter Tryd.func58, Tryd.ntmps58
  go_wp2_with (first | ((with_reducible refine gate_dst (N := 2) rfl ?_); refine box_event ?hg (N := 2) ?hd (cs := #[.bool a0_0, .int .u64 a0_1, .int .u64 a0_2]) (t := 28) ?hr ?_; (case hd => rfl); (case hg => rfl); (case hr => first | (go_simp; done) | (go_simp; rfl)); intro gb122 hg w126 hbox hb; have BK122 := Aside0.mk (hbox); have GW122 := bs_ (w := w) hg; have GE122 := bs_ (w := w) hg; replace HB := Aside0.mk (below_step bel_ hb); clear hb hbox hg) | ((with_reducible refine gate_dst (N := 4) rfl ?_); refine box_event ?hg (N := 4) ?hd (cs := #[.bool false, .int .u64 0, .int .u64 0]) (t := 28) ?hr ?_; (case hd => rfl); (case hg => rfl); (case hr => first | (go_simp; done) | (go_simp; rfl)); intro gb123 hg w127 hbox hb; have BK123 := Aside0.mk (hbox); have GW123 := bs_ (w := w) hg; have GE123 := bs_ (w := w) hg; have NB122_123 := nlt_ (g := gb122) hg; have NB123_122 := ngt_ (g := gb122) hg; replace HB := Aside0.mk (below_step bel_ hb); replace BK122 := bb_ (g := gb122) hb; clear hb hbox hg; have hnb128 := NB122_123.out; have hnc128 := NB123_122.out; obtain ⟨hcz129_0, hcz129_1, hcz129_2, hfz129_0, hfz129_1, hfz129_2⟩ := cf3_ (w := w127) BK122.out) | ((with_reducible refine gate_callee (f := 24) rfl ?_); refine goesL_ (some 14) rfl rfl Tryd.func24 (by kernel_rfl) rfl #[.agg #[.bool a0_0, .int .u64 a0_1, .int .u64 a0_2]] rfl mp_ ?_; (with_reducible refine (spec_WideOk.calls a0_0 a0_1 a0_2 false _ A3.out).mono ?_); rintro e w130 ⟨rfl, hb⟩; refine ⟨_, rfl, ?_⟩; replace HB := Aside0.mk (below_step bel_ hb); replace BK122 := bb_ (g := gb122) hb; replace BK123 := bb_ (g := gb123) hb; (try clear hb); (try clear hb2); (try clear hk); (try clear hi); obtain ⟨hcz131_0, hcz131_1, hcz131_2, hfz131_0, hfz131_1, hfz131_2⟩ := cf3_ (w := w130) BK123.out))
  refine bodyPost_ret (results_ct rfl _ _ gb123 28 #[.bool false, .int .u64 0, .int .u64 0] (0, 0) _ rfl (pu_ #[.bool false, .int .u64 0, .int .u64 0] 2 (h := (pu_ #[.bool false, .int .u64 0, .int .u64 0] 1 (h := (pu_ #[.bool false, .int .u64 0, .int .u64 0] 0 (h := bk_)))))) Tryd.underlying28 rfl (by kernel_rfl)) rfl ?_
  exact ⟨rf_, bel_⟩
end Go.Proofs.YtkpgpifkbdpnkaaDoor.PFnFracSum
