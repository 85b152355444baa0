/- Contracts of Go functions, each with the Lean function that says what it computes: begun by the print, turned by this session. No condition beyond what each theorem states. -/
import Derived.Test.YtodbmgnhcglcnaaDoorPFnExactReadFixx0
import Derived.Test.YtodbmgnhcglcnaaDoorPFnExactReadFixx3
namespace Go.Proofs.YtodbmgnhcglcnaaDoor.PFnExactReadFix
open Go.RowKit Go.Proofs.YtodbmgnhcglcnaaDoorW.PrintWords Go.Proofs.YtodbmgnhcglcnaaDoorW.PrintLast Go.Proofs.YtodbmgnhcglcnaaDoorW.PrintMore
attribute [local go_sem] max2_int min2_int max_two min_two max_three min_three max_four min_four   -- for this text's walks alone
set_option linter.unusedVariables false
set_option linter.unusedSimpArgs false

/-! ### strings_Trim: function 92, by the shelf -/
def strings_Trim.f (a0 : ByteArray) (a1 : ByteArray) : Option (ByteArray) := if a1 = ⟨#[48, 49, 50, 51, 52, 53, 54, 55, 56, 57]⟩ ∧ a0.size ≤ 9223372036854775807 then some ⟨(Lib.trimS a0.data.toList a1.data.toList).toArray⟩ else none
theorem strings_Trim.calls (a0 : ByteArray) (a1 : ByteArray) (r : ByteArray) (w : World) (h : strings_Trim.f a0 a1 = some r) :
    Calls Tryd.prog 92 #[.string a0, .string a1] w fun e w' => e = .returned (.string r) ∧ Below w.heap.size w w' := by
  unfold strings_Trim.f at h
  by_cases c : a1 = ⟨#[48, 49, 50, 51, 52, 53, 54, 55, 56, 57]⟩ ∧ a0.size ≤ 9223372036854775807
  · rw [if_pos c] at h
    obtain rfl := Option.some.inj h
    rw [c.1]
    refine (Any.strings_Trim_laid Tryd.lays160 (by kernel_rfl) a0 ⟨#[48, 49, 50, 51, 52, 53, 54, 55, 56, 57]⟩ w c.2 (by decide) (ascii_of_all (by decide))).mono ?_
    rintro e w' ⟨rfl, hb⟩
    exact ⟨rfl, hb⟩
  · rw [if_neg c] at h
    cases h

/-! ### impl_areDigits: function 65 -/
def impl_areDigits.f (a0 : ByteArray) : Option (Bool) := if a0.toList = ([] : List UInt8) then (some false) else ((strings_Trim.f a0 (⟨#[48, 49, 50, 51, 52, 53, 54, 55, 56, 57]⟩ : ByteArray)).bind fun t142 => (some (t142.toList == ([] : List UInt8))))
set_option maxHeartbeats 8000000 in
set_option maxRecDepth 100000 in
theorem impl_areDigits.calls (a0 : ByteArray) (r : Bool) (w : World) (h : impl_areDigits.f a0 = some r) :
    Calls Tryd.prog 65 #[.string a0] w fun e w' => e = .returned (.bool r) ∧ Below w.heap.size w w' := by
  have HB := Aside0.mk (Below.refl w.heap.size w)
  have H : (if a0.toList = ([] : List UInt8) then (some false) else ((strings_Trim.f a0 (⟨#[48, 49, 50, 51, 52, 53, 54, 55, 56, 57]⟩ : ByteArray)).bind fun t142 => (some (t142.toList == ([] : List UInt8))))) = some r := h
  clear h
  by_cases c2 : a0.toList = ([] : List UInt8)
  · rw [if_pos c2] at H
    have c2b0 : (a0.toList == ([] : List UInt8)) = true := beq_iff_eq.mpr c2
    have c2b1 : (a0.toList != ([] : List UInt8)) = false := bne_eq_false_iff_eq.mpr c2
    clear c2
    obtain rfl := Option.some.inj H
    go_enter Tryd.func65, Tryd.ntmps65
    go_wp2
    go_ret
    exact ⟨rf_, bel_⟩
  · rw [if_neg c2] at H
    have c2b0 : (a0.toList == ([] : List UInt8)) = false := beq_eq_false_iff_ne.mpr c2
    have c2b1 : (a0.toList != ([] : List UInt8)) = true := bne_iff_ne.mpr c2
    replace H := Option.bind_eq_some_iff.mp H
    obtain ⟨t142, A30, H⟩ := H
    replace H : (some (t142.toList == ([] : List UInt8))) = some r := H
    have A3 := Aside0.mk A30
    clear A30
    obtain rfl := Option.some.inj H
    go_enter Tryd.func65, Tryd.ntmps65
    go_wp2_with (first | (go_at_call 92; (with_reducible refine (strings_Trim.calls a0 (⟨#[48, 49, 50, 51, 52, 53, 54, 55, 56, 57]⟩ : ByteArray) t142 _ A3.out).mono ?_); rintro e w4 ⟨rfl, hb⟩; have n0_ := Aside0.mk (below_step bel_ hb); clear HB; have HB := n0_; clear n0_; (try clear hb); (try clear hb2); (try clear hk); (try clear hi)))
    go_ret
    exact ⟨rf_, bel_⟩

/-! ### impl_ReadFix: function 31, by its code over the shelf and the printed contracts -/
set_option maxHeartbeats 2000000 in
set_option maxRecDepth 100000 in
theorem impl_ReadFix.sl (s : ByteArray) (c : UInt8) (hs : s.size ≤ 4611686018427387904) (w : World) :
    Calls Tryd.prog 91 #[.string s, .string ⟨#[c]⟩] w fun e w' => e = .returned (.tuple #[.string ⟨(Lib.cut s.data.toList [c]).1.toArray⟩, .string ⟨(Lib.cut s.data.toList [c]).2.1.toArray⟩, .bool (Lib.cut s.data.toList [c]).2.2]) ∧ ∃ n, w' = w.drewN n := by
  have hone := Tryd.stringslite_Index_one s c w
  have hI : Lib.indexByte s.data.toList c = Lib.index s.data.toList [c] :=
    (Lib.index_one _ _).symm
  rcases Lib.indexB_cases s ⟨#[c]⟩ with hix | ⟨i, hix, hroom⟩
  · obtain ⟨e1, e2, e3⟩ := Lib.cutB_miss s ⟨#[c]⟩ hix
    simp only at e1 e2 e3 hix
    rw [e1, e2, e3]
    go_enter Tryd.func91, Tryd.ntmps91
    go_wp2_with (go_at_call 115; refine hone.mono ?_; rintro e w' ⟨rfl, rfl⟩; rw [hI, show Lib.index s.data.toList [c] = _ from hix])
    go_ret3
    exact ⟨rfl, 0, rfl⟩
  · obtain ⟨e1, e2, e3⟩ := Lib.cutB_hit s ⟨#[c]⟩ i hix
    simp only at e1 e2 e3 hix hroom
    rw [e1, e2, e3]
    have c1 : (0 : Int) ≤ ↑i := by omega
    have hz : (⟨#[c]⟩ : ByteArray).size = 1 := rfl
    rw [hz] at hroom
    have c2 : (↑i : Int) ≤ ↑s.size := by omega
    have c3 : (0 : Int) ≤ ↑i + 1 := by omega
    have c4 : (↑i + 1 : Int) ≤ ↑s.size := by omega
    go_enter Tryd.func91, Tryd.ntmps91
    go_wp2_with (go_at_call 115; refine hone.mono ?_; rintro e w' ⟨rfl, rfl⟩; rw [hI, show Lib.index s.data.toList [c] = _ from hix])
    go_region
    go_wp2
    go_ret3
    exact ⟨rfl, 1, rfl⟩
set_option maxHeartbeats 2000000 in
set_option maxRecDepth 100000 in
theorem impl_ReadFix.one (s : ByteArray) (c : UInt8) (hs : s.size ≤ 4611686018427387904) (w : World) :
    Calls Tryd.prog 64 #[.string s, .string ⟨#[c]⟩] w fun e w' => e = .returned (.tuple #[.string ⟨(Lib.cut s.data.toList [c]).1.toArray⟩, .string ⟨(Lib.cut s.data.toList [c]).2.1.toArray⟩, .bool (Lib.cut s.data.toList [c]).2.2]) ∧ ∃ n, w' = w.drewN n := by
  go_enter Tryd.func64, Tryd.ntmps64
  go_wp2_with (go_at_call 91; refine (impl_ReadFix.sl s c hs _).mono ?_; rintro e w' ⟨rfl, n, rfl⟩)
  go_ret3
  exact ⟨rfl, n, rfl⟩

def impl_ReadFix.cut (a0 : ByteArray) (a1 : ByteArray) : Option (ByteArray × ByteArray × Bool) := if a1 = ⟨#[46]⟩ ∧ a0.size ≤ 4611686018427387904 then some (⟨(Lib.cut a0.data.toList a1.data.toList).1.toArray⟩, ⟨(Lib.cut a0.data.toList a1.data.toList).2.1.toArray⟩, (Lib.cut a0.data.toList a1.data.toList).2.2) else none
theorem impl_ReadFix.cut_calls (a0 : ByteArray) (a1 : ByteArray) (r1 : ByteArray) (r2 : ByteArray) (r3 : Bool) (w : World) (h : impl_ReadFix.cut a0 a1 = some (r1, r2, r3)) :
    Calls Tryd.prog 64 #[.string a0, .string a1] w fun e w' => e = .returned (.tuple #[.string r1, .string r2, .bool r3]) ∧ Below w.heap.size w w' := by
  unfold impl_ReadFix.cut at h
  by_cases c : a1 = ⟨#[46]⟩ ∧ a0.size ≤ 4611686018427387904
  · rw [if_pos c] at h
    simp only [Option.some.injEq, Prod.mk.injEq] at h
    obtain ⟨rfl, rfl, rfl⟩ := h
    obtain ⟨rfl, c⟩ := c
    refine (impl_ReadFix.one a0 46 c w).mono ?_
    rintro e w' ⟨rfl, n, rfl⟩
    exact ⟨rfl, pw_below_drewN (Below.refl _ _) _⟩
  · rw [if_neg c] at h
    cases h
def impl_ReadFix.pre (a0 : ByteArray) : Option (ByteArray × Bool) := some (⟨(Lib.trimPrefix a0.data.toList [45]).toArray⟩, Lib.hasPrefix a0.data.toList [45])
theorem impl_ReadFix.pre_calls (a0 : ByteArray) (r1 : ByteArray) (r2 : Bool) (w : World) (h : impl_ReadFix.pre a0 = some (r1, r2)) :
    Calls Tryd.prog 63 #[.string a0, .string ⟨#[45]⟩] w fun e w' => e = .returned (.tuple #[.string r1, .bool r2]) ∧ Below w.heap.size w w' := by
  unfold impl_ReadFix.pre at h
  simp only [Option.some.injEq, Prod.mk.injEq] at h
  obtain ⟨rfl, rfl⟩ := h
  refine (Tryd.strings_CutPrefix a0 ⟨#[45]⟩ w).mono ?_
  rintro e w' ⟨rfl, rfl⟩
  exact ⟨rfl, Below.refl _ _⟩
def impl_ReadFix.bad2 (p q : ByteArray) (c : Bool) : Option Bool := if c = true then ((impl_areDigits.f q).bind fun d1 => if d1 = true then (if (q.size : Int) > 3 then some true else some (decide ((p.size : Int) > 10))) else some true) else some (decide ((p.size : Int) > 10))
def impl_ReadFix.bad (p q : ByteArray) (c : Bool) : Option Bool := (impl_areDigits.f p).bind fun d0 => if d0 = true then (if (p.size : Int) > 1 then (if bt p 0 = 48 then some true else impl_ReadFix.bad2 p q c) else impl_ReadFix.bad2 p q c) else some true
def impl_ReadFix.j1 (ng : Bool) (n : Int) : Option (Int × Bool) := (impl_isDecimal.f n).bind fun d => if d = true then (if ng = true then some (wrap64 (-n), true) else some (n, true)) else some (0, false)
def impl_ReadFix.l0 : Nat → ByteArray → Bool → Int → Int → Option (Int × Bool)
  | 0, _, _, _, _ => none
  | k + 1, s, ng, n, i => if i < (s.size : Int) then impl_ReadFix.l0 k s ng (wrap64 (wrap64 (10 * n) + (((s.data.toList.getD i.toNat 0).toNat : Int) - 48) % 256)) (i + 1) else impl_ReadFix.j1 ng n
def impl_ReadFix.txt (p q : ByteArray) : ByteArray := (p ++ q) ++ ((⟨#[48, 48, 48]⟩ : ByteArray).extract q.size 3)
def impl_ReadFix.f (a0 : ByteArray) : Option (Int × Bool) := (impl_ReadFix.pre a0).bind fun cp => (impl_ReadFix.cut cp.1 ⟨#[46]⟩).bind fun ct => (impl_ReadFix.bad ct.1 ct.2.1 ct.2.2).bind fun b => if b = true then some (0, false) else if ct.2.1.size ≤ 3 ∧ ct.1.size ≤ 10 then impl_ReadFix.l0 ((impl_ReadFix.txt ct.1 ct.2.1).size + 1) (impl_ReadFix.txt ct.1 ct.2.1) cp.2 0 0 else none
set_option maxHeartbeats 8000000 in
set_option maxRecDepth 100000 in
theorem impl_ReadFix.calls (a0 : ByteArray) (r1 : Int) (r2 : Bool) (w : World) (h : impl_ReadFix.f a0 = some (r1, r2)) :
    Calls Tryd.prog 31 #[.string a0] w fun e w' => e = .returned (.tuple #[.int .i64 r1, .bool r2]) ∧ Below w.heap.size w w' := by
  have HB := Aside0.mk (Below.refl w.heap.size w)
  unfold impl_ReadFix.f at h
  obtain ⟨⟨rest, ng⟩, A1, h⟩ := Option.bind_eq_some_iff.mp h
  obtain ⟨⟨p, q, c⟩, A2, h⟩ := Option.bind_eq_some_iff.mp h
  obtain ⟨b, A3, h⟩ := Option.bind_eq_some_iff.mp h
  simp only at A2 A3 h
  go_enter Tryd.func31, Tryd.ntmps31
  go_upto_region 3 with (first | (go_at_call 63; refine (impl_ReadFix.pre_calls _ rest ng _ A1).mono ?_; rintro e w1 ⟨rfl, hb⟩; replace HB := Aside0.mk (below_step bel_ hb); clear hb) | (go_at_call 64; refine (impl_ReadFix.cut_calls rest _ p q c _ A2).mono ?_; rintro e w2 ⟨rfl, hb⟩; replace HB := Aside0.mk (below_step bel_ hb); clear hb))
  (try simp only [Act.put, la_, lb_, lc_])
  go_cut [53] (fun v53 wc => v53 = .bool b ∧ Aside0 (Below w.heap.size w wc))
  case first =>
    clear h
    obtain ⟨d0, B0, A3⟩ := Option.bind_eq_some_iff.mp A3
    cases d0 with
    | false =>
      obtain rfl := Option.some.inj A3
      go_wp2_with (first | (go_at_call 65; (with_reducible refine (impl_areDigits.calls p _ _ B0).mono ?_); rintro e w1 ⟨rfl, hb⟩; replace HB := Aside0.mk (below_step bel_ hb); clear hb) | (go_at_call 65; (with_reducible refine (impl_areDigits.calls q _ _ B1).mono ?_); rintro e w2 ⟨rfl, hb⟩; replace HB := Aside0.mk (below_step bel_ hb); clear hb))
      go_meet
      case rel => exact ⟨by first | rfl | (simp; done) | (simp [*]; done), ⟨bel_⟩⟩
    | true =>
      replace A3 : (if (p.size : Int) > 1 then (if bt p 0 = 48 then some true else impl_ReadFix.bad2 p q c) else impl_ReadFix.bad2 p q c) = some b := A3
      by_cases c1 : (p.size : Int) > 1
      · rw [if_pos c1] at A3
        have c1b0 : decide (1 < (p.size : Int)) = true := decide_eq_true c1
        have p6 : 0 ≤ (0 : Int) := (by omega)
        have q6 : 0 < p.size := by omega
        have hx6 : ∀ h : 0 < p.size, ((p[0]'h).toNat : Int) = bt p 0 := bt_at p 0
        clear p6
        have qi6 : (0 < (p.size : Int)) = True := eq_true (by omega)
        replace q6 := eq_true q6
        by_cases c2 : bt p 0 = 48
        · rw [if_pos c2] at A3
          have c2b0 : (bt p 0 == 48) = true := beq_iff_eq.mpr c2
          obtain rfl := Option.some.inj A3
          go_wp2_with (first | (go_at_call 65; (with_reducible refine (impl_areDigits.calls p _ _ B0).mono ?_); rintro e w1 ⟨rfl, hb⟩; replace HB := Aside0.mk (below_step bel_ hb); clear hb) | (go_at_call 65; (with_reducible refine (impl_areDigits.calls q _ _ B1).mono ?_); rintro e w2 ⟨rfl, hb⟩; replace HB := Aside0.mk (below_step bel_ hb); clear hb))
          go_meet
          case rel => exact ⟨by first | rfl | (simp; done) | (simp [*]; done), ⟨bel_⟩⟩
        · rw [if_neg c2] at A3
          have c2b0 : (bt p 0 == 48) = false := beq_eq_false_iff_ne.mpr c2
          unfold impl_ReadFix.bad2 at A3
          cases c with
          | false =>
            obtain rfl := Option.some.inj A3
            go_wp2_with (first | (go_at_call 65; (with_reducible refine (impl_areDigits.calls p _ _ B0).mono ?_); rintro e w1 ⟨rfl, hb⟩; replace HB := Aside0.mk (below_step bel_ hb); clear hb) | (go_at_call 65; (with_reducible refine (impl_areDigits.calls q _ _ B1).mono ?_); rintro e w2 ⟨rfl, hb⟩; replace HB := Aside0.mk (below_step bel_ hb); clear hb))
            go_meet
            case rel => exact ⟨by first | rfl | (simp; done) | (simp [*]; done), ⟨bel_⟩⟩
          | true =>
            obtain ⟨d1, B1, A3⟩ := Option.bind_eq_some_iff.mp A3
            cases d1 with
            | false =>
              obtain rfl := Option.some.inj A3
              go_wp2_with (first | (go_at_call 65; (with_reducible refine (impl_areDigits.calls p _ _ B0).mono ?_); rintro e w1 ⟨rfl, hb⟩; replace HB := Aside0.mk (below_step bel_ hb); clear hb) | (go_at_call 65; (with_reducible refine (impl_areDigits.calls q _ _ B1).mono ?_); rintro e w2 ⟨rfl, hb⟩; replace HB := Aside0.mk (below_step bel_ hb); clear hb))
              go_meet
              case rel => exact ⟨by first | rfl | (simp; done) | (simp [*]; done), ⟨bel_⟩⟩
            | true =>
              replace A3 : (if (q.size : Int) > 3 then some true else some (decide ((p.size : Int) > 10))) = some b := A3
              by_cases c3 : (q.size : Int) > 3
              · rw [if_pos c3] at A3
                have c3b0 : decide (3 < (q.size : Int)) = true := decide_eq_true c3
                obtain rfl := Option.some.inj A3
                go_wp2_with (first | (go_at_call 65; (with_reducible refine (impl_areDigits.calls p _ _ B0).mono ?_); rintro e w1 ⟨rfl, hb⟩; replace HB := Aside0.mk (below_step bel_ hb); clear hb) | (go_at_call 65; (with_reducible refine (impl_areDigits.calls q _ _ B1).mono ?_); rintro e w2 ⟨rfl, hb⟩; replace HB := Aside0.mk (below_step bel_ hb); clear hb))
                go_meet
                case rel => exact ⟨by first | rfl | (simp; done) | (simp [*]; done), ⟨bel_⟩⟩
              · rw [if_neg c3] at A3
                have c3b0 : decide (3 < (q.size : Int)) = false := decide_eq_false c3
                obtain rfl := Option.some.inj A3
                go_wp2_with (first | (go_at_call 65; (with_reducible refine (impl_areDigits.calls p _ _ B0).mono ?_); rintro e w1 ⟨rfl, hb⟩; replace HB := Aside0.mk (below_step bel_ hb); clear hb) | (go_at_call 65; (with_reducible refine (impl_areDigits.calls q _ _ B1).mono ?_); rintro e w2 ⟨rfl, hb⟩; replace HB := Aside0.mk (below_step bel_ hb); clear hb))
                go_meet
                case rel => exact ⟨by first | rfl | (simp; done) | (simp [*]; done), ⟨bel_⟩⟩
      · rw [if_neg c1] at A3
        have c1b0 : decide (1 < (p.size : Int)) = false := decide_eq_false c1
        unfold impl_ReadFix.bad2 at A3
        cases c with
        | false =>
          obtain rfl := Option.some.inj A3
          go_wp2_with (first | (go_at_call 65; (with_reducible refine (impl_areDigits.calls p _ _ B0).mono ?_); rintro e w1 ⟨rfl, hb⟩; replace HB := Aside0.mk (below_step bel_ hb); clear hb) | (go_at_call 65; (with_reducible refine (impl_areDigits.calls q _ _ B1).mono ?_); rintro e w2 ⟨rfl, hb⟩; replace HB := Aside0.mk (below_step bel_ hb); clear hb))
          go_meet
          case rel => exact ⟨by first | rfl | (simp; done) | (simp [*]; done), ⟨bel_⟩⟩
        | true =>
          obtain ⟨d1, B1, A3⟩ := Option.bind_eq_some_iff.mp A3
          cases d1 with
          | false =>
            obtain rfl := Option.some.inj A3
            go_wp2_with (first | (go_at_call 65; (with_reducible refine (impl_areDigits.calls p _ _ B0).mono ?_); rintro e w1 ⟨rfl, hb⟩; replace HB := Aside0.mk (below_step bel_ hb); clear hb) | (go_at_call 65; (with_reducible refine (impl_areDigits.calls q _ _ B1).mono ?_); rintro e w2 ⟨rfl, hb⟩; replace HB := Aside0.mk (below_step bel_ hb); clear hb))
            go_meet
            case rel => exact ⟨by first | rfl | (simp; done) | (simp [*]; done), ⟨bel_⟩⟩
          | true =>
            replace A3 : (if (q.size : Int) > 3 then some true else some (decide ((p.size : Int) > 10))) = some b := A3
            by_cases c3 : (q.size : Int) > 3
            · rw [if_pos c3] at A3
              have c3b0 : decide (3 < (q.size : Int)) = true := decide_eq_true c3
              obtain rfl := Option.some.inj A3
              go_wp2_with (first | (go_at_call 65; (with_reducible refine (impl_areDigits.calls p _ _ B0).mono ?_); rintro e w1 ⟨rfl, hb⟩; replace HB := Aside0.mk (below_step bel_ hb); clear hb) | (go_at_call 65; (with_reducible refine (impl_areDigits.calls q _ _ B1).mono ?_); rintro e w2 ⟨rfl, hb⟩; replace HB := Aside0.mk (below_step bel_ hb); clear hb))
              go_meet
              case rel => exact ⟨by first | rfl | (simp; done) | (simp [*]; done), ⟨bel_⟩⟩
            · rw [if_neg c3] at A3
              have c3b0 : decide (3 < (q.size : Int)) = false := decide_eq_false c3
              obtain rfl := Option.some.inj A3
              go_wp2_with (first | (go_at_call 65; (with_reducible refine (impl_areDigits.calls p _ _ B0).mono ?_); rintro e w1 ⟨rfl, hb⟩; replace HB := Aside0.mk (below_step bel_ hb); clear hb) | (go_at_call 65; (with_reducible refine (impl_areDigits.calls q _ _ B1).mono ?_); rintro e w2 ⟨rfl, hb⟩; replace HB := Aside0.mk (below_step bel_ hb); clear hb))
              go_meet
              case rel => exact ⟨by first | rfl | (simp; done) | (simp [*]; done), ⟨bel_⟩⟩
  case rest =>
    obtain ⟨rfl, HB⟩ := hcut
    clear A1 A2 A3
    cases b with
    | true =>
      replace h : (some (0, false) : Option (Int × Bool)) = some (r1, r2) := h
      simp only [Option.some.injEq, Prod.mk.injEq] at h
      obtain ⟨rfl, rfl⟩ := h
      go_wp2
      go_ret2
      exact ⟨rfl, HB.out⟩
    | false =>
      replace h : (if q.size ≤ 3 ∧ p.size ≤ 10 then impl_ReadFix.l0 ((impl_ReadFix.txt p q).size + 1) (impl_ReadFix.txt p q) ng 0 0 else none) = some (r1, r2) := h
      by_cases c3 : q.size ≤ 3 ∧ p.size ≤ 10
      · rw [if_pos c3] at h
        obtain ⟨c3, c4⟩ := c3
        obtain ⟨s, hs⟩ : ∃ s, s = impl_ReadFix.txt p q := ⟨_, rfl⟩
        rw [← hs] at h
        have hs2 : p ++ q ++ (⟨#[48, 48, 48]⟩ : ByteArray).extract q.size 3 = s := hs.symm
        clear hs
        have hsz : s.size ≤ 13 := by rw [← hs2]; simp only [ByteArray.size_append, ByteArray.size_extract]; have : (⟨#[48, 48, 48]⟩ : ByteArray).size = 3 := rfl; omega
        have c3b : decide ((q.size : Int) ≤ 3) = true := decide_eq_true (by omega)
        have c3c : ((q.size : Int) ≤ 3) = True := eq_true (by omega)
        have hcv := Lib.run_convert_string_bytes (P := Tryd.prog) wc 9 27 5 s Tryd.underlying9 Tryd.underlying27 Tryd.underlying5
        have hbel : Below wc.heap.size wc (Lib.bytesWorld wc 5 s) := bytes_below (Below.refl _ _) (Nat.le_refl _) _ _
        have hB : ∀ j, j < s.size → (Lib.bytesWorld wc 5 s).cell? ⟨wc.heap.size, j, none⟩ = some (.int .u8 (s.data.toList.getD j 0).toNat) := fun j hj => Lib.bytesWorld_cell wc 5 s j hj
        replace HB := Aside0.mk (below_step bel_ hbel)
        obtain ⟨W1, hW1⟩ : ∃ W1, W1 = Lib.bytesWorld wc 5 s := ⟨_, rfl⟩
        rw [← hW1] at hcv hB HB
        clear hW1 hbel
        go_wp2
        clear hs2 hcv c3b c3c c3 c4
        go_loop [9, 63] (fun vn vi => ∃ (k : Nat) (x : Int), vn = .int .i64 x ∧ vi = .int .i64 k ∧ k ≤ s.size ∧ Aside0 (impl_ReadFix.l0 (s.size + 1 - k) s ng x k = some (r1, r2)))
          (fun _ vi => s.size - (intOf vi).toNat)
        case atStart => exact ⟨0, 0, rfl, rfl, Nat.zero_le _, ⟨h⟩⟩
        case round =>
          clear h
          obtain ⟨k, x, rfl, rfl, hk, h⟩ := hrel
          replace h := h.out
          by_cases hkn : k < s.size
          · have hc := hB k hkn
            rw [show s.size + 1 - k = (s.size - k) + 1 by omega] at h
            unfold impl_ReadFix.l0 at h
            rw [if_pos (show (k : Int) < (s.size : Int) by omega)] at h
            simp only [Int.toNat_natCast] at h
            generalize s.data.toList.getD k 0 = c at hc h
            have hc256 : c.toNat < 256 := c.toNat_lt
            have H' := Aside0.mk h
            clear h hB
            go_wp2
            exact ⟨⟨k + 1, _, rfl, rfl, by omega, ⟨by rw [show s.size + 1 - (k + 1) = s.size - k by omega]; exact H'.out⟩⟩, by simp [intOf]; omega⟩
          · obtain rfl : k = s.size := by omega
            rw [show s.size + 1 - s.size = 0 + 1 by omega] at h
            unfold impl_ReadFix.l0 at h
            rw [if_neg (show ¬ (s.size : Int) < (s.size : Int) by omega)] at h
            clear hB hkn hk
            unfold impl_ReadFix.j1 at h
            obtain ⟨d, B0, h⟩ := Option.bind_eq_some_iff.mp h
            cases d with
            | false =>
              simp only [Bool.false_eq_true, if_false, Option.some.injEq, Prod.mk.injEq] at h
              obtain ⟨rfl, rfl⟩ := h
              go_wp2_with (go_at_call 59; (with_reducible refine (impl_isDecimal.calls x _ _ B0).mono ?_); rintro e w1 ⟨rfl, hb⟩)
              go_ret2
              obtain ⟨nd, rfl⟩ := hb
              exact ⟨rfl, pw_below_drewN HB.out _⟩
            | true =>
              simp only [if_true] at h
              cases ng with
              | true =>
                simp only [if_true, Option.some.injEq, Prod.mk.injEq] at h
                obtain ⟨rfl, rfl⟩ := h
                go_wp2_with (go_at_call 59; (with_reducible refine (impl_isDecimal.calls x _ _ B0).mono ?_); rintro e w1 ⟨rfl, hb⟩)
                go_ret2
                obtain ⟨nd, rfl⟩ := hb
                exact ⟨rfl, pw_below_drewN HB.out _⟩
              | false =>
                simp only [Bool.false_eq_true, if_false, Option.some.injEq, Prod.mk.injEq] at h
                obtain ⟨rfl, rfl⟩ := h
                go_wp2_with (go_at_call 59; (with_reducible refine (impl_isDecimal.calls x _ _ B0).mono ?_); rintro e w1 ⟨rfl, hb⟩)
                go_ret2
                obtain ⟨nd, rfl⟩ := hb
                exact ⟨rfl, pw_below_drewN HB.out _⟩
      · rw [if_neg c3] at h
        cases h

/-! ### laws_FnExactReadFix: function 9 -/
def laws_FnExactReadFix.f (k : Nat) (a0 : ByteArray) : Option (Bool) := if (a0.size : Int) > 1048576 then (some true) else ((spec_ReadFix.f k a0).bind fun bt143 => ((impl_ReadFix.f a0).bind fun bt145 => (if bt145.1 = bt143.1 then (if (bt145.2 != bt143.2) = true then (some false) else (some true)) else (some false))))
theorem laws_FnExactReadFix.mono : ∀ a0 k, LeO (laws_FnExactReadFix.f k a0) (laws_FnExactReadFix.f (k + 1) a0) := by
  intro a0 k
  unfold laws_FnExactReadFix.f
  repeat' first
      | (with_reducible exact spec_ReadFix.mono _ _)
      | (with_reducible exact LeO.refl _)
      | (with_reducible exact LeO.none _)
      | (with_reducible refine LeO.ite ?_ ?_)
      | (with_reducible refine LeO.bind ?_ (fun _ => ?_))
      | exact spec_ReadFix.mono _ _
      | exact LeO.none _
      | refine LeO.ite ?_ ?_
      | refine LeO.bind ?_ (fun _ => ?_)
set_option maxHeartbeats 8000000 in
set_option maxRecDepth 100000 in
theorem laws_FnExactReadFix.calls (k : Nat) (a0 : ByteArray) (r : Bool) (w : World) (h : laws_FnExactReadFix.f k a0 = some r) (hrt : Aside0 (r = true)) :
    Calls Tryd.prog 9 #[.string a0] w fun e w' => e = .returned (.bool r) ∧ Below w.heap.size w w' := by
  have HB := Aside0.mk (Below.refl w.heap.size w)
  have H : (if (a0.size : Int) > 1048576 then (some true) else ((spec_ReadFix.f k a0).bind fun bt143 => ((impl_ReadFix.f a0).bind fun bt145 => (if bt145.1 = bt143.1 then (if (bt145.2 != bt143.2) = true then (some false) else (some true)) else (some false))))) = some r := h
  clear h
  by_cases c2 : (a0.size : Int) > 1048576
  · rw [if_pos c2] at H
    have c2b0 : decide (1048576 < (a0.size : Int)) = true := decide_eq_true c2
    have c2b1 : decide (1048576 < a0.size) = true := decide_eq_true (by omega)
    clear c2
    obtain rfl := Option.some.inj H
    go_enter Tryd.func9, Tryd.ntmps9
    go_wp2
    all_goals go_ret
    all_goals exact ⟨rf_, bel_⟩
  · rw [if_neg c2] at H
    have c2b0 : decide (1048576 < (a0.size : Int)) = false := decide_eq_false c2
    have c2b1 : decide (1048576 < a0.size) = false := decide_eq_false (by omega)
    clear c2
    replace H := Option.bind_eq_some_iff.mp H
    obtain ⟨⟨t143, t144⟩, A30, H⟩ := H
    replace H : ((impl_ReadFix.f a0).bind fun bt145 => (if bt145.1 = t143 then (if (bt145.2 != t144) = true then (some false) else (some true)) else (some false))) = some r := H
    have A3 := Aside0.mk A30
    clear A30
    replace H := Option.bind_eq_some_iff.mp H
    obtain ⟨⟨t145, t146⟩, A40, H⟩ := H
    replace H : (if t145 = t143 then (if (t146 != t144) = true then (some false) else (some true)) else (some false)) = some r := H
    have A4 := Aside0.mk A40
    clear A40
    by_cases c5 : t145 = t143
    · rw [if_pos c5] at H
      have c5b0 : (t145 == t143) = true := beq_iff_eq.mpr c5
      have c5b1 : (t145 != t143) = false := bne_eq_false_iff_eq.mpr c5
      clear c5
      by_cases c6 : (t146 != t144) = true
      · rw [if_pos c6] at H
        have c6b0 : (t146 != t144) = true := c6
        (try (have c6b1 : decide (t146 = t144) = false := by simpa using c6))
        (try (have c6b2 : (t146 == t144) = false := by simpa using c6))
        (try (have c6b3 : ¬ (t146 = t144) := by simpa using c6))
        clear c6
        exact absurd ((Option.some.inj H).trans hrt.out) (by decide)
      · rw [if_neg c6] at H
        have c6b0 : (t146 != t144) = false := by simpa using c6
        (try (have c6b1 : decide (t146 = t144) = true := by simpa using c6))
        (try (have c6b2 : (t146 == t144) = true := by simpa using c6))
        clear c6
        obtain rfl := Option.some.inj H
        go_enter Tryd.func9, Tryd.ntmps9
        go_wp2_with (first | ((with_reducible refine gate_callee (f := 30) rfl ?_); refine goesL_ (some 12) rfl rfl Tryd.func30 (by kernel_rfl) rfl #[.string a0] rfl mp_ ?_; (with_reducible refine (spec_ReadFix.calls k a0 t143 t144 _ A3.out).mono ?_); rintro e w7 ⟨rfl, hb⟩; refine ⟨_, rfl, ?_⟩; have n0_ := Aside0.mk (below_step bel_ hb); clear HB; have HB := n0_; clear n0_; (try clear hb); (try clear hb2); (try clear hk); (try clear hi)) | ((with_reducible refine gate_callee (f := 31) rfl ?_); refine goesL_ (some 17) rfl rfl Tryd.func31 (by kernel_rfl) rfl #[.string a0] rfl mp_ ?_; (with_reducible refine (impl_ReadFix.calls a0 t145 t146 _ A4.out).mono ?_); rintro e w8 ⟨rfl, hb⟩; refine ⟨_, rfl, ?_⟩; have n0_ := Aside0.mk (below_step bel_ hb); clear HB; have HB := n0_; clear n0_; (try clear hb); (try clear hb2); (try clear hk); (try clear hi)))
        all_goals go_ret
        all_goals exact ⟨rf_, bel_⟩
    · rw [if_neg c5] at H
      have c5b0 : (t145 == t143) = false := beq_eq_false_iff_ne.mpr c5
      have c5b1 : (t145 != t143) = true := bne_iff_ne.mpr c5
      exact absurd ((Option.some.inj H).trans hrt.out) (by decide)

/-- THE ONE PURE STATEMENT of laws_FnExactReadFix: yours. -/
def laws_FnExactReadFix.Pure : Prop := ∀ (a0 : ByteArray), a0.size ≤ 140737488351232 → ∃ k, laws_FnExactReadFix.f k a0 = some true
theorem laws_FnExactReadFix.walk (P : laws_FnExactReadFix.Pure) (a0 : ByteArray) (w : World) (w0 : a0.size ≤ 140737488351232) :
    Calls Tryd.prog 9 #[.string a0] w fun e w' => e = .returned (.bool true) ∧ Below w.heap.size w w' := by
  obtain ⟨k, h⟩ := P a0 w0
  refine (laws_FnExactReadFix.calls k a0 true w h ⟨rfl⟩).mono ?_
  rintro e w' ⟨rfl, hd⟩
  exact ⟨rfl, hd⟩

end Go.Proofs.YtodbmgnhcglcnaaDoor.PFnExactReadFix
