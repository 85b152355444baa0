/- Contracts of Go functions, each with the Lean function that says what it computes: begun by the print, turned by this session. No condition beyond what each theorem states. -/
import Derived.Test.YtkpgpifkbdpnkaaDoorPFnExactFixNormalx0
import Derived.Test.YtkpgpifkbdpnkaaDoorPFnExactFixNormalx3
import Derived.Test.YtkpgpifkbdpnkaaDoorPFnExactFixNormalx4
import Derived.Test.YtkpgpifkbdpnkaaDoorPFnExactFixNormalx5
namespace Go.Proofs.YtkpgpifkbdpnkaaDoor.PFnExactFixNormal
open Go.RowKit Go.Proofs.YtkpgpifkbdpnkaaDoorW.PrintWords Go.Proofs.YtkpgpifkbdpnkaaDoorW.PrintLast Go.Proofs.YtkpgpifkbdpnkaaDoorW.PrintMore
attribute [local go_sem] max2_int min2_int max_two min_two max_three min_three max_four min_four   -- for this text's walks alone
set_option linter.unusedVariables false
set_option linter.unusedSimpArgs false

/-! ### impl_ReadFix: function 35, by its code over the shelf and the printed contracts -/
set_option maxHeartbeats 2000000 in
set_option maxRecDepth 100000 in
theorem impl_ReadFix.sl (s : ByteArray) (c : UInt8) (hs : s.size ≤ 4611686018427387904) (w : World) :
    Calls Tryd.prog 107 #[.string s, .string ⟨#[c]⟩] w fun e w' => e = .returned (.tuple #[.string ⟨(Lib.cut s.data.toList [c]).1.toArray⟩, .string ⟨(Lib.cut s.data.toList [c]).2.1.toArray⟩, .bool (Lib.cut s.data.toList [c]).2.2]) ∧ ∃ n, w' = w.drewN n := by
  have hone := Tryd.stringslite_Index_one s c w
  have hI : Lib.indexByte s.data.toList c = Lib.index s.data.toList [c] :=
    (Lib.index_one _ _).symm
  rcases Lib.indexB_cases s ⟨#[c]⟩ with hix | ⟨i, hix, hroom⟩
  · obtain ⟨e1, e2, e3⟩ := Lib.cutB_miss s ⟨#[c]⟩ hix
    simp only at e1 e2 e3 hix
    rw [e1, e2, e3]
    go_enter Tryd.func107, Tryd.ntmps107
    go_wp2_with (go_at_call 128; refine hone.mono ?_; rintro e w' ⟨rfl, rfl⟩; rw [hI, show Lib.index s.data.toList [c] = _ from hix])
    go_ret3
    exact ⟨rfl, 0, rfl⟩
  · obtain ⟨e1, e2, e3⟩ := Lib.cutB_hit s ⟨#[c]⟩ i hix
    simp only at e1 e2 e3 hix hroom
    rw [e1, e2, e3]
    have c1 : (0 : Int) ≤ ↑i := by omega
    have hz : (⟨#[c]⟩ : ByteArray).size = 1 := rfl
    rw [hz] at hroom
    have c2 : (↑i : Int) ≤ ↑s.size := by omega
    have c3 : (0 : Int) ≤ ↑i + 1 := by omega
    have c4 : (↑i + 1 : Int) ≤ ↑s.size := by omega
    go_enter Tryd.func107, Tryd.ntmps107
    go_wp2_with (go_at_call 128; refine hone.mono ?_; rintro e w' ⟨rfl, rfl⟩; rw [hI, show Lib.index s.data.toList [c] = _ from hix])
    go_region
    go_wp2
    go_ret3
    exact ⟨rfl, 1, rfl⟩
set_option maxHeartbeats 2000000 in
set_option maxRecDepth 100000 in
theorem impl_ReadFix.one (s : ByteArray) (c : UInt8) (hs : s.size ≤ 4611686018427387904) (w : World) :
    Calls Tryd.prog 78 #[.string s, .string ⟨#[c]⟩] w fun e w' => e = .returned (.tuple #[.string ⟨(Lib.cut s.data.toList [c]).1.toArray⟩, .string ⟨(Lib.cut s.data.toList [c]).2.1.toArray⟩, .bool (Lib.cut s.data.toList [c]).2.2]) ∧ ∃ n, w' = w.drewN n := by
  go_enter Tryd.func78, Tryd.ntmps78
  go_wp2_with (go_at_call 107; refine (impl_ReadFix.sl s c hs _).mono ?_; rintro e w' ⟨rfl, n, rfl⟩)
  go_ret3
  exact ⟨rfl, n, rfl⟩

def impl_ReadFix.cut (a0 : ByteArray) (a1 : ByteArray) : Option (ByteArray × ByteArray × Bool) := if a1 = ⟨#[46]⟩ ∧ a0.size ≤ 4611686018427387904 then some (⟨(Lib.cut a0.data.toList a1.data.toList).1.toArray⟩, ⟨(Lib.cut a0.data.toList a1.data.toList).2.1.toArray⟩, (Lib.cut a0.data.toList a1.data.toList).2.2) else none
theorem impl_ReadFix.cut_calls (a0 : ByteArray) (a1 : ByteArray) (r1 : ByteArray) (r2 : ByteArray) (r3 : Bool) (w : World) (h : impl_ReadFix.cut a0 a1 = some (r1, r2, r3)) :
    Calls Tryd.prog 78 #[.string a0, .string a1] w fun e w' => e = .returned (.tuple #[.string r1, .string r2, .bool r3]) ∧ Below w.heap.size w w' := by
  unfold impl_ReadFix.cut at h
  by_cases c : a1 = ⟨#[46]⟩ ∧ a0.size ≤ 4611686018427387904
  · rw [if_pos c] at h
    simp only [Option.some.injEq, Prod.mk.injEq] at h
    obtain ⟨rfl, rfl, rfl⟩ := h
    obtain ⟨rfl, c⟩ := c
    refine (impl_ReadFix.one a0 46 c w).mono ?_
    rintro e w' ⟨rfl, n, rfl⟩
    exact ⟨rfl, pw_below_drewN (Below.refl _ _) _⟩
  · rw [if_neg c] at h
    cases h
def impl_ReadFix.pre (a0 : ByteArray) : Option (ByteArray × Bool) := some (⟨(Lib.trimPrefix a0.data.toList [45]).toArray⟩, Lib.hasPrefix a0.data.toList [45])
theorem impl_ReadFix.pre_calls (a0 : ByteArray) (r1 : ByteArray) (r2 : Bool) (w : World) (h : impl_ReadFix.pre a0 = some (r1, r2)) :
    Calls Tryd.prog 63 #[.string a0, .string ⟨#[45]⟩] w fun e w' => e = .returned (.tuple #[.string r1, .bool r2]) ∧ Below w.heap.size w w' := by
  unfold impl_ReadFix.pre at h
  simp only [Option.some.injEq, Prod.mk.injEq] at h
  obtain ⟨rfl, rfl⟩ := h
  refine (Tryd.strings_CutPrefix a0 ⟨#[45]⟩ w).mono ?_
  rintro e w' ⟨rfl, rfl⟩
  exact ⟨rfl, Below.refl _ _⟩
def impl_ReadFix.bad2 (p q : ByteArray) (c : Bool) : Option Bool := if c = true then ((impl_areDigits.f q).bind fun d1 => if d1 = true then (if (q.size : Int) > 3 then some true else some (decide ((p.size : Int) > 10))) else some true) else some (decide ((p.size : Int) > 10))
def impl_ReadFix.bad (p q : ByteArray) (c : Bool) : Option Bool := (impl_areDigits.f p).bind fun d0 => if d0 = true then (if (p.size : Int) > 1 then (if bt p 0 = 48 then some true else impl_ReadFix.bad2 p q c) else impl_ReadFix.bad2 p q c) else some true
def impl_ReadFix.j1 (ng : Bool) (n : Int) : Option (Int × Bool) := (impl_isDecimal.f n).bind fun d => if d = true then (if ng = true then some (wrap64 (-n), true) else some (n, true)) else some (0, false)
def impl_ReadFix.l0 : Nat → ByteArray → Bool → Int → Int → Option (Int × Bool)
  | 0, _, _, _, _ => none
  | k + 1, s, ng, n, i => if i < (s.size : Int) then impl_ReadFix.l0 k s ng (wrap64 (wrap64 (10 * n) + (((s.data.toList.getD i.toNat 0).toNat : Int) - 48) % 256)) (i + 1) else impl_ReadFix.j1 ng n
def impl_ReadFix.txt (p q : ByteArray) : ByteArray := (p ++ q) ++ ((⟨#[48, 48, 48]⟩ : ByteArray).extract q.size 3)
def impl_ReadFix.f (a0 : ByteArray) : Option (Int × Bool) := (impl_ReadFix.pre a0).bind fun cp => (impl_ReadFix.cut cp.1 ⟨#[46]⟩).bind fun ct => (impl_ReadFix.bad ct.1 ct.2.1 ct.2.2).bind fun b => if b = true then some (0, false) else if ct.2.1.size ≤ 3 ∧ ct.1.size ≤ 10 then impl_ReadFix.l0 ((impl_ReadFix.txt ct.1 ct.2.1).size + 1) (impl_ReadFix.txt ct.1 ct.2.1) cp.2 0 0 else none
set_option maxHeartbeats 8000000 in
set_option maxRecDepth 100000 in
theorem impl_ReadFix.calls (a0 : ByteArray) (r1 : Int) (r2 : Bool) (w : World) (h : impl_ReadFix.f a0 = some (r1, r2)) :
    Calls Tryd.prog 35 #[.string a0] w fun e w' => e = .returned (.tuple #[.int .i64 r1, .bool r2]) ∧ Below w.heap.size w w' := by
  have HB := Aside0.mk (Below.refl w.heap.size w)
  unfold impl_ReadFix.f at h
  obtain ⟨⟨rest, ng⟩, A1, h⟩ := Option.bind_eq_some_iff.mp h
  obtain ⟨⟨p, q, c⟩, A2, h⟩ := Option.bind_eq_some_iff.mp h
  obtain ⟨b, A3, h⟩ := Option.bind_eq_some_iff.mp h
  simp only at A2 A3 h
  go_enter Tryd.func35, Tryd.ntmps35
  go_upto_region 3 with (first | (go_at_call 63; refine (impl_ReadFix.pre_calls _ rest ng _ A1).mono ?_; rintro e w1 ⟨rfl, hb⟩; replace HB := Aside0.mk (below_step bel_ hb); clear hb) | (go_at_call 78; refine (impl_ReadFix.cut_calls rest _ p q c _ A2).mono ?_; rintro e w2 ⟨rfl, hb⟩; replace HB := Aside0.mk (below_step bel_ hb); clear hb))
  (try simp only [Act.put, la_, lb_, lc_])
  go_cut [53] (fun v53 wc => v53 = .bool b ∧ Aside0 (Below w.heap.size w wc))
  case first =>
    clear h
    obtain ⟨d0, B0, A3⟩ := Option.bind_eq_some_iff.mp A3
    cases d0 with
    | false =>
      obtain rfl := Option.some.inj A3
      go_wp2_with (first | (go_at_call 79; (with_reducible refine (impl_areDigits.calls p _ _ B0).mono ?_); rintro e w1 ⟨rfl, hb⟩; replace HB := Aside0.mk (below_step bel_ hb); clear hb) | (go_at_call 79; (with_reducible refine (impl_areDigits.calls q _ _ B1).mono ?_); rintro e w2 ⟨rfl, hb⟩; replace HB := Aside0.mk (below_step bel_ hb); clear hb))
      go_meet
      case rel => exact ⟨by first | rfl | (simp; done) | (simp [*]; done), ⟨bel_⟩⟩
    | true =>
      replace A3 : (if (p.size : Int) > 1 then (if bt p 0 = 48 then some true else impl_ReadFix.bad2 p q c) else impl_ReadFix.bad2 p q c) = some b := A3
      by_cases c1 : (p.size : Int) > 1
      · rw [if_pos c1] at A3
        have c1b0 : decide (1 < (p.size : Int)) = true := decide_eq_true c1
        have p6 : 0 ≤ (0 : Int) := (by omega)
        have q6 : 0 < p.size := by omega
        have hx6 : ∀ h : 0 < p.size, ((p[0]'h).toNat : Int) = bt p 0 := bt_at p 0
        clear p6
        have qi6 : (0 < (p.size : Int)) = True := eq_true (by omega)
        replace q6 := eq_true q6
        by_cases c2 : bt p 0 = 48
        · rw [if_pos c2] at A3
          have c2b0 : (bt p 0 == 48) = true := beq_iff_eq.mpr c2
          obtain rfl := Option.some.inj A3
          go_wp2_with (first | (go_at_call 79; (with_reducible refine (impl_areDigits.calls p _ _ B0).mono ?_); rintro e w1 ⟨rfl, hb⟩; replace HB := Aside0.mk (below_step bel_ hb); clear hb) | (go_at_call 79; (with_reducible refine (impl_areDigits.calls q _ _ B1).mono ?_); rintro e w2 ⟨rfl, hb⟩; replace HB := Aside0.mk (below_step bel_ hb); clear hb))
          go_meet
          case rel => exact ⟨by first | rfl | (simp; done) | (simp [*]; done), ⟨bel_⟩⟩
        · rw [if_neg c2] at A3
          have c2b0 : (bt p 0 == 48) = false := beq_eq_false_iff_ne.mpr c2
          unfold impl_ReadFix.bad2 at A3
          cases c with
          | false =>
            obtain rfl := Option.some.inj A3
            go_wp2_with (first | (go_at_call 79; (with_reducible refine (impl_areDigits.calls p _ _ B0).mono ?_); rintro e w1 ⟨rfl, hb⟩; replace HB := Aside0.mk (below_step bel_ hb); clear hb) | (go_at_call 79; (with_reducible refine (impl_areDigits.calls q _ _ B1).mono ?_); rintro e w2 ⟨rfl, hb⟩; replace HB := Aside0.mk (below_step bel_ hb); clear hb))
            go_meet
            case rel => exact ⟨by first | rfl | (simp; done) | (simp [*]; done), ⟨bel_⟩⟩
          | true =>
            obtain ⟨d1, B1, A3⟩ := Option.bind_eq_some_iff.mp A3
            cases d1 with
            | false =>
              obtain rfl := Option.some.inj A3
              go_wp2_with (first | (go_at_call 79; (with_reducible refine (impl_areDigits.calls p _ _ B0).mono ?_); rintro e w1 ⟨rfl, hb⟩; replace HB := Aside0.mk (below_step bel_ hb); clear hb) | (go_at_call 79; (with_reducible refine (impl_areDigits.calls q _ _ B1).mono ?_); rintro e w2 ⟨rfl, hb⟩; replace HB := Aside0.mk (below_step bel_ hb); clear hb))
              go_meet
              case rel => exact ⟨by first | rfl | (simp; done) | (simp [*]; done), ⟨bel_⟩⟩
            | true =>
              replace A3 : (if (q.size : Int) > 3 then some true else some (decide ((p.size : Int) > 10))) = some b := A3
              by_cases c3 : (q.size : Int) > 3
              · rw [if_pos c3] at A3
                have c3b0 : decide (3 < (q.size : Int)) = true := decide_eq_true c3
                obtain rfl := Option.some.inj A3
                go_wp2_with (first | (go_at_call 79; (with_reducible refine (impl_areDigits.calls p _ _ B0).mono ?_); rintro e w1 ⟨rfl, hb⟩; replace HB := Aside0.mk (below_step bel_ hb); clear hb) | (go_at_call 79; (with_reducible refine (impl_areDigits.calls q _ _ B1).mono ?_); rintro e w2 ⟨rfl, hb⟩; replace HB := Aside0.mk (below_step bel_ hb); clear hb))
                go_meet
                case rel => exact ⟨by first | rfl | (simp; done) | (simp [*]; done), ⟨bel_⟩⟩
              · rw [if_neg c3] at A3
                have c3b0 : decide (3 < (q.size : Int)) = false := decide_eq_false c3
                obtain rfl := Option.some.inj A3
                go_wp2_with (first | (go_at_call 79; (with_reducible refine (impl_areDigits.calls p _ _ B0).mono ?_); rintro e w1 ⟨rfl, hb⟩; replace HB := Aside0.mk (below_step bel_ hb); clear hb) | (go_at_call 79; (with_reducible refine (impl_areDigits.calls q _ _ B1).mono ?_); rintro e w2 ⟨rfl, hb⟩; replace HB := Aside0.mk (below_step bel_ hb); clear hb))
                go_meet
                case rel => exact ⟨by first | rfl | (simp; done) | (simp [*]; done), ⟨bel_⟩⟩
      · rw [if_neg c1] at A3
        have c1b0 : decide (1 < (p.size : Int)) = false := decide_eq_false c1
        unfold impl_ReadFix.bad2 at A3
        cases c with
        | false =>
          obtain rfl := Option.some.inj A3
          go_wp2_with (first | (go_at_call 79; (with_reducible refine (impl_areDigits.calls p _ _ B0).mono ?_); rintro e w1 ⟨rfl, hb⟩; replace HB := Aside0.mk (below_step bel_ hb); clear hb) | (go_at_call 79; (with_reducible refine (impl_areDigits.calls q _ _ B1).mono ?_); rintro e w2 ⟨rfl, hb⟩; replace HB := Aside0.mk (below_step bel_ hb); clear hb))
          go_meet
          case rel => exact ⟨by first | rfl | (simp; done) | (simp [*]; done), ⟨bel_⟩⟩
        | true =>
          obtain ⟨d1, B1, A3⟩ := Option.bind_eq_some_iff.mp A3
          cases d1 with
          | false =>
            obtain rfl := Option.some.inj A3
            go_wp2_with (first | (go_at_call 79; (with_reducible refine (impl_areDigits.calls p _ _ B0).mono ?_); rintro e w1 ⟨rfl, hb⟩; replace HB := Aside0.mk (below_step bel_ hb); clear hb) | (go_at_call 79; (with_reducible refine (impl_areDigits.calls q _ _ B1).mono ?_); rintro e w2 ⟨rfl, hb⟩; replace HB := Aside0.mk (below_step bel_ hb); clear hb))
            go_meet
            case rel => exact ⟨by first | rfl | (simp; done) | (simp [*]; done), ⟨bel_⟩⟩
          | true =>
            replace A3 : (if (q.size : Int) > 3 then some true else some (decide ((p.size : Int) > 10))) = some b := A3
            by_cases c3 : (q.size : Int) > 3
            · rw [if_pos c3] at A3
              have c3b0 : decide (3 < (q.size : Int)) = true := decide_eq_true c3
              obtain rfl := Option.some.inj A3
              go_wp2_with (first | (go_at_call 79; (with_reducible refine (impl_areDigits.calls p _ _ B0).mono ?_); rintro e w1 ⟨rfl, hb⟩; replace HB := Aside0.mk (below_step bel_ hb); clear hb) | (go_at_call 79; (with_reducible refine (impl_areDigits.calls q _ _ B1).mono ?_); rintro e w2 ⟨rfl, hb⟩; replace HB := Aside0.mk (below_step bel_ hb); clear hb))
              go_meet
              case rel => exact ⟨by first | rfl | (simp; done) | (simp [*]; done), ⟨bel_⟩⟩
            · rw [if_neg c3] at A3
              have c3b0 : decide (3 < (q.size : Int)) = false := decide_eq_false c3
              obtain rfl := Option.some.inj A3
              go_wp2_with (first | (go_at_call 79; (with_reducible refine (impl_areDigits.calls p _ _ B0).mono ?_); rintro e w1 ⟨rfl, hb⟩; replace HB := Aside0.mk (below_step bel_ hb); clear hb) | (go_at_call 79; (with_reducible refine (impl_areDigits.calls q _ _ B1).mono ?_); rintro e w2 ⟨rfl, hb⟩; replace HB := Aside0.mk (below_step bel_ hb); clear hb))
              go_meet
              case rel => exact ⟨by first | rfl | (simp; done) | (simp [*]; done), ⟨bel_⟩⟩
  case rest =>
    obtain ⟨rfl, HB⟩ := hcut
    clear A1 A2 A3
    cases b with
    | true =>
      replace h : (some (0, false) : Option (Int × Bool)) = some (r1, r2) := h
      simp only [Option.some.injEq, Prod.mk.injEq] at h
      obtain ⟨rfl, rfl⟩ := h
      go_wp2
      go_ret2
      exact ⟨rfl, HB.out⟩
    | false =>
      replace h : (if q.size ≤ 3 ∧ p.size ≤ 10 then impl_ReadFix.l0 ((impl_ReadFix.txt p q).size + 1) (impl_ReadFix.txt p q) ng 0 0 else none) = some (r1, r2) := h
      by_cases c3 : q.size ≤ 3 ∧ p.size ≤ 10
      · rw [if_pos c3] at h
        obtain ⟨c3, c4⟩ := c3
        obtain ⟨s, hs⟩ : ∃ s, s = impl_ReadFix.txt p q := ⟨_, rfl⟩
        rw [← hs] at h
        have hs2 : p ++ q ++ (⟨#[48, 48, 48]⟩ : ByteArray).extract q.size 3 = s := hs.symm
        clear hs
        have hsz : s.size ≤ 13 := by rw [← hs2]; simp only [ByteArray.size_append, ByteArray.size_extract]; have : (⟨#[48, 48, 48]⟩ : ByteArray).size = 3 := rfl; omega
        have c3b : decide ((q.size : Int) ≤ 3) = true := decide_eq_true (by omega)
        have c3c : ((q.size : Int) ≤ 3) = True := eq_true (by omega)
        have hcv := Lib.run_convert_string_bytes (P := Tryd.prog) wc 9 22 5 s Tryd.underlying9 Tryd.underlying22 Tryd.underlying5
        have hbel : Below wc.heap.size wc (Lib.bytesWorld wc 5 s) := bytes_below (Below.refl _ _) (Nat.le_refl _) _ _
        have hB : ∀ j, j < s.size → (Lib.bytesWorld wc 5 s).cell? ⟨wc.heap.size, j, none⟩ = some (.int .u8 (s.data.toList.getD j 0).toNat) := fun j hj => Lib.bytesWorld_cell wc 5 s j hj
        replace HB := Aside0.mk (below_step bel_ hbel)
        obtain ⟨W1, hW1⟩ : ∃ W1, W1 = Lib.bytesWorld wc 5 s := ⟨_, rfl⟩
        rw [← hW1] at hcv hB HB
        clear hW1 hbel
        go_wp2
        clear hs2 hcv c3b c3c c3 c4
        go_loop [9, 63] (fun vn vi => ∃ (k : Nat) (x : Int), vn = .int .i64 x ∧ vi = .int .i64 k ∧ k ≤ s.size ∧ Aside0 (impl_ReadFix.l0 (s.size + 1 - k) s ng x k = some (r1, r2)))
          (fun _ vi => s.size - (intOf vi).toNat)
        case atStart => exact ⟨0, 0, rfl, rfl, Nat.zero_le _, ⟨h⟩⟩
        case round =>
          clear h
          obtain ⟨k, x, rfl, rfl, hk, h⟩ := hrel
          replace h := h.out
          by_cases hkn : k < s.size
          · have hc := hB k hkn
            rw [show s.size + 1 - k = (s.size - k) + 1 by omega] at h
            unfold impl_ReadFix.l0 at h
            rw [if_pos (show (k : Int) < (s.size : Int) by omega)] at h
            simp only [Int.toNat_natCast] at h
            generalize s.data.toList.getD k 0 = c at hc h
            have hc256 : c.toNat < 256 := c.toNat_lt
            have H' := Aside0.mk h
            clear h hB
            go_wp2
            exact ⟨⟨k + 1, _, rfl, rfl, by omega, ⟨by rw [show s.size + 1 - (k + 1) = s.size - k by omega]; exact H'.out⟩⟩, by simp [intOf]; omega⟩
          · obtain rfl : k = s.size := by omega
            rw [show s.size + 1 - s.size = 0 + 1 by omega] at h
            unfold impl_ReadFix.l0 at h
            rw [if_neg (show ¬ (s.size : Int) < (s.size : Int) by omega)] at h
            clear hB hkn hk
            unfold impl_ReadFix.j1 at h
            obtain ⟨d, B0, h⟩ := Option.bind_eq_some_iff.mp h
            cases d with
            | false =>
              simp only [Bool.false_eq_true, if_false, Option.some.injEq, Prod.mk.injEq] at h
              obtain ⟨rfl, rfl⟩ := h
              go_wp2_with (go_at_call 76; (with_reducible refine (impl_isDecimal.calls x _ _ B0).mono ?_); rintro e w1 ⟨rfl, hb⟩)
              go_ret2
              obtain ⟨nd, rfl⟩ := hb
              exact ⟨rfl, pw_below_drewN HB.out _⟩
            | true =>
              simp only [if_true] at h
              cases ng with
              | true =>
                simp only [if_true, Option.some.injEq, Prod.mk.injEq] at h
                obtain ⟨rfl, rfl⟩ := h
                go_wp2_with (go_at_call 76; (with_reducible refine (impl_isDecimal.calls x _ _ B0).mono ?_); rintro e w1 ⟨rfl, hb⟩)
                go_ret2
                obtain ⟨nd, rfl⟩ := hb
                exact ⟨rfl, pw_below_drewN HB.out _⟩
              | false =>
                simp only [Bool.false_eq_true, if_false, Option.some.injEq, Prod.mk.injEq] at h
                obtain ⟨rfl, rfl⟩ := h
                go_wp2_with (go_at_call 76; (with_reducible refine (impl_isDecimal.calls x _ _ B0).mono ?_); rintro e w1 ⟨rfl, hb⟩)
                go_ret2
                obtain ⟨nd, rfl⟩ := hb
                exact ⟨rfl, pw_below_drewN HB.out _⟩
      · rw [if_neg c3] at h
        cases h

/-! ### impl_FixNormal: function 19 -/
def impl_FixNormal.f (k : Nat) (a0 : ByteArray) : Option (ByteArray × Bool) := (impl_ReadFix.f a0).bind fun bt179 => (if bt179.2 = true then ((impl_FixText.f k bt179.1).bind fun t181 => (some (t181, true))) else (some ((⟨#[]⟩ : ByteArray), false)))
theorem impl_FixNormal.mono : ∀ a0 k, LeO (impl_FixNormal.f k a0) (impl_FixNormal.f (k + 1) a0) := by
  intro a0 k
  unfold impl_FixNormal.f
  repeat' first
      | (with_reducible exact impl_FixText.mono _ _)
      | (with_reducible exact LeO.refl _)
      | (with_reducible exact LeO.none _)
      | (with_reducible refine LeO.ite ?_ ?_)
      | (with_reducible refine LeO.bind ?_ (fun _ => ?_))
      | exact impl_FixText.mono _ _
      | exact LeO.none _
      | refine LeO.ite ?_ ?_
      | refine LeO.bind ?_ (fun _ => ?_)
set_option maxHeartbeats 8000000 in
set_option maxRecDepth 100000 in
theorem impl_FixNormal.calls (k : Nat) (a0 : ByteArray) (r1 : ByteArray) (r2 : Bool) (w : World) (h : impl_FixNormal.f k a0 = some (r1, r2)) (hl : Laid w) :
    Calls Tryd.prog 19 #[.string a0] w fun e w' => e = .returned (.tuple #[.string r1, .bool r2]) ∧ Below w.heap.size w w' := by
  have HB := Aside0.mk (Below.refl w.heap.size w)
  have H : ((impl_ReadFix.f a0).bind fun bt179 => (if bt179.2 = true then ((impl_FixText.f k bt179.1).bind fun t181 => (some (t181, true))) else (some ((⟨#[]⟩ : ByteArray), false)))) = some (r1, r2) := h
  clear h
  replace H := Option.bind_eq_some_iff.mp H
  obtain ⟨⟨t179, t180⟩, A20, H⟩ := H
  replace H : (if t180 = true then ((impl_FixText.f k t179).bind fun t181 => (some (t181, true))) else (some ((⟨#[]⟩ : ByteArray), false))) = some (r1, r2) := H
  have A2 := Aside0.mk A20
  clear A20
  by_cases c3 : t180 = true
  · subst c3
    have H1 : ((impl_FixText.f k t179).bind fun t181 => (some (t181, true))) = some (r1, r2) := by rw [if_pos rfl] at H; exact H
    clear H
    have H := H1
    clear H1
    replace H := Option.bind_eq_some_iff.mp H
    obtain ⟨t181, A40, H⟩ := H
    replace H : (some (t181, true)) = some (r1, r2) := H
    have A4 := Aside0.mk A40
    clear A40
    simp only [Option.some.injEq, Prod.mk.injEq] at H
    obtain ⟨rfl, rfl⟩ := H
    go_enter Tryd.func19, Tryd.ntmps19
    go_wp2_with (first | ((with_reducible refine gate_callee (f := 35) rfl ?_); refine goesL_ (some 8) rfl rfl Tryd.func35 (by kernel_rfl) rfl #[.string a0] rfl mp_ ?_; (with_reducible refine (impl_ReadFix.calls a0 t179 true _ A2.out).mono ?_); rintro e w5 ⟨rfl, hb⟩; refine ⟨_, rfl, ?_⟩; have n0_ := Aside0.mk (below_step bel_ hb); clear HB; have HB := n0_; clear n0_; (try clear hb); (try clear hb2); (try clear hk); (try clear hi)) | ((with_reducible refine gate_callee (f := 34) rfl ?_); refine goesL_ (some 14) rfl rfl Tryd.func34 (by kernel_rfl) rfl #[.int .i64 t179] rfl mp_ ?_; (with_reducible refine (impl_FixText.calls k t179 t181 _ A4.out (laid_ hl)).mono ?_); rintro e w6 ⟨rfl, hb⟩; refine ⟨_, rfl, ?_⟩; have n0_ := Aside0.mk (below_step bel_ hb); clear HB; have HB := n0_; clear n0_; (try clear hb); (try clear hb2); (try clear hk); (try clear hi)))
    go_ret2
    exact ⟨rf_, bel_⟩
  · replace c3 := Bool.eq_false_iff.mpr c3
    subst c3
    have H1 : (some ((⟨#[]⟩ : ByteArray), false)) = some (r1, r2) := by rw [if_neg (show ¬ (false = true) by decide)] at H; exact H
    clear H
    have H := H1
    clear H1
    simp only [Option.some.injEq, Prod.mk.injEq] at H
    obtain ⟨rfl, rfl⟩ := H
    go_enter Tryd.func19, Tryd.ntmps19
    go_wp2_with (first | ((with_reducible refine gate_callee (f := 35) rfl ?_); refine goesL_ (some 8) rfl rfl Tryd.func35 (by kernel_rfl) rfl #[.string a0] rfl mp_ ?_; (with_reducible refine (impl_ReadFix.calls a0 t179 false _ A2.out).mono ?_); rintro e w7 ⟨rfl, hb⟩; refine ⟨_, rfl, ?_⟩; have n0_ := Aside0.mk (below_step bel_ hb); clear HB; have HB := n0_; clear n0_; (try clear hb); (try clear hb2); (try clear hk); (try clear hi)))
    go_ret2
    exact ⟨rf_, bel_⟩

/-! ### laws_FnExactFixNormal: function 4 -/
def laws_FnExactFixNormal.f (k : Nat) (a0 : ByteArray) : Option (Bool) := if (a0.size : Int) > 1048576 then (some true) else ((spec_FixNormal.f k a0).bind fun bt182 => ((impl_FixNormal.f k a0).bind fun bt184 => (if bt184.1.toList = bt182.1.toList then (if (bt184.2 != bt182.2) = true then (some false) else (some true)) else (some false))))
theorem laws_FnExactFixNormal.mono : ∀ a0 k, LeO (laws_FnExactFixNormal.f k a0) (laws_FnExactFixNormal.f (k + 1) a0) := by
  intro a0 k
  unfold laws_FnExactFixNormal.f
  repeat' first
      | (with_reducible exact impl_FixNormal.mono _ _)
      | (with_reducible exact spec_FixNormal.mono _ _)
      | (with_reducible exact LeO.refl _)
      | (with_reducible exact LeO.none _)
      | (with_reducible refine LeO.ite ?_ ?_)
      | (with_reducible refine LeO.bind ?_ (fun _ => ?_))
      | exact impl_FixNormal.mono _ _
      | exact spec_FixNormal.mono _ _
      | exact LeO.none _
      | refine LeO.ite ?_ ?_
      | refine LeO.bind ?_ (fun _ => ?_)
set_option maxHeartbeats 8000000 in
set_option maxRecDepth 100000 in
theorem laws_FnExactFixNormal.calls (k : Nat) (a0 : ByteArray) (r : Bool) (w : World) (h : laws_FnExactFixNormal.f k a0 = some r) (hrt : Aside0 (r = true)) (hl : Laid w) :
    Calls Tryd.prog 4 #[.string a0] w fun e w' => e = .returned (.bool r) ∧ Below w.heap.size w w' := by
  have HB := Aside0.mk (Below.refl w.heap.size w)
  have H : (if (a0.size : Int) > 1048576 then (some true) else ((spec_FixNormal.f k a0).bind fun bt182 => ((impl_FixNormal.f k a0).bind fun bt184 => (if bt184.1.toList = bt182.1.toList then (if (bt184.2 != bt182.2) = true then (some false) else (some true)) else (some false))))) = some r := h
  clear h
  by_cases c2 : (a0.size : Int) > 1048576
  · rw [if_pos c2] at H
    have c2b0 : decide (1048576 < (a0.size : Int)) = true := decide_eq_true c2
    have c2b1 : decide (1048576 < a0.size) = true := decide_eq_true (by omega)
    clear c2
    obtain rfl := Option.some.inj H
    go_enter Tryd.func4, Tryd.ntmps4
    go_wp2
    all_goals go_ret
    all_goals exact ⟨rf_, bel_⟩
  · rw [if_neg c2] at H
    have c2b0 : decide (1048576 < (a0.size : Int)) = false := decide_eq_false c2
    have c2b1 : decide (1048576 < a0.size) = false := decide_eq_false (by omega)
    clear c2
    replace H := Option.bind_eq_some_iff.mp H
    obtain ⟨⟨t182, t183⟩, A30, H⟩ := H
    replace H : ((impl_FixNormal.f k a0).bind fun bt184 => (if bt184.1.toList = t182.toList then (if (bt184.2 != t183) = true then (some false) else (some true)) else (some false))) = some r := H
    have A3 := Aside0.mk A30
    clear A30
    replace H := Option.bind_eq_some_iff.mp H
    obtain ⟨⟨t184, t185⟩, A40, H⟩ := H
    replace H : (if t184.toList = t182.toList then (if (t185 != t183) = true then (some false) else (some true)) else (some false)) = some r := H
    have A4 := Aside0.mk A40
    clear A40
    by_cases c5 : t184.toList = t182.toList
    · rw [if_pos c5] at H
      have c5b0 : (t184.toList == t182.toList) = true := beq_iff_eq.mpr c5
      have c5b1 : (t184.toList != t182.toList) = false := bne_eq_false_iff_eq.mpr c5
      clear c5
      by_cases c6 : (t185 != t183) = true
      · rw [if_pos c6] at H
        have c6b0 : (t185 != t183) = true := c6
        (try (have c6b1 : decide (t185 = t183) = false := by simpa using c6))
        (try (have c6b2 : (t185 == t183) = false := by simpa using c6))
        (try (have c6b3 : ¬ (t185 = t183) := by simpa using c6))
        clear c6
        exact absurd ((Option.some.inj H).trans hrt.out) (by decide)
      · rw [if_neg c6] at H
        have c6b0 : (t185 != t183) = false := by simpa using c6
        (try (have c6b1 : decide (t185 = t183) = true := by simpa using c6))
        (try (have c6b2 : (t185 == t183) = true := by simpa using c6))
        clear c6
        obtain rfl := Option.some.inj H
        go_enter Tryd.func4, Tryd.ntmps4
        go_wp2_with (first | ((with_reducible refine gate_callee (f := 18) rfl ?_); refine goesL_ (some 12) rfl rfl Tryd.func18 (by kernel_rfl) rfl #[.string a0] rfl mp_ ?_; (with_reducible refine (spec_FixNormal.calls k a0 t182 t183 _ A3.out).mono ?_); rintro e w7 ⟨rfl, hb⟩; refine ⟨_, rfl, ?_⟩; have n0_ := Aside0.mk (below_step bel_ hb); clear HB; have HB := n0_; clear n0_; (try clear hb); (try clear hb2); (try clear hk); (try clear hi)) | ((with_reducible refine gate_callee (f := 19) rfl ?_); refine goesL_ (some 17) rfl rfl Tryd.func19 (by kernel_rfl) rfl #[.string a0] rfl mp_ ?_; (with_reducible refine (impl_FixNormal.calls k a0 t184 t185 _ A4.out (laid_ hl)).mono ?_); rintro e w8 ⟨rfl, hb⟩; refine ⟨_, rfl, ?_⟩; have n0_ := Aside0.mk (below_step bel_ hb); clear HB; have HB := n0_; clear n0_; (try clear hb); (try clear hb2); (try clear hk); (try clear hi)))
        all_goals go_ret
        all_goals exact ⟨rf_, bel_⟩
    · rw [if_neg c5] at H
      have c5b0 : (t184.toList == t182.toList) = false := beq_eq_false_iff_ne.mpr c5
      have c5b1 : (t184.toList != t182.toList) = true := bne_iff_ne.mpr c5
      exact absurd ((Option.some.inj H).trans hrt.out) (by decide)

/-- THE ONE PURE STATEMENT of laws_FnExactFixNormal: yours. -/
def laws_FnExactFixNormal.Pure : Prop := ∀ (a0 : ByteArray), a0.size ≤ 140737488351232 → ∃ k, laws_FnExactFixNormal.f k a0 = some true
theorem laws_FnExactFixNormal.walk (P : laws_FnExactFixNormal.Pure) (a0 : ByteArray) (w : World) (w0 : a0.size ≤ 140737488351232) (hl : Laid w) :
    Calls Tryd.prog 4 #[.string a0] w fun e w' => e = .returned (.bool true) ∧ Below w.heap.size w w' := by
  obtain ⟨k, h⟩ := P a0 w0
  refine (laws_FnExactFixNormal.calls k a0 true w h ⟨rfl⟩ hl).mono ?_
  rintro e w' ⟨rfl, hd⟩
  exact ⟨rfl, hd⟩

end Go.Proofs.YtkpgpifkbdpnkaaDoor.PFnExactFixNormal
