/- Texts of this proof, put together: YtldgmneijipbjaaPCheckx0, YtldgmneijipbjaaPCheckx1, YtldgmneijipbjaaPCheckx, YtldgmneijipbjaaPOrderx0, YtldgmneijipbjaaPOrderx1, YtldgmneijipbjaaPOrderx, YtldgmneijipbjaaPSameAllx0, YtldgmneijipbjaaPSameAllx1, YtldgmneijipbjaaPSameAllx, YtldgmneijipbjaaPatx0, YtldgmneijipbjaaPatx1, YtldgmneijipbjaaPatx, YtldgmneijipbjaaPu1, YtldgmneijipbjaaGr1, YtldgmneijipbjaaGr2, YtldgmneijipbjaaGr3, YtldgmneijipbjaaHFr, YtldgmneijipbjaaHEnter, YtldgmneijipbjaaHLeave, YtldgmneijipbjaaHFrom, YtldgmneijipbjaaPSt, YtldgmneijipbjaaPPartsx0. -/
import Derived.Test.YtldgmneijipbjaaProg
import Derived.Test.YtldgmneijipbjaaWMore
import Derived.Test.YtldgmneijipbjaaWKept
import Derived.Test.YtldgmneijipbjaaWZeros
import Derived.KernelRfl
import Derived.Below
import Derived.Deep.Draws
import Derived.Deep.AppendLies
import Derived.Maps.AppendAt
import Derived.OwnWalk
import Derived.Laws.BytesArg
import Derived.Laws.MakeOwn
import Derived.Laws.OwnMore
import Derived.Deep.OwnRows
import Derived.Tactics
import Derived.Lib.ConvBytes
import Derived.Laws.Slices
import Derived.WalkKit
import Derived.RowKit3
import Derived.Deep.LoopGhost
import Derived.Deep.QuietTactic
import Derived.BigQuiet
import Derived.WideLaws
import Derived.Deep.DeepCutAuto
import Derived.Deep.CutBlock
import Derived.Deep.RegionHeld3
import Derived.Laws.Rows
import Derived.Lib.AppendStr
import Derived.ArgAppend
import Derived.Laws.IdiomCopy
import Derived.OrdersHeld
import Derived.Laws.BitsLemmas
import Derived.RowKit
import Derived.Test.YtldgmneijipbjaaWWords
import Derived.Test.YtldgmneijipbjaaWLast
import Derived.Test.YtldgmneijipbjaaWTab
import Derived.Test.YtldgmneijipbjaaWFour
import Derived.Test.YtldgmneijipbjaaWQPut
import Derived.Test.YtldgmneijipbjaaWApart
import Derived.Test.YtldgmneijipbjaaWArr
import Derived.Test.YtldgmneijipbjaaWFoot
import Derived.Test.YtldgmneijipbjaaWShare
import Derived.Test.YtldgmneijipbjaaWN
import Derived.Test.YtldgmneijipbjaaWFootNe
import Derived.Test.YtldgmneijipbjaaWAt
import Derived.Test.YtldgmneijipbjaaWEqStruct
import Derived.Test.YtldgmneijipbjaaWRepsOne
import Derived.Test.YtldgmneijipbjaaWInv
import Derived.Test.YtldgmneijipbjaaWInvWords
import Derived.Test.YtldgmneijipbjaaWGuard
import Derived.Test.YtldgmneijipbjaaWNEv
/- YtldgmneijipbjaaPCheckx0 -/
section
-- PRINTED BY print.sh 35421559b90ae4d0a3588c463048766b98c2df88dd9212a6774a882060cdf62d: not written by this session
namespace Go.Proofs.Ytldgmneijipbjaa.PCheck
open Go.RowKit Go.Proofs.YtldgmneijipbjaaW.PrintWords Go.Proofs.YtldgmneijipbjaaW.PrintLast Go.Proofs.YtldgmneijipbjaaW.PrintMore
attribute [local go_sem] max2_int min2_int max_two min_two max_three min_three max_four min_four   -- for this text's walks alone
set_option linter.unusedVariables false
set_option linter.unusedSimpArgs false



def errW : Option Int → Value
  | none => .nilIface
  | some c => .iface 0 (.int .i64 c)
theorem errW_none : errW none = .nilIface := rfl
theorem errW_some (c : Int) : errW (some c) = .iface 0 (.int .i64 c) := rfl

-- the values' own types
def rd_L1 (xs : List (List Int)) (i : Int) : (List Int) := xs.getD i.toNat ([] : List Int)
theorem at_L1 {w : World} {A : Option Addr} {n : Nat} {xs : List (List Int)} (h : Kd.C (Kd.slice 3 (Kd.int .i64)) w A n xs) (i : Int) (h0 : 0 ≤ i) (h1 : i < n) : ∃ ad A0 c0, A = some ad ∧ w.cell? (ad.add i.toNat) = some (.slice A0 (rd_L1 xs i).length c0) ∧ (rd_L1 xs i).length ≤ c0 ∧ (Kd.int .i64).C w A0 (rd_L1 xs i).length (rd_L1 xs i) := by
  obtain ⟨ad, c, e, _, hK, hc0⟩ := Kd.C_get h ([] : List Int) i h0 h1
  have hc : ∀ j u, c[j]? = some u → w.cell? (ad.add (i.toNat * 1 + j)) = some u := hc0
  obtain ⟨A0, c0, rfl, l0, g0⟩ := hK
  exact ⟨ad, A0, c0, e, by have hq := hc 0 _ rfl; rwa [Nat.mul_one, Nat.add_zero] at hq, l0, g0⟩

end Go.Proofs.Ytldgmneijipbjaa.PCheck
end
/- YtldgmneijipbjaaPCheckx1 -/
section
-- PRINTED BY print.sh 35421559b90ae4d0a3588c463048766b98c2df88dd9212a6774a882060cdf62d: not written by this session
namespace Go.Proofs.Ytldgmneijipbjaa.PCheck
open Go.RowKit Go.Proofs.YtldgmneijipbjaaW.PrintWords Go.Proofs.YtldgmneijipbjaaW.PrintLast Go.Proofs.YtldgmneijipbjaaW.PrintMore
attribute [local go_sem] max2_int min2_int max_two min_two max_three min_three max_four min_four   -- for this text's walks alone
set_option linter.unusedVariables false
set_option linter.unusedSimpArgs false

/-! ### order_Check: function 8 -/
mutual
def order_Check.l0 : Nat → List (List Int) → List (List Int) → Int → Int → Option (Int)
  | 0, _, _, _, _ => none
  | k + 1, x0, x7, x8, x9 => if x9 < x8 then (if 0 ≤ x9 then (if x9 < (x7.length : Int) then (order_Check.l1 k x0 x7 x8 x9 (rd_L1 x7 x9) ((rd_L1 x7 x9).length : Int) 0) else (none)) else (none)) else (some 0)
def order_Check.l1 : Nat → List (List Int) → List (List Int) → Int → Int → List Int → Int → Int → Option (Int)
  | 0, _, _, _, _, _, _, _ => none
  | k + 1, x0, x7, x8, x9, x13, x14, x15 => if x15 < x14 then (if 0 ≤ x15 then (if x15 < (x13.length : Int) then (if (rd x13 x15) < 0 then (some 110) else (if (rd x13 x15) ≥ (x0.length : Int) then (some 110) else (order_Check.l1 k x0 x7 x8 x9 x13 x14 (wrap64 (x15 + 1))))) else (none)) else (none)) else (order_Check.l0 k x0 x7 x8 (wrap64 (x9 + 1)))
end
def order_Check.f (k : Nat) (l0 : List (List Int)) : Option (Int) := order_Check.l0 k l0 l0 (l0.length : Int) 0
theorem order_Check.mono_l : ∀ k, (∀ y0 y1 y2 y3, LeO (order_Check.l0 k y0 y1 y2 y3) (order_Check.l0 (k + 1) y0 y1 y2 y3)) ∧ (∀ y0 y1 y2 y3 y4 y5 y6, LeO (order_Check.l1 k y0 y1 y2 y3 y4 y5 y6) (order_Check.l1 (k + 1) y0 y1 y2 y3 y4 y5 y6))
  | 0 => ⟨fun _ _ _ _ r h => by simp [order_Check.l0] at h, fun _ _ _ _ _ _ _ r h => by simp [order_Check.l1] at h⟩
  | k + 1 => by
    obtain ⟨ih0, ih1⟩ := order_Check.mono_l k
    refine ⟨?_, ?_⟩
    · intro y0 y1 y2 y3
      unfold order_Check.l0
      repeat' first
      | (with_reducible exact ih0 _ _ _ _)
      | (with_reducible exact ih1 _ _ _ _ _ _ _)
      | (with_reducible exact LeO.refl _)
      | (with_reducible exact LeO.none _)
      | (with_reducible refine LeO.ite ?_ ?_)
      | (with_reducible refine LeO.bind ?_ (fun _ => ?_))
      | exact ih0 _ _ _ _
      | exact ih1 _ _ _ _ _ _ _
      | exact LeO.none _
      | refine LeO.ite ?_ ?_
      | refine LeO.bind ?_ (fun _ => ?_)
    · intro y0 y1 y2 y3 y4 y5 y6
      unfold order_Check.l1
      repeat' first
      | (with_reducible exact ih0 _ _ _ _)
      | (with_reducible exact ih1 _ _ _ _ _ _ _)
      | (with_reducible exact LeO.refl _)
      | (with_reducible exact LeO.none _)
      | (with_reducible refine LeO.ite ?_ ?_)
      | (with_reducible refine LeO.bind ?_ (fun _ => ?_))
      | exact ih0 _ _ _ _
      | exact ih1 _ _ _ _ _ _ _
      | exact LeO.none _
      | refine LeO.ite ?_ ?_
      | refine LeO.bind ?_ (fun _ => ?_)
theorem order_Check.mono : ∀ a0 k, LeO (order_Check.f k a0) (order_Check.f (k + 1) a0) := by
  intro a0 k
  obtain ⟨ih0, ih1⟩ := order_Check.mono_l k
  unfold order_Check.f
  repeat' first
      | (with_reducible exact ih0 _ _ _ _)
      | (with_reducible exact ih1 _ _ _ _ _ _ _)
      | (with_reducible exact LeO.refl _)
      | (with_reducible exact LeO.none _)
      | (with_reducible refine LeO.ite ?_ ?_)
      | (with_reducible refine LeO.bind ?_ (fun _ => ?_))
      | exact ih0 _ _ _ _
      | exact ih1 _ _ _ _ _ _ _
      | exact LeO.none _
      | refine LeO.ite ?_ ?_
      | refine LeO.bind ?_ (fun _ => ?_)
set_option maxHeartbeats 8000000 in
set_option maxRecDepth 100000 in
theorem order_Check.calls (k : Nat) (A0 : Option Addr) (c0 : Nat) (l0 : List (List Int)) (r : Int) (w : World) (hr0 : Kd.C (Kd.slice 3 (Kd.int .i64)) w A0 l0.length l0) (hc0 : l0.length ≤ c0) (h : order_Check.f k l0 = some r) :
    Calls Try.prog 8 #[.slice A0 l0.length c0] w fun e w' => e = .returned (.int .i64 r) ∧ Drawn0 w w' := by
  have HR0 := Aside0.mk hr0
  have HC0 := Aside0.mk hc0
  clear hr0 hc0
  have H : (order_Check.l0 k l0 l0 (l0.length : Int) 0) = some r := h
  clear h
  have H' := Aside0.mk H
  clear H
  go_enter Try.func8, Try.ntmps8
  go_wp2
  go_loopg [9] k (fun kq v9 w' => ∃ (x9_1 : Int), v9 = .int .i64 x9_1 ∧ Aside0 (order_Check.l0 kq l0 l0 (l0.length : Int) x9_1 = some r) ∧ Aside0 (kq ≤ k) ∧ Drawn0 w w')
  case atStart => exact ⟨(0), (by first | rfl | (simp; done) | (simp [*]; done)), H', ⟨Nat.le_refl _⟩, by repeat (first | exact Drawn0.refl _ | apply Drawn0.step)⟩
  case round =>
    clear H'
    obtain ⟨x9_1, rfl, HA, HK1, ⟨m1, rfl⟩⟩ := hrel
    cases gk with
    | zero => exact absurd HA.out (by simp [order_Check.l0])
    | succ k1 =>
      have H := HA.out
      clear HA
      simp only [order_Check.l0] at H
      by_cases c2 : x9_1 < (l0.length : Int)
      · rw [if_pos c2] at H
        have c2b0 : decide (x9_1 < (l0.length : Int)) = true := decide_eq_true c2
        clear c2
        by_cases c3 : 0 ≤ x9_1
        · rw [if_pos c3] at H
          have c3b0 : decide (0 ≤ x9_1) = true := decide_eq_true c3
          clear c3
          by_cases c4 : x9_1 < (l0.length : Int)
          · rw [if_pos c4] at H
            have c4b0 : decide (x9_1 < (l0.length : Int)) = true := decide_eq_true c4
            clear c4
            have H' := Aside0.mk H
            clear H
            have p101 : 0 ≤ (x9_1 : Int) := of_decide_eq_true (by first | (with_reducible assumption) | assumption)
            have q101 : x9_1 < (l0.length : Int) := of_decide_eq_true (by first | (with_reducible assumption) | assumption)
            obtain ⟨ad101, A101_0, c101_0, e101, hx101_0, hl101_0, hi101_0⟩ := at_L1 HR0.out x9_1 p101 q101
            cases e101
            have HR101_0 := Aside0.mk hi101_0
            have HC101_0 := Aside0.mk hl101_0
            clear hi101_0 hl101_0
            replace p101 := eq_true p101
            replace q101 := eq_true q101
            go_wp2
            go_loopg [15] k1 (fun kq v15 w' => ∃ (x15_2 : Int), v15 = .int .i64 x15_2 ∧ Aside0 (order_Check.l1 kq l0 l0 (l0.length : Int) x9_1 (rd_L1 l0 x9_1) ((rd_L1 l0 x9_1).length : Int) x15_2 = some r) ∧ Aside0 (kq ≤ k1) ∧ Drawn0 w w')
            case atStart => exact ⟨(0), (by first | rfl | (simp; done) | (simp [*]; done)), H', ⟨Nat.le_refl _⟩, by repeat (first | exact Drawn0.refl _ | apply Drawn0.step)⟩
            case round =>
              clear H'
              try clear c1
              try clear p1
              try clear q1
              try clear hx1
              try clear c2
              try clear c2b0
              try clear p2
              try clear c3
              try clear c3b0
              try clear c4
              try clear c4b0
              try clear hx101_0
              try clear p101
              try clear q101
              obtain ⟨x15_2, rfl, HA, HK2, ⟨m2, rfl⟩⟩ := hrel
              cases gk with
              | zero => exact absurd HA.out (by simp [order_Check.l1])
              | succ k2 =>
                have H := HA.out
                clear HA
                simp only [order_Check.l1] at H
                by_cases c5 : x15_2 < ((rd_L1 l0 x9_1).length : Int)
                · rw [if_pos c5] at H
                  have c5b0 : decide (x15_2 < ((rd_L1 l0 x9_1).length : Int)) = true := decide_eq_true c5
                  clear c5
                  by_cases c6 : 0 ≤ x15_2
                  · rw [if_pos c6] at H
                    have c6b0 : decide (0 ≤ x15_2) = true := decide_eq_true c6
                    clear c6
                    by_cases c7 : x15_2 < ((rd_L1 l0 x9_1).length : Int)
                    · rw [if_pos c7] at H
                      have c7b0 : decide (x15_2 < ((rd_L1 l0 x9_1).length : Int)) = true := decide_eq_true c7
                      clear c7
                      by_cases c8 : (rd (rd_L1 l0 x9_1) x15_2) < 0
                      · rw [if_pos c8] at H
                        have c8b0 : decide ((rd (rd_L1 l0 x9_1) x15_2) < 0) = true := decide_eq_true c8
                        clear c8
                        obtain rfl := Option.some.inj H
                        have p102 : 0 ≤ (x15_2 : Int) := of_decide_eq_true (by first | (with_reducible assumption) | assumption)
                        have q102 : x15_2 < ((rd_L1 l0 x9_1).length : Int) := of_decide_eq_true (by first | (with_reducible assumption) | assumption)
                        obtain ⟨ad102, e102, hx102_0⟩ := Kd.at_int HR101_0.out x15_2 p102 q102
                        cases e102
                        replace p102 := eq_true p102
                        replace q102 := eq_true q102
                        go_wp2
                        go_ret
                        exact ⟨by first | rfl | (simp; done) | (simp [*]; done), by repeat (first | exact Drawn0.refl _ | apply Drawn0.step)⟩
                      · rw [if_neg c8] at H
                        have c8b0 : decide ((rd (rd_L1 l0 x9_1) x15_2) < 0) = false := decide_eq_false c8
                        clear c8
                        by_cases c9 : (rd (rd_L1 l0 x9_1) x15_2) ≥ (l0.length : Int)
                        · rw [if_pos c9] at H
                          have c9b0 : decide ((l0.length : Int) ≤ (rd (rd_L1 l0 x9_1) x15_2)) = true := decide_eq_true c9
                          clear c9
                          obtain rfl := Option.some.inj H
                          have p102 : 0 ≤ (x15_2 : Int) := of_decide_eq_true (by first | (with_reducible assumption) | assumption)
                          have q102 : x15_2 < ((rd_L1 l0 x9_1).length : Int) := of_decide_eq_true (by first | (with_reducible assumption) | assumption)
                          obtain ⟨ad102, e102, hx102_0⟩ := Kd.at_int HR101_0.out x15_2 p102 q102
                          cases e102
                          replace p102 := eq_true p102
                          replace q102 := eq_true q102
                          go_wp2
                          go_ret
                          exact ⟨by first | rfl | (simp; done) | (simp [*]; done), by repeat (first | exact Drawn0.refl _ | apply Drawn0.step)⟩
                        · rw [if_neg c9] at H
                          have c9b0 : decide ((l0.length : Int) ≤ (rd (rd_L1 l0 x9_1) x15_2)) = false := decide_eq_false c9
                          clear c9
                          have H' := Aside0.mk H
                          clear H
                          have p102 : 0 ≤ (x15_2 : Int) := of_decide_eq_true (by first | (with_reducible assumption) | assumption)
                          have q102 : x15_2 < ((rd_L1 l0 x9_1).length : Int) := of_decide_eq_true (by first | (with_reducible assumption) | assumption)
                          obtain ⟨ad102, e102, hx102_0⟩ := Kd.at_int HR101_0.out x15_2 p102 q102
                          cases e102
                          replace p102 := eq_true p102
                          replace q102 := eq_true q102
                          go_wp2
                          go_roundg k2
                          case measure => have := HK1.out; have := HK2.out; omega
                          case rel => exact ⟨(wrap64 (x15_2 + 1)), (by first | rfl | (simp; done) | (simp [*]; done)), H', ⟨by have := HK1.out; have := HK2.out; omega⟩, by repeat (first | exact Drawn0.refl _ | apply Drawn0.step)⟩
                    · rw [if_neg c7] at H
                      exact absurd H (by simp)
                  · rw [if_neg c6] at H
                    exact absurd H (by simp)
                · rw [if_neg c5] at H
                  have c5b0 : decide (x15_2 < ((rd_L1 l0 x9_1).length : Int)) = false := decide_eq_false c5
                  clear c5
                  have H' := Aside0.mk H
                  clear H
                  go_wp2
                  go_roundg k2
                  case measure => have := HK1.out; have := HK2.out; omega
                  case rel => exact ⟨(wrap64 (x9_1 + 1)), (by first | rfl | (simp; done) | (simp [*]; done)), H', ⟨by have := HK1.out; have := HK2.out; omega⟩, by repeat (first | exact Drawn0.refl _ | apply Drawn0.step)⟩
          · rw [if_neg c4] at H
            exact absurd H (by simp)
        · rw [if_neg c3] at H
          exact absurd H (by simp)
      · rw [if_neg c2] at H
        have c2b0 : decide (x9_1 < (l0.length : Int)) = false := decide_eq_false c2
        clear c2
        obtain rfl := Option.some.inj H
        go_wp2
        go_ret
        exact ⟨by first | rfl | (simp; done) | (simp [*]; done), by repeat (first | exact Drawn0.refl _ | apply Drawn0.step)⟩

end Go.Proofs.Ytldgmneijipbjaa.PCheck
end
/- YtldgmneijipbjaaPCheckx -/
section
-- PRINTED BY print.sh 35421559b90ae4d0a3588c463048766b98c2df88dd9212a6774a882060cdf62d: not written by this session
namespace Go.Proofs.Ytldgmneijipbjaa.PCheck
open Go.RowKit Go.Proofs.YtldgmneijipbjaaW.PrintWords Go.Proofs.YtldgmneijipbjaaW.PrintLast Go.Proofs.YtldgmneijipbjaaW.PrintMore
attribute [local go_sem] max2_int min2_int max_two min_two max_three min_three max_four min_four   -- for this text's walks alone
set_option linter.unusedVariables false
set_option linter.unusedSimpArgs false

end Go.Proofs.Ytldgmneijipbjaa.PCheck
end
/- YtldgmneijipbjaaPOrderx0 -/
section
-- PRINTED BY print.sh 35421559b90ae4d0a3588c463048766b98c2df88dd9212a6774a882060cdf62d: not written by this session
namespace Go.Proofs.Ytldgmneijipbjaa.POrder
open Go.RowKit Go.Proofs.YtldgmneijipbjaaW.PrintWords Go.Proofs.YtldgmneijipbjaaW.PrintLast Go.Proofs.YtldgmneijipbjaaW.PrintMore
attribute [local go_sem] max2_int min2_int max_two min_two max_three min_three max_four min_four   -- for this text's walks alone
set_option linter.unusedVariables false
set_option linter.unusedSimpArgs false



def errW : Option Int → Value
  | none => .nilIface
  | some c => .iface 0 (.int .i64 c)
theorem errW_none : errW none = .nilIface := rfl
theorem errW_some (c : Int) : errW (some c) = .iface 0 (.int .i64 c) := rfl

theorem info3 : (Try.prog.info? 3).map (fun i => (i.zero, i.size, i.bytes)) = some (some (.int .i64 0), 1, 8) := by kernel_rfl
theorem info4 : (Try.prog.info? 4).map (fun i => (i.zero, i.size, i.bytes)) = some (some (.bool false), 1, 1) := by kernel_rfl
-- the values' own types
def rd_L1 (xs : List (List Int)) (i : Int) : (List Int) := xs.getD i.toNat ([] : List Int)
theorem at_L1 {w : World} {A : Option Addr} {n : Nat} {xs : List (List Int)} (h : Kd.C (Kd.slice 3 (Kd.int .i64)) w A n xs) (i : Int) (h0 : 0 ≤ i) (h1 : i < n) : ∃ ad A0 c0, A = some ad ∧ w.cell? (ad.add i.toNat) = some (.slice A0 (rd_L1 xs i).length c0) ∧ (rd_L1 xs i).length ≤ c0 ∧ (Kd.int .i64).C w A0 (rd_L1 xs i).length (rd_L1 xs i) := by
  obtain ⟨ad, c, e, _, hK, hc0⟩ := Kd.C_get h ([] : List Int) i h0 h1
  have hc : ∀ j u, c[j]? = some u → w.cell? (ad.add (i.toNat * 1 + j)) = some u := hc0
  obtain ⟨A0, c0, rfl, l0, g0⟩ := hK
  exact ⟨ad, A0, c0, e, by have hq := hc 0 _ rfl; rwa [Nat.mul_one, Nat.add_zero] at hq, l0, g0⟩

end Go.Proofs.Ytldgmneijipbjaa.POrder
end
/- YtldgmneijipbjaaPOrderx1 -/
section
-- PRINTED BY print.sh 35421559b90ae4d0a3588c463048766b98c2df88dd9212a6774a882060cdf62d: not written by this session
namespace Go.Proofs.Ytldgmneijipbjaa.POrder
open Go.RowKit Go.Proofs.YtldgmneijipbjaaW.PrintWords Go.Proofs.YtldgmneijipbjaaW.PrintLast Go.Proofs.YtldgmneijipbjaaW.PrintMore
attribute [local go_sem] max2_int min2_int max_two min_two max_three min_three max_four min_four   -- for this text's walks alone
set_option linter.unusedVariables false
set_option linter.unusedSimpArgs false

/-! ### gussetref11_Check: function 9 -/
mutual
def gussetref11_Check.l0 : Nat → List (List Int) → Int → Option (Int)
  | 0, _, _ => none
  | k + 1, x0, x3 => if x3 < (x0.length : Int) then (gussetref11_Check.l1 k x0 x3 0) else (some 0)
def gussetref11_Check.l1 : Nat → List (List Int) → Int → Int → Option (Int)
  | 0, _, _, _ => none
  | k + 1, x0, x3, x4 => if 0 ≤ x3 then (if x3 < (x0.length : Int) then (if x4 < ((rd_L1 x0 x3).length : Int) then (if 0 ≤ x4 then (if (rd (rd_L1 x0 x3) x4) < 0 then (some 110) else (if (rd (rd_L1 x0 x3) x4) ≥ (x0.length : Int) then (some 110) else (gussetref11_Check.l1 k x0 x3 (wrap64 (x4 + 1))))) else (none)) else (gussetref11_Check.l0 k x0 (wrap64 (x3 + 1)))) else (none)) else (none)
end
def gussetref11_Check.f (k : Nat) (l0 : List (List Int)) : Option (Int) := gussetref11_Check.l0 k l0 0
theorem gussetref11_Check.mono_l : ∀ k, (∀ y0 y1, LeO (gussetref11_Check.l0 k y0 y1) (gussetref11_Check.l0 (k + 1) y0 y1)) ∧ (∀ y0 y1 y2, LeO (gussetref11_Check.l1 k y0 y1 y2) (gussetref11_Check.l1 (k + 1) y0 y1 y2))
  | 0 => ⟨fun _ _ r h => by simp [gussetref11_Check.l0] at h, fun _ _ _ r h => by simp [gussetref11_Check.l1] at h⟩
  | k + 1 => by
    obtain ⟨ih0, ih1⟩ := gussetref11_Check.mono_l k
    refine ⟨?_, ?_⟩
    · intro y0 y1
      unfold gussetref11_Check.l0
      repeat' first
      | (with_reducible exact ih0 _ _)
      | (with_reducible exact ih1 _ _ _)
      | (with_reducible exact LeO.refl _)
      | (with_reducible exact LeO.none _)
      | (with_reducible refine LeO.ite ?_ ?_)
      | (with_reducible refine LeO.bind ?_ (fun _ => ?_))
      | exact ih0 _ _
      | exact ih1 _ _ _
      | exact LeO.none _
      | refine LeO.ite ?_ ?_
      | refine LeO.bind ?_ (fun _ => ?_)
    · intro y0 y1 y2
      unfold gussetref11_Check.l1
      repeat' first
      | (with_reducible exact ih0 _ _)
      | (with_reducible exact ih1 _ _ _)
      | (with_reducible exact LeO.refl _)
      | (with_reducible exact LeO.none _)
      | (with_reducible refine LeO.ite ?_ ?_)
      | (with_reducible refine LeO.bind ?_ (fun _ => ?_))
      | exact ih0 _ _
      | exact ih1 _ _ _
      | exact LeO.none _
      | refine LeO.ite ?_ ?_
      | refine LeO.bind ?_ (fun _ => ?_)
theorem gussetref11_Check.mono : ∀ a0 k, LeO (gussetref11_Check.f k a0) (gussetref11_Check.f (k + 1) a0) := by
  intro a0 k
  obtain ⟨ih0, ih1⟩ := gussetref11_Check.mono_l k
  unfold gussetref11_Check.f
  repeat' first
      | (with_reducible exact ih0 _ _)
      | (with_reducible exact ih1 _ _ _)
      | (with_reducible exact LeO.refl _)
      | (with_reducible exact LeO.none _)
      | (with_reducible refine LeO.ite ?_ ?_)
      | (with_reducible refine LeO.bind ?_ (fun _ => ?_))
      | exact ih0 _ _
      | exact ih1 _ _ _
      | exact LeO.none _
      | refine LeO.ite ?_ ?_
      | refine LeO.bind ?_ (fun _ => ?_)
set_option maxHeartbeats 8000000 in
set_option maxRecDepth 100000 in
theorem gussetref11_Check.calls (k : Nat) (A0 : Option Addr) (c0 : Nat) (l0 : List (List Int)) (r : Int) (w : World) (hr0 : Kd.C (Kd.slice 3 (Kd.int .i64)) w A0 l0.length l0) (hc0 : l0.length ≤ c0) (h : gussetref11_Check.f k l0 = some r) :
    Calls Try.prog 9 #[.slice A0 l0.length c0] w fun e w' => e = .returned (.int .i64 r) ∧ Drawn0 w w' := by
  have HR0 := Aside0.mk hr0
  have HC0 := Aside0.mk hc0
  clear hr0 hc0
  have H : (gussetref11_Check.l0 k l0 0) = some r := h
  clear h
  have H' := Aside0.mk H
  clear H
  go_enter Try.func9, Try.ntmps9
  go_wp2
  go_loopg [3] k (fun kq v3 w' => ∃ (x3_1 : Int), v3 = .int .i64 x3_1 ∧ Aside0 (gussetref11_Check.l0 kq l0 x3_1 = some r) ∧ Aside0 (kq ≤ k) ∧ Drawn0 w w')
  case atStart => exact ⟨(0), (by first | rfl | (simp; done) | (simp [*]; done)), H', ⟨Nat.le_refl _⟩, by repeat (first | exact Drawn0.refl _ | apply Drawn0.step)⟩
  case round =>
    clear H'
    obtain ⟨x3_1, rfl, HA, HK1, ⟨m1, rfl⟩⟩ := hrel
    cases gk with
    | zero => exact absurd HA.out (by simp [gussetref11_Check.l0])
    | succ k1 =>
      have H := HA.out
      clear HA
      simp only [gussetref11_Check.l0] at H
      by_cases c2 : x3_1 < (l0.length : Int)
      · rw [if_pos c2] at H
        have c2b0 : decide (x3_1 < (l0.length : Int)) = true := decide_eq_true c2
        clear c2
        have H' := Aside0.mk H
        clear H
        go_wp2
        go_loopg [4] k1 (fun kq v4 w' => ∃ (x4_2 : Int), v4 = .int .i64 x4_2 ∧ Aside0 (gussetref11_Check.l1 kq l0 x3_1 x4_2 = some r) ∧ Aside0 (kq ≤ k1) ∧ Drawn0 w w')
        case atStart => exact ⟨(0), (by first | rfl | (simp; done) | (simp [*]; done)), H', ⟨Nat.le_refl _⟩, by repeat (first | exact Drawn0.refl _ | apply Drawn0.step)⟩
        case round =>
          clear H'
          try clear c2
          try clear c2b0
          try clear p2
          obtain ⟨x4_2, rfl, HA, HK2, ⟨m2, rfl⟩⟩ := hrel
          cases gk with
          | zero => exact absurd HA.out (by simp [gussetref11_Check.l1])
          | succ k2 =>
            have H := HA.out
            clear HA
            simp only [gussetref11_Check.l1] at H
            by_cases c3 : 0 ≤ x3_1
            · rw [if_pos c3] at H
              have c3b0 : decide (0 ≤ x3_1) = true := decide_eq_true c3
              clear c3
              by_cases c4 : x3_1 < (l0.length : Int)
              · rw [if_pos c4] at H
                have c4b0 : decide (x3_1 < (l0.length : Int)) = true := decide_eq_true c4
                clear c4
                by_cases c5 : x4_2 < ((rd_L1 l0 x3_1).length : Int)
                · rw [if_pos c5] at H
                  have c5b0 : decide (x4_2 < ((rd_L1 l0 x3_1).length : Int)) = true := decide_eq_true c5
                  clear c5
                  by_cases c6 : 0 ≤ x4_2
                  · rw [if_pos c6] at H
                    have c6b0 : decide (0 ≤ x4_2) = true := decide_eq_true c6
                    clear c6
                    by_cases c7 : (rd (rd_L1 l0 x3_1) x4_2) < 0
                    · rw [if_pos c7] at H
                      have c7b0 : decide ((rd (rd_L1 l0 x3_1) x4_2) < 0) = true := decide_eq_true c7
                      clear c7
                      obtain rfl := Option.some.inj H
                      have p101 : 0 ≤ (x3_1 : Int) := of_decide_eq_true (by first | (with_reducible assumption) | assumption)
                      have q101 : x3_1 < (l0.length : Int) := of_decide_eq_true (by first | (with_reducible assumption) | assumption)
                      obtain ⟨ad101, A101_0, c101_0, e101, hx101_0, hl101_0, hi101_0⟩ := at_L1 HR0.out x3_1 p101 q101
                      cases e101
                      have HR101_0 := Aside0.mk hi101_0
                      have HC101_0 := Aside0.mk hl101_0
                      clear hi101_0 hl101_0
                      replace p101 := eq_true p101
                      replace q101 := eq_true q101
                      have p102 : 0 ≤ (x3_1 : Int) := of_decide_eq_true (by first | (with_reducible assumption) | assumption)
                      have q102 : x3_1 < (l0.length : Int) := of_decide_eq_true (by first | (with_reducible assumption) | assumption)
                      obtain ⟨ad102, A102_0, c102_0, e102, hx102_0, hl102_0, hi102_0⟩ := at_L1 HR0.out x3_1 p102 q102
                      obtain rfl : ad101 = ad102 := (by injection e102)
                      have HR102_0 := Aside0.mk hi102_0
                      have HC102_0 := Aside0.mk hl102_0
                      clear hi102_0 hl102_0
                      replace p102 := eq_true p102
                      replace q102 := eq_true q102
                      have ea_ := Option.some.inj (hx101_0.symm.trans hx102_0)
                      injection ea_ with ea_ en_ ec_
                      subst ea_
                      subst ec_
                      clear en_
                      have p103 : 0 ≤ (x4_2 : Int) := of_decide_eq_true (by first | (with_reducible assumption) | assumption)
                      have q103 : x4_2 < ((rd_L1 l0 x3_1).length : Int) := of_decide_eq_true (by first | (with_reducible assumption) | assumption)
                      obtain ⟨ad103, e103, hx103_0⟩ := Kd.at_int HR102_0.out x4_2 p103 q103
                      cases e103
                      replace p103 := eq_true p103
                      replace q103 := eq_true q103
                      go_wp2
                      go_ret
                      exact ⟨by first | rfl | (simp; done) | (simp [*]; done), by repeat (first | exact Drawn0.refl _ | apply Drawn0.step)⟩
                    · rw [if_neg c7] at H
                      have c7b0 : decide ((rd (rd_L1 l0 x3_1) x4_2) < 0) = false := decide_eq_false c7
                      clear c7
                      by_cases c8 : (rd (rd_L1 l0 x3_1) x4_2) ≥ (l0.length : Int)
                      · rw [if_pos c8] at H
                        have c8b0 : decide ((l0.length : Int) ≤ (rd (rd_L1 l0 x3_1) x4_2)) = true := decide_eq_true c8
                        clear c8
                        obtain rfl := Option.some.inj H
                        have p101 : 0 ≤ (x3_1 : Int) := of_decide_eq_true (by first | (with_reducible assumption) | assumption)
                        have q101 : x3_1 < (l0.length : Int) := of_decide_eq_true (by first | (with_reducible assumption) | assumption)
                        obtain ⟨ad101, A101_0, c101_0, e101, hx101_0, hl101_0, hi101_0⟩ := at_L1 HR0.out x3_1 p101 q101
                        cases e101
                        have HR101_0 := Aside0.mk hi101_0
                        have HC101_0 := Aside0.mk hl101_0
                        clear hi101_0 hl101_0
                        replace p101 := eq_true p101
                        replace q101 := eq_true q101
                        have p102 : 0 ≤ (x3_1 : Int) := of_decide_eq_true (by first | (with_reducible assumption) | assumption)
                        have q102 : x3_1 < (l0.length : Int) := of_decide_eq_true (by first | (with_reducible assumption) | assumption)
                        obtain ⟨ad102, A102_0, c102_0, e102, hx102_0, hl102_0, hi102_0⟩ := at_L1 HR0.out x3_1 p102 q102
                        obtain rfl : ad101 = ad102 := (by injection e102)
                        have HR102_0 := Aside0.mk hi102_0
                        have HC102_0 := Aside0.mk hl102_0
                        clear hi102_0 hl102_0
                        replace p102 := eq_true p102
                        replace q102 := eq_true q102
                        have ea_ := Option.some.inj (hx101_0.symm.trans hx102_0)
                        injection ea_ with ea_ en_ ec_
                        subst ea_
                        subst ec_
                        clear en_
                        have p103 : 0 ≤ (x4_2 : Int) := of_decide_eq_true (by first | (with_reducible assumption) | assumption)
                        have q103 : x4_2 < ((rd_L1 l0 x3_1).length : Int) := of_decide_eq_true (by first | (with_reducible assumption) | assumption)
                        obtain ⟨ad103, e103, hx103_0⟩ := Kd.at_int HR102_0.out x4_2 p103 q103
                        cases e103
                        replace p103 := eq_true p103
                        replace q103 := eq_true q103
                        have p104 : 0 ≤ (x3_1 : Int) := of_decide_eq_true (by first | (with_reducible assumption) | assumption)
                        have q104 : x3_1 < (l0.length : Int) := of_decide_eq_true (by first | (with_reducible assumption) | assumption)
                        obtain ⟨ad104, A104_0, c104_0, e104, hx104_0, hl104_0, hi104_0⟩ := at_L1 HR0.out x3_1 p104 q104
                        obtain rfl : ad101 = ad104 := (by injection e104)
                        have HR104_0 := Aside0.mk hi104_0
                        have HC104_0 := Aside0.mk hl104_0
                        clear hi104_0 hl104_0
                        replace p104 := eq_true p104
                        replace q104 := eq_true q104
                        have ea_ := Option.some.inj (hx101_0.symm.trans hx104_0)
                        injection ea_ with ea_ en_ ec_
                        subst ea_
                        subst ec_
                        clear en_
                        have p105 : 0 ≤ (x4_2 : Int) := of_decide_eq_true (by first | (with_reducible assumption) | assumption)
                        have q105 : x4_2 < ((rd_L1 l0 x3_1).length : Int) := of_decide_eq_true (by first | (with_reducible assumption) | assumption)
                        obtain ⟨ad105, e105, hx105_0⟩ := Kd.at_int HR104_0.out x4_2 p105 q105
                        cases e105
                        replace p105 := eq_true p105
                        replace q105 := eq_true q105
                        go_wp2
                        go_ret
                        exact ⟨by first | rfl | (simp; done) | (simp [*]; done), by repeat (first | exact Drawn0.refl _ | apply Drawn0.step)⟩
                      · rw [if_neg c8] at H
                        have c8b0 : decide ((l0.length : Int) ≤ (rd (rd_L1 l0 x3_1) x4_2)) = false := decide_eq_false c8
                        clear c8
                        have H' := Aside0.mk H
                        clear H
                        have p101 : 0 ≤ (x3_1 : Int) := of_decide_eq_true (by first | (with_reducible assumption) | assumption)
                        have q101 : x3_1 < (l0.length : Int) := of_decide_eq_true (by first | (with_reducible assumption) | assumption)
                        obtain ⟨ad101, A101_0, c101_0, e101, hx101_0, hl101_0, hi101_0⟩ := at_L1 HR0.out x3_1 p101 q101
                        cases e101
                        have HR101_0 := Aside0.mk hi101_0
                        have HC101_0 := Aside0.mk hl101_0
                        clear hi101_0 hl101_0
                        replace p101 := eq_true p101
                        replace q101 := eq_true q101
                        have p102 : 0 ≤ (x3_1 : Int) := of_decide_eq_true (by first | (with_reducible assumption) | assumption)
                        have q102 : x3_1 < (l0.length : Int) := of_decide_eq_true (by first | (with_reducible assumption) | assumption)
                        obtain ⟨ad102, A102_0, c102_0, e102, hx102_0, hl102_0, hi102_0⟩ := at_L1 HR0.out x3_1 p102 q102
                        obtain rfl : ad101 = ad102 := (by injection e102)
                        have HR102_0 := Aside0.mk hi102_0
                        have HC102_0 := Aside0.mk hl102_0
                        clear hi102_0 hl102_0
                        replace p102 := eq_true p102
                        replace q102 := eq_true q102
                        have ea_ := Option.some.inj (hx101_0.symm.trans hx102_0)
                        injection ea_ with ea_ en_ ec_
                        subst ea_
                        subst ec_
                        clear en_
                        have p103 : 0 ≤ (x4_2 : Int) := of_decide_eq_true (by first | (with_reducible assumption) | assumption)
                        have q103 : x4_2 < ((rd_L1 l0 x3_1).length : Int) := of_decide_eq_true (by first | (with_reducible assumption) | assumption)
                        obtain ⟨ad103, e103, hx103_0⟩ := Kd.at_int HR102_0.out x4_2 p103 q103
                        cases e103
                        replace p103 := eq_true p103
                        replace q103 := eq_true q103
                        have p104 : 0 ≤ (x3_1 : Int) := of_decide_eq_true (by first | (with_reducible assumption) | assumption)
                        have q104 : x3_1 < (l0.length : Int) := of_decide_eq_true (by first | (with_reducible assumption) | assumption)
                        obtain ⟨ad104, A104_0, c104_0, e104, hx104_0, hl104_0, hi104_0⟩ := at_L1 HR0.out x3_1 p104 q104
                        obtain rfl : ad101 = ad104 := (by injection e104)
                        have HR104_0 := Aside0.mk hi104_0
                        have HC104_0 := Aside0.mk hl104_0
                        clear hi104_0 hl104_0
                        replace p104 := eq_true p104
                        replace q104 := eq_true q104
                        have ea_ := Option.some.inj (hx101_0.symm.trans hx104_0)
                        injection ea_ with ea_ en_ ec_
                        subst ea_
                        subst ec_
                        clear en_
                        have p105 : 0 ≤ (x4_2 : Int) := of_decide_eq_true (by first | (with_reducible assumption) | assumption)
                        have q105 : x4_2 < ((rd_L1 l0 x3_1).length : Int) := of_decide_eq_true (by first | (with_reducible assumption) | assumption)
                        obtain ⟨ad105, e105, hx105_0⟩ := Kd.at_int HR104_0.out x4_2 p105 q105
                        cases e105
                        replace p105 := eq_true p105
                        replace q105 := eq_true q105
                        go_wp2
                        go_roundg k2
                        case measure => have := HK1.out; have := HK2.out; omega
                        case rel => exact ⟨(wrap64 (x4_2 + 1)), (by first | rfl | (simp; done) | (simp [*]; done)), H', ⟨by have := HK1.out; have := HK2.out; omega⟩, by repeat (first | exact Drawn0.refl _ | apply Drawn0.step)⟩
                  · rw [if_neg c6] at H
                    exact absurd H (by simp)
                · rw [if_neg c5] at H
                  have c5b0 : decide (x4_2 < ((rd_L1 l0 x3_1).length : Int)) = false := decide_eq_false c5
                  clear c5
                  have H' := Aside0.mk H
                  clear H
                  have p101 : 0 ≤ (x3_1 : Int) := of_decide_eq_true (by first | (with_reducible assumption) | assumption)
                  have q101 : x3_1 < (l0.length : Int) := of_decide_eq_true (by first | (with_reducible assumption) | assumption)
                  obtain ⟨ad101, A101_0, c101_0, e101, hx101_0, hl101_0, hi101_0⟩ := at_L1 HR0.out x3_1 p101 q101
                  cases e101
                  have HR101_0 := Aside0.mk hi101_0
                  have HC101_0 := Aside0.mk hl101_0
                  clear hi101_0 hl101_0
                  replace p101 := eq_true p101
                  replace q101 := eq_true q101
                  go_wp2
                  go_roundg k2
                  case measure => have := HK1.out; have := HK2.out; omega
                  case rel => exact ⟨(wrap64 (x3_1 + 1)), (by first | rfl | (simp; done) | (simp [*]; done)), H', ⟨by have := HK1.out; have := HK2.out; omega⟩, by repeat (first | exact Drawn0.refl _ | apply Drawn0.step)⟩
              · rw [if_neg c4] at H
                exact absurd H (by simp)
            · rw [if_neg c3] at H
              exact absurd H (by simp)
      · rw [if_neg c2] at H
        have c2b0 : decide (x3_1 < (l0.length : Int)) = false := decide_eq_false c2
        clear c2
        obtain rfl := Option.some.inj H
        go_wp2
        go_ret
        exact ⟨by first | rfl | (simp; done) | (simp [*]; done), by repeat (first | exact Drawn0.refl _ | apply Drawn0.step)⟩

/-! ### gussetref11_walk: function 26 -/
mutual
def gussetref11_walk.l0 : Nat → List (List Int) → Int → List Bool → List Int → Int → Option (List Int × List Bool)
  | 0, _, _, _, _, _ => none
  | k + 1, x0, x1, x2, x3, x9 => if 0 ≤ x1 then (if x1 < (x0.length : Int) then (if x9 < ((rd_L1 x0 x1).length : Int) then (if 0 ≤ x9 then (if 0 ≤ (rd (rd_L1 x0 x1) x9) then (if (rd (rd_L1 x0 x1) x9) < (x2.length : Int) then (if (rdOf false x2 (rd (rd_L1 x0 x1) x9) = true) then (gussetref11_walk.l0 k x0 x1 x2 x3 (wrap64 (x9 + 1))) else ((gussetref11_walk.f k x0 (rd (rd_L1 x0 x1) x9) x2 x3).bind fun bt113 => (gussetref11_walk.l0 k x0 x1 bt113.2 bt113.1 (wrap64 (x9 + 1))))) else (none)) else (none)) else (none)) else (if x3.length < 17592186044416 then (some ((x3 ++ [x1]), x2)) else (none))) else (none)) else (none)
def gussetref11_walk.f : Nat → List (List Int) → Int → List Bool → List Int → Option (List Int × List Bool)
  | 0, _, _, _, _ => none
  | k + 1, l0, a1, l2, l3 => if 0 ≤ a1 then (if a1 < (l2.length : Int) then (gussetref11_walk.l0 k l0 a1 (l2.set (a1 : Int).toNat true) l3 0) else (none)) else (none)
end
theorem gussetref11_walk.mono_l : ∀ k, (∀ y0 y1 y2 y3, LeO (gussetref11_walk.f k y0 y1 y2 y3) (gussetref11_walk.f (k + 1) y0 y1 y2 y3)) ∧ (∀ y0 y1 y2 y3 y4, LeO (gussetref11_walk.l0 k y0 y1 y2 y3 y4) (gussetref11_walk.l0 (k + 1) y0 y1 y2 y3 y4))
  | 0 => ⟨fun _ _ _ _ r h => by simp [gussetref11_walk.f] at h, fun _ _ _ _ _ r h => by simp [gussetref11_walk.l0] at h⟩
  | k + 1 => by
    obtain ⟨ih0, ih1⟩ := gussetref11_walk.mono_l k
    refine ⟨?_, ?_⟩
    · intro y0 y1 y2 y3
      unfold gussetref11_walk.f
      repeat' first
      | (with_reducible exact ih0 _ _ _ _)
      | (with_reducible exact ih1 _ _ _ _ _)
      | (with_reducible exact LeO.refl _)
      | (with_reducible exact LeO.none _)
      | (with_reducible refine LeO.ite ?_ ?_)
      | (with_reducible refine LeO.bind ?_ (fun _ => ?_))
      | exact ih0 _ _ _ _
      | exact ih1 _ _ _ _ _
      | exact LeO.none _
      | refine LeO.ite ?_ ?_
      | refine LeO.bind ?_ (fun _ => ?_)
    · intro y0 y1 y2 y3 y4
      unfold gussetref11_walk.l0
      repeat' first
      | (with_reducible exact ih0 _ _ _ _)
      | (with_reducible exact ih1 _ _ _ _ _)
      | (with_reducible exact LeO.refl _)
      | (with_reducible exact LeO.none _)
      | (with_reducible refine LeO.ite ?_ ?_)
      | (with_reducible refine LeO.bind ?_ (fun _ => ?_))
      | exact ih0 _ _ _ _
      | exact ih1 _ _ _ _ _
      | exact LeO.none _
      | refine LeO.ite ?_ ?_
      | refine LeO.bind ?_ (fun _ => ?_)
theorem gussetref11_walk.mono : ∀ a0 a1 a2 a3 k, LeO (gussetref11_walk.f k a0 a1 a2 a3) (gussetref11_walk.f (k + 1) a0 a1 a2 a3) := by
  intro a0 a1 a2 a3 k
  obtain ⟨ih0, ih1⟩ := gussetref11_walk.mono_l k
  exact ih0 a0 a1 a2 a3
set_option maxHeartbeats 8000000 in
set_option maxRecDepth 100000 in
theorem gussetref11_walk.calls (k : Nat) : ∀ (A0 : Option Addr) (c0 : Nat) (l0 : List (List Int)) (a1 : Int) (P2_ : Nat → Prop) (u9000_ : Value) (l2 : List Bool) (P3_ : Nat → Prop) (u9001_ : Value) (l3 : List Int) (r1 : List Int) (r2 : List Bool) (w0 w : World) (hB : Below w0.heap.size w0 w) (hr0 : ∀ W_, Kept w W_ (fun k_ => P2_ k_ ∨ P3_ k_) → Kd.C (Kd.slice 3 (Kd.int .i64)) W_ A0 l0.length l0) (hc0 : l0.length ≤ c0) (ho2 : Kd.R Kd.bool 4 w w0.heap.size P2_ u9000_ l2) (ho3 : Kd.R (Kd.int .i64) 3 w w0.heap.size P3_ u9001_ l3) (h : gussetref11_walk.f k l0 a1 l2 l3 = some (r1, r2)),
    Calls Try.prog 26 #[.slice A0 l0.length c0, .int .i64 a1, u9000_, u9001_] w fun e w' => ∃ v0_ : Value, e = .returned (v0_) ∧ Kd.R (Kd.int .i64) 3 w' w0.heap.size (fun k_ => ((P2_ k_ ∨ P3_ k_) ∨ w.heap.size ≤ k_)) v0_ r1 ∧ Kd.R Kd.bool 4 w' w0.heap.size (fun k_ => ((P2_ k_ ∨ P3_ k_) ∨ w.heap.size ≤ k_)) u9000_ r2 ∧ Below w0.heap.size w0 w' ∧ Kept w w' (fun k_ => P2_ k_ ∨ P3_ k_) := by
  induction k using Nat.strongRecOn with
  | _ k ih =>
  intro A0 c0 l0 a1 P2_ u9000_ l2 P3_ u9001_ l3 r1 r2 w0 w hB hr0 hc0 ho2 ho3 h
  cases k with
  | zero => exact absurd h (by simp [gussetref11_walk.f])
  | succ k =>
  simp only [gussetref11_walk.f] at h
  have HR0 := Aside0.mk hr0
  have HC0 := Aside0.mk hc0
  clear hr0 hc0
  have HO2 := Aside0.mk (show Kd.R Kd.bool 4 w w0.heap.size (fun k_ => ((P2_ k_ ∨ P3_ k_) ∨ w.heap.size ≤ k_)) u9000_ l2 from Kd.R_mono ho2 (fun k_ hk => (.inl (.inl hk))))
  have HO3 := Aside0.mk (show Kd.R (Kd.int .i64) 3 w w0.heap.size (fun k_ => ((P2_ k_ ∨ P3_ k_) ∨ w.heap.size ≤ k_)) u9001_ l3 from Kd.R_mono ho3 (fun k_ hk => (.inl (.inr hk))))
  have HK := Aside0.mk (Kept.refl w (fun k_ => P2_ k_ ∨ P3_ k_))
  have HW0 := Aside0.mk hB.size
  have HB := Aside0.mk hB
  clear hB
  have H : (if 0 ≤ a1 then (if a1 < (l2.length : Int) then (gussetref11_walk.l0 k l0 a1 (l2.set (a1 : Int).toNat true) l3 0) else (none)) else (none)) = some (r1, r2) := h
  clear h
  by_cases c5 : 0 ≤ a1
  · rw [if_pos c5] at H
    have c5b0 : decide (0 ≤ a1) = true := decide_eq_true c5
    clear c5
    by_cases c6 : a1 < (l2.length : Int)
    · rw [if_pos c6] at H
      have c6b0 : decide (a1 < (l2.length : Int)) = true := decide_eq_true c6
      clear c6
      obtain ⟨y106, hy106⟩ : ∃ y_ : List Bool, y_ = (l2.set (a1 : Int).toNat true) := ⟨_, rfl⟩
      replace H : (gussetref11_walk.l0 k l0 a1 y106 l3 0) = some (r1, r2) := by first | (rw [hy106]; with_reducible exact H) | (have H2_ := (Option.bind_some _ _).symm.trans H; rw [hy106]; with_reducible exact H2_) | (have H2_ := (Option.bind_some _ _).symm.trans H; with_reducible exact H2_) | with_reducible exact H | (rw [hy106]; exact H) | exact H
      have Ny106 := Aside0.mk hy106
      clear hy106
      have H' := Aside0.mk H
      clear H
      have p7 : 0 ≤ (a1 : Int) := of_decide_eq_true (by first | (with_reducible assumption) | assumption)
      have q7 : (a1 : Int) < ((l2.length : Int) : Int) := of_decide_eq_true (by first | (with_reducible assumption) | assumption)
      obtain ⟨go7, co7, eo7, gb7, gl7, cl7, HG7⟩ := Kd.R_form HO2.out (by omega)
      (first | cases eo7 | (injection eo7 with ea_ en_ ec_; (first | subst ea_ | (injection ea_ with ea_; subst ea_)); subst ec_; clear en_))
      have GB7 := Aside0.mk gb7
      have GG7 := Aside0.mk HG7
      clear gb7 gl7 HG7
      have HMgo7 := Aside0.mk (show ((P2_ go7 ∨ P3_ go7) ∨ w.heap.size ≤ go7) from (HO2.out.1 _ rfl))
      obtain ⟨hx7_0, hf7_0⟩ := Kd.R_celln false HO2.out (a1 : Int) p7 q7
      replace p7 := eq_true p7
      replace q7 := eq_true q7
      have HP8 := Kd.R_putg HO2.out (a1 : Int) true
      go_enter Try.func26, Try.ntmps26
      go_wp2_with (first | ((with_reducible refine gate_store (t := 4) (p := 12) rfl ?_); refine store_event (t := 4) (p := 12) (v := ?vo_w9) (w1 := (w.setCell ⟨go7, (a1 : Int).toNat, none⟩ (.bool true))) ?hg ?ho ?hn ?hr ?_; (case ho => rfl); (case hg => rfl); (case hn => rfl); (case hr => first | (go_simp; done) | (go_simp; rfl)); intro w9 hw; have hg : w.grownBy w9 (some go7) := (by rw [hw]; exact HP8.2); have hp_ : Kd.R Kd.bool 4 w9 w0.heap.size (fun k_ => ((P2_ k_ ∨ P3_ k_) ∨ w.heap.size ≤ k_)) (.slice (some ⟨go7, 0, none⟩) l2.length co7) y106 := (by rw [hw, Ny106.out]; exact HP8.1); clear HP8; have n0_ := Aside0.mk (hp_); have n1_ := Aside0.mk (Kd.R_over' (v := (.slice (some ⟨go7, 0, none⟩) l2.length co7)) (by (with_reducible repeat (first | apply Kd.R_alloc | apply Kd.R_drewN | apply Kd.R_drew)); exact HO3.out) (Kd.R_typed HO2.out) (by decide) hg); have n2_ := Aside0.mk ((by rw [hw]; exact below_set (HB.out) GB7.out : Below w0.heap.size w0 w9)); have n3_ := Aside0.mk (Kept.of_grown (S := (fun k_ => P2_ k_ ∨ P3_ k_)) hg (by repeat (first | (with_reducible first | exact HK.out | apply Kept.alloc | apply Kept.drewN | apply Kept.drew) | exact HK.out)) (fun k_ e_ => (HO2.out.1 k_ e_))); clear HO2; clear HO3; clear HB; clear HK; have HO2 := n0_; have HO3 := n1_; have HB := n2_; have HK := n3_; clear n0_ n1_ n2_ n3_; clear hg hw hp_))
      go_loopg [3, 9] k (fun kq v3 v9 w' => ∃ (x2_1 : List Bool) (x3_1 : List Int) (x9_1 : Int), v9 = .int .i64 x9_1 ∧ Aside0 (gussetref11_walk.l0 kq l0 a1 x2_1 x3_1 x9_1 = some (r1, r2)) ∧ Aside0 (kq ≤ k) ∧ Aside0 (Kd.R Kd.bool 4 w' w0.heap.size (fun k_ => ((P2_ k_ ∨ P3_ k_) ∨ w.heap.size ≤ k_)) (.slice (some ⟨go7, 0, none⟩) l2.length co7) x2_1) ∧ Aside0 (Kd.R (Kd.int .i64) 3 w' w0.heap.size (fun k_ => ((P2_ k_ ∨ P3_ k_) ∨ w.heap.size ≤ k_)) v3 x3_1) ∧ Aside0 (Kept w w' (fun k_ => P2_ k_ ∨ P3_ k_)) ∧ Aside0 (Below w0.heap.size w0 w'))
      case atStart => exact ⟨(y106), (l3), (0), (by first | rfl | (simp; done) | (simp [*]; done)), H', ⟨Nat.le_refl _⟩, ⟨by (with_reducible repeat (first | apply Kd.R_alloc | apply Kd.R_drewN | apply Kd.R_drew)); exact HO2.out⟩, ⟨by (with_reducible repeat (first | apply Kd.R_alloc | apply Kd.R_drewN | apply Kd.R_drew)); exact HO3.out⟩, ⟨by repeat (first | (with_reducible first | exact HK.out | apply Kept.alloc | apply Kept.drewN | apply Kept.drew) | exact HK.out)⟩, ⟨by repeat (first | (with_reducible first | exact HB.out | apply below_alloc | apply pw_below_drewN | apply below_drew1) | exact HB.out)⟩⟩
      case round =>
        clear H'
        try clear c2
        try clear p2
        try clear c5
        try clear c5b0
        try clear c6
        try clear c6b0
        try clear p7
        try clear q7
        try clear hx7
        try clear hf7
        try clear hx7_0
        try clear p7
        try clear q7
        obtain ⟨x2_1, x3_1, x9_1, rfl, HA, HK1, HO_2, HO_3, HK, HB⟩ := hrel
        have hl2_1 := (Kd.R_reads' HO_2.out).1
        rw [hl2_1] at HO_2
        (try simp only [hl2_1])
        (try simp only [hl2_1] at HO_3)
        cases gk with
        | zero => exact absurd HA.out (by simp [gussetref11_walk.l0])
        | succ k1 =>
          have H := HA.out
          clear HA
          simp only [gussetref11_walk.l0] at H
          by_cases c10 : 0 ≤ a1
          · rw [if_pos c10] at H
            have c10b0 : decide (0 ≤ a1) = true := decide_eq_true c10
            clear c10
            by_cases c11 : a1 < (l0.length : Int)
            · rw [if_pos c11] at H
              have c11b0 : decide (a1 < (l0.length : Int)) = true := decide_eq_true c11
              clear c11
              by_cases c12 : x9_1 < ((rd_L1 l0 a1).length : Int)
              · rw [if_pos c12] at H
                have c12b0 : decide (x9_1 < ((rd_L1 l0 a1).length : Int)) = true := decide_eq_true c12
                clear c12
                by_cases c13 : 0 ≤ x9_1
                · rw [if_pos c13] at H
                  have c13b0 : decide (0 ≤ x9_1) = true := decide_eq_true c13
                  clear c13
                  by_cases c14 : 0 ≤ (rd (rd_L1 l0 a1) x9_1)
                  · rw [if_pos c14] at H
                    have c14b0 : decide (0 ≤ (rd (rd_L1 l0 a1) x9_1)) = true := decide_eq_true c14
                    clear c14
                    by_cases c15 : (rd (rd_L1 l0 a1) x9_1) < (x2_1.length : Int)
                    · rw [if_pos c15] at H
                      have c15b0 : decide ((rd (rd_L1 l0 a1) x9_1) < (x2_1.length : Int)) = true := decide_eq_true c15
                      clear c15
                      obtain ⟨bq16, hbq16⟩ : ∃ b_ : Bool, b_ = (rdOf false x2_1 (rd (rd_L1 l0 a1) x9_1)) := ⟨_, rfl⟩
                      replace H : (if (bq16 = true) then (gussetref11_walk.l0 k1 l0 a1 x2_1 x3_1 (wrap64 (x9_1 + 1))) else ((gussetref11_walk.f k1 l0 (rd (rd_L1 l0 a1) x9_1) x2_1 x3_1).bind fun bt113 => (gussetref11_walk.l0 k1 l0 a1 bt113.2 bt113.1 (wrap64 (x9_1 + 1))))) = some (r1, r2) := by rw [← hbq16] at H; exact H
                      have Nbq16 := Aside0.mk hbq16
                      clear hbq16
                      by_cases c17 : (bq16 = true)
                      · subst c17
                        have H1 : (gussetref11_walk.l0 k1 l0 a1 x2_1 x3_1 (wrap64 (x9_1 + 1))) = some (r1, r2) := by rw [if_pos rfl] at H; exact H
                        clear H
                        have H := H1
                        clear H1
                        have H' := Aside0.mk H
                        clear H
                        have p107 : 0 ≤ (a1 : Int) := of_decide_eq_true (by first | (with_reducible assumption) | assumption)
                        have q107 : a1 < (l0.length : Int) := of_decide_eq_true (by first | (with_reducible assumption) | assumption)
                        obtain ⟨ad107, A107_0, c107_0, e107, hx107_0, hl107_0, hi107_0⟩ := at_L1 (Kd.C_kept_now HR0.out HK.out) a1 p107 q107
                        cases e107
                        have HR107_0 := Aside0.mk hi107_0
                        have HC107_0 := Aside0.mk hl107_0
                        clear hi107_0 hl107_0
                        replace p107 := eq_true p107
                        replace q107 := eq_true q107
                        have p108 : 0 ≤ (a1 : Int) := of_decide_eq_true (by first | (with_reducible assumption) | assumption)
                        have q108 : a1 < (l0.length : Int) := of_decide_eq_true (by first | (with_reducible assumption) | assumption)
                        obtain ⟨ad108, A108_0, c108_0, e108, hx108_0, hl108_0, hi108_0⟩ := at_L1 (Kd.C_kept_now HR0.out HK.out) a1 p108 q108
                        obtain rfl : ad107 = ad108 := (by injection e108)
                        have HR108_0 := Aside0.mk hi108_0
                        have HC108_0 := Aside0.mk hl108_0
                        clear hi108_0 hl108_0
                        replace p108 := eq_true p108
                        replace q108 := eq_true q108
                        have ea_ := Option.some.inj (hx107_0.symm.trans hx108_0)
                        injection ea_ with ea_ en_ ec_
                        subst ea_
                        subst ec_
                        clear en_
                        have p109 : 0 ≤ (x9_1 : Int) := of_decide_eq_true (by first | (with_reducible assumption) | assumption)
                        have q109 : x9_1 < ((rd_L1 l0 a1).length : Int) := of_decide_eq_true (by first | (with_reducible assumption) | assumption)
                        obtain ⟨ad109, e109, hx109_0⟩ := Kd.at_int (by repeat (first | (with_reducible exact HR108_0.out) | (with_reducible refine Kd.C_alloc ?_ _) | (with_reducible refine Kd.C_drewN ?_ _) | (with_reducible refine Kd.C_drew ?_) | exact HR108_0.out)) x9_1 p109 q109
                        cases e109
                        replace p109 := eq_true p109
                        replace q109 := eq_true q109
                        have p110 : 0 ≤ ((rd (rd_L1 l0 a1) x9_1) : Int) := of_decide_eq_true (by first | (with_reducible assumption) | assumption)
                        have q110 : (rd (rd_L1 l0 a1) x9_1) < (x2_1.length : Int) := of_decide_eq_true (by first | (with_reducible assumption) | assumption)
                        obtain ⟨ad110, e110, hx110_0⟩ := Kd.at_bool (Kd.R_reads' HO_2.out).2.2 (rd (rd_L1 l0 a1) x9_1) p110 q110
                        (try rw [← Nbq16.out] at hx110_0)
                        obtain rfl : (⟨go7, 0, none⟩ : Addr) = ad110 := (by injection e110)
                        (first | simp only [add_plain] at hx110_0 | simp only [add_at] at hx110_0 | simp only [Addr.add, Nat.zero_add] at hx110_0 | skip)
                        replace p110 := eq_true p110
                        replace q110 := eq_true q110
                        go_wp2
                        (try simp only [← hl2_1])
                        go_roundg k1
                        case measure => have := HK1.out; omega
                        case rel => exact ⟨(x2_1), (x3_1), (wrap64 (x9_1 + 1)), (by first | rfl | (simp; done) | (simp [*]; done)), H', ⟨by have := HK1.out; omega⟩, ⟨by (try simp only [hl2_1]); (with_reducible repeat (first | apply Kd.R_alloc | apply Kd.R_drewN | apply Kd.R_drew)); exact HO_2.out⟩, ⟨by (try simp only [hl2_1]); (with_reducible repeat (first | apply Kd.R_alloc | apply Kd.R_drewN | apply Kd.R_drew)); exact HO_3.out⟩, ⟨by repeat (first | (with_reducible first | exact HK.out | apply Kept.alloc | apply Kept.drewN | apply Kept.drew) | exact HK.out)⟩, ⟨by repeat (first | (with_reducible first | exact HB.out | apply below_alloc | apply pw_below_drewN | apply below_drew1) | exact HB.out)⟩⟩
                      · replace c17 := Bool.eq_false_iff.mpr c17
                        subst c17
                        have H1 : ((gussetref11_walk.f k1 l0 (rd (rd_L1 l0 a1) x9_1) x2_1 x3_1).bind fun bt113 => (gussetref11_walk.l0 k1 l0 a1 bt113.2 bt113.1 (wrap64 (x9_1 + 1)))) = some (r1, r2) := by rw [if_neg (show ¬ (false = true) by decide)] at H; exact H
                        clear H
                        have H := H1
                        clear H1
                        replace H := Option.bind_eq_some_iff.mp H
                        obtain ⟨⟨t113, t116⟩, A180, H⟩ := H
                        replace H : (gussetref11_walk.l0 k1 l0 a1 t116 t113 (wrap64 (x9_1 + 1))) = some (r1, r2) := H
                        have A18 := Aside0.mk A180
                        clear A180
                        have H' := Aside0.mk H
                        clear H
                        have p107 : 0 ≤ (a1 : Int) := of_decide_eq_true (by first | (with_reducible assumption) | assumption)
                        have q107 : a1 < (l0.length : Int) := of_decide_eq_true (by first | (with_reducible assumption) | assumption)
                        obtain ⟨ad107, A107_0, c107_0, e107, hx107_0, hl107_0, hi107_0⟩ := at_L1 (Kd.C_kept_now HR0.out HK.out) a1 p107 q107
                        cases e107
                        have HR107_0 := Aside0.mk hi107_0
                        have HC107_0 := Aside0.mk hl107_0
                        clear hi107_0 hl107_0
                        replace p107 := eq_true p107
                        replace q107 := eq_true q107
                        have p108 : 0 ≤ (a1 : Int) := of_decide_eq_true (by first | (with_reducible assumption) | assumption)
                        have q108 : a1 < (l0.length : Int) := of_decide_eq_true (by first | (with_reducible assumption) | assumption)
                        obtain ⟨ad108, A108_0, c108_0, e108, hx108_0, hl108_0, hi108_0⟩ := at_L1 (Kd.C_kept_now HR0.out HK.out) a1 p108 q108
                        obtain rfl : ad107 = ad108 := (by injection e108)
                        have HR108_0 := Aside0.mk hi108_0
                        have HC108_0 := Aside0.mk hl108_0
                        clear hi108_0 hl108_0
                        replace p108 := eq_true p108
                        replace q108 := eq_true q108
                        have ea_ := Option.some.inj (hx107_0.symm.trans hx108_0)
                        injection ea_ with ea_ en_ ec_
                        subst ea_
                        subst ec_
                        clear en_
                        have p109 : 0 ≤ (x9_1 : Int) := of_decide_eq_true (by first | (with_reducible assumption) | assumption)
                        have q109 : x9_1 < ((rd_L1 l0 a1).length : Int) := of_decide_eq_true (by first | (with_reducible assumption) | assumption)
                        obtain ⟨ad109, e109, hx109_0⟩ := Kd.at_int (by repeat (first | (with_reducible exact HR108_0.out) | (with_reducible refine Kd.C_alloc ?_ _) | (with_reducible refine Kd.C_drewN ?_ _) | (with_reducible refine Kd.C_drew ?_) | exact HR108_0.out)) x9_1 p109 q109
                        cases e109
                        replace p109 := eq_true p109
                        replace q109 := eq_true q109
                        have p110 : 0 ≤ ((rd (rd_L1 l0 a1) x9_1) : Int) := of_decide_eq_true (by first | (with_reducible assumption) | assumption)
                        have q110 : (rd (rd_L1 l0 a1) x9_1) < (x2_1.length : Int) := of_decide_eq_true (by first | (with_reducible assumption) | assumption)
                        obtain ⟨ad110, e110, hx110_0⟩ := Kd.at_bool (Kd.R_reads' HO_2.out).2.2 (rd (rd_L1 l0 a1) x9_1) p110 q110
                        (try rw [← Nbq16.out] at hx110_0)
                        obtain rfl : (⟨go7, 0, none⟩ : Addr) = ad110 := (by injection e110)
                        (first | simp only [add_plain] at hx110_0 | simp only [add_at] at hx110_0 | simp only [Addr.add, Nat.zero_add] at hx110_0 | skip)
                        replace p110 := eq_true p110
                        replace q110 := eq_true q110
                        have p111 : 0 ≤ (a1 : Int) := of_decide_eq_true (by first | (with_reducible assumption) | assumption)
                        have q111 : a1 < (l0.length : Int) := of_decide_eq_true (by first | (with_reducible assumption) | assumption)
                        obtain ⟨ad111, A111_0, c111_0, e111, hx111_0, hl111_0, hi111_0⟩ := at_L1 (Kd.C_kept_now HR0.out HK.out) a1 p111 q111
                        obtain rfl : ad107 = ad111 := (by injection e111)
                        have HR111_0 := Aside0.mk hi111_0
                        have HC111_0 := Aside0.mk hl111_0
                        clear hi111_0 hl111_0
                        replace p111 := eq_true p111
                        replace q111 := eq_true q111
                        have ea_ := Option.some.inj (hx107_0.symm.trans hx111_0)
                        injection ea_ with ea_ en_ ec_
                        subst ea_
                        subst ec_
                        clear en_
                        have p112 : 0 ≤ (x9_1 : Int) := of_decide_eq_true (by first | (with_reducible assumption) | assumption)
                        have q112 : x9_1 < ((rd_L1 l0 a1).length : Int) := of_decide_eq_true (by first | (with_reducible assumption) | assumption)
                        obtain ⟨ad112, e112, hx112_0⟩ := Kd.at_int (by repeat (first | (with_reducible exact HR111_0.out) | (with_reducible refine Kd.C_alloc ?_ _) | (with_reducible refine Kd.C_drewN ?_ _) | (with_reducible refine Kd.C_drew ?_) | exact HR111_0.out)) x9_1 p112 q112
                        cases e112
                        replace p112 := eq_true p112
                        replace q112 := eq_true q112
                        obtain ⟨Ao19, co19, eo19⟩ := Kd.R_slice HO_3.out
                        subst eo19
                        go_wp2_with (first | ((with_reducible refine gate_callee (f := 26) rfl ?_); refine goesL_ (some 43) rfl rfl Try.func26 (by kernel_rfl) rfl #[.slice (some ad107) l0.length c0, .int .i64 (rd (rd_L1 l0 a1) x9_1), .slice (some ⟨go7, 0, none⟩) x2_1.length co7, .slice Ao19 x3_1.length co19] rfl (by (try simp only [List.map_toArray, List.map_cons, List.map_nil]); first | done | rfl | (simp only [List.length_drop, List.length_take]; rfl)) ?_; (with_reducible refine (ih k1 (by have := HK1.out; omega) _ _ l0 (rd (rd_L1 l0 a1) x9_1) (fun k_ => some k_ = (.slice (some ⟨go7, 0, none⟩) x2_1.length co7 : Value).ownBlock) (.slice (some ⟨go7, 0, none⟩) x2_1.length co7) x2_1 (fun k_ => some k_ = (.slice Ao19 x3_1.length co19 : Value).ownBlock) (.slice Ao19 x3_1.length co19) x3_1 t113 t116 w0 _ ?side1 ?side2 ?side3 ?side4 ?side5 A18.out).mono ?_); (case side1 => repeat (first | (with_reducible first | exact HB.out | apply below_alloc | apply pw_below_drewN | apply below_drew1) | exact HB.out)); (case side2 => exact Kd.C_kept_call HR0.out (by repeat (first | (with_reducible first | exact HK.out | apply Kept.alloc | apply Kept.drewN | apply Kept.drew) | exact HK.out)) (fun k_ hs_ => Or.elim hs_ (fun e_ => (fun e_ => (HO_2.out.1 k_ e_.symm)) e_) (fun e_ => (fun e_ => (HO_3.out.1 k_ e_.symm)) e_))); (case side3 => exact HC0.out); (case side4 => exact Kd.R_tight rfl HO_2.out); (case side5 => exact Kd.R_tight rfl HO_3.out); rintro e w20 ⟨v114, rfl, ho0, hy0, hb, hkp⟩; refine ⟨_, rfl, ?_⟩; have n0_ := Aside0.mk (Kd.R_reok rfl hy0 (fun k_ e_ => HO_2.out.1 k_ e_)); have n1_ := Aside0.mk (Kd.R_mono (ok' := fun k_ => ((P2_ k_ ∨ P3_ k_) ∨ w.heap.size ≤ k_)) ho0 (fun k_ hk_ => Or.elim hk_ (fun hs_ => Or.elim hs_ (fun hs_ => (HO_2.out.1 k_ (hs_).symm)) (fun hs_ => (HO_3.out.1 k_ (hs_).symm))) (fun hn_ => (.inr (Nat.le_trans (by first | exact HK.out.1 | exact (show Kept w _ (fun k_ => P2_ k_ ∨ P3_ k_) from by repeat (first | (with_reducible first | exact HK.out | apply Kept.alloc | apply Kept.drewN | apply Kept.drew) | exact HK.out)).1) hn_))))); have n2_ := Aside0.mk (Kept.then_ (S := (fun k_ => P2_ k_ ∨ P3_ k_)) (by repeat (first | (with_reducible first | exact HK.out | apply Kept.alloc | apply Kept.drewN | apply Kept.drew) | exact HK.out)) hkp (fun k_ hs_ => Or.elim hs_ (fun e_ => (fun e_ => (HO_2.out.1 k_ e_.symm)) e_) (fun e_ => (fun e_ => (HO_3.out.1 k_ e_.symm)) e_))); have n3_ := Aside0.mk (hb); clear HO_2; clear HK; clear HB; clear HO_3; have HO_2 := n0_; have HO115 := n1_; have HK := n2_; have HB := n3_; clear n0_ n1_ n2_ n3_; (try clear hb); (try clear hkp); (try clear ho0); (try clear hy0)))
                        (try simp only [← hl2_1])
                        go_roundg k1
                        case measure => have := HK1.out; omega
                        case rel => exact ⟨(t116), (t113), (wrap64 (x9_1 + 1)), (by first | rfl | (simp; done) | (simp [*]; done)), H', ⟨by have := HK1.out; omega⟩, ⟨by (try simp only [hl2_1]); (with_reducible repeat (first | apply Kd.R_alloc | apply Kd.R_drewN | apply Kd.R_drew)); exact HO_2.out⟩, ⟨by (try simp only [hl2_1]); (with_reducible repeat (first | apply Kd.R_alloc | apply Kd.R_drewN | apply Kd.R_drew)); exact HO115.out⟩, ⟨by repeat (first | (with_reducible first | exact HK.out | apply Kept.alloc | apply Kept.drewN | apply Kept.drew) | exact HK.out)⟩, ⟨by repeat (first | (with_reducible first | exact HB.out | apply below_alloc | apply pw_below_drewN | apply below_drew1) | exact HB.out)⟩⟩
                    · rw [if_neg c15] at H
                      exact absurd H (by simp)
                  · rw [if_neg c14] at H
                    exact absurd H (by simp)
                · rw [if_neg c13] at H
                  exact absurd H (by simp)
              · rw [if_neg c12] at H
                have c12b0 : decide (x9_1 < ((rd_L1 l0 a1).length : Int)) = false := decide_eq_false c12
                clear c12
                by_cases c21 : x3_1.length < 17592186044416
                · rw [if_pos c21] at H
                  have LMc21 := Aside0.mk c21
                  clear c21
                  obtain ⟨y117, hy117⟩ : ∃ y_ : List Int, y_ = (x3_1 ++ [a1]) := ⟨_, rfl⟩
                  replace H : (some (y117, x2_1)) = some (r1, r2) := by first | (rw [hy117]; with_reducible exact H) | (have H2_ := (Option.bind_some _ _).symm.trans H; rw [hy117]; with_reducible exact H2_) | (have H2_ := (Option.bind_some _ _).symm.trans H; with_reducible exact H2_) | with_reducible exact H | (rw [hy117]; exact H) | exact H
                  have Ny117 := Aside0.mk hy117
                  clear hy117
                  simp only [Option.some.injEq, Prod.mk.injEq] at H
                  obtain ⟨rfl, rfl⟩ := H
                  have p107 : 0 ≤ (a1 : Int) := of_decide_eq_true (by first | (with_reducible assumption) | assumption)
                  have q107 : a1 < (l0.length : Int) := of_decide_eq_true (by first | (with_reducible assumption) | assumption)
                  obtain ⟨ad107, A107_0, c107_0, e107, hx107_0, hl107_0, hi107_0⟩ := at_L1 (Kd.C_kept_now HR0.out HK.out) a1 p107 q107
                  cases e107
                  have HR107_0 := Aside0.mk hi107_0
                  have HC107_0 := Aside0.mk hl107_0
                  clear hi107_0 hl107_0
                  replace p107 := eq_true p107
                  replace q107 := eq_true q107
                  go_wp2_with (first | ((with_reducible refine gate_builtin (b := .append) (xs := #[.tmp 44, .tmp 46]) rfl ?_); at_builtin; refine Kd.R_append (Kd.int .i64) (w0 := w0) w0.heap.size rfl (.tmp 44) (.tmp 46) 31 3 (.int .i64 0) 8 rfl Try.underlying31 info3 rfl (by decide) (by omega) u3 x3_1 a1 [.int .i64 a1] (fun k_ => ((P2_ k_ ∨ P3_ k_) ∨ w.heap.size ≤ k_)) (fun _ => False) rfl rfl ?aP (fun _ hk => hk.elim) ?aF ?aO ?aB ?aS ?aL ?_; (case aP => exact rfl); (case aB => exact (by repeat (first | (with_reducible first | exact HB.out | apply below_alloc | apply pw_below_drewN | apply below_drew1) | exact HB.out))); (case aF => exact (fun k_ hk => (.inr (Nat.le_trans (by first | exact HK.out.1 | exact (show Kept w _ (fun k_ => P2_ k_ ∨ P3_ k_) from by repeat (first | (with_reducible first | exact HK.out | apply Kept.alloc | apply Kept.drewN | apply Kept.drew) | exact HK.out)).1) hk)))); (case aO => exact (by (with_reducible repeat (first | apply Kd.R_alloc | apply Kd.R_drewN | apply Kd.R_drew)); exact HO_3.out)); (case aS => exact (below_size (by repeat (first | (with_reducible first | exact HB.out | apply below_alloc | apply pw_below_drewN | apply below_drew1) | exact HB.out)))); (case aL => have := LMc21.out; omega); intro v118 w22 ho hb hg hat; rw [← Ny117.out] at ho; have n0_ := Aside0.mk (Kd.R_over' (by (with_reducible repeat (first | apply Kd.R_alloc | apply Kd.R_drewN | apply Kd.R_drew)); exact HO_2.out) (Kd.R_typed (by (with_reducible repeat (first | apply Kd.R_alloc | apply Kd.R_drewN | apply Kd.R_drew)); exact HO_3.out)) (by decide) hg); have n1_ := Aside0.mk (hb); have n2_ := Aside0.mk (Kept.of_grown (S := (fun k_ => P2_ k_ ∨ P3_ k_)) hg (by repeat (first | (with_reducible first | exact HK.out | apply Kept.alloc | apply Kept.drewN | apply Kept.drew) | exact HK.out)) (fun k_ e_ => (HO_3.out.1 k_ e_))); have n3_ := Aside0.mk (ho); clear HO_2; clear HB; clear HK; clear HO_3; have HO_2 := n0_; have HB := n1_; have HK := n2_; have HO119 := n3_; clear n0_ n1_ n2_ n3_; clear ho hb hg hat))
                  go_ret
                  exact ⟨_, by first | rfl | (simp [errW_none, errW_some] <;> rfl) | (simp [*, errW_none, errW_some] <;> rfl), by (with_reducible repeat (first | apply Kd.R_alloc | apply Kd.R_drewN | apply Kd.R_drew)); exact HO119.out, (by first | exact (by (with_reducible repeat (first | apply Kd.R_alloc | apply Kd.R_drewN | apply Kd.R_drew)); exact HO_2.out) | (simp only [hl2_1]; exact (by (with_reducible repeat (first | apply Kd.R_alloc | apply Kd.R_drewN | apply Kd.R_drew)); exact HO_2.out))), by repeat (first | (with_reducible first | exact HB.out | apply below_alloc | apply pw_below_drewN | apply below_drew1) | exact HB.out), by repeat (first | (with_reducible first | exact HK.out | apply Kept.alloc | apply Kept.drewN | apply Kept.drew) | exact HK.out)⟩
                · rw [if_neg c21] at H
                  exact absurd H (by simp)
            · rw [if_neg c11] at H
              exact absurd H (by simp)
          · rw [if_neg c10] at H
            exact absurd H (by simp)
    · rw [if_neg c6] at H
      exact absurd H (by simp)
  · rw [if_neg c5] at H
    exact absurd H (by simp)

/-! ### gussetref11_Order: function 16 -/
def gussetref11_Order.f (k : Nat) (l0 : List (List Int)) (a1 : Int) : Option (List Int) := (gussetref11_Check.f k l0).bind fun t120 => (if t120 = 0 then (if a1 < 0 then (some ([] : List Int)) else (if a1 ≥ (l0.length : Int) then (some ([] : List Int)) else (if 0 ≤ (l0.length : Int) then (if ((l0.length : Int) : Int).toNat ≤ 281474976710656 then ((gussetref11_walk.f k l0 a1 (List.replicate ((l0.length : Int) : Int).toNat false) ([] : List Int)).bind fun bt124 => (some bt124.1)) else (none)) else (none)))) else (some ([] : List Int)))
theorem gussetref11_Order.mono : ∀ a0 a1 k, LeO (gussetref11_Order.f k a0 a1) (gussetref11_Order.f (k + 1) a0 a1) := by
  intro a0 a1 k
  unfold gussetref11_Order.f
  repeat' first
      | (with_reducible exact gussetref11_Check.mono _ _)
      | (with_reducible exact gussetref11_walk.mono _ _ _ _ _)
      | (with_reducible exact LeO.refl _)
      | (with_reducible exact LeO.none _)
      | (with_reducible refine LeO.ite ?_ ?_)
      | (with_reducible refine LeO.bind ?_ (fun _ => ?_))
      | exact gussetref11_Check.mono _ _
      | exact gussetref11_walk.mono _ _ _ _ _
      | exact LeO.none _
      | refine LeO.ite ?_ ?_
      | refine LeO.bind ?_ (fun _ => ?_)
set_option maxHeartbeats 8000000 in
set_option maxRecDepth 100000 in
theorem gussetref11_Order.calls (k : Nat) (A0 : Option Addr) (c0 : Nat) (l0 : List (List Int)) (a1 : Int) (r : List Int) (w : World) (hr0 : Kd.C (Kd.slice 3 (Kd.int .i64)) w A0 l0.length l0) (hc0 : l0.length ≤ c0) (h : gussetref11_Order.f k l0 a1 = some r) :
    Calls Try.prog 16 #[.slice A0 l0.length c0, .int .i64 a1] w fun e w' => ∃ v0_ : Value, e = .returned (v0_) ∧ Kd.R (Kd.int .i64) 3 w' w.heap.size (fun _ => True) v0_ r ∧ Below w.heap.size w w' := by
  have HR0 := Aside0.mk hr0
  have HC0 := Aside0.mk hc0
  clear hr0 hc0
  have HB := Aside0.mk (Below.refl w.heap.size w)
  have H : ((gussetref11_Check.f k l0).bind fun t120 => (if t120 = 0 then (if a1 < 0 then (some ([] : List Int)) else (if a1 ≥ (l0.length : Int) then (some ([] : List Int)) else (if 0 ≤ (l0.length : Int) then (if ((l0.length : Int) : Int).toNat ≤ 281474976710656 then ((gussetref11_walk.f k l0 a1 (List.replicate ((l0.length : Int) : Int).toNat false) ([] : List Int)).bind fun bt124 => (some bt124.1)) else (none)) else (none)))) else (some ([] : List Int)))) = some r := h
  clear h
  replace H := Option.bind_eq_some_iff.mp H
  obtain ⟨t120, A30, H⟩ := H
  replace H : (if t120 = 0 then (if a1 < 0 then (some ([] : List Int)) else (if a1 ≥ (l0.length : Int) then (some ([] : List Int)) else (if 0 ≤ (l0.length : Int) then (if ((l0.length : Int) : Int).toNat ≤ 281474976710656 then ((gussetref11_walk.f k l0 a1 (List.replicate ((l0.length : Int) : Int).toNat false) ([] : List Int)).bind fun bt124 => (some bt124.1)) else (none)) else (none)))) else (some ([] : List Int))) = some r := H
  have A3 := Aside0.mk A30
  clear A30
  by_cases c4 : t120 = 0
  · rw [if_pos c4] at H
    have c4b0 : (t120 == 0) = true := beq_iff_eq.mpr c4
    have c4b1 : (t120 != 0) = false := bne_eq_false_iff_eq.mpr c4
    clear c4
    by_cases c5 : a1 < 0
    · rw [if_pos c5] at H
      have c5b0 : decide (a1 < 0) = true := decide_eq_true c5
      clear c5
      obtain rfl := Option.some.inj H
      go_enter Try.func16, Try.ntmps16
      go_wp2_with (first | ((with_reducible refine gate_callee (f := 9) rfl ?_); refine goesL_ (some 8) rfl rfl Try.func9 (by kernel_rfl) rfl #[.slice A0 l0.length c0] rfl (by (try simp only [List.map_toArray, List.map_cons, List.map_nil]); first | done | rfl | (simp only [List.length_drop, List.length_take]; rfl)) ?_; (with_reducible refine (gussetref11_Check.calls k _ _ l0 t120 _ ?side1 ?side2 A3.out).mono ?_); (case side1 => repeat (first | exact HR0.out | (with_reducible refine Kd.C_alloc ?_ _) | (with_reducible refine Kd.C_drewN ?_ _) | (with_reducible refine Kd.C_drew ?_))); (case side2 => exact HC0.out); rintro e w' ⟨rfl, ⟨nd, rfl⟩⟩; refine ⟨_, rfl, ?_⟩))
      go_ret
      exact ⟨_, by first | rfl | (simp [errW_none, errW_some] <;> rfl) | (simp [*, errW_none, errW_some] <;> rfl), by first | exact Kd.R_nil _ _ _ _ _ | exact Kd.N_nil _ _ _ _ _ | exact Kd.V_nil _ _ _ _ _ | exact Kd.Q_nil _ _ _ _ _ | exact Kd.S_nil _ _ _ _ _, by repeat (first | (with_reducible first | exact HB.out | apply below_alloc | apply pw_below_drewN | apply below_drew1) | exact HB.out)⟩
    · rw [if_neg c5] at H
      have c5b0 : decide (a1 < 0) = false := decide_eq_false c5
      clear c5
      by_cases c6 : a1 ≥ (l0.length : Int)
      · rw [if_pos c6] at H
        have c6b0 : decide ((l0.length : Int) ≤ a1) = true := decide_eq_true c6
        clear c6
        obtain rfl := Option.some.inj H
        go_enter Try.func16, Try.ntmps16
        go_wp2_with (first | ((with_reducible refine gate_callee (f := 9) rfl ?_); refine goesL_ (some 8) rfl rfl Try.func9 (by kernel_rfl) rfl #[.slice A0 l0.length c0] rfl (by (try simp only [List.map_toArray, List.map_cons, List.map_nil]); first | done | rfl | (simp only [List.length_drop, List.length_take]; rfl)) ?_; (with_reducible refine (gussetref11_Check.calls k _ _ l0 t120 _ ?side1 ?side2 A3.out).mono ?_); (case side1 => repeat (first | exact HR0.out | (with_reducible refine Kd.C_alloc ?_ _) | (with_reducible refine Kd.C_drewN ?_ _) | (with_reducible refine Kd.C_drew ?_))); (case side2 => exact HC0.out); rintro e w' ⟨rfl, ⟨nd, rfl⟩⟩; refine ⟨_, rfl, ?_⟩))
        go_ret
        exact ⟨_, by first | rfl | (simp [errW_none, errW_some] <;> rfl) | (simp [*, errW_none, errW_some] <;> rfl), by first | exact Kd.R_nil _ _ _ _ _ | exact Kd.N_nil _ _ _ _ _ | exact Kd.V_nil _ _ _ _ _ | exact Kd.Q_nil _ _ _ _ _ | exact Kd.S_nil _ _ _ _ _, by repeat (first | (with_reducible first | exact HB.out | apply below_alloc | apply pw_below_drewN | apply below_drew1) | exact HB.out)⟩
      · rw [if_neg c6] at H
        have c6b0 : decide ((l0.length : Int) ≤ a1) = false := decide_eq_false c6
        clear c6
        by_cases c7 : 0 ≤ (l0.length : Int)
        · rw [if_pos c7] at H
          have c7b0 := eq_true c7
          have c7b1 : decide (0 ≤ (l0.length : Int)) = true := decide_eq_true c7
          clear c7
          by_cases c8 : ((l0.length : Int) : Int).toNat ≤ 281474976710656
          · rw [if_pos c8] at H
            have c8b0 := eq_true c8
            have c8b1 : decide (((l0.length : Int) : Int).toNat ≤ 281474976710656) = true := decide_eq_true c8
            clear c8
            obtain ⟨y121, hy121⟩ : ∃ y_ : List Bool, y_ = (List.replicate ((l0.length : Int) : Int).toNat false) := ⟨_, rfl⟩
            replace H : ((gussetref11_walk.f k l0 a1 y121 ([] : List Int)).bind fun bt124 => (some bt124.1)) = some r := by first | (rw [hy121]; with_reducible exact H) | (have H2_ := (Option.bind_some _ _).symm.trans H; rw [hy121]; with_reducible exact H2_) | (have H2_ := (Option.bind_some _ _).symm.trans H; with_reducible exact H2_) | with_reducible exact H | (rw [hy121]; exact H) | exact H
            have Ny121 := Aside0.mk hy121
            clear hy121
            replace H := Option.bind_eq_some_iff.mp H
            obtain ⟨⟨t124, t127⟩, A90, H⟩ := H
            replace H : (some t124) = some r := H
            have A9 := Aside0.mk A90
            clear A90
            obtain rfl := Option.some.inj H
            go_enter Try.func16, Try.ntmps16
            go_wp2_with (first | ((with_reducible refine gate_callee (f := 9) rfl ?_); refine goesL_ (some 8) rfl rfl Try.func9 (by kernel_rfl) rfl #[.slice A0 l0.length c0] rfl (by (try simp only [List.map_toArray, List.map_cons, List.map_nil]); first | done | rfl | (simp only [List.length_drop, List.length_take]; rfl)) ?_; (with_reducible refine (gussetref11_Check.calls k _ _ l0 t120 _ ?side1 ?side2 A3.out).mono ?_); (case side1 => repeat (first | exact HR0.out | (with_reducible refine Kd.C_alloc ?_ _) | (with_reducible refine Kd.C_drewN ?_ _) | (with_reducible refine Kd.C_drew ?_))); (case side2 => exact HC0.out); rintro e w' ⟨rfl, ⟨nd, rfl⟩⟩; refine ⟨_, rfl, ?_⟩) | ((with_reducible refine gate_dst (N := 22) rfl ?_); (try (refine gate_guard (by rfl) ?_; dsimp only)); refine Kd.R_make Kd.bool _ 4 rfl (N := 22) rfl 41 _ _ rfl (l0.length : Int) rfl rfl Try.underlying41 (.bool false) 1 info4 rfl (by decide) (by omega) false (ok := fun _ => True) (okp := fun _ => True) rfl (fun _ hk => hk) trivial (of_decide_eq_true (by first | (with_reducible assumption) | assumption)) (Nat.le_trans (Nat.mul_le_mul_right _ (of_decide_eq_true (by first | (with_reducible assumption) | assumption) : (l0.length : Int).toNat ≤ 281474976710656)) (by omega)) (Below.refl _ _) (Nat.le_refl _) ?_; intro v122 w10 ho11 hb hg_ hnew_; clear hg_ hnew_; (first | rw [← Ny121.out] at ho11 | (simp only [Int.reduceToNat] at ho11; rw [← Ny121.out] at ho11)); have n0_ := Aside0.mk (Kd.R_lower ho11 (below_size (by repeat (first | (with_reducible first | exact HB.out | apply below_alloc | apply pw_below_drewN | apply below_drew1) | exact HB.out)))); have n1_ := Aside0.mk (below_step (by repeat (first | (with_reducible first | exact HB.out | apply below_alloc | apply pw_below_drewN | apply below_drew1) | exact HB.out)) hb); clear HB; have HO123 := n0_; have HB := n1_; clear n0_ n1_; clear hb ho11; obtain ⟨Ao12, co12, eo12⟩ := Kd.R_slice HO123.out; subst eo12) | ((with_reducible refine gate_callee (f := 26) rfl ?_); refine goesL_ (some 26) rfl rfl Try.func26 (by kernel_rfl) rfl #[.slice A0 l0.length c0, .int .i64 a1, .slice Ao12 y121.length co12, .slice none 0 0] rfl (by (try simp only [List.map_toArray, List.map_cons, List.map_nil]); first | done | rfl | (simp only [List.length_drop, List.length_take]; rfl)) ?_; (refine (gussetref11_walk.calls k _ _ l0 a1 (fun k_ => some k_ = (.slice Ao12 y121.length co12 : Value).ownBlock) (.slice Ao12 y121.length co12) y121 (fun k_ => some k_ = (.slice none 0 0 : Value).ownBlock) (.slice none 0 0) ([] : List Int) t124 t127 w _ ?side1 ?side2 ?side3 ?side4 ?side5 A9.out).mono ?_); (case side1 => repeat (first | (with_reducible first | exact HB.out | apply below_alloc | apply pw_below_drewN | apply below_drew1) | exact HB.out)); (case side2 => exact Kd.C_kept_came (Kd.heap_slice 3 (Kd.heap_int .i64)) HR0.out (by repeat (first | (with_reducible first | exact HB.out | apply below_alloc | apply pw_below_drewN | apply below_drew1) | exact HB.out)) (fun k_ hs_ => Or.elim hs_ (fun e_ => (fun e_ => Kd.R_base HO123.out k_ e_.symm) e_) (fun e_ => (fun e_ => by simp [Value.ownBlock] at e_) e_))); (case side3 => exact HC0.out); (case side4 => exact Kd.R_tight rfl HO123.out); (case side5 => exact Kd.R_nil _ _ _ _ _); rintro e w13 ⟨v125, rfl, ho0, hy0, hb, hkp⟩; refine ⟨_, rfl, ?_⟩; have n0_ := Aside0.mk (Kd.R_reok rfl hy0 (fun k_ e_ => HO123.out.1 k_ e_)); have n1_ := Aside0.mk (Kd.R_mono (ok' := fun k_ => True) ho0 (fun k_ hk_ => trivial)); have n2_ := Aside0.mk (hb); clear HO123; clear HB; have HO123 := n0_; have HO126 := n1_; have HB := n2_; clear n0_ n1_ n2_; (try clear hb); (try clear hkp); (try clear ho0); (try clear hy0)))
            go_ret
            exact ⟨_, by first | rfl | (simp [errW_none, errW_some] <;> rfl) | (simp [*, errW_none, errW_some] <;> rfl), by (with_reducible repeat (first | apply Kd.R_alloc | apply Kd.R_drewN | apply Kd.R_drew)); exact HO126.out, by repeat (first | (with_reducible first | exact HB.out | apply below_alloc | apply pw_below_drewN | apply below_drew1) | exact HB.out)⟩
          · rw [if_neg c8] at H
            exact absurd H (by simp)
        · rw [if_neg c7] at H
          exact absurd H (by simp)
  · rw [if_neg c4] at H
    have c4b0 : (t120 == 0) = false := beq_eq_false_iff_ne.mpr c4
    have c4b1 : (t120 != 0) = true := bne_iff_ne.mpr c4
    obtain rfl := Option.some.inj H
    go_enter Try.func16, Try.ntmps16
    go_wp2_with (first | ((with_reducible refine gate_callee (f := 9) rfl ?_); refine goesL_ (some 8) rfl rfl Try.func9 (by kernel_rfl) rfl #[.slice A0 l0.length c0] rfl (by (try simp only [List.map_toArray, List.map_cons, List.map_nil]); first | done | rfl | (simp only [List.length_drop, List.length_take]; rfl)) ?_; (with_reducible refine (gussetref11_Check.calls k _ _ l0 t120 _ ?side1 ?side2 A3.out).mono ?_); (case side1 => repeat (first | exact HR0.out | (with_reducible refine Kd.C_alloc ?_ _) | (with_reducible refine Kd.C_drewN ?_ _) | (with_reducible refine Kd.C_drew ?_))); (case side2 => exact HC0.out); rintro e w' ⟨rfl, ⟨nd, rfl⟩⟩; refine ⟨_, rfl, ?_⟩))
    go_ret
    exact ⟨_, by first | rfl | (simp [errW_none, errW_some] <;> rfl) | (simp [*, errW_none, errW_some] <;> rfl), by first | exact Kd.R_nil _ _ _ _ _ | exact Kd.N_nil _ _ _ _ _ | exact Kd.V_nil _ _ _ _ _ | exact Kd.Q_nil _ _ _ _ _ | exact Kd.S_nil _ _ _ _ _, by repeat (first | (with_reducible first | exact HB.out | apply below_alloc | apply pw_below_drewN | apply below_drew1) | exact HB.out)⟩

end Go.Proofs.Ytldgmneijipbjaa.POrder
end
/- YtldgmneijipbjaaPOrderx -/
section
-- PRINTED BY print.sh 35421559b90ae4d0a3588c463048766b98c2df88dd9212a6774a882060cdf62d: not written by this session
namespace Go.Proofs.Ytldgmneijipbjaa.POrder
open Go.RowKit Go.Proofs.YtldgmneijipbjaaW.PrintWords Go.Proofs.YtldgmneijipbjaaW.PrintLast Go.Proofs.YtldgmneijipbjaaW.PrintMore
attribute [local go_sem] max2_int min2_int max_two min_two max_three min_three max_four min_four   -- for this text's walks alone
set_option linter.unusedVariables false
set_option linter.unusedSimpArgs false

end Go.Proofs.Ytldgmneijipbjaa.POrder
end
/- YtldgmneijipbjaaPSameAllx0 -/
section
-- PRINTED BY print.sh 35421559b90ae4d0a3588c463048766b98c2df88dd9212a6774a882060cdf62d: not written by this session
namespace Go.Proofs.Ytldgmneijipbjaa.PSameAll
open Go.RowKit Go.Proofs.YtldgmneijipbjaaW.PrintWords Go.Proofs.YtldgmneijipbjaaW.PrintLast Go.Proofs.YtldgmneijipbjaaW.PrintMore
attribute [local go_sem] max2_int min2_int max_two min_two max_three min_three max_four min_four   -- for this text's walks alone
set_option linter.unusedVariables false
set_option linter.unusedSimpArgs false



def errW : Option Int → Value
  | none => .nilIface
  | some c => .iface 0 (.int .i64 c)
theorem errW_none : errW none = .nilIface := rfl
theorem errW_some (c : Int) : errW (some c) = .iface 0 (.int .i64 c) := rfl

-- the values' own types
def rd_L1 (xs : List (List Int)) (i : Int) : (List Int) := xs.getD i.toNat ([] : List Int)
theorem at_L1 {w : World} {A : Option Addr} {n : Nat} {xs : List (List Int)} (h : Kd.C (Kd.slice 3 (Kd.int .i64)) w A n xs) (i : Int) (h0 : 0 ≤ i) (h1 : i < n) : ∃ ad A0 c0, A = some ad ∧ w.cell? (ad.add i.toNat) = some (.slice A0 (rd_L1 xs i).length c0) ∧ (rd_L1 xs i).length ≤ c0 ∧ (Kd.int .i64).C w A0 (rd_L1 xs i).length (rd_L1 xs i) := by
  obtain ⟨ad, c, e, _, hK, hc0⟩ := Kd.C_get h ([] : List Int) i h0 h1
  have hc : ∀ j u, c[j]? = some u → w.cell? (ad.add (i.toNat * 1 + j)) = some u := hc0
  obtain ⟨A0, c0, rfl, l0, g0⟩ := hK
  exact ⟨ad, A0, c0, e, by have hq := hc 0 _ rfl; rwa [Nat.mul_one, Nat.add_zero] at hq, l0, g0⟩

end Go.Proofs.Ytldgmneijipbjaa.PSameAll
end
/- YtldgmneijipbjaaPSameAllx1 -/
section
-- PRINTED BY print.sh 35421559b90ae4d0a3588c463048766b98c2df88dd9212a6774a882060cdf62d: not written by this session
namespace Go.Proofs.Ytldgmneijipbjaa.PSameAll
open Go.RowKit Go.Proofs.YtldgmneijipbjaaW.PrintWords Go.Proofs.YtldgmneijipbjaaW.PrintLast Go.Proofs.YtldgmneijipbjaaW.PrintMore
attribute [local go_sem] max2_int min2_int max_two min_two max_three min_three max_four min_four   -- for this text's walks alone
set_option linter.unusedVariables false
set_option linter.unusedSimpArgs false

/-! ### gussetref11_Same: function 14 -/
def gussetref11_Same.l0 : Nat → List Int → List Int → Int → Option (Bool)
  | 0, _, _, _ => none
  | k + 1, x0, x1, x5 => if x5 < (x0.length : Int) then (if 0 ≤ x5 then (if x5 < (x1.length : Int) then (if (rd x0 x5) = (rd x1 x5) then (gussetref11_Same.l0 k x0 x1 (wrap64 (x5 + 1))) else (some false)) else (none)) else (none)) else (some true)
def gussetref11_Same.f (k : Nat) (l0 : List Int) (l1 : List Int) : Option (Bool) := if (l0.length : Int) = (l1.length : Int) then (gussetref11_Same.l0 k l0 l1 0) else (some false)
theorem gussetref11_Same.mono_l : ∀ k, (∀ y0 y1 y2, LeO (gussetref11_Same.l0 k y0 y1 y2) (gussetref11_Same.l0 (k + 1) y0 y1 y2))
  | 0 => fun _ _ _ r h => by simp [gussetref11_Same.l0] at h
  | k + 1 => by
    have ih0 := gussetref11_Same.mono_l k
    · intro y0 y1 y2
      unfold gussetref11_Same.l0
      repeat' first
      | (with_reducible exact ih0 _ _ _)
      | (with_reducible exact LeO.refl _)
      | (with_reducible exact LeO.none _)
      | (with_reducible refine LeO.ite ?_ ?_)
      | (with_reducible refine LeO.bind ?_ (fun _ => ?_))
      | exact ih0 _ _ _
      | exact LeO.none _
      | refine LeO.ite ?_ ?_
      | refine LeO.bind ?_ (fun _ => ?_)
theorem gussetref11_Same.mono : ∀ a0 a1 k, LeO (gussetref11_Same.f k a0 a1) (gussetref11_Same.f (k + 1) a0 a1) := by
  intro a0 a1 k
  have ih0 := gussetref11_Same.mono_l k
  unfold gussetref11_Same.f
  repeat' first
      | (with_reducible exact ih0 _ _ _)
      | (with_reducible exact LeO.refl _)
      | (with_reducible exact LeO.none _)
      | (with_reducible refine LeO.ite ?_ ?_)
      | (with_reducible refine LeO.bind ?_ (fun _ => ?_))
      | exact ih0 _ _ _
      | exact LeO.none _
      | refine LeO.ite ?_ ?_
      | refine LeO.bind ?_ (fun _ => ?_)
set_option maxHeartbeats 8000000 in
set_option maxRecDepth 100000 in
theorem gussetref11_Same.calls (k : Nat) (A0 : Option Addr) (c0 : Nat) (l0 : List Int) (A1 : Option Addr) (c1 : Nat) (l1 : List Int) (r : Bool) (w : World) (hr0 : Kd.C (Kd.int .i64) w A0 l0.length l0) (hc0 : l0.length ≤ c0) (hr1 : Kd.C (Kd.int .i64) w A1 l1.length l1) (hc1 : l1.length ≤ c1) (h : gussetref11_Same.f k l0 l1 = some r) :
    Calls Try.prog 14 #[.slice A0 l0.length c0, .slice A1 l1.length c1] w fun e w' => e = .returned (.bool r) ∧ Drawn0 w w' := by
  have HR0 := Aside0.mk hr0
  have HC0 := Aside0.mk hc0
  clear hr0 hc0
  have HR1 := Aside0.mk hr1
  have HC1 := Aside0.mk hc1
  clear hr1 hc1
  have H : (if (l0.length : Int) = (l1.length : Int) then (gussetref11_Same.l0 k l0 l1 0) else (some false)) = some r := h
  clear h
  by_cases c3 : (l0.length : Int) = (l1.length : Int)
  · rw [if_pos c3] at H
    have c3b0 : ((l0.length : Int) == (l1.length : Int)) = true := beq_iff_eq.mpr c3
    have c3b1 : ((l0.length : Int) != (l1.length : Int)) = false := bne_eq_false_iff_eq.mpr c3
    have c3b2 : (l0.length == l1.length) = true := by first | simpa using c3 | (simp at c3 ⊢; omega)
    clear c3
    have H' := Aside0.mk H
    clear H
    go_enter Try.func14, Try.ntmps14
    go_wp2
    repeat (go_quiet (fail); try go_wp2)
    go_loopg [5] k (fun kq v5 w' => ∃ (x5_1 : Int), v5 = .int .i64 x5_1 ∧ Aside0 (gussetref11_Same.l0 kq l0 l1 x5_1 = some r) ∧ Aside0 (kq ≤ k) ∧ Drawn0 w w')
    case atStart => exact ⟨(0), (by first | rfl | (simp; done) | (simp [*]; done)), H', ⟨Nat.le_refl _⟩, by repeat (first | exact Drawn0.refl _ | apply Drawn0.step)⟩
    case round =>
      clear H'
      try clear c1
      try clear p2
      try clear c3
      try clear c3b0
      try clear c3b1
      try clear c3b2
      obtain ⟨x5_1, rfl, HA, HK1, ⟨m1, rfl⟩⟩ := hrel
      cases gk with
      | zero => exact absurd HA.out (by simp [gussetref11_Same.l0])
      | succ k1 =>
        have H := HA.out
        clear HA
        simp only [gussetref11_Same.l0] at H
        by_cases c4 : x5_1 < (l0.length : Int)
        · rw [if_pos c4] at H
          have c4b0 : decide (x5_1 < (l0.length : Int)) = true := decide_eq_true c4
          clear c4
          by_cases c5 : 0 ≤ x5_1
          · rw [if_pos c5] at H
            have c5b0 : decide (0 ≤ x5_1) = true := decide_eq_true c5
            clear c5
            by_cases c6 : x5_1 < (l1.length : Int)
            · rw [if_pos c6] at H
              have c6b0 : decide (x5_1 < (l1.length : Int)) = true := decide_eq_true c6
              clear c6
              by_cases c7 : (rd l0 x5_1) = (rd l1 x5_1)
              · rw [if_pos c7] at H
                have c7b0 : ((rd l0 x5_1) == (rd l1 x5_1)) = true := beq_iff_eq.mpr c7
                have c7b1 : ((rd l0 x5_1) != (rd l1 x5_1)) = false := bne_eq_false_iff_eq.mpr c7
                clear c7
                have H' := Aside0.mk H
                clear H
                have p101 : 0 ≤ (x5_1 : Int) := of_decide_eq_true (by first | (with_reducible assumption) | assumption)
                have q101 : x5_1 < (l0.length : Int) := of_decide_eq_true (by first | (with_reducible assumption) | assumption)
                obtain ⟨ad101, e101, hx101_0⟩ := Kd.at_int HR0.out x5_1 p101 q101
                cases e101
                replace p101 := eq_true p101
                replace q101 := eq_true q101
                have p102 : 0 ≤ (x5_1 : Int) := of_decide_eq_true (by first | (with_reducible assumption) | assumption)
                have q102 : x5_1 < (l1.length : Int) := of_decide_eq_true (by first | (with_reducible assumption) | assumption)
                obtain ⟨ad102, e102, hx102_0⟩ := Kd.at_int HR1.out x5_1 p102 q102
                cases e102
                replace p102 := eq_true p102
                replace q102 := eq_true q102
                go_wp2
                repeat (go_quiet (fail); try go_wp2)
                go_roundg k1
                case measure => have := HK1.out; omega
                case rel => exact ⟨(wrap64 (x5_1 + 1)), (by first | rfl | (simp; done) | (simp [*]; done)), H', ⟨by have := HK1.out; omega⟩, by repeat (first | exact Drawn0.refl _ | apply Drawn0.step)⟩
              · rw [if_neg c7] at H
                have c7b0 : ((rd l0 x5_1) == (rd l1 x5_1)) = false := beq_eq_false_iff_ne.mpr c7
                have c7b1 : ((rd l0 x5_1) != (rd l1 x5_1)) = true := bne_iff_ne.mpr c7
                obtain rfl := Option.some.inj H
                have p101 : 0 ≤ (x5_1 : Int) := of_decide_eq_true (by first | (with_reducible assumption) | assumption)
                have q101 : x5_1 < (l0.length : Int) := of_decide_eq_true (by first | (with_reducible assumption) | assumption)
                obtain ⟨ad101, e101, hx101_0⟩ := Kd.at_int HR0.out x5_1 p101 q101
                cases e101
                replace p101 := eq_true p101
                replace q101 := eq_true q101
                have p102 : 0 ≤ (x5_1 : Int) := of_decide_eq_true (by first | (with_reducible assumption) | assumption)
                have q102 : x5_1 < (l1.length : Int) := of_decide_eq_true (by first | (with_reducible assumption) | assumption)
                obtain ⟨ad102, e102, hx102_0⟩ := Kd.at_int HR1.out x5_1 p102 q102
                cases e102
                replace p102 := eq_true p102
                replace q102 := eq_true q102
                go_wp2
                repeat (go_quiet (fail); try go_wp2)
                go_ret
                exact ⟨by first | rfl | (simp; done) | (simp [*]; done), by repeat (first | exact Drawn0.refl _ | apply Drawn0.step)⟩
            · rw [if_neg c6] at H
              exact absurd H (by simp)
          · rw [if_neg c5] at H
            exact absurd H (by simp)
        · rw [if_neg c4] at H
          have c4b0 : decide (x5_1 < (l0.length : Int)) = false := decide_eq_false c4
          clear c4
          obtain rfl := Option.some.inj H
          go_wp2
          repeat (go_quiet (fail); try go_wp2)
          go_ret
          exact ⟨by first | rfl | (simp; done) | (simp [*]; done), by repeat (first | exact Drawn0.refl _ | apply Drawn0.step)⟩
  · rw [if_neg c3] at H
    have c3b0 : ((l0.length : Int) == (l1.length : Int)) = false := beq_eq_false_iff_ne.mpr c3
    have c3b1 : ((l0.length : Int) != (l1.length : Int)) = true := bne_iff_ne.mpr c3
    have c3b2 : (l0.length == l1.length) = false := by first | simpa using c3 | (simp at c3 ⊢; omega)
    obtain rfl := Option.some.inj H
    go_enter Try.func14, Try.ntmps14
    go_wp2
    repeat (go_quiet (fail); try go_wp2)
    go_ret
    exact ⟨by first | rfl | (simp; done) | (simp [*]; done), by repeat (first | exact Drawn0.refl _ | apply Drawn0.step)⟩

/-! ### gussetref11_SameAll: function 10 -/
def gussetref11_SameAll.l0 : Nat → List (List Int) → List (List Int) → Int → Option (Bool)
  | 0, _, _, _ => none
  | k + 1, x0, x1, x5 => if x5 < (x0.length : Int) then (if 0 ≤ x5 then (if x5 < (x1.length : Int) then ((gussetref11_Same.f k (rd_L1 x0 x5) (rd_L1 x1 x5)).bind fun t105 => (if t105 = true then (gussetref11_SameAll.l0 k x0 x1 (wrap64 (x5 + 1))) else (some false))) else (none)) else (none)) else (some true)
def gussetref11_SameAll.f (k : Nat) (l0 : List (List Int)) (l1 : List (List Int)) : Option (Bool) := if (l0.length : Int) = (l1.length : Int) then (gussetref11_SameAll.l0 k l0 l1 0) else (some false)
theorem gussetref11_SameAll.mono_l : ∀ k, (∀ y0 y1 y2, LeO (gussetref11_SameAll.l0 k y0 y1 y2) (gussetref11_SameAll.l0 (k + 1) y0 y1 y2))
  | 0 => fun _ _ _ r h => by simp [gussetref11_SameAll.l0] at h
  | k + 1 => by
    have ih0 := gussetref11_SameAll.mono_l k
    · intro y0 y1 y2
      unfold gussetref11_SameAll.l0
      repeat' first
      | (with_reducible exact ih0 _ _ _)
      | (with_reducible exact gussetref11_Same.mono _ _ _)
      | (with_reducible exact LeO.refl _)
      | (with_reducible exact LeO.none _)
      | (with_reducible refine LeO.ite ?_ ?_)
      | (with_reducible refine LeO.bind ?_ (fun _ => ?_))
      | exact ih0 _ _ _
      | exact gussetref11_Same.mono _ _ _
      | exact LeO.none _
      | refine LeO.ite ?_ ?_
      | refine LeO.bind ?_ (fun _ => ?_)
theorem gussetref11_SameAll.mono : ∀ a0 a1 k, LeO (gussetref11_SameAll.f k a0 a1) (gussetref11_SameAll.f (k + 1) a0 a1) := by
  intro a0 a1 k
  have ih0 := gussetref11_SameAll.mono_l k
  unfold gussetref11_SameAll.f
  repeat' first
      | (with_reducible exact ih0 _ _ _)
      | (with_reducible exact gussetref11_Same.mono _ _ _)
      | (with_reducible exact LeO.refl _)
      | (with_reducible exact LeO.none _)
      | (with_reducible refine LeO.ite ?_ ?_)
      | (with_reducible refine LeO.bind ?_ (fun _ => ?_))
      | exact ih0 _ _ _
      | exact gussetref11_Same.mono _ _ _
      | exact LeO.none _
      | refine LeO.ite ?_ ?_
      | refine LeO.bind ?_ (fun _ => ?_)
set_option maxHeartbeats 8000000 in
set_option maxRecDepth 100000 in
theorem gussetref11_SameAll.calls (k : Nat) (A0 : Option Addr) (c0 : Nat) (l0 : List (List Int)) (A1 : Option Addr) (c1 : Nat) (l1 : List (List Int)) (r : Bool) (w : World) (hr0 : Kd.C (Kd.slice 3 (Kd.int .i64)) w A0 l0.length l0) (hc0 : l0.length ≤ c0) (hr1 : Kd.C (Kd.slice 3 (Kd.int .i64)) w A1 l1.length l1) (hc1 : l1.length ≤ c1) (h : gussetref11_SameAll.f k l0 l1 = some r) :
    Calls Try.prog 10 #[.slice A0 l0.length c0, .slice A1 l1.length c1] w fun e w' => e = .returned (.bool r) ∧ Drawn0 w w' := by
  have HR0 := Aside0.mk hr0
  have HC0 := Aside0.mk hc0
  clear hr0 hc0
  have HR1 := Aside0.mk hr1
  have HC1 := Aside0.mk hc1
  clear hr1 hc1
  have H : (if (l0.length : Int) = (l1.length : Int) then (gussetref11_SameAll.l0 k l0 l1 0) else (some false)) = some r := h
  clear h
  by_cases c3 : (l0.length : Int) = (l1.length : Int)
  · rw [if_pos c3] at H
    have c3b0 : ((l0.length : Int) == (l1.length : Int)) = true := beq_iff_eq.mpr c3
    have c3b1 : ((l0.length : Int) != (l1.length : Int)) = false := bne_eq_false_iff_eq.mpr c3
    have c3b2 : (l0.length == l1.length) = true := by first | simpa using c3 | (simp at c3 ⊢; omega)
    clear c3
    have H' := Aside0.mk H
    clear H
    go_enter Try.func10, Try.ntmps10
    go_wp2
    repeat (go_quiet (fail); try go_wp2)
    go_loopg [5] k (fun kq v5 w' => ∃ (x5_1 : Int), v5 = .int .i64 x5_1 ∧ Aside0 (gussetref11_SameAll.l0 kq l0 l1 x5_1 = some r) ∧ Aside0 (kq ≤ k) ∧ Drawn0 w w')
    case atStart => exact ⟨(0), (by first | rfl | (simp; done) | (simp [*]; done)), H', ⟨Nat.le_refl _⟩, by repeat (first | exact Drawn0.refl _ | apply Drawn0.step)⟩
    case round =>
      clear H'
      try clear c1
      try clear p2
      try clear c3
      try clear c3b0
      try clear c3b1
      try clear c3b2
      obtain ⟨x5_1, rfl, HA, HK1, ⟨m1, rfl⟩⟩ := hrel
      cases gk with
      | zero => exact absurd HA.out (by simp [gussetref11_SameAll.l0])
      | succ k1 =>
        have H := HA.out
        clear HA
        simp only [gussetref11_SameAll.l0] at H
        by_cases c4 : x5_1 < (l0.length : Int)
        · rw [if_pos c4] at H
          have c4b0 : decide (x5_1 < (l0.length : Int)) = true := decide_eq_true c4
          clear c4
          by_cases c5 : 0 ≤ x5_1
          · rw [if_pos c5] at H
            have c5b0 : decide (0 ≤ x5_1) = true := decide_eq_true c5
            clear c5
            by_cases c6 : x5_1 < (l1.length : Int)
            · rw [if_pos c6] at H
              have c6b0 : decide (x5_1 < (l1.length : Int)) = true := decide_eq_true c6
              clear c6
              replace H := Option.bind_eq_some_iff.mp H
              obtain ⟨t105, A70, H⟩ := H
              replace H : (if t105 = true then (gussetref11_SameAll.l0 k1 l0 l1 (wrap64 (x5_1 + 1))) else (some false)) = some r := H
              have A7 := Aside0.mk A70
              clear A70
              by_cases c8 : t105 = true
              · subst c8
                have H1 : (gussetref11_SameAll.l0 k1 l0 l1 (wrap64 (x5_1 + 1))) = some r := by rw [if_pos rfl] at H; exact H
                clear H
                have H := H1
                clear H1
                have H' := Aside0.mk H
                clear H
                have p103 : 0 ≤ (x5_1 : Int) := of_decide_eq_true (by first | (with_reducible assumption) | assumption)
                have q103 : x5_1 < (l0.length : Int) := of_decide_eq_true (by first | (with_reducible assumption) | assumption)
                obtain ⟨ad103, A103_0, c103_0, e103, hx103_0, hl103_0, hi103_0⟩ := at_L1 HR0.out x5_1 p103 q103
                cases e103
                have HR103_0 := Aside0.mk hi103_0
                have HC103_0 := Aside0.mk hl103_0
                clear hi103_0 hl103_0
                replace p103 := eq_true p103
                replace q103 := eq_true q103
                have p104 : 0 ≤ (x5_1 : Int) := of_decide_eq_true (by first | (with_reducible assumption) | assumption)
                have q104 : x5_1 < (l1.length : Int) := of_decide_eq_true (by first | (with_reducible assumption) | assumption)
                obtain ⟨ad104, A104_0, c104_0, e104, hx104_0, hl104_0, hi104_0⟩ := at_L1 HR1.out x5_1 p104 q104
                cases e104
                have HR104_0 := Aside0.mk hi104_0
                have HC104_0 := Aside0.mk hl104_0
                clear hi104_0 hl104_0
                replace p104 := eq_true p104
                replace q104 := eq_true q104
                go_wp2_with (first | (go_at_call 14; (with_reducible refine (gussetref11_Same.calls k1 _ _ (rd_L1 l0 x5_1) _ _ (rd_L1 l1 x5_1) true _ ?side1 ?side2 ?side3 ?side4 A7.out).mono ?_); (case side1 => repeat (first | exact HR103_0.out | (with_reducible refine Kd.C_alloc ?_ _) | (with_reducible refine Kd.C_drewN ?_ _) | (with_reducible refine Kd.C_drew ?_))); (case side2 => exact HC103_0.out); (case side3 => repeat (first | exact HR104_0.out | (with_reducible refine Kd.C_alloc ?_ _) | (with_reducible refine Kd.C_drewN ?_ _) | (with_reducible refine Kd.C_drew ?_))); (case side4 => exact HC104_0.out); rintro e w' ⟨rfl, ⟨nd, rfl⟩⟩; (try first | exact ⟨rfl, _, World.drewN_drewN _ _ _⟩ | exact ⟨rfl, _, Eq.trans (World.drewN_drewN _ _ _) (congrArg (World.drewN _) (Nat.add_assoc _ _ _))⟩)))
                repeat (go_quiet (first | (go_at_call 14; (with_reducible refine (gussetref11_Same.calls k1 _ _ (rd_L1 l0 x5_1) _ _ (rd_L1 l1 x5_1) true _ ?side1 ?side2 ?side3 ?side4 A7.out).mono ?_); (case side1 => repeat (first | exact HR103_0.out | (with_reducible refine Kd.C_alloc ?_ _) | (with_reducible refine Kd.C_drewN ?_ _) | (with_reducible refine Kd.C_drew ?_))); (case side2 => exact HC103_0.out); (case side3 => repeat (first | exact HR104_0.out | (with_reducible refine Kd.C_alloc ?_ _) | (with_reducible refine Kd.C_drewN ?_ _) | (with_reducible refine Kd.C_drew ?_))); (case side4 => exact HC104_0.out); rintro e w' ⟨rfl, ⟨nd, rfl⟩⟩; (try first | exact ⟨rfl, _, World.drewN_drewN _ _ _⟩ | exact ⟨rfl, _, Eq.trans (World.drewN_drewN _ _ _) (congrArg (World.drewN _) (Nat.add_assoc _ _ _))⟩))); try go_wp2_with (first | (go_at_call 14; (with_reducible refine (gussetref11_Same.calls k1 _ _ (rd_L1 l0 x5_1) _ _ (rd_L1 l1 x5_1) true _ ?side1 ?side2 ?side3 ?side4 A7.out).mono ?_); (case side1 => repeat (first | exact HR103_0.out | (with_reducible refine Kd.C_alloc ?_ _) | (with_reducible refine Kd.C_drewN ?_ _) | (with_reducible refine Kd.C_drew ?_))); (case side2 => exact HC103_0.out); (case side3 => repeat (first | exact HR104_0.out | (with_reducible refine Kd.C_alloc ?_ _) | (with_reducible refine Kd.C_drewN ?_ _) | (with_reducible refine Kd.C_drew ?_))); (case side4 => exact HC104_0.out); rintro e w' ⟨rfl, ⟨nd, rfl⟩⟩; (try first | exact ⟨rfl, _, World.drewN_drewN _ _ _⟩ | exact ⟨rfl, _, Eq.trans (World.drewN_drewN _ _ _) (congrArg (World.drewN _) (Nat.add_assoc _ _ _))⟩))))
                go_roundg k1
                case measure => have := HK1.out; omega
                case rel => exact ⟨(wrap64 (x5_1 + 1)), (by first | rfl | (simp; done) | (simp [*]; done)), H', ⟨by have := HK1.out; omega⟩, by repeat (first | exact Drawn0.refl _ | apply Drawn0.step)⟩
              · replace c8 := Bool.eq_false_iff.mpr c8
                subst c8
                have H1 : (some false) = some r := by rw [if_neg (show ¬ (false = true) by decide)] at H; exact H
                clear H
                have H := H1
                clear H1
                obtain rfl := Option.some.inj H
                have p103 : 0 ≤ (x5_1 : Int) := of_decide_eq_true (by first | (with_reducible assumption) | assumption)
                have q103 : x5_1 < (l0.length : Int) := of_decide_eq_true (by first | (with_reducible assumption) | assumption)
                obtain ⟨ad103, A103_0, c103_0, e103, hx103_0, hl103_0, hi103_0⟩ := at_L1 HR0.out x5_1 p103 q103
                cases e103
                have HR103_0 := Aside0.mk hi103_0
                have HC103_0 := Aside0.mk hl103_0
                clear hi103_0 hl103_0
                replace p103 := eq_true p103
                replace q103 := eq_true q103
                have p104 : 0 ≤ (x5_1 : Int) := of_decide_eq_true (by first | (with_reducible assumption) | assumption)
                have q104 : x5_1 < (l1.length : Int) := of_decide_eq_true (by first | (with_reducible assumption) | assumption)
                obtain ⟨ad104, A104_0, c104_0, e104, hx104_0, hl104_0, hi104_0⟩ := at_L1 HR1.out x5_1 p104 q104
                cases e104
                have HR104_0 := Aside0.mk hi104_0
                have HC104_0 := Aside0.mk hl104_0
                clear hi104_0 hl104_0
                replace p104 := eq_true p104
                replace q104 := eq_true q104
                go_wp2_with (first | (go_at_call 14; (with_reducible refine (gussetref11_Same.calls k1 _ _ (rd_L1 l0 x5_1) _ _ (rd_L1 l1 x5_1) false _ ?side1 ?side2 ?side3 ?side4 A7.out).mono ?_); (case side1 => repeat (first | exact HR103_0.out | (with_reducible refine Kd.C_alloc ?_ _) | (with_reducible refine Kd.C_drewN ?_ _) | (with_reducible refine Kd.C_drew ?_))); (case side2 => exact HC103_0.out); (case side3 => repeat (first | exact HR104_0.out | (with_reducible refine Kd.C_alloc ?_ _) | (with_reducible refine Kd.C_drewN ?_ _) | (with_reducible refine Kd.C_drew ?_))); (case side4 => exact HC104_0.out); rintro e w' ⟨rfl, ⟨nd, rfl⟩⟩; (try first | exact ⟨rfl, _, World.drewN_drewN _ _ _⟩ | exact ⟨rfl, _, Eq.trans (World.drewN_drewN _ _ _) (congrArg (World.drewN _) (Nat.add_assoc _ _ _))⟩)))
                repeat (go_quiet (first | (go_at_call 14; (with_reducible refine (gussetref11_Same.calls k1 _ _ (rd_L1 l0 x5_1) _ _ (rd_L1 l1 x5_1) false _ ?side1 ?side2 ?side3 ?side4 A7.out).mono ?_); (case side1 => repeat (first | exact HR103_0.out | (with_reducible refine Kd.C_alloc ?_ _) | (with_reducible refine Kd.C_drewN ?_ _) | (with_reducible refine Kd.C_drew ?_))); (case side2 => exact HC103_0.out); (case side3 => repeat (first | exact HR104_0.out | (with_reducible refine Kd.C_alloc ?_ _) | (with_reducible refine Kd.C_drewN ?_ _) | (with_reducible refine Kd.C_drew ?_))); (case side4 => exact HC104_0.out); rintro e w' ⟨rfl, ⟨nd, rfl⟩⟩; (try first | exact ⟨rfl, _, World.drewN_drewN _ _ _⟩ | exact ⟨rfl, _, Eq.trans (World.drewN_drewN _ _ _) (congrArg (World.drewN _) (Nat.add_assoc _ _ _))⟩))); try go_wp2_with (first | (go_at_call 14; (with_reducible refine (gussetref11_Same.calls k1 _ _ (rd_L1 l0 x5_1) _ _ (rd_L1 l1 x5_1) false _ ?side1 ?side2 ?side3 ?side4 A7.out).mono ?_); (case side1 => repeat (first | exact HR103_0.out | (with_reducible refine Kd.C_alloc ?_ _) | (with_reducible refine Kd.C_drewN ?_ _) | (with_reducible refine Kd.C_drew ?_))); (case side2 => exact HC103_0.out); (case side3 => repeat (first | exact HR104_0.out | (with_reducible refine Kd.C_alloc ?_ _) | (with_reducible refine Kd.C_drewN ?_ _) | (with_reducible refine Kd.C_drew ?_))); (case side4 => exact HC104_0.out); rintro e w' ⟨rfl, ⟨nd, rfl⟩⟩; (try first | exact ⟨rfl, _, World.drewN_drewN _ _ _⟩ | exact ⟨rfl, _, Eq.trans (World.drewN_drewN _ _ _) (congrArg (World.drewN _) (Nat.add_assoc _ _ _))⟩))))
                go_ret
                exact ⟨by first | rfl | (simp; done) | (simp [*]; done), by repeat (first | exact Drawn0.refl _ | apply Drawn0.step)⟩
            · rw [if_neg c6] at H
              exact absurd H (by simp)
          · rw [if_neg c5] at H
            exact absurd H (by simp)
        · rw [if_neg c4] at H
          have c4b0 : decide (x5_1 < (l0.length : Int)) = false := decide_eq_false c4
          clear c4
          obtain rfl := Option.some.inj H
          go_wp2
          repeat (go_quiet (fail); try go_wp2)
          go_ret
          exact ⟨by first | rfl | (simp; done) | (simp [*]; done), by repeat (first | exact Drawn0.refl _ | apply Drawn0.step)⟩
  · rw [if_neg c3] at H
    have c3b0 : ((l0.length : Int) == (l1.length : Int)) = false := beq_eq_false_iff_ne.mpr c3
    have c3b1 : ((l0.length : Int) != (l1.length : Int)) = true := bne_iff_ne.mpr c3
    have c3b2 : (l0.length == l1.length) = false := by first | simpa using c3 | (simp at c3 ⊢; omega)
    obtain rfl := Option.some.inj H
    go_enter Try.func10, Try.ntmps10
    go_wp2
    repeat (go_quiet (fail); try go_wp2)
    go_ret
    exact ⟨by first | rfl | (simp; done) | (simp [*]; done), by repeat (first | exact Drawn0.refl _ | apply Drawn0.step)⟩

end Go.Proofs.Ytldgmneijipbjaa.PSameAll
end
/- YtldgmneijipbjaaPSameAllx -/
section
-- PRINTED BY print.sh 35421559b90ae4d0a3588c463048766b98c2df88dd9212a6774a882060cdf62d: not written by this session
namespace Go.Proofs.Ytldgmneijipbjaa.PSameAll
open Go.RowKit Go.Proofs.YtldgmneijipbjaaW.PrintWords Go.Proofs.YtldgmneijipbjaaW.PrintLast Go.Proofs.YtldgmneijipbjaaW.PrintMore
attribute [local go_sem] max2_int min2_int max_two min_two max_three min_three max_four min_four   -- for this text's walks alone
set_option linter.unusedVariables false
set_option linter.unusedSimpArgs false

end Go.Proofs.Ytldgmneijipbjaa.PSameAll
end
/- YtldgmneijipbjaaPatx0 -/
section
-- PRINTED BY print.sh 35421559b90ae4d0a3588c463048766b98c2df88dd9212a6774a882060cdf62d: not written by this session
namespace Go.Proofs.Ytldgmneijipbjaa.Pat
open Go.RowKit Go.Proofs.YtldgmneijipbjaaW.PrintWords Go.Proofs.YtldgmneijipbjaaW.PrintLast Go.Proofs.YtldgmneijipbjaaW.PrintMore
attribute [local go_sem] max2_int min2_int max_two min_two max_three min_three max_four min_four   -- for this text's walks alone
set_option linter.unusedVariables false
set_option linter.unusedSimpArgs false



def errW : Option Int → Value
  | none => .nilIface
  | some c => .iface 0 (.int .i64 c)
theorem errW_none : errW none = .nilIface := rfl
theorem errW_some (c : Int) : errW (some c) = .iface 0 (.int .i64 c) := rfl

-- the values' own types

end Go.Proofs.Ytldgmneijipbjaa.Pat
end
/- YtldgmneijipbjaaPatx1 -/
section
-- PRINTED BY print.sh 35421559b90ae4d0a3588c463048766b98c2df88dd9212a6774a882060cdf62d: not written by this session
namespace Go.Proofs.Ytldgmneijipbjaa.Pat
open Go.RowKit Go.Proofs.YtldgmneijipbjaaW.PrintWords Go.Proofs.YtldgmneijipbjaaW.PrintLast Go.Proofs.YtldgmneijipbjaaW.PrintMore
attribute [local go_sem] max2_int min2_int max_two min_two max_three min_three max_four min_four   -- for this text's walks alone
set_option linter.unusedVariables false
set_option linter.unusedSimpArgs false

/-! ### gussetlaw11_at: function 17 -/
def gussetlaw11_at.l0 : Nat → List Int → Int → Int → Option (Int)
  | 0, _, _, _ => none
  | k + 1, x0, x1, x5 => if x5 < (x0.length : Int) then (if 0 ≤ x5 then (if (rd x0 x5) = x1 then (some x5) else (gussetlaw11_at.l0 k x0 x1 (wrap64 (x5 + 1)))) else (none)) else (some (-1))
def gussetlaw11_at.f (k : Nat) (l0 : List Int) (a1 : Int) : Option (Int) := gussetlaw11_at.l0 k l0 a1 0
theorem gussetlaw11_at.mono_l : ∀ k, (∀ y0 y1 y2, LeO (gussetlaw11_at.l0 k y0 y1 y2) (gussetlaw11_at.l0 (k + 1) y0 y1 y2))
  | 0 => fun _ _ _ r h => by simp [gussetlaw11_at.l0] at h
  | k + 1 => by
    have ih0 := gussetlaw11_at.mono_l k
    · intro y0 y1 y2
      unfold gussetlaw11_at.l0
      repeat' first
      | (with_reducible exact ih0 _ _ _)
      | (with_reducible exact LeO.refl _)
      | (with_reducible exact LeO.none _)
      | (with_reducible refine LeO.ite ?_ ?_)
      | (with_reducible refine LeO.bind ?_ (fun _ => ?_))
      | exact ih0 _ _ _
      | exact LeO.none _
      | refine LeO.ite ?_ ?_
      | refine LeO.bind ?_ (fun _ => ?_)
theorem gussetlaw11_at.mono : ∀ a0 a1 k, LeO (gussetlaw11_at.f k a0 a1) (gussetlaw11_at.f (k + 1) a0 a1) := by
  intro a0 a1 k
  have ih0 := gussetlaw11_at.mono_l k
  unfold gussetlaw11_at.f
  repeat' first
      | (with_reducible exact ih0 _ _ _)
      | (with_reducible exact LeO.refl _)
      | (with_reducible exact LeO.none _)
      | (with_reducible refine LeO.ite ?_ ?_)
      | (with_reducible refine LeO.bind ?_ (fun _ => ?_))
      | exact ih0 _ _ _
      | exact LeO.none _
      | refine LeO.ite ?_ ?_
      | refine LeO.bind ?_ (fun _ => ?_)
set_option maxHeartbeats 8000000 in
set_option maxRecDepth 100000 in
theorem gussetlaw11_at.calls (k : Nat) (A0 : Option Addr) (c0 : Nat) (l0 : List Int) (a1 : Int) (r : Int) (w : World) (hr0 : Kd.C (Kd.int .i64) w A0 l0.length l0) (hc0 : l0.length ≤ c0) (h : gussetlaw11_at.f k l0 a1 = some r) :
    Calls Try.prog 17 #[.slice A0 l0.length c0, .int .i64 a1] w fun e w' => e = .returned (.int .i64 r) ∧ Drawn0 w w' := by
  have HR0 := Aside0.mk hr0
  have HC0 := Aside0.mk hc0
  clear hr0 hc0
  have H : (gussetlaw11_at.l0 k l0 a1 0) = some r := h
  clear h
  have H' := Aside0.mk H
  clear H
  go_enter Try.func17, Try.ntmps17
  go_wp2
  go_loopg [5] k (fun kq v5 w' => ∃ (x5_1 : Int), v5 = .int .i64 x5_1 ∧ Aside0 (gussetlaw11_at.l0 kq l0 a1 x5_1 = some r) ∧ Aside0 (kq ≤ k) ∧ Drawn0 w w')
  case atStart => exact ⟨(0), (by first | rfl | (simp; done) | (simp [*]; done)), H', ⟨Nat.le_refl _⟩, by repeat (first | exact Drawn0.refl _ | apply Drawn0.step)⟩
  case round =>
    clear H'
    try clear c1
    try clear p2
    obtain ⟨x5_1, rfl, HA, HK1, ⟨m1, rfl⟩⟩ := hrel
    cases gk with
    | zero => exact absurd HA.out (by simp [gussetlaw11_at.l0])
    | succ k1 =>
      have H := HA.out
      clear HA
      simp only [gussetlaw11_at.l0] at H
      by_cases c3 : x5_1 < (l0.length : Int)
      · rw [if_pos c3] at H
        have c3b0 : decide (x5_1 < (l0.length : Int)) = true := decide_eq_true c3
        clear c3
        by_cases c4 : 0 ≤ x5_1
        · rw [if_pos c4] at H
          have c4b0 : decide (0 ≤ x5_1) = true := decide_eq_true c4
          clear c4
          by_cases c5 : (rd l0 x5_1) = a1
          · rw [if_pos c5] at H
            have c5b0 : ((rd l0 x5_1) == a1) = true := beq_iff_eq.mpr c5
            have c5b1 : ((rd l0 x5_1) != a1) = false := bne_eq_false_iff_eq.mpr c5
            clear c5
            obtain rfl := Option.some.inj H
            have p101 : 0 ≤ (x5_1 : Int) := of_decide_eq_true (by first | (with_reducible assumption) | assumption)
            have q101 : x5_1 < (l0.length : Int) := of_decide_eq_true (by first | (with_reducible assumption) | assumption)
            obtain ⟨ad101, e101, hx101_0⟩ := Kd.at_int HR0.out x5_1 p101 q101
            cases e101
            replace p101 := eq_true p101
            replace q101 := eq_true q101
            go_wp2
            go_ret
            exact ⟨by first | rfl | (simp; done) | (simp [*]; done), by repeat (first | exact Drawn0.refl _ | apply Drawn0.step)⟩
          · rw [if_neg c5] at H
            have c5b0 : ((rd l0 x5_1) == a1) = false := beq_eq_false_iff_ne.mpr c5
            have c5b1 : ((rd l0 x5_1) != a1) = true := bne_iff_ne.mpr c5
            have H' := Aside0.mk H
            clear H
            have p101 : 0 ≤ (x5_1 : Int) := of_decide_eq_true (by first | (with_reducible assumption) | assumption)
            have q101 : x5_1 < (l0.length : Int) := of_decide_eq_true (by first | (with_reducible assumption) | assumption)
            obtain ⟨ad101, e101, hx101_0⟩ := Kd.at_int HR0.out x5_1 p101 q101
            cases e101
            replace p101 := eq_true p101
            replace q101 := eq_true q101
            go_wp2
            go_roundg k1
            case measure => have := HK1.out; omega
            case rel => exact ⟨(wrap64 (x5_1 + 1)), (by first | rfl | (simp; done) | (simp [*]; done)), H', ⟨by have := HK1.out; omega⟩, by repeat (first | exact Drawn0.refl _ | apply Drawn0.step)⟩
        · rw [if_neg c4] at H
          exact absurd H (by simp)
      · rw [if_neg c3] at H
        have c3b0 : decide (x5_1 < (l0.length : Int)) = false := decide_eq_false c3
        clear c3
        obtain rfl := Option.some.inj H
        go_wp2
        go_ret
        exact ⟨by first | rfl | (simp; done) | (simp [*]; done), by repeat (first | exact Drawn0.refl _ | apply Drawn0.step)⟩

end Go.Proofs.Ytldgmneijipbjaa.Pat
end
/- YtldgmneijipbjaaPatx -/
section
-- PRINTED BY print.sh 35421559b90ae4d0a3588c463048766b98c2df88dd9212a6774a882060cdf62d: not written by this session
namespace Go.Proofs.Ytldgmneijipbjaa.Pat
open Go.RowKit Go.Proofs.YtldgmneijipbjaaW.PrintWords Go.Proofs.YtldgmneijipbjaaW.PrintLast Go.Proofs.YtldgmneijipbjaaW.PrintMore
attribute [local go_sem] max2_int min2_int max_two min_two max_three min_three max_four min_four   -- for this text's walks alone
set_option linter.unusedVariables false
set_option linter.unusedSimpArgs false

end Go.Proofs.Ytldgmneijipbjaa.Pat
end
/- YtldgmneijipbjaaPu1 -/
section
/- What the printed functions of the references answer: Check, Same, SameAll, at. -/
namespace Go.Proofs.Ytldgmneijipbjaa.Pu
open Go.RowKit Go.Proofs.YtldgmneijipbjaaW.PrintWords
set_option linter.unusedVariables false

def okR (n : Nat) (r : List Int) : Bool := r.all fun x => decide (0 ≤ x) && decide (x < (n : Int))
def okE (l : List (List Int)) : Bool := l.all (okR l.length)

theorem wrap_small {j : Int} (h0 : 0 ≤ j) (h : j ≤ 9223372036854775806) : wrap64 (j + 1) = j + 1 := by unfold wrap64; omega
theorem rd_nat (xs : List Int) (j : Nat) (h : j < xs.length) : rd xs (j : Int) = xs[j] := by simp [rd, List.getD_eq_getElem?_getD, h]
theorem ev_eq {α : Type} {g : Nat → Option α} {a b : α} (h : Ev g a) (e : a = b) : Ev g b := e ▸ h

section chk
open PCheck
theorem chk1 (x0 x7 : List (List Int)) (x8 x9 : Int) (r : List Int) (r0 : Int) (hr : r.length ≤ 4611686018427387904) (h0 : Ev (fun k => order_Check.l0 k x0 x7 x8 (wrap64 (x9 + 1))) r0) (d : Nat) :
    ∀ j : Nat, r.length - j = d → j ≤ r.length → Ev (fun k => order_Check.l1 k x0 x7 x8 x9 r (r.length : Int) (j : Int)) (if okR x0.length (r.drop j) then r0 else 110) := by
  induction d with
  | zero =>
    intro j hj hle
    refine Ev.step (f := fun k => order_Check.l0 k x0 x7 x8 (wrap64 (x9 + 1))) (fun k => ?_) ?_
    · simp only [order_Check.l1]; rw [if_neg (by omega)]
    · rw [List.drop_eq_nil_of_le (by omega)]
      simpa [okR] using h0
  | succ d ih =>
    intro j hj hle
    have hlt : j < r.length := by omega
    have hrd := rd_nat r j hlt
    rw [List.drop_eq_getElem_cons hlt]
    by_cases h1 : r[j] < 0
    · refine ev_eq (Ev.step (f := fun _ => some 110) (fun k => ?_) (Ev.now _)) ?_
      · simp only [order_Check.l1]; rw [if_pos (by omega), if_pos (by omega), if_pos (by omega), hrd, if_pos h1]
      · rw [if_neg]
        simp only [okR, List.all_cons, Bool.and_eq_true, decide_eq_true_eq]; omega
    · by_cases h2 : r[j] ≥ (x0.length : Int)
      · refine ev_eq (Ev.step (f := fun _ => some 110) (fun k => ?_) (Ev.now _)) ?_
        · simp only [order_Check.l1]; rw [if_pos (by omega), if_pos (by omega), if_pos (by omega), hrd, if_neg h1, if_pos h2]
        · rw [if_neg]
          simp only [okR, List.all_cons, Bool.and_eq_true, decide_eq_true_eq]; omega
      · refine ev_eq (Ev.step (f := fun k => order_Check.l1 k x0 x7 x8 x9 r (r.length : Int) ((j + 1 : Nat) : Int)) (fun k => ?_) (ih (j + 1) (by omega) (by omega))) ?_
        · simp only [order_Check.l1]; rw [if_pos (by omega), if_pos (by omega), if_pos (by omega), hrd, if_neg h1, if_neg h2, wrap_small (by omega) (by omega)]; rfl
        · have e : okR x0.length (r[j] :: r.drop (j + 1)) = okR x0.length (r.drop (j + 1)) := by
            simp only [okR, List.all_cons]
            rw [decide_eq_true (by omega : 0 ≤ r[j]), decide_eq_true (by omega : r[j] < (x0.length : Int))]
            rfl
          rw [e]
theorem chk0 (l : List (List Int)) (hl : l.length ≤ 4611686018427387904) (hr : ∀ r, r ∈ l → r.length ≤ 4611686018427387904) (d : Nat) :
    ∀ i : Nat, l.length - i = d → i ≤ l.length → Ev (fun k => order_Check.l0 k l l (l.length : Int) (i : Int)) (if (l.drop i).all (okR l.length) then 0 else 110) := by
  induction d with
  | zero =>
    intro i hi hle
    refine ev_eq (Ev.step (f := fun _ => some 0) (fun k => ?_) (Ev.now _)) ?_
    · simp only [order_Check.l0]; rw [if_neg (by omega)]
    · rw [List.drop_eq_nil_of_le (by omega)]; rfl
  | succ d ih =>
    intro i hi hle
    have hlt : i < l.length := by omega
    have hrow : rd_L1 l (i : Int) = l[i] := by simp [rd_L1, List.getD_eq_getElem?_getD, hlt]
    have h1 := chk1 l l (l.length : Int) (i : Int) l[i] _ (hr _ (List.getElem_mem hlt)) (by
      have := ih (i + 1) (by omega) (by omega)
      refine Ev.congr (fun k => ?_) this
      rw [wrap_small (by omega) (by omega)]; rfl) _ 0 rfl (Nat.zero_le _)
    refine ev_eq (Ev.step (f := fun k => order_Check.l1 k l l (l.length : Int) (i : Int) l[i] (l[i].length : Int) ((0 : Nat) : Int)) (fun k => ?_) h1) ?_
    · simp only [order_Check.l0]; rw [if_pos (by omega), if_pos (by omega), if_pos (by omega), hrow]; rfl
    · rw [List.drop_eq_getElem_cons hlt, List.all_cons, List.drop_zero]
      cases okR l.length l[i] <;> simp
theorem check_ev (l : List (List Int)) (hl : l.length ≤ 4611686018427387904) (hr : ∀ r, r ∈ l → r.length ≤ 4611686018427387904) : ∃ k, order_Check.f k l = some (if okE l then 0 else 110) := by
  have := (chk0 l hl hr _ 0 rfl (Nat.zero_le _)).rounds
  simpa [order_Check.f, okE] using this
end chk

section rchk
open POrder
theorem rchk1 (x0 : List (List Int)) (i : Nat) (hi : i < x0.length) (r : List Int) (hrow : rd_L1 x0 (i : Int) = r) (r0 : Int) (hr : r.length ≤ 4611686018427387904) (h0 : Ev (fun k => gussetref11_Check.l0 k x0 (wrap64 ((i : Int) + 1))) r0) (d : Nat) :
    ∀ j : Nat, r.length - j = d → j ≤ r.length → Ev (fun k => gussetref11_Check.l1 k x0 (i : Int) (j : Int)) (if okR x0.length (r.drop j) then r0 else 110) := by
  induction d with
  | zero =>
    intro j hj hle
    refine Ev.step (f := fun k => gussetref11_Check.l0 k x0 (wrap64 ((i : Int) + 1))) (fun k => ?_) ?_
    · simp only [gussetref11_Check.l1]; rw [if_pos (by omega), if_pos (by omega), hrow, if_neg (by omega)]
    · rw [List.drop_eq_nil_of_le (by omega)]
      simpa [okR] using h0
  | succ d ih =>
    intro j hj hle
    have hlt : j < r.length := by omega
    have hrd := rd_nat r j hlt
    rw [List.drop_eq_getElem_cons hlt]
    by_cases h1 : r[j] < 0
    · refine ev_eq (Ev.step (f := fun _ => some 110) (fun k => ?_) (Ev.now _)) ?_
      · simp only [gussetref11_Check.l1]; rw [if_pos (by omega), if_pos (by omega), hrow, if_pos (by omega), if_pos (by omega), hrd, if_pos h1]
      · rw [if_neg]
        simp only [okR, List.all_cons, Bool.and_eq_true, decide_eq_true_eq]; omega
    · by_cases h2 : r[j] ≥ (x0.length : Int)
      · refine ev_eq (Ev.step (f := fun _ => some 110) (fun k => ?_) (Ev.now _)) ?_
        · simp only [gussetref11_Check.l1]; rw [if_pos (by omega), if_pos (by omega), hrow, if_pos (by omega), if_pos (by omega), hrd, if_neg h1, if_pos h2]
        · rw [if_neg]
          simp only [okR, List.all_cons, Bool.and_eq_true, decide_eq_true_eq]; omega
      · refine ev_eq (Ev.step (f := fun k => gussetref11_Check.l1 k x0 (i : Int) ((j + 1 : Nat) : Int)) (fun k => ?_) (ih (j + 1) (by omega) (by omega))) ?_
        · simp only [gussetref11_Check.l1]; rw [if_pos (by omega), if_pos (by omega), hrow, if_pos (by omega), if_pos (by omega), hrd, if_neg h1, if_neg h2, wrap_small (by omega) (by omega)]; rfl
        · have e : okR x0.length (r[j] :: r.drop (j + 1)) = okR x0.length (r.drop (j + 1)) := by
            simp only [okR, List.all_cons]
            rw [decide_eq_true (by omega : 0 ≤ r[j]), decide_eq_true (by omega : r[j] < (x0.length : Int))]
            rfl
          rw [e]
theorem rchk0 (l : List (List Int)) (hl : l.length ≤ 4611686018427387904) (hr : ∀ r, r ∈ l → r.length ≤ 4611686018427387904) (d : Nat) :
    ∀ i : Nat, l.length - i = d → i ≤ l.length → Ev (fun k => gussetref11_Check.l0 k l (i : Int)) (if (l.drop i).all (okR l.length) then 0 else 110) := by
  induction d with
  | zero =>
    intro i hi hle
    refine ev_eq (Ev.step (f := fun _ => some 0) (fun k => ?_) (Ev.now _)) ?_
    · simp only [gussetref11_Check.l0]; rw [if_neg (by omega)]
    · rw [List.drop_eq_nil_of_le (by omega)]; rfl
  | succ d ih =>
    intro i hi hle
    have hlt : i < l.length := by omega
    have hrow : rd_L1 l (i : Int) = l[i] := by simp [rd_L1, List.getD_eq_getElem?_getD, hlt]
    have h1 := rchk1 l i hlt l[i] hrow _ (hr _ (List.getElem_mem hlt)) (by
      have := ih (i + 1) (by omega) (by omega)
      refine Ev.congr (fun k => ?_) this
      rw [wrap_small (by omega) (by omega)]; rfl) _ 0 rfl (Nat.zero_le _)
    refine ev_eq (Ev.step (f := fun k => gussetref11_Check.l1 k l (i : Int) ((0 : Nat) : Int)) (fun k => ?_) h1) ?_
    · simp only [gussetref11_Check.l0]; rw [if_pos (by omega)]; rfl
    · rw [List.drop_eq_getElem_cons hlt, List.all_cons, List.drop_zero]
      cases okR l.length l[i] <;> simp
theorem rcheck_ev (l : List (List Int)) (hl : l.length ≤ 4611686018427387904) (hr : ∀ r, r ∈ l → r.length ≤ 4611686018427387904) : Ev (fun k => gussetref11_Check.f k l) (if okE l then 0 else 110) := by
  have := chk0
  exact rchk0 l hl hr _ 0 rfl (Nat.zero_le _)
end rchk

section same
open PSameAll
theorem same1 (l : List Int) (hl : l.length ≤ 4611686018427387904) (d : Nat) : ∀ j : Nat, l.length - j = d → j ≤ l.length → Ev (fun k => gussetref11_Same.l0 k l l (j : Int)) true := by
  induction d with
  | zero =>
    intro j hj hle
    exact Ev.step (f := fun _ => some true) (fun k => by simp only [gussetref11_Same.l0]; rw [if_neg (by omega)]) (Ev.now _)
  | succ d ih =>
    intro j hj hle
    exact Ev.step (f := fun k => gussetref11_Same.l0 k l l ((j + 1 : Nat) : Int)) (fun k => by
      simp only [gussetref11_Same.l0]; rw [if_pos (by omega), if_pos (by omega), if_pos (by omega), if_true, wrap_small (by omega) (by omega)]; rfl) (ih (j + 1) (by omega) (by omega))
theorem same_ev (l : List Int) (hl : l.length ≤ 4611686018427387904) : Ev (fun k => gussetref11_Same.f k l l) true := by
  refine Ev.congr (fun k => ?_) (same1 l hl _ 0 rfl (Nat.zero_le _))
  simp [gussetref11_Same.f]
theorem sameAll1 (l : List (List Int)) (hl : l.length ≤ 4611686018427387904) (hr : ∀ r, r ∈ l → r.length ≤ 4611686018427387904) (d : Nat) : ∀ j : Nat, l.length - j = d → j ≤ l.length → Ev (fun k => gussetref11_SameAll.l0 k l l (j : Int)) true := by
  induction d with
  | zero =>
    intro j hj hle
    exact Ev.step (f := fun _ => some true) (fun k => by simp only [gussetref11_SameAll.l0]; rw [if_neg (by omega)]) (Ev.now _)
  | succ d ih =>
    intro j hj hle
    have hlt : j < l.length := by omega
    have hrow : rd_L1 l (j : Int) = l[j] := by simp [rd_L1, List.getD_eq_getElem?_getD, hlt]
    refine Ev.step (f := fun k => (gussetref11_Same.f k l[j] l[j]).bind fun t => if t = true then gussetref11_SameAll.l0 k l l ((j + 1 : Nat) : Int) else some false) (fun k => ?_) (Ev.bind (same_ev _ (hr _ (List.getElem_mem hlt))) ?_)
    · simp only [gussetref11_SameAll.l0]; rw [if_pos (by omega), if_pos (by omega), if_pos (by omega), hrow, wrap_small (by omega) (by omega)]; rfl
    · simpa using ih (j + 1) (by omega) (by omega)
theorem sameAll_ev (l : List (List Int)) (hl : l.length ≤ 4611686018427387904) (hr : ∀ r, r ∈ l → r.length ≤ 4611686018427387904) : ∃ k, gussetref11_SameAll.f k l l = some true := by
  have := (sameAll1 l hl hr _ 0 rfl (Nat.zero_le _)).rounds
  simpa [gussetref11_SameAll.f] using this
theorem same_some (l : List Int) (hl : l.length ≤ 4611686018427387904) : ∃ k, gussetref11_Same.f k l l = some true := (same_ev l hl).rounds
end same

section at_
open Pat
/-- where a place stands; -1: nowhere -/
def idx (l : List Int) (x : Int) : Int := match l.findIdx? (· == x) with | some i => i | none => -1
theorem at1 (l : List Int) (x : Int) (hl : l.length ≤ 4611686018427387904) (d : Nat) : ∀ j : Nat, l.length - j = d → j ≤ l.length → Ev (fun k => gussetlaw11_at.l0 k l x (j : Int)) (match (l.drop j).findIdx? (· == x) with | some i => ((j + i : Nat) : Int) | none => -1) := by
  induction d with
  | zero =>
    intro j hj hle
    refine ev_eq (Ev.step (f := fun _ => some (-1)) (fun k => by simp only [gussetlaw11_at.l0]; rw [if_neg (by omega)]) (Ev.now _)) ?_
    rw [List.drop_eq_nil_of_le (by omega)]; rfl
  | succ d ih =>
    intro j hj hle
    have hlt : j < l.length := by omega
    have hrd := rd_nat l j hlt
    rw [List.drop_eq_getElem_cons hlt, List.findIdx?_cons]
    by_cases h : l[j] = x
    · refine ev_eq (Ev.step (f := fun _ => some (j : Int)) (fun k => by simp only [gussetlaw11_at.l0]; rw [if_pos (by omega), if_pos (by omega), hrd, if_pos h]) (Ev.now _)) ?_
      simp [h]
    · refine ev_eq (Ev.step (f := fun k => gussetlaw11_at.l0 k l x ((j + 1 : Nat) : Int)) (fun k => by
        simp only [gussetlaw11_at.l0]; rw [if_pos (by omega), if_pos (by omega), hrd, if_neg h, wrap_small (by omega) (by omega)]; rfl) (ih (j + 1) (by omega) (by omega))) ?_
      rw [if_neg (by simpa using h)]
      cases (l.drop (j + 1)).findIdx? (· == x) with
      | none => rfl
      | some i => simp only [Option.map_some]; omega
theorem at_ev (l : List Int) (x : Int) (hl : l.length ≤ 4611686018427387904) : ∃ k, gussetlaw11_at.f k l x = some (idx l x) := by
  have := (at1 l x hl _ 0 rfl (Nat.zero_le _)).rounds
  simpa [gussetlaw11_at.f, idx] using this
end at_
end Go.Proofs.Ytldgmneijipbjaa.Pu
end
/- YtldgmneijipbjaaGr1 -/
section
/- Walks over a graph, places that are told behind what they lead to, and the parts of a graph, in plain lists. -/
namespace Go.Proofs.Ytldgmneijipbjaa.Gr
abbrev G := List (List Nat)
def out (g : G) (x : Nat) : List Nat := g.getD x []
def sn (s : List Bool) (x : Nat) : Bool := s.getD x true
def unseen (s : List Bool) : Nat := s.count false
def Good (g : G) : Prop := ∀ x y, y ∈ out g x → y < g.length

theorem sn_set (s : List Bool) (x y : Nat) : sn (s.set x true) y = (if x = y then true else sn s y) := by
  unfold sn
  rw [List.getD_eq_getElem?_getD, List.getElem?_set]
  by_cases h : x = y
  · subst h; simp; split <;> simp
  · simp [h, List.getD_eq_getElem?_getD]

theorem sn_lt {s : List Bool} {x : Nat} (h : sn s x = false) : x < s.length := by
  unfold sn at h
  rw [List.getD_eq_getElem?_getD] at h
  by_cases hx : x < s.length
  · exact hx
  · rw [List.getElem?_eq_none (by omega)] at h; simp at h

theorem unseen_set {s : List Bool} {x : Nat} (h : sn s x = false) : unseen (s.set x true) + 1 = unseen s := by
  induction s generalizing x with
  | nil => simp [sn] at h
  | cons b s ih =>
    cases x with
    | zero => simp [sn] at h; subst h; simp [unseen]
    | succ x =>
      have h' : sn s x = false := by simpa [sn] using h
      have := ih h'
      simp only [List.set_cons_succ, unseen, List.count_cons] at this ⊢
      omega

theorem unseen_pos {s : List Bool} {x : Nat} (h : sn s x = false) : 0 < unseen s := by have := unseen_set h; omega

abbrev St := List Bool × List Nat

/-- the walk from a place that isn't entered yet; n: rounds -/
def visit (g : G) : Nat → Nat → St → St
  | 0, _, p => p
  | n + 1, x, p =>
    let q := (out g x).foldl (fun p y => if sn p.1 y then p else visit g n y p) (p.1.set x true, p.2)
    (q.1, q.2 ++ [x])
def scan (g : G) (n : Nat) (ys : List Nat) (p : St) : St := ys.foldl (fun p y => if sn p.1 y then p else visit g n y p) p
theorem visit_succ (g : G) (n x : Nat) (p : St) : visit g (n + 1) x p = ((scan g n (out g x) (p.1.set x true, p.2)).1, (scan g n (out g x) (p.1.set x true, p.2)).2 ++ [x]) := rfl
theorem scan_nil (g : G) (n : Nat) (p : St) : scan g n [] p = p := rfl
theorem scan_cons (g : G) (n y : Nat) (ys : List Nat) (p : St) : scan g n (y :: ys) p = scan g n ys (if sn p.1 y then p else visit g n y p) := rfl
theorem scan_append (g : G) (n : Nat) (ys zs : List Nat) (p : St) : scan g n (ys ++ zs) p = scan g n zs (scan g n ys p) := by simp [scan, List.foldl_append]

/-- more is seen -/
def Le (s s' : List Bool) : Prop := s'.length = s.length ∧ unseen s' ≤ unseen s ∧ ∀ x, sn s x = true → sn s' x = true
theorem Le.refl (s : List Bool) : Le s s := ⟨rfl, Nat.le_refl _, fun _ h => h⟩
theorem Le.trans {a b c : List Bool} (h : Le a b) (k : Le b c) : Le a c := ⟨k.1.trans h.1, Nat.le_trans k.2.1 h.2.1, fun x hx => k.2.2 x (h.2.2 x hx)⟩
theorem Le.set {s : List Bool} {x : Nat} (h : sn s x = false) : Le s (s.set x true) :=
  ⟨by simp, by have := unseen_set h; omega, fun y hy => by rw [sn_set]; split <;> simp_all⟩

theorem le_both (g : G) (n : Nat) : (∀ x p, sn p.1 x = false → Le p.1 (visit g n x p).1) ∧ ∀ ys p, Le p.1 (scan g n ys p).1 := by
  induction n with
  | zero =>
    refine ⟨fun x p _ => Le.refl _, fun ys => ?_⟩
    induction ys with
    | nil => exact fun p => Le.refl _
    | cons y ys ih => intro p; rw [scan_cons]; split <;> exact ih _
  | succ n ih =>
    have hv : ∀ x p, sn p.1 x = false → Le p.1 (visit g (n + 1) x p).1 := fun x p h => by
      rw [visit_succ]; exact (Le.set h).trans (ih.2 _ (p.1.set x true, p.2))
    refine ⟨hv, fun ys => ?_⟩
    induction ys with
    | nil => exact fun p => Le.refl _
    | cons y ys ihy =>
      intro p; rw [scan_cons]; split
      · exact ihy _
      · rename_i h; exact (hv y p (by simpa using h)).trans (ihy _)
theorem le_visit (g : G) (n x : Nat) (p : St) (h : sn p.1 x = false) : Le p.1 (visit g n x p).1 := (le_both g n).1 x p h
theorem le_scan (g : G) (n : Nat) (ys : List Nat) (p : St) : Le p.1 (scan g n ys p).1 := (le_both g n).2 ys p

/-- so many rounds suffice, and more change nothing -/
theorem fuel_both (g : G) (n : Nat) : ∀ m, n ≤ m → (∀ x p, sn p.1 x = false → unseen p.1 ≤ n → visit g n x p = visit g m x p) ∧ ∀ ys p, unseen p.1 ≤ n → scan g n ys p = scan g m ys p := by
  induction n with
  | zero =>
    intro m _
    have h0 : ∀ x p, sn (p : St).1 x = false → unseen p.1 ≤ 0 → visit g 0 x p = visit g m x p := fun x p h hu => by have := unseen_pos h; omega
    refine ⟨h0, fun ys => ?_⟩
    induction ys with
    | nil => exact fun p _ => rfl
    | cons y ys ih =>
      intro p hu; rw [scan_cons, scan_cons]; split
      · exact ih _ hu
      · rename_i h; have := unseen_pos (s := p.1) (x := y) (by simpa using h); omega
  | succ n ih =>
    intro m hm
    obtain ⟨m, rfl⟩ : ∃ k, m = k + 1 := ⟨m - 1, by omega⟩
    have hv : ∀ x p, sn (p : St).1 x = false → unseen p.1 ≤ n + 1 → visit g (n + 1) x p = visit g (m + 1) x p := fun x p h hu => by
      have hs := unseen_set h
      rw [visit_succ, visit_succ, (ih m (by omega)).2 _ (p.1.set x true, p.2) (by simp only; omega)]
    refine ⟨hv, fun ys => ?_⟩
    induction ys with
    | nil => exact fun p _ => rfl
    | cons y ys ihy =>
      intro p hu; rw [scan_cons, scan_cons]; split
      · exact ihy _ hu
      · rename_i h
        have h' : sn p.1 y = false := by simpa using h
        rw [← hv y p h' hu]
        exact ihy _ (Nat.le_trans (le_visit g _ y p h').2.1 hu)
theorem visit_fuel (g : G) {n m x : Nat} {p : St} (h : sn p.1 x = false) (hn : unseen p.1 ≤ n) (hm : unseen p.1 ≤ m) : visit g n x p = visit g m x p := by
  rw [← ((fuel_both g (unseen p.1)) n hn).1 x p h (Nat.le_refl _), ((fuel_both g (unseen p.1)) m hm).1 x p h (Nat.le_refl _)]
theorem scan_fuel (g : G) {n m : Nat} {ys : List Nat} {p : St} (hn : unseen p.1 ≤ n) (hm : unseen p.1 ≤ m) : scan g n ys p = scan g m ys p := by
  rw [← ((fuel_both g (unseen p.1)) n hn).2 ys p (Nat.le_refl _), ((fuel_both g (unseen p.1)) m hm).2 ys p (Nat.le_refl _)]

/-! the walk with a stack of its own -/
/-- what is left when the stack's places are finished -/
def complete (g : G) (n : Nat) : List (Nat × Nat) → St → St
  | [], p => p
  | (x, k) :: st, p => complete g n st ((scan g n ((out g x).drop k) p).1, (scan g n ((out g x).drop k) p).2 ++ [x])
theorem complete_leave (g : G) (n x k : Nat) (st : List (Nat × Nat)) (p : St) (h : (out g x).length ≤ k) : complete g n ((x, k) :: st) p = complete g n st (p.1, p.2 ++ [x]) := by
  simp [complete, List.drop_eq_nil_of_le h, scan_nil]
theorem complete_skip (g : G) (n x k y : Nat) (st : List (Nat × Nat)) (p : St) (h : (out g x)[k]? = some y) (hs : sn p.1 y = true) : complete g n ((x, k) :: st) p = complete g n ((x, k + 1) :: st) p := by
  obtain ⟨hk, rfl⟩ := List.getElem?_eq_some_iff.1 h
  simp only [complete]
  rw [List.drop_eq_getElem_cons hk, scan_cons, if_pos hs]
theorem complete_enter (g : G) (n x k y : Nat) (st : List (Nat × Nat)) (p : St) (h : (out g x)[k]? = some y) (hs : sn p.1 y = false) (hn : unseen p.1 ≤ n) :
    complete g n ((x, k) :: st) p = complete g n ((y, 0) :: (x, k + 1) :: st) (p.1.set y true, p.2) := by
  obtain ⟨hk, rfl⟩ := List.getElem?_eq_some_iff.1 h
  have hu := unseen_set hs
  simp only [complete]
  rw [List.drop_eq_getElem_cons hk, scan_cons, if_neg (by simp [hs]), visit_fuel g hs hn (m := n + 1) (by omega), visit_succ]
  simp

/-- a measure that each step lowers -/
def mu (g : G) (s : List Bool) (st : List (Nat × Nat)) : Nat :=
  ((List.range s.length).map fun y => if sn s y then 0 else (out g y).length + 2).sum + (st.map fun e => (out g e.1).length - e.2 + 1).sum
theorem sum_set (g : G) (s : List Bool) (y : Nat) (h : sn s y = false) :
    ((List.range s.length).map fun x => if sn (s.set y true) x then 0 else (out g x).length + 2).sum + ((out g y).length + 2) = ((List.range s.length).map fun x => if sn s x then 0 else (out g x).length + 2).sum := by
  have hy := sn_lt h
  have key : ∀ l : List Nat, l.Nodup → (l.map fun x => if sn (s.set y true) x then 0 else (out g x).length + 2).sum + (if y ∈ l then (out g y).length + 2 else 0) = (l.map fun x => if sn s x then 0 else (out g x).length + 2).sum := by
    intro l hl
    induction l with
    | nil => simp
    | cons a l ih =>
      obtain ⟨ha, hl⟩ := List.nodup_cons.1 hl
      have := ih hl
      simp only [List.map_cons, List.sum_cons, List.mem_cons]
      by_cases e : y = a
      · subst e
        rw [if_neg ha] at this
        simp only [sn_set, if_true, true_or] at *
        rw [if_neg (by simp [h])]
        omega
      · rw [sn_set, if_neg e]
        simp only [e, false_or]
        omega
  have := key (List.range s.length) List.nodup_range
  rw [if_pos (by simpa using hy)] at this
  exact this
theorem mu_leave (g : G) (s : List Bool) (x k : Nat) (st : List (Nat × Nat)) : mu g s st < mu g s ((x, k) :: st) := by simp [mu]
theorem mu_skip (g : G) (s : List Bool) (x k : Nat) (st : List (Nat × Nat)) (h : k < (out g x).length) : mu g s ((x, k + 1) :: st) < mu g s ((x, k) :: st) := by simp [mu]; omega
theorem mu_enter (g : G) (s : List Bool) (x k y : Nat) (st : List (Nat × Nat)) (h : k < (out g x).length) (hs : sn s y = false) : mu g (s.set y true) ((y, 0) :: (x, k + 1) :: st) < mu g s ((x, k) :: st) := by
  have := sum_set g s y hs
  simp only [mu, List.length_set, List.map_cons, List.sum_cons, Nat.sub_zero]
  omega

/-! reaching -/
inductive Reach (g : G) : Nat → Nat → Prop
  | refl (x) : Reach g x x
  | tail {x y z} : Reach g x y → z ∈ out g y → Reach g x z
theorem Reach.trans {g : G} {x y z : Nat} (h : Reach g x y) (k : Reach g y z) : Reach g x z := by
  induction k with
  | refl => exact h
  | tail _ e ih => exact .tail ih e
theorem Reach.one {g : G} {x y : Nat} (h : y ∈ out g x) : Reach g x y := .tail (.refl _) h
theorem Reach.lt {g : G} (hg : Good g) {x y : Nat} (h : Reach g x y) (hx : x < g.length) : y < g.length := by
  cases h with
  | refl => exact hx
  | tail _ e => exact hg _ _ e

/-- d: what is told; gr: what was entered and isn't told. -/
structure Inv (g : G) (s : List Bool) (d gr : List Nat) : Prop where
  len : s.length = g.length
  nodup : (d ++ gr).Nodup
  lt : ∀ x, x ∈ d ∨ x ∈ gr → x < g.length
  seen : ∀ x, x < g.length → (sn s x = true ↔ x ∈ d ∨ x ∈ gr)
  edge : ∀ pre m post, d = pre ++ m :: post → ∀ y, y ∈ out g m → y ∈ pre ∨ y = m ∨ ((y ∈ post ∨ y ∈ gr) ∧ Reach g y m)
  far : ∀ pre m post, d = pre ++ m :: post → ∀ y, Reach g m y → y ∈ pre ∨ y = m ∨ ∃ z, (z ∈ post ∨ z ∈ gr) ∧ Reach g m z ∧ Reach g z m

theorem Inv.closed {g : G} {s : List Bool} {d gr : List Nat} (h : Inv g s d gr) {x y : Nat} (hx : x ∈ d) (hy : y ∈ out g x) : y ∈ d ∨ y ∈ gr := by
  obtain ⟨pre, post, rfl⟩ := List.append_of_mem hx
  rcases h.edge pre x post rfl y hy with h | rfl | ⟨h | h, _⟩
  · exact .inl (by simp [h])
  · exact .inl (by simp)
  · exact .inl (by simp [h])
  · exact .inr h

theorem snoc_split {α : Type} {d pre post : List α} {x m : α} (h : d ++ [x] = pre ++ m :: post) : (post = [] ∧ m = x ∧ pre = d) ∨ ∃ post', post = post' ++ [x] ∧ d = pre ++ m :: post' := by
  rcases List.eq_nil_or_concat post with rfl | ⟨p', z, rfl⟩
  · have := List.append_inj' h rfl
    simp at this
    exact .inl ⟨rfl, this.2.symm, this.1.symm⟩
  · rw [List.concat_eq_append] at *
    have h' : d ++ [x] = (pre ++ m :: p') ++ [z] := by simpa using h
    have := List.append_inj' h' rfl
    simp at this
    exact .inr ⟨p', by simp [this.2], this.1⟩

theorem inv_enter {g : G} {s : List Bool} {d gr : List Nat} (h : Inv g s d gr) {x : Nat} (hs : sn s x = false) : Inv g (s.set x true) d (x :: gr) := by
  have hx : x < g.length := by have := sn_lt hs; have := h.len; omega
  have hn : ¬ (x ∈ d ∨ x ∈ gr) := fun k => by have := (h.seen x hx).2 k; rw [hs] at this; cases this
  refine ⟨by simp [h.len], ?_, ?_, ?_, ?_, ?_⟩
  · have := h.nodup
    rw [List.nodup_append] at this ⊢
    refine ⟨this.1, List.nodup_cons.2 ⟨fun k => hn (.inr k), this.2.1⟩, fun a ha b hb => ?_⟩
    rcases List.mem_cons.1 hb with rfl | hb
    · rintro rfl; exact hn (.inl ha)
    · exact this.2.2 a ha b hb
  · rintro y (hy | hy)
    · exact h.lt y (.inl hy)
    · rcases List.mem_cons.1 hy with rfl | hy
      · exact hx
      · exact h.lt y (.inr hy)
  · intro y hy
    rw [sn_set]
    by_cases e : x = y
    · subst e; simp
    · rw [if_neg e, h.seen y hy]
      simp [Ne.symm (a := x) (b := y) e]
  · intro pre m post e y hy
    rcases h.edge pre m post e y hy with k | k | ⟨k | k, r⟩
    · exact .inl k
    · exact .inr (.inl k)
    · exact .inr (.inr ⟨.inl k, r⟩)
    · exact .inr (.inr ⟨.inr (by simp [k]), r⟩)
  · intro pre m post e y hy
    rcases h.far pre m post e y hy with k | k | ⟨z, k | k, r⟩
    · exact .inl k
    · exact .inr (.inl k)
    · exact .inr (.inr ⟨z, .inl k, r⟩)
    · exact .inr (.inr ⟨z, .inr (by simp [k]), r⟩)

theorem inv_leave {g : G} {s : List Bool} {d gr : List Nat} {x : Nat} (h : Inv g s d (x :: gr)) (hr : ∀ z, z ∈ gr → Reach g z x) (ho : ∀ y, y ∈ out g x → y ∈ d ∨ y = x ∨ y ∈ gr) : Inv g s (d ++ [x]) gr := by
  have hc : ∀ y, Reach g x y → y ∈ d ∨ y = x ∨ ∃ z, z ∈ gr ∧ Reach g x z ∧ Reach g z x := by
    intro y hy
    induction hy with
    | refl => exact .inr (.inl rfl)
    | tail k e ih =>
      rename_i y z
      rcases ih with ih | rfl | ih
      · rcases h.closed ih e with q | q
        · exact .inl q
        · rcases List.mem_cons.1 q with rfl | q
          · exact .inr (.inl rfl)
          · exact .inr (.inr ⟨z, q, .tail k e, hr z q⟩)
      · rcases ho z e with q | q | q
        · exact .inl q
        · exact .inr (.inl q)
        · exact .inr (.inr ⟨z, q, .tail k e, hr z q⟩)
      · exact .inr (.inr ih)
  refine ⟨h.len, by simpa using h.nodup, ?_, ?_, ?_, ?_⟩
  · rintro y (hy | hy)
    · rcases List.mem_append.1 hy with hy | hy
      · exact h.lt y (.inl hy)
      · exact h.lt y (.inr (by simp at hy; simp [hy]))
    · exact h.lt y (.inr (by simp [hy]))
  · intro y hy
    rw [h.seen y hy]
    simp [or_assoc]
  · intro pre m post e y hy
    rcases snoc_split e with ⟨rfl, rfl, rfl⟩ | ⟨post', rfl, rfl⟩
    · rcases ho y hy with k | k | k
      · exact .inl k
      · exact .inr (.inl k)
      · exact .inr (.inr ⟨.inr k, hr y k⟩)
    · rcases h.edge pre m post' rfl y hy with k | k | ⟨k | k, r⟩
      · exact .inl k
      · exact .inr (.inl k)
      · exact .inr (.inr ⟨.inl (by simp [k]), r⟩)
      · rcases List.mem_cons.1 k with rfl | k
        · exact .inr (.inr ⟨.inl (by simp), r⟩)
        · exact .inr (.inr ⟨.inr k, r⟩)
  · intro pre m post e y hy
    rcases snoc_split e with ⟨rfl, rfl, rfl⟩ | ⟨post', rfl, rfl⟩
    · rcases hc y hy with k | k | ⟨z, k, r⟩
      · exact .inl k
      · exact .inr (.inl k)
      · exact .inr (.inr ⟨z, .inr k, r⟩)
    · rcases h.far pre m post' rfl y hy with k | k | ⟨z, k | k, r⟩
      · exact .inl k
      · exact .inr (.inl k)
      · exact .inr (.inr ⟨z, .inl (by simp [k]), r⟩)
      · rcases List.mem_cons.1 k with rfl | k
        · exact .inr (.inr ⟨z, .inl (by simp), r⟩)
        · exact .inr (.inr ⟨z, .inr k, r⟩)

/-- what a walk from an unseen place does -/
theorem inv_both (g : G) (hg : Good g) (n : Nat) :
    (∀ x s d gr, Inv g s d gr → sn s x = false → unseen s ≤ n → (∀ z, z ∈ gr → Reach g z x) →
      ∃ e, (visit g n x (s, d)).2 = d ++ e ++ [x] ∧ (∀ z, z ∈ e → Reach g x z) ∧ Inv g (visit g n x (s, d)).1 (visit g n x (s, d)).2 gr) ∧
    (∀ ys x s d gr, Inv g s d gr → unseen s ≤ n → (∀ y, y ∈ ys → y ∈ out g x) → (∀ z, z ∈ gr → Reach g z x) →
      ∃ e, (scan g n ys (s, d)).2 = d ++ e ∧ (∀ z, z ∈ e → Reach g x z) ∧ Inv g (scan g n ys (s, d)).1 (scan g n ys (s, d)).2 gr ∧ ∀ y, y ∈ ys → sn (scan g n ys (s, d)).1 y = true) := by
  induction n with
  | zero =>
    refine ⟨fun x s d gr _ h hu _ => by have := unseen_pos h; omega, fun ys => ?_⟩
    induction ys with
    | nil => intro x s d gr hi _ _ _; exact ⟨[], by simp [scan_nil], by simp, hi, by simp⟩
    | cons y ys ih =>
      intro x s d gr hi hu hy hr
      have hs : sn s y = true := by
        cases h : sn s y with
        | true => rfl
        | false => have := unseen_pos h; omega
      rw [scan_cons, if_pos hs]
      obtain ⟨e, h1, h2, h3, h4⟩ := ih x s d gr hi hu (fun z hz => hy z (by simp [hz])) hr
      exact ⟨e, h1, h2, h3, fun z hz => by
        rcases List.mem_cons.1 hz with rfl | hz
        · exact (le_scan g 0 ys (s, d)).2.2 _ hs
        · exact h4 z hz⟩
  | succ n ih =>
    have hv : ∀ x s d gr, Inv g s d gr → sn s x = false → unseen s ≤ n + 1 → (∀ z, z ∈ gr → Reach g z x) →
      ∃ e, (visit g (n + 1) x (s, d)).2 = d ++ e ++ [x] ∧ (∀ z, z ∈ e → Reach g x z) ∧ Inv g (visit g (n + 1) x (s, d)).1 (visit g (n + 1) x (s, d)).2 gr := by
      intro x s d gr hi hs hu hr
      have hus := unseen_set hs
      obtain ⟨e, h1, h2, h3, h4⟩ := ih.2 (out g x) x (s.set x true) d (x :: gr) (inv_enter hi hs) (by omega) (fun _ h => h) (fun z hz => by
        rcases List.mem_cons.1 hz with rfl | hz
        · exact .refl _
        · exact hr z hz)
      rw [visit_succ]
      refine ⟨e, by simp only [h1], h2, ?_⟩
      refine inv_leave h3 hr (fun y hy => ?_)
      have := h4 y hy
      have hx : y < g.length := hg x y hy
      rcases (h3.seen y hx).1 this with k | k
      · exact .inl k
      · rcases List.mem_cons.1 k with k | k
        · exact .inr (.inl k)
        · exact .inr (.inr k)
    refine ⟨hv, fun ys => ?_⟩
    induction ys with
    | nil => intro x s d gr hi _ _ _; exact ⟨[], by simp [scan_nil], by simp, hi, by simp⟩
    | cons y ys ihy =>
      intro x s d gr hi hu hy hr
      rw [scan_cons]
      cases hs : sn s y with
      | true =>
        simp only [if_true]
        obtain ⟨e, h1, h2, h3, h4⟩ := ihy x s d gr hi hu (fun z hz => hy z (by simp [hz])) hr
        exact ⟨e, h1, h2, h3, fun z hz => by
          rcases List.mem_cons.1 hz with rfl | hz
          · exact (le_scan g _ ys (s, d)).2.2 _ hs
          · exact h4 z hz⟩
      | false =>
        simp only [Bool.false_eq_true, if_false]
        have hxy := hy y (by simp)
        obtain ⟨e, h1, h2, h3⟩ := hv y s d gr hi hs hu (fun z hz => (hr z hz).tail hxy)
        have hle := le_visit g (n + 1) y (s, d) hs
        obtain ⟨e', k1, k2, k3, k4⟩ := ihy x _ _ gr h3 (Nat.le_trans hle.2.1 hu) (fun z hz => hy z (by simp [hz])) hr
        refine ⟨e ++ [y] ++ e', ?_, ?_, k3, ?_⟩
        · rw [show visit g (n + 1) y (s, d) = ((visit g (n + 1) y (s, d)).1, (visit g (n + 1) y (s, d)).2) from rfl, k1, h1]; simp
        · intro z hz
          rcases List.mem_append.1 hz with hz | hz
          · rcases List.mem_append.1 hz with hz | hz
            · exact (Reach.one hxy).trans (h2 z hz)
            · simp at hz; subst hz; exact Reach.one hxy
          · exact k2 z hz
        · intro z hz
          rcases List.mem_cons.1 hz with rfl | hz
          · refine (le_scan g (n + 1) ys _).2.2 _ ?_
            refine (h3.seen _ (hg x _ hxy)).2 (.inl ?_)
            rw [h1]; simp
          · exact k4 z hz
end Go.Proofs.Ytldgmneijipbjaa.Gr
end
/- YtldgmneijipbjaaGr2 -/
section
/- The strongly connected parts, by one walk over the edges and one over the edges turned round. -/
namespace Go.Proofs.Ytldgmneijipbjaa.Gr
open Classical
/-! both ways -/
def Scc (g : G) (u v : Nat) : Prop := Reach g u v ∧ Reach g v u
theorem Scc.refl (g : G) (u : Nat) : Scc g u u := ⟨.refl _, .refl _⟩
theorem Scc.symm {g : G} {u v : Nat} (h : Scc g u v) : Scc g v u := ⟨h.2, h.1⟩
theorem Scc.trans {g : G} {u v w : Nat} (h : Scc g u v) (k : Scc g v w) : Scc g u w := ⟨h.1.trans k.1, k.2.trans h.2⟩
noncomputable def scc (g : G) (v : Nat) : List Nat := (List.range g.length).filter fun u => decide (Scc g v u)
theorem mem_scc {g : G} {u v : Nat} : u ∈ scc g v ↔ u < g.length ∧ Scc g v u := by simp [scc]
theorem scc_nodup (g : G) (v : Nat) : (scc g v).Nodup := List.Pairwise.filter _ List.nodup_range
theorem scc_sorted (g : G) (v : Nat) : (scc g v).Pairwise (· < ·) := List.Pairwise.filter _ List.pairwise_lt_range
theorem scc_eq {g : G} {u v : Nat} (h : Scc g u v) : scc g u = scc g v := by
  unfold scc
  congr 1
  funext w
  exact decide_eq_decide.2 ⟨fun k => h.symm.trans k, fun k => h.trans k⟩
theorem scc_self {g : G} {v : Nat} (h : v < g.length) : v ∈ scc g v := mem_scc.2 ⟨h, .refl _ _⟩

/-- h is g turned round -/
def Back (g h : G) : Prop := h.length = g.length ∧ ∀ x y, x ∈ out h y ↔ y ∈ out g x
theorem Back.reach {g h : G} (hb : Back g h) {x y : Nat} (r : Reach h x y) : Reach g y x := by
  induction r with
  | refl => exact .refl _
  | tail _ e ih => exact (Reach.one ((hb.2 _ _).1 e)).trans ih
theorem Back.reach' {g h : G} (hb : Back g h) {x y : Nat} (r : Reach g y x) : Reach h x y := by
  induction r with
  | refl => exact .refl _
  | tail _ e ih => exact (Reach.one ((hb.2 _ _).2 e)).trans ih
theorem out_lt {g : G} {x y : Nat} (h : y ∈ out g x) : x < g.length := by
  unfold out at h
  rw [List.getD_eq_getElem?_getD] at h
  by_cases hx : x < g.length
  · exact hx
  · rw [List.getElem?_eq_none (by omega)] at h; simp at h
theorem Back.good {g h : G} (hb : Back g h) : Good h := fun x y hy => by rw [hb.1]; exact out_lt ((hb.2 _ _).1 hy)

theorem inv_start (g : G) : Inv g (List.replicate g.length false) [] [] := by
  refine ⟨by simp, by simp, by simp, fun x hx => ?_, by simp, by simp⟩
  simp [sn, hx]
theorem unseen_start (n : Nat) : unseen (List.replicate n false) = n := by simp [unseen]

theorem inv_unseen {g : G} {s : List Bool} {d : List Nat} (h : Inv g s d []) : unseen s ≤ g.length := by
  rw [← h.len]; exact List.count_le_length

/-- a closed told list holds all that one of its places reaches -/
theorem Inv.reaches {g : G} {s : List Bool} {d : List Nat} (h : Inv g s d []) {x y : Nat} (hx : x ∈ d) (r : Reach g x y) : y ∈ d := by
  induction r with
  | refl => exact hx
  | tail _ e ih => simpa using h.closed ih e

/-- a place seen or not: its walk -/
theorem inv_from {g : G} (hg : Good g) {s : List Bool} {d : List Nat} (h : Inv g s d []) {x : Nat} (hx : sn s x = false) {n : Nat} (hn : g.length ≤ n) :
    ∃ e, (visit g n x (s, d)).2 = d ++ e ++ [x] ∧ (∀ z, z ∈ e → Reach g x z) ∧ Inv g (visit g n x (s, d)).1 (visit g n x (s, d)).2 [] :=
  (inv_both g hg n).1 x s d [] h hx (Nat.le_trans (inv_unseen h) hn) (by simp)

/-! the order from a root -/
def orderOf (g : G) (root : Nat) : List Nat := (visit g g.length root (List.replicate g.length false, [])).2
theorem orderOf_inv {g : G} (hg : Good g) {root : Nat} (hr : root < g.length) :
    ∃ e s, orderOf g root = e ++ [root] ∧ (∀ z, z ∈ e → Reach g root z) ∧ Inv g s (orderOf g root) [] := by
  obtain ⟨e, h1, h2, h3⟩ := inv_from hg (inv_start g) (x := root) (by simp [sn, hr]) (Nat.le_refl _)
  exact ⟨e, _, by simpa [orderOf] using h1, h2, h3⟩

/-! all places, one behind the other -/
def allOf (g : G) : List Nat := (scan g g.length (List.range g.length) (List.replicate g.length false, [])).2
theorem scan_inv {g : G} (hg : Good g) {n : Nat} (hn : g.length ≤ n) (ys : List Nat) : ∀ s d, Inv g s d [] → (∀ y, y ∈ ys → y < g.length) →
    Inv g (scan g n ys (s, d)).1 (scan g n ys (s, d)).2 [] ∧ (∀ y, y ∈ ys → y ∈ (scan g n ys (s, d)).2) ∧ ∀ y, y ∈ d → y ∈ (scan g n ys (s, d)).2 := by
  induction ys with
  | nil => intro s d h _; exact ⟨h, by simp, by simp [scan_nil]⟩
  | cons y ys ih =>
    intro s d h hy
    rw [scan_cons]
    cases hs : sn s y with
    | true =>
      simp only [if_true]
      obtain ⟨h1, h2, h3⟩ := ih s d h (fun z hz => hy z (by simp [hz]))
      refine ⟨h1, fun z hz => ?_, h3⟩
      rcases List.mem_cons.1 hz with rfl | hz
      · exact h3 _ (by simpa using (h.seen _ (hy _ (by simp))).1 hs)
      · exact h2 z hz
    | false =>
      simp only [Bool.false_eq_true, if_false]
      obtain ⟨e, k1, k2, k3⟩ := inv_from hg h hs hn
      obtain ⟨h1, h2, h3⟩ := ih _ _ k3 (fun z hz => hy z (by simp [hz]))
      refine ⟨h1, fun z hz => ?_, fun z hz => h3 z (by rw [k1]; simp [hz])⟩
      rcases List.mem_cons.1 hz with rfl | hz
      · exact h3 _ (by rw [k1]; simp)
      · exact h2 z hz
theorem allOf_inv {g : G} (hg : Good g) : ∃ s, Inv g s (allOf g) [] ∧ ∀ y, y < g.length → y ∈ allOf g := by
  obtain ⟨h1, h2, _⟩ := scan_inv hg (Nat.le_refl _) (List.range g.length) _ _ (inv_start g) (by simp)
  exact ⟨_, h1, fun y hy => h2 y (by simpa using hy)⟩

/-! the parts, raw -/
def kstep (h : G) (n : Nat) (a : St × List (List Nat)) (x : Nat) : St × List (List Nat) :=
  if sn a.1.1 x then a else (visit h n x a.1, a.2 ++ [(visit h n x a.1).2.drop a.1.2.length])
def kparts (h : G) (n : Nat) (xs : List Nat) (a : St × List (List Nat)) : St × List (List Nat) := xs.foldl (kstep h n) a
theorem kparts_cons (h : G) (n x : Nat) (xs : List Nat) (a : St × List (List Nat)) : kparts h n (x :: xs) a = kparts h n xs (kstep h n a x) := rfl

structure KInv (g h : G) (post : List Nat) (a : St × List (List Nat)) : Prop where
  inv : Inv h a.1.1 a.1.2 []
  post : ∀ x, x ∈ post → x ∈ a.1.2
  part : ∀ l, l ∈ a.2 → l.Nodup ∧ ∃ v, v < g.length ∧ ∀ u, u ∈ l ↔ u ∈ scc g v
  cover : ∀ u, u ∈ a.1.2 ↔ ∃ l, l ∈ a.2 ∧ u ∈ l
  apart : a.2.Pairwise fun l l' => ∀ u, u ∈ l → u ∉ l'

theorem last_of {α : Type} (p : α → Prop) (l : List α) (h : ∃ x, x ∈ l ∧ p x) : ∃ pre m post, l = pre ++ m :: post ∧ p m ∧ ∀ z, z ∈ post → ¬ p z := by
  induction l with
  | nil => obtain ⟨x, hx, _⟩ := h; cases hx
  | cons a l ih =>
    by_cases hl : ∃ x, x ∈ l ∧ p x
    · obtain ⟨pre, m, post, rfl, h1, h2⟩ := ih hl
      exact ⟨a :: pre, m, post, rfl, h1, h2⟩
    · obtain ⟨x, hx, px⟩ := h
      rcases List.mem_cons.1 hx with rfl | hx
      · exact ⟨[], x, l, rfl, px, fun z hz pz => hl ⟨z, hz, pz⟩⟩
      · exact (hl ⟨x, hx, px⟩).elim

theorem split_nodup {α : Type} {a b c d : List α} {m : α} (h : a ++ m :: b = c ++ m :: d) (hn : (a ++ m :: b).Nodup) : a = c ∧ b = d := by
  induction a generalizing c with
  | nil =>
    cases c with
    | nil => simpa using h
    | cons x c =>
      simp at h
      obtain ⟨rfl, rfl⟩ := h
      simp at hn
  | cons x a ih =>
    cases c with
    | nil =>
      simp at h
      obtain ⟨rfl, rfl⟩ := h
      simp at hn
    | cons y c =>
      simp at h
      obtain ⟨rfl, h⟩ := h
      have := ih h (List.nodup_cons.1 hn).2
      exact ⟨by rw [this.1], this.2⟩

/-- THE THOUGHT OF IT: what reaches v and isn't seen yet, v reaches. -/
theorem kos {g : G} {s : List Bool} {D : List Nat} (hD : Inv g s D []) (hall : ∀ y, y < g.length → y ∈ D) {pre post : List Nat} {v : Nat} (hs : D = pre ++ v :: post)
    {S : List Nat} (hpost : ∀ x, x ∈ post → x ∈ S) (hS : ∀ x y, x ∈ S → Reach g y x → y ∈ S) {u : Nat} (hu : u < g.length) (hn : u ∉ S) (r : Reach g u v) : Reach g v u := by
  obtain ⟨p1, m, p2, e, hm, hlast⟩ := last_of (fun x => Scc g u x) D ⟨u, hall u hu, .refl _ _⟩
  have hmS : m ∉ S := fun k => hn (hS m u k hm.1)
  by_cases hmv : m = v
  · subst hmv; exact hm.2
  exfalso
  have hmpost : m ∉ post := fun k => hmS (hpost m k)
  have hmD : m ∈ pre := by
    have : m ∈ D := by rw [e]; simp
    rw [hs] at this
    simp at this
    rcases this with h | h | h
    · exact h
    · exact (hmv h).elim
    · exact (hmpost h).elim
  obtain ⟨q1, q2, rfl⟩ := List.append_of_mem hmD
  have hnd : D.Nodup := by simpa using hD.nodup
  have hvm : Reach g m v := hm.2.trans r
  have hs' : D = q1 ++ m :: (q2 ++ v :: post) := by rw [hs]; simp
  rcases hD.far q1 m _ hs' v hvm with k | k | ⟨z, k, r1, r2⟩
  · rw [hs'] at hnd
    rw [List.nodup_append] at hnd
    exact hnd.2.2 v k v (by simp) rfl
  · exact hmv k.symm
  · have hz : z ∈ q2 ++ v :: post := by simpa using k
    -- z is in u's part and stands behind m, in both splits
    have heq := split_nodup (a := p1) (b := p2) (c := q1) (d := q2 ++ v :: post) (m := m) (by rw [← e, hs']) (by rw [← e]; exact hnd)
    rw [← heq.2] at hz
    exact hlast z hz (hm.trans ⟨r1, r2⟩)
end Go.Proofs.Ytldgmneijipbjaa.Gr
end
/- YtldgmneijipbjaaGr3 -/
section
/- The parts as the program comes to them, sorted, are the parts of the graph. -/
namespace Go.Proofs.Ytldgmneijipbjaa.Gr
open Classical
theorem kstep_inv {g h : G} (hb : Back g h) {s : List Bool} {D : List Nat} (hD : Inv g s D []) (hall : ∀ y, y < g.length → y ∈ D) {n : Nat} (hn : g.length ≤ n) {pre post : List Nat} {v : Nat} (hs : D = pre ++ v :: post)
    {a : St × List (List Nat)} (ha : KInv g h post a) : KInv g h (v :: post) (kstep h n a v) := by
  have hv : v < g.length := hD.lt v (.inl (by rw [hs]; simp))
  have hvh : v < h.length := by rw [hb.1]; exact hv
  unfold kstep
  cases hsn : sn a.1.1 v with
  | true =>
    simp only [if_true]
    refine ⟨ha.inv, fun x hx => ?_, ha.part, ha.cover, ha.apart⟩
    rcases List.mem_cons.1 hx with rfl | hx
    · simpa using (ha.inv.seen _ hvh).1 hsn
    · exact ha.post x hx
  | false =>
    simp only [Bool.false_eq_true, if_false]
    obtain ⟨e, h1, h2, h3⟩ := inv_from hb.good (s := a.1.1) (d := a.1.2) ha.inv hsn (n := n) (by rw [hb.1]; exact hn)
    have hvd : v ∉ a.1.2 := fun k => by
      have := (ha.inv.seen v hvh).2 (.inl k)
      rw [hsn] at this; cases this
    have hdrop : (visit h n v a.1).2.drop a.1.2.length = e ++ [v] := by
      show (visit h n v (a.1.1, a.1.2)).2.drop a.1.2.length = _
      rw [h1, List.append_assoc, List.drop_left]
    have hnd : (a.1.2 ++ (e ++ [v])).Nodup := by
      have := h3.nodup
      rw [h1] at this
      simpa [List.append_assoc] using this
    have hS : ∀ x y, x ∈ a.1.2 → Reach g y x → y ∈ a.1.2 := fun x y hx r => ha.inv.reaches hx (hb.reach' r)
    have hmem : ∀ u, u ∈ e ++ [v] ↔ u ∈ scc g v := by
      intro u
      constructor
      · intro hu
        have hul : u < g.length := by
          rw [← hb.1]
          exact h3.lt u (.inl (by rw [h1, List.append_assoc]; exact List.mem_append_right _ hu))
        have hud : u ∉ a.1.2 := fun k => (List.nodup_append.1 hnd).2.2 u k u hu rfl
        have hr : Reach h v u := by
          rcases List.mem_append.1 hu with hu | hu
          · exact h2 u hu
          · simp at hu; subst hu; exact .refl _
        have r := hb.reach hr
        exact mem_scc.2 ⟨hul, kos hD hall hs ha.post hS hul hud r, r⟩
      · intro hu
        obtain ⟨hul, r1, r2⟩ := mem_scc.1 hu
        have hv' : v ∈ (visit h n v (a.1.1, a.1.2)).2 := by rw [h1]; simp
        have := h3.reaches hv' (hb.reach' r2)
        rw [h1, List.append_assoc] at this
        rcases List.mem_append.1 this with q | q
        · exact (hvd (hS u v q r1)).elim
        · exact q
    rw [hdrop]
    refine ⟨h3, fun x hx => ?_, fun l hl => ?_, fun u => ?_, ?_⟩
    · show x ∈ (visit h n v (a.1.1, a.1.2)).2
      rw [h1]
      rcases List.mem_cons.1 hx with rfl | hx
      · simp
      · simp [ha.post x hx]
    · rcases List.mem_append.1 hl with hl | hl
      · exact ha.part l hl
      · simp at hl
        subst hl
        exact ⟨(List.nodup_append.1 hnd).2.1, v, hv, hmem⟩
    · show u ∈ (visit h n v (a.1.1, a.1.2)).2 ↔ _
      rw [h1, List.append_assoc, List.mem_append, ha.cover u]
      constructor
      · rintro (⟨l, hl, hu⟩ | hu)
        · exact ⟨l, by simp [hl], hu⟩
        · exact ⟨e ++ [v], by simp, hu⟩
      · rintro ⟨l, hl, hu⟩
        rcases List.mem_append.1 hl with hl | hl
        · exact .inl ⟨l, hl, hu⟩
        · simp at hl; subst hl; exact .inr hu
    · rw [List.pairwise_append]
      refine ⟨ha.apart, by simp, fun l hl l' hl' u hu hu' => ?_⟩
      simp at hl'
      subst hl'
      exact (List.nodup_append.1 hnd).2.2 u ((ha.cover u).2 ⟨l, hl, hu⟩) u hu' rfl

theorem kparts_inv {g h : G} (hb : Back g h) {s : List Bool} {D : List Nat} (hD : Inv g s D []) (hall : ∀ y, y < g.length → y ∈ D) {n : Nat} (hn : g.length ≤ n) (k : Nat) :
    ∀ (pre post : List Nat) (a : St × List (List Nat)), pre.length = k → D = pre ++ post → KInv g h post a → KInv g h D (kparts h n pre.reverse a) := by
  induction k with
  | zero =>
    intro pre post a hk e ha
    obtain rfl := List.eq_nil_of_length_eq_zero hk
    rw [e]; exact ha
  | succ k ih =>
    intro pre post a hk e ha
    rcases List.eq_nil_or_concat pre with rfl | ⟨p', v, rfl⟩
    · cases hk
    · rw [List.concat_eq_append] at *
      rw [List.reverse_append, List.reverse_singleton, List.singleton_append, kparts_cons]
      have hs : D = p' ++ v :: post := by rw [e]; simp
      exact ih p' (v :: post) _ (by simpa using hk) hs (kstep_inv hb hD hall hn hs ha)

/-- the parts, raw, as the program comes to them -/
def rawParts (g h : G) : List (List Nat) := (kparts h g.length (allOf g).reverse ((List.replicate g.length false, []), [])).2
theorem rawParts_spec {g h : G} (hg : Good g) (hb : Back g h) :
    (∀ l, l ∈ rawParts g h → l.Nodup ∧ ∃ v, v < g.length ∧ ∀ u, u ∈ l ↔ u ∈ scc g v) ∧ (∀ u, u < g.length → ∃ l, l ∈ rawParts g h ∧ u ∈ l) ∧ (rawParts g h).Pairwise fun l l' => ∀ u, u ∈ l → u ∉ l' := by
  obtain ⟨s, hD, hall⟩ := allOf_inv hg
  have h0 : KInv g h [] ((List.replicate g.length false, []), []) := ⟨by rw [← hb.1]; exact inv_start h, by simp, by simp, by simp, by simp⟩
  have k := kparts_inv hb hD hall (Nat.le_refl _) _ (allOf g) [] _ rfl (by simp) h0
  refine ⟨k.part, fun u hu => ?_, k.apart⟩
  exact (k.cover u).1 (k.post u (hall u hu))

/-! sorted lists -/
theorem sorted_ext {α : Type} {r : α → α → Prop} (irr : ∀ a, ¬ r a a) (asym : ∀ a b, r a b → r b a → False) : ∀ {l l' : List α}, l.Pairwise r → l'.Pairwise r → (∀ x, x ∈ l ↔ x ∈ l') → l = l'
  | [], [], _, _, _ => rfl
  | [], b :: l', _, _, h => by have := (h b).2 (by simp); simp at this
  | a :: l, [], _, _, h => by have := (h a).1 (by simp); simp at this
  | a :: l, b :: l', p1, p2, h => by
    obtain ⟨h1a, h1⟩ := List.pairwise_cons.1 p1
    obtain ⟨h2a, h2⟩ := List.pairwise_cons.1 p2
    clear p1 p2
    have e : a = b := by
      rcases List.mem_cons.1 ((h a).1 (by simp)) with e | e
      · exact e
      · rcases List.mem_cons.1 ((h b).2 (by simp)) with e' | e'
        · exact e'.symm
        · exact (asym _ _ (h1a b e') (h2a a e)).elim
    subst e
    congr 1
    refine sorted_ext irr asym h1 h2 (fun x => ?_)
    constructor
    · intro hx
      rcases List.mem_cons.1 ((h x).1 (by simp [hx])) with rfl | q
      · exact (irr _ (h1a _ hx)).elim
      · exact q
    · intro hx
      rcases List.mem_cons.1 ((h x).2 (by simp [hx])) with rfl | q
      · exact (irr _ (h2a _ hx)).elim
      · exact q

/-- the least place of its part -/
def Least (g : G) (v : Nat) : Prop := ∀ u, u < v → ¬ Scc g u v
noncomputable def canon (g : G) : List (List Nat) := ((List.range g.length).filter fun v => decide (Least g v)).map (scc g)
theorem least_of (g : G) (v : Nat) : ∃ u, u ≤ v ∧ Scc g u v ∧ Least g u := by
  induction v using Nat.strongRecOn with
  | _ v ih =>
    by_cases h : Least g v
    · exact ⟨v, Nat.le_refl _, Scc.refl g v, h⟩
    · unfold Least at h
      obtain ⟨u, hu⟩ := Classical.not_forall.1 h
      obtain ⟨hlt, hs⟩ := Classical.not_imp.1 hu
      obtain ⟨w, h1, h2, h3⟩ := ih u hlt
      exact ⟨w, by omega, h2.trans (Classical.not_not.1 hs), h3⟩
theorem scc_head {g : G} {v : Nat} (hv : v < g.length) (hl : Least g v) : (scc g v).head? = some v := by
  have hs := scc_sorted g v
  have hm := scc_self (g := g) hv
  cases h : scc g v with
  | nil => rw [h] at hm; cases hm
  | cons a l =>
    rw [h] at hs hm
    rcases List.mem_cons.1 hm with rfl | hm
    · rfl
    · have := (List.pairwise_cons.1 hs).1 v hm
      have ha : a ∈ scc g v := by rw [h]; simp
      exact (hl a this (mem_scc.1 ha).2.symm).elim
def HeadLt (l l' : List Nat) : Prop := l.headD 0 < l'.headD 0
theorem canon_sorted (g : G) : (canon g).Pairwise HeadLt := by
  unfold canon
  rw [List.pairwise_map]
  refine List.Pairwise.imp_of_mem ?_ (List.Pairwise.filter _ List.pairwise_lt_range)
  intro a b ha hb hab
  simp only [List.mem_filter, List.mem_range, decide_eq_true_eq] at ha hb
  unfold HeadLt
  have h1 := scc_head ha.1 ha.2
  have h2 := scc_head hb.1 hb.2
  rw [List.headD_eq_head?_getD, h1, List.headD_eq_head?_getD, h2]
  exact hab
theorem mem_canon {g : G} {l : List Nat} : l ∈ canon g ↔ ∃ v, v < g.length ∧ l = scc g v := by
  unfold canon
  simp only [List.mem_map, List.mem_filter, List.mem_range, decide_eq_true_eq]
  constructor
  · rintro ⟨v, ⟨h1, h2⟩, rfl⟩; exact ⟨v, h1, rfl⟩
  · rintro ⟨v, h1, rfl⟩
    obtain ⟨u, h2, h3, h4⟩ := least_of g v
    exact ⟨u, ⟨by omega, h4⟩, scc_eq h3⟩

inductive All2 {α β : Type} (R : α → β → Prop) : List α → List β → Prop
  | nil : All2 R [] []
  | cons {a b l l'} : R a b → All2 R l l' → All2 R (a :: l) (b :: l')
theorem All2.snoc {α β : Type} {R : α → β → Prop} {l : List α} {l' : List β} {a : α} {b : β} (h : All2 R l l') (hab : R a b) : All2 R (l ++ [a]) (l' ++ [b]) := by
  induction h with
  | nil => exact .cons hab .nil
  | cons h1 _ ih => exact .cons h1 ih

theorem All2.right {α β : Type} {R : α → β → Prop} {l : List α} {l' : List β} (h : All2 R l l') : ∀ b, b ∈ l' → ∃ a, a ∈ l ∧ R a b := by
  induction h with
  | nil => intro b hb; cases hb
  | cons hh _ ih =>
    intro b hb
    rcases List.mem_cons.1 hb with rfl | hb
    · exact ⟨_, by simp, hh⟩
    · obtain ⟨a, q1, q2⟩ := ih b hb
      exact ⟨a, by simp [q1], q2⟩
theorem All2.left {α β : Type} {R : α → β → Prop} {l : List α} {l' : List β} (h : All2 R l l') : ∀ a, a ∈ l → ∃ b, b ∈ l' ∧ R a b := by
  induction h with
  | nil => intro b hb; cases hb
  | cons hh _ ih =>
    intro b hb
    rcases List.mem_cons.1 hb with rfl | hb
    · exact ⟨_, by simp, hh⟩
    · obtain ⟨a, q1, q2⟩ := ih b hb
      exact ⟨a, by simp [q1], q2⟩
theorem All2.pair {α β : Type} {R : α → β → Prop} {T : α → α → Prop} {T' : β → β → Prop} (hT : ∀ a b a' b', R a b → R a' b' → T a a' → T' b b') {l : List α} {l' : List β} (h : All2 R l l') : l.Pairwise T → l'.Pairwise T' := by
  induction h with
  | nil => intro _; simp
  | cons hh ht ih =>
    intro hp
    obtain ⟨p1, p2⟩ := List.pairwise_cons.1 hp
    refine List.pairwise_cons.2 ⟨fun b hb => ?_, ih p2⟩
    obtain ⟨a, q1, q2⟩ := ht.right b hb
    exact hT _ _ _ _ hh q2 (p1 a q1)

/-- the parts, each sorted, all sorted by their first places: there is one such list -/
theorem parts_canon {g h : G} (hg : Good g) (hb : Back g h) {ps qs : List (List Nat)}
    (h1 : All2 (fun (l l' : List Nat) => l.Perm l' ∧ l'.Pairwise (· ≤ ·)) (rawParts g h) ps) (h2 : ps.Perm qs) (h3 : qs.Pairwise fun l l' => l.headD 0 ≤ l'.headD 0) : qs = canon g := by
  obtain ⟨r1, r2, r3⟩ := rawParts_spec hg hb
  have key : ∀ {l l' : List Nat}, l ∈ rawParts g h → l.Perm l' → l'.Pairwise (· ≤ ·) → ∃ v, v < g.length ∧ l' = scc g v ∧ ∀ u, u ∈ l ↔ u ∈ scc g v := by
    intro l l' hl hp hs
    obtain ⟨hn, v, hv, hm⟩ := r1 l hl
    refine ⟨v, hv, ?_, hm⟩
    refine sorted_ext (r := (· < ·)) (fun a => Nat.lt_irrefl a) (fun a b h k => by omega) ?_ (scc_sorted g v) (fun x => by rw [← hp.mem_iff]; exact hm x)
    have hn' : l'.Pairwise (· ≠ ·) := hp.nodup_iff.1 hn
    exact List.Pairwise.imp (fun ⟨p, q⟩ => by omega) (List.Pairwise.and hs hn')
  have m1 := h1.right
  have m2 := h1.left
  have hps : ps.Pairwise fun l l' => ∀ u, u ∈ l → u ∉ l' :=
    h1.pair (T := fun l l' => ∀ u, u ∈ l → u ∉ l') (fun a b a' b' hab hab' ht u hu hu' => ht u (hab.1.mem_iff.2 hu) (hab'.1.mem_iff.2 hu')) r3
  have hq : qs.Pairwise fun l l' => ∀ u, u ∈ l → u ∉ l' := by
    refine (h2.pairwise_iff ?_).1 hps
    intro a b hab u hu hu'
    exact hab u hu' hu
  refine sorted_ext (r := HeadLt) (fun a => Nat.lt_irrefl _) (fun a b h k => by unfold HeadLt at *; omega) ?_ (canon_sorted g) (fun x => ?_)
  · have hne : ∀ l, l ∈ qs → l ≠ [] := by
      intro l hl
      obtain ⟨l0, q1, q2, q3⟩ := m1 l (h2.mem_iff.2 hl)
      obtain ⟨v, hv, rfl, _⟩ := key q1 q2 q3
      intro e
      have := scc_self (g := g) hv
      rw [e] at this; cases this
    refine List.Pairwise.imp_of_mem ?_ (List.Pairwise.and h3 hq)
    rintro a b ha hb' ⟨p, q⟩
    unfold HeadLt
    have na := hne a ha
    have nb := hne b hb'
    cases a with
    | nil => exact (na rfl).elim
    | cons x a =>
      cases b with
      | nil => exact (nb rfl).elim
      | cons y b =>
        simp only [List.headD_cons] at p ⊢
        have : x ≠ y := fun e => q x (by simp) (by simp [e])
        omega
  · rw [← h2.mem_iff, mem_canon]
    constructor
    · intro hx
      obtain ⟨l, q1, q2, q3⟩ := m1 x hx
      obtain ⟨v, hv, e, _⟩ := key q1 q2 q3
      exact ⟨v, hv, e⟩
    · rintro ⟨v, hv, rfl⟩
      obtain ⟨l, q1, q2⟩ := r2 v hv
      obtain ⟨l', p1, p2, p3⟩ := m2 l q1
      obtain ⟨w, hw, e, hm⟩ := key q1 p2 p3
      have : Scc g w v := (mem_scc.1 ((hm v).1 q2)).2
      rw [← scc_eq this, ← e]
      exact p1
end Go.Proofs.Ytldgmneijipbjaa.Gr
end
/- YtldgmneijipbjaaHFr -/
section
/- What a call leaves alone: all blocks that were there but for those of a set. -/
namespace Go.Proofs.Ytldgmneijipbjaa.H
open Go.RowKit Go.Proofs.YtldgmneijipbjaaW.PrintWords Go.Proofs.YtldgmneijipbjaaW.PrintLast Go.Proofs.YtldgmneijipbjaaW.PrintMore

structure Fr (S : Nat → Prop) (w w' : World) : Prop where
  os : w'.os = w.os
  tape : w'.tape = w.tape
  output : w'.output = w.output
  size : w.heap.size ≤ w'.heap.size
  block : ∀ k, k < w.heap.size → ¬ S k → w'.heap[k]? = w.heap[k]?
/-- what is new since w, or in the set -/
abbrev Gw (S : Nat → Prop) (w : World) : Nat → Prop := fun k => S k ∨ w.heap.size ≤ k
section
variable {S S' : Nat → Prop} {a b c w w' : World}
theorem Fr.refl (S : Nat → Prop) (w : World) : Fr S w w := ⟨rfl, rfl, rfl, Nat.le_refl _, fun _ _ _ => rfl⟩
theorem Fr.trans (h : Fr S a b) (k : Fr S' b c) (hs : ∀ i, S' i → S i ∨ a.heap.size ≤ i) : Fr S a c :=
  ⟨k.os.trans h.os, k.tape.trans h.tape, k.output.trans h.output, Nat.le_trans h.size k.size, fun i hi hn =>
    (k.block i (Nat.lt_of_lt_of_le hi h.size) (fun hk => by rcases hs i hk with q | q; exact hn q; omega)).trans (h.block i hi hn)⟩
theorem Fr.mono (h : Fr S a b) (hs : ∀ k, S k → S' k) : Fr S' a b := ⟨h.os, h.tape, h.output, h.size, fun k hk hn => h.block k hk (fun q => hn (hs k q))⟩
theorem Fr.drew (h : Fr S a b) : Fr S a b.drew := ⟨h.os, h.tape, h.output, h.size, h.block⟩
theorem Fr.drewN (h : Fr S a b) (n : Nat) : Fr S a (b.drewN n) := ⟨h.os, h.tape, h.output, h.size, h.block⟩
theorem Fr.of_below (h : Below a.heap.size a b) : Fr S a b := ⟨h.os, h.tape, h.output, h.size, fun k hk _ => h.block k hk⟩
theorem Fr.below (h : Fr S a b) {B : Nat} (hB : B ≤ a.heap.size) (hs : ∀ k, S k → B ≤ k) : Below B a b := ⟨h.os, h.tape, h.output, h.size, fun k hk => h.block k (by omega) (fun q => by have := hs k q; omega)⟩
theorem Fr.more (h : Fr S a b) (k : Below b.heap.size b c) : Fr S a c := h.trans (Fr.of_below (S := fun _ => False) k) (fun _ q => q.elim)
theorem Fr.alloc (h : Fr S a b) (o : Obj) : Fr S a (b.alloc o) := h.more (below_alloc (Below.refl _ _) o)
theorem Fr.grown {row : Option Nat} (h : Fr S a b) (hg : b.grownBy c row) (hr : ∀ k, row = some k → S k ∨ a.heap.size ≤ k) : Fr S a c :=
  h.trans (S' := fun k => row = some k) ⟨hg.os, hg.tape, hg.output, hg.size, fun k hk hn => hg.block k hk (fun e => hn e.symm)⟩ (fun i e => hr i e)
theorem Fr.setCell (h : Fr S a b) {p : Addr} (hp : S p.block ∨ a.heap.size ≤ p.block) (u : Value) : Fr S a (b.setCell p u) :=
  h.trans (S' := fun k => k = p.block) ⟨rfl, rfl, rfl, by simp [World.setCell], fun k _ hn => Below.heap_setCell b p u k hn⟩ (fun i e => by rw [e]; exact hp)
theorem Fr.kept (h : Fr S a b) : Kept a b S := ⟨h.size, h.block⟩
theorem Fr.blk (h : Fr S a b) {g : Nat} {o : Obj} (hb : a.heap[g]? = some o) (hn : ¬ S g) : b.heap[g]? = some o := blk_kept hb h.kept hn
end
theorem fr_R {α : Type} {d : Kd α} {e base : Nat} {ok S : Nat → Prop} {v : Value} {xs : List α} {w w' : World} (h : d.R e w base ok v xs) (hk : Fr S w w') (hn : ∀ k, ok k → ¬ S k) : d.R e w' base ok v xs := Kd.R_kept h hk.kept hn
theorem fr_M {α : Type} {d : Kd α} {base : Nat} {ok S : Nat → Prop} {x : α} {cs : List Value} {w w' : World} (h : d.M w base ok x cs) (hk : Fr S w w') (hn : ∀ k, ok k → ¬ S k) : d.M w' base ok x cs := Kd.M_kept h hk.kept hn
end Go.Proofs.Ytldgmneijipbjaa.H
end
/- YtldgmneijipbjaaHEnter -/
section
/- Two contracts of (*walker).enter: at a place that was entered before, and at a new one. -/
namespace Go.Proofs.Ytldgmneijipbjaa.H
open Go.RowKit Go.Proofs.YtldgmneijipbjaaW.PrintWords Go.Proofs.YtldgmneijipbjaaW.PrintLast Go.Proofs.YtldgmneijipbjaaW.PrintMore
set_option linter.unusedVariables false
set_option linter.unusedSimpArgs false

theorem info55 : (Try.prog.info? 55).map (fun i => (i.zero, i.size, i.bytes)) = some (some (.agg #[.int .i64 0, .int .i64 0]), 2, 16) := by kernel_rfl
/-- a step: a place, and how many of its edges are gone -/
def kstep : Kd (Int × Int) := Kd.pair (Kd.int .i64) (Kd.int .i64)

set_option maxHeartbeats 400000 in
theorem enter_seen (b : Nat) (x : Int) (ev dv lv : Value) (gs cs : Nat) (s : List Bool) (base : Nat) (P : Nat → Prop) (w : World)
    (hb : w.heap[b]? = some (.cells #[ev, .slice (some ⟨gs, 0, none⟩) s.length cs, dv] 43 (0, 0)))
    (hs : Kd.R Kd.bool 4 w base P (.slice (some ⟨gs, 0, none⟩) s.length cs) s) (h0 : 0 ≤ x) (h1 : x < s.length) (ht : rdOf false s x = true) :
    Calls Try.prog 27 #[.pointer (some ⟨b, 0, none⟩), lv, .int .i64 x] w fun e w' => e = .returned lv ∧ w = w' := by
  have c1 : w.cell? ⟨b, 1, none⟩ = some (.slice (some ⟨gs, 0, none⟩) s.length cs) := (blk_cell hb 1).trans rfl
  obtain ⟨c2, -⟩ := Kd.R_celln false hs x h0 h1
  rw [ht] at c2
  clear hs hb ht
  go_enter Try.func27, Try.ntmps27
  go_wp2
  go_ret
  exact ⟨rfl, rfl⟩

set_option maxHeartbeats 1000000 in
theorem enter_new (b : Nat) (x : Int) (ev dv lv : Value) (gs cs : Nat) (s : List Bool) (l : List (Int × Int)) (base : Nat) (P L : Nat → Prop) (w : World)
    (hb : w.heap[b]? = some (.cells #[ev, .slice (some ⟨gs, 0, none⟩) s.length cs, dv] 43 (0, 0)))
    (hs : Kd.R Kd.bool 4 w base P (.slice (some ⟨gs, 0, none⟩) s.length cs) s) (h0 : 0 ≤ x) (h1 : x < s.length) (ht : rdOf false s x = false)
    (hl : kstep.R 55 w base L lv l) (hPL : ∀ k, P k → ¬ L k) (hbP : ¬ P b) (hbL : ¬ L b) (hbase : base ≤ w.heap.size) (hlen : (l.length + 1) * 16 ≤ 140737488355328) :
    Calls Try.prog 27 #[.pointer (some ⟨b, 0, none⟩), lv, .int .i64 x] w fun e w' => ∃ v, e = .returned v ∧ Fr (fun k => P k ∨ L k) w w' ∧
      Kd.R Kd.bool 4 w' base P (.slice (some ⟨gs, 0, none⟩) s.length cs) (s.set x.toNat true) ∧ kstep.R 55 w' base (Gw L w) v (l ++ [(x, 0)]) := by
  have c1 : w.cell? ⟨b, 1, none⟩ = some (.slice (some ⟨gs, 0, none⟩) s.length cs) := (blk_cell hb 1).trans rfl
  obtain ⟨c2, f2⟩ := Kd.R_celln false hs x h0 h1
  rw [ht] at c2
  have hPgs : P gs := hs.1 gs rfl
  have HP := Aside0.mk (Kd.R_putg hs x true)
  have HL := Aside0.mk (Kd.R_far (p := ⟨gs, x.toNat, none⟩) hl (fun k hk e => hPL gs hPgs (by rw [← show k = gs from e]; exact hk)) (.bool true))
  have HF := Aside0.mk (Fr.setCell (S := fun k => P k ∨ L k) (Fr.refl _ w) (p := ⟨gs, x.toNat, none⟩) (.inl (.inl hPgs)) (.bool true))
  have HBase := Aside0.mk hbase
  have HPL := Aside0.mk hPL
  have HLEN := Aside0.mk hlen
  have HL0 := Aside0.mk hl
  clear hs hb ht hl hPL hbP hbL hbase hlen hPgs
  go_enter Try.func27, Try.ntmps27
  go_wp2_with (first | ((with_reducible refine gate_store (t := 4) (p := 20) rfl ?_); refine store_event (t := 4) (p := 20) (v := ?vo) (w1 := (w.setCell ⟨gs, x.toNat, none⟩ (.bool true))) ?hg ?ho ?hn ?hr ?_; (case ho => rfl); (case hg => rfl); (case hn => rfl); (case hr => first | (go_simp; done) | (go_simp; rfl)); intro w9 hw; have HW := Aside0.mk hw; clear hw) | (at_builtin; refine Kd.R_append kstep (w0 := w9) base rfl (.tmp 21) (.tmp 24) 51 55 (.agg #[.int .i64 0, .int .i64 0]) 16 rfl Try.underlying51 info55 rfl (by decide) (by omega) lv l (x, 0) [.int .i64 x, .int .i64 0] (Gw L w) (fun _ => False) rfl rfl ?aP (fun _ hk => hk.elim) ?aF ?aO ?aB ?aS ?aL ?_; (case aP => exact ⟨[.int .i64 x], [.int .i64 0], rfl, rfl, rfl⟩); (case aF => exact fun k hk => .inr (by rw [HW.out] at hk; simpa [World.setCell] using hk)); (case aO => exact Kd.R_mono (by rw [HW.out]; exact HL.out) (fun k hk => .inl hk)); (case aB => exact Below.refl _ _); (case aS => rw [HW.out]; simpa [World.setCell] using HBase.out); (case aL => exact HLEN.out); intro v1 w1 h1 h2 h3 h4; have A1 := Aside0.mk h1; have A2 := Aside0.mk h2; have A3 := Aside0.mk h3; have A4 := Aside0.mk h4; clear h1 h2 h3 h4))
  go_ret
  refine ⟨v1, rfl, ?_, ?_, A1.out⟩
  · rw [HW.out] at A3
    exact HF.out.grown A3.out (fun k hk => .inl (.inr (HL0.out.1 k hk)))
  · rw [HW.out] at A3
    exact Kd.R_grown HP.out.1 A3.out (fun k hk e => HPL.out k hk (HL0.out.1 k e.symm))
end Go.Proofs.Ytldgmneijipbjaa.H
end
/- YtldgmneijipbjaaHLeave -/
section
/- The contract of (*walker).leave: the last place of the stack is told, and taken off it. -/
namespace Go.Proofs.Ytldgmneijipbjaa.H
open Go.RowKit Go.Proofs.YtldgmneijipbjaaW.PrintWords Go.Proofs.YtldgmneijipbjaaW.PrintLast Go.Proofs.YtldgmneijipbjaaW.PrintMore
set_option linter.unusedVariables false
set_option linter.unusedSimpArgs false

theorem info3 : (Try.prog.info? 3).map (fun i => (i.zero, i.size, i.bytes)) = some (some (.int .i64 0), 1, 8) := by kernel_rfl

theorem cell_al {w : World} {a : Addr} {v : Value} (o : Obj) (h : w.cell? a = some v) : (w.alloc o).cell? a = some v := pw_cell_below (below_alloc (Below.refl _ _) o) h

theorem blk_put {w : World} {g t : Nat} {cs : Array Value} (h : w.heap[g]? = some (.cells cs t (0, 0))) (i : Nat) (v : Value) : (w.setCell ⟨g, i, none⟩ v).heap[g]? = some (.cells (cs.setIfInBounds i v) t (0, 0)) := by
  simp [World.setCell, Array.getElem?_modify, h]

theorem step_cell {w : World} {base gl n cl : Nat} {L : Nat → Prop} {l : List (Int × Int)} (hl : kstep.R 55 w base L (.slice (some ⟨gl, 0, none⟩) n cl) l) (i : Nat) (p : Int × Int) (hp : l[i]? = some p) :
    w.cell? ⟨gl, i * 2, none⟩ = some (.int .i64 p.1) ∧ w.cell? ⟨gl, i * 2 + 1, none⟩ = some (.int .i64 p.2) := by
  obtain ⟨h1, h2, h3⟩ := Kd.R_reads' hl
  obtain ⟨hi, rfl⟩ := List.getElem?_eq_some_iff.1 hp
  obtain ⟨ad, c, e, _, ⟨_, _, rfl, rfl, rfl⟩, hc⟩ := Kd.C_get h3 (0, 0) (i : Int) (by omega) (by omega)
  cases e
  have e1 : l.getD i (0, 0) = l[i] := by simp [List.getD_eq_getElem?_getD, hi]
  have q0 := hc 0 _ rfl
  have q1 := hc 1 _ rfl
  simp only [Int.toNat_natCast, add_at, Nat.zero_add, e1] at q0 q1
  exact ⟨q0, q1⟩

set_option maxHeartbeats 1000000 in
theorem leave_any (b : Nat) (x k y : Int) (ev sv dv : Value) (gl cl n : Nat) (d : List Int) (l : List (Int × Int)) (base : Nat) (D L : Nat → Prop) (w : World)
    (hb : w.heap[b]? = some (.cells #[ev, sv, dv] 43 (0, 0))) (hn : n < 4611686018427387904) (hln : l.length = n)
    (hd : Kd.R (Kd.int .i64) 3 w base D dv d) (hl : kstep.R 55 w base L (.slice (some ⟨gl, 0, none⟩) (n + 1) cl) (l ++ [(x, k)]))
    (hDL : ∀ k, D k → ¬ L k) (hbD : ¬ D b) (hbL : ¬ L b) (hbase : base ≤ w.heap.size) (hlen : (d.length + 1) * 8 ≤ 140737488355328) :
    Calls Try.prog 28 #[.pointer (some ⟨b, 0, none⟩), .slice (some ⟨gl, 0, none⟩) (n + 1) cl, .int .i64 y] w fun e w' => e = .returned (.slice (some ⟨gl, 0, none⟩) n cl) ∧ ∃ dv', w'.heap[b]? = some (.cells #[ev, sv, dv'] 43 (0, 0)) ∧
      Fr (fun k => k = b ∨ D k) w w' ∧ Kd.R (Kd.int .i64) 3 w' base (Gw D w) dv' (d ++ [x]) ∧ kstep.R 55 w' base L (.slice (some ⟨gl, 0, none⟩) n cl) l := by
  have c2 : w.cell? ⟨b, 2, none⟩ = some dv := (blk_cell hb 2).trans rfl
  obtain ⟨c3, -⟩ := step_cell hl n (x, k) (by simp [← hln])
  have c30 := Aside0.mk c3
  have HBK := Aside0.mk hb
  have HD := Aside0.mk hd
  have HL := Aside0.mk hl
  have HBase := Aside0.mk hbase
  have HLEN := Aside0.mk hlen
  have HDL := Aside0.mk hDL
  have HLN := Aside0.mk hln
  have HBlt := Aside0.mk (blk_lt hb)
  have HbD := Aside0.mk hbD
  have HbL := Aside0.mk hbL
  have hgL : L gl := hl.1 gl rfl
  have hcl : n ≤ cl := by have := (Kd.R_reads' hl).2.1; omega
  have HGlt := Aside0.mk (Kd.R_bound hl |>.1 gl rfl).2.2.1
  have HbD1 := Aside0.mk (show some b ≠ dv.ownBlock from fun e => hbD (hd.1 b e.symm))
  have HgD1 := Aside0.mk (show some gl ≠ dv.ownBlock from fun e => hDL gl (hd.1 gl e.symm) hgL)
  have HgL := Aside0.mk hgL
  clear hb hd hl hbase hlen hDL hln hbD hbL hgL
  go_enter Try.func28, Try.ntmps28
  go_wp2
  have hwn : wrap64 (n : Int) = (n : Int) := by unfold wrap64; omega
  have hwl : (n : Int) < (n : Int) + 1 := by omega
  refine start_ (n := 17) (S := fun w' => w'.cell? ⟨b, 2, none⟩ = some dv ∧ w'.cell? ⟨gl, n * 2, none⟩ = some (.int .i64 x)) (ds := [16]) #[false, false, false, false, false, false, false, false, false, false, false, false, false, false, false, false, false] (by kernel_rfl) rfl rfl ⟨c2, c3⟩ (fun hHeld => ?_)
  obtain ⟨wd, hwd⟩ : ∃ wd, wd = w.drew := ⟨_, rfl⟩
  rw [← hwd] at hHeld ⊢
  have HWD := Aside0.mk hwd
  clear hwd
  have HDw := Aside0.mk (show Kd.R (Kd.int .i64) 3 wd base D dv d by rw [HWD.out]; exact Kd.R_drew HD.out)
  have c2 : wd.cell? ⟨b, 2, none⟩ = some dv := hHeld.1
  have c3 : wd.cell? ⟨gl, n * 2, none⟩ = some (.int .i64 x) := hHeld.2
  have HSz := Aside0.mk (show wd.heap.size = w.heap.size by rw [HWD.out]; rfl)
  have HHp := Aside0.mk (show wd.heap = w.heap by rw [HWD.out]; rfl)
  refine pure_ (i := 0) (N := some 7) (v := ?_) (a' := ?_) #[true, false, false, false, false, false, false, false, false, false, false, false, false, false, false, false, false] rfl rfl (by kernel_rfl) (fun _ _ _ h => h) (Or.inl ⟨by rfl, ?_⟩) ?_ ?_
  rotate_left
  · intro w'
    go_simp
    with_reducible rfl
  rotate_left
  · simp only [Act.put, List.setIfInBounds_toArray, List.set_cons_zero, List.set_cons_succ, i64_w, i32_w]
    rfl
  refine pure_ (i := 1) (N := some 8) (v := ?_) (a' := ?_) #[true, true, false, false, false, false, false, false, false, false, false, false, false, false, false, false, false] rfl rfl (by kernel_rfl) (fun _ _ _ h => h) (Or.inl ⟨by rfl, ?_⟩) ?_ ?_
  rotate_left
  · intro w'
    go_simp
    with_reducible rfl
  rotate_left
  · simp only [Act.put, List.setIfInBounds_toArray, List.set_cons_zero, List.set_cons_succ, i64_w, i32_w]
    rfl
  refine pure_ (i := 2) (N := some 9) (v := ?_) (a' := ?_) #[true, true, true, false, false, false, false, false, false, false, false, false, false, false, false, false, false] rfl rfl (by kernel_rfl) (fun _ _ _ h => h) (Or.inl ⟨by rfl, ?_⟩) ?_ ?_
  rotate_left
  · intro w'
    go_simp
    with_reducible rfl
  rotate_left
  · simp only [Act.put, List.setIfInBounds_toArray, List.set_cons_zero, List.set_cons_succ, i64_w, i32_w]
    rfl
  refine pure_ (i := 3) (N := some 10) (v := ?_) (a' := ?_) #[true, true, true, true, false, false, false, false, false, false, false, false, false, false, false, false, false] rfl rfl (by kernel_rfl) (fun _ _ _ h => h) (Or.inl ⟨by rfl, ?_⟩) ?_ ?_
  rotate_left
  · intro w'
    go_simp
    with_reducible rfl
  rotate_left
  · simp only [Act.put, List.setIfInBounds_toArray, List.set_cons_zero, List.set_cons_succ, i64_w, i32_w]
    rfl
  refine pure_ (i := 5) (N := some 12) (v := ?_) (a' := ?_) #[true, true, true, true, false, true, false, false, false, false, false, false, false, false, false, false, false] rfl rfl (by kernel_rfl) (fun _ _ _ h => h) (Or.inl ⟨by rfl, ?_⟩) ?_ ?_
  rotate_left
  · intro w'
    go_simp
    with_reducible rfl
  rotate_left
  · simp only [Act.put, List.setIfInBounds_toArray, List.set_cons_zero, List.set_cons_succ, i64_w, i32_w]
    rfl
  refine pure_ (i := 6) (N := some 13) (v := ?_) (a' := ?_) #[true, true, true, true, false, true, true, false, false, false, false, false, false, false, false, false, false] rfl rfl (by kernel_rfl) (fun _ _ _ h => h) (Or.inl ⟨by rfl, ?_⟩) ?_ ?_
  rotate_left
  · intro w'
    go_simp
    with_reducible rfl
  rotate_left
  · simp only [Act.put, List.setIfInBounds_toArray, List.set_cons_zero, List.set_cons_succ, i64_w, i32_w]
    rfl
  refine pure_ (i := 7) (N := some 14) (v := ?_) (a' := ?_) #[true, true, true, true, false, true, true, true, false, false, false, false, false, false, false, false, false] rfl rfl (by kernel_rfl) (fun _ _ _ h => h) (Or.inl ⟨by rfl, ?_⟩) ?_ ?_
  rotate_left
  · intro w'
    go_simp
    with_reducible rfl
  rotate_left
  · simp only [Act.put, List.setIfInBounds_toArray, List.set_cons_zero, List.set_cons_succ, i64_w, i32_w]
    rfl
  refine pure_ (i := 8) (N := some 15) (v := ?_) (a' := ?_) #[true, true, true, true, false, true, true, true, true, false, false, false, false, false, false, false, false] rfl rfl (by kernel_rfl) (fun _ _ _ h => h) (Or.inl ⟨by rfl, ?_⟩) ?_ ?_
  rotate_left
  · intro w'
    go_simp
    with_reducible rfl
  rotate_left
  · simp only [Act.put, List.setIfInBounds_toArray, List.set_cons_zero, List.set_cons_succ, i64_w, i32_w]
    rfl
  refine pure_ (i := 9) (N := some 16) (v := ?_) (a' := ?_) #[true, true, true, true, false, true, true, true, true, true, false, false, false, false, false, false, false] rfl rfl (by kernel_rfl) (fun _ _ _ h => h) (Or.inl ⟨by rfl, ?_⟩) ?_ ?_
  rotate_left
  · intro w'
    go_simp
    with_reducible rfl
  rotate_left
  · simp only [Act.put, List.setIfInBounds_toArray, List.set_cons_zero, List.set_cons_succ, i64_w, i32_w]
    rfl
  refine pure_ (i := 10) (N := some 17) (v := ?_) (a' := ?_) #[true, true, true, true, false, true, true, true, true, true, true, false, false, false, false, false, false] rfl rfl (by kernel_rfl) (fun _ _ _ h => h) (Or.inl ⟨by rfl, ?_⟩) ?_ ?_
  rotate_left
  · intro w'
    go_simp
    with_reducible rfl
  rotate_left
  · simp only [Act.put, List.setIfInBounds_toArray, List.set_cons_zero, List.set_cons_succ, i64_w, i32_w]
    rfl
  refine take_ (i := 4) (N := some 11) (v := ?_) (a' := ?_) #[true, true, true, true, true, true, true, true, true, true, true, false, false, false, false, false, false] rfl rfl (by kernel_rfl) (fun _ _ _ h => h) (Or.inl ⟨by rfl, ?_⟩) hHeld ?_ ?_
  rotate_left
  · rintro w' ⟨s0, s1⟩
    go_simp
    with_reducible rfl
  rotate_left
  · simp only [Act.put, List.setIfInBounds_toArray, List.set_cons_zero, List.set_cons_succ, i64_w, i32_w]
    rfl
  refine take_ (i := 11) (N := some 18) (v := ?_) (a' := ?_) #[true, true, true, true, true, true, true, true, true, true, true, true, false, false, false, false, false] rfl rfl (by kernel_rfl) (fun _ _ _ h => h) (Or.inl ⟨by rfl, ?_⟩) hHeld ?_ ?_
  rotate_left
  · rintro w' ⟨s0, s1⟩
    go_simp
    with_reducible rfl
  rotate_left
  · simp only [Act.put, List.setIfInBounds_toArray, List.set_cons_zero, List.set_cons_succ, i64_w, i32_w]
    rfl
  refine one_ (i := 12) (N := some 19) #[true, true, true, true, true, true, true, true, true, true, true, true, true, false, false, false, false] rfl rfl (by kernel_rfl) (by decide) (fun K hK => ?_)
  refine value_ (w1 := ?_) (v := ?_) (by rfl) rfl ?_ ?_
  rotate_left 2
  · go_simp
    constructor
    · rfl
    · rfl
  refine hK.out _ _ ⟨cell_al _ c2, cell_al _ c3⟩ (fun hHeld => ?_)
  clear hK K
  refine norm_ (a' := ?_) ?_ ?_
  rotate_left
  · show Act.put _ (some 19) _ = _
    simp only [Act.put, List.setIfInBounds_toArray, List.set_cons_zero, List.set_cons_succ, i64_w, i32_w]
    rfl
  refine one_ (i := 13) (N := some 20) #[true, true, true, true, true, true, true, true, true, true, true, true, true, true, false, false, false] rfl rfl (by kernel_rfl) (by decide) (fun K hK => ?_)
  refine Kd.R_append_step (Kd.int .i64) (w0 := wd) base ?aW (.tmp 11) (.tmp 19) 31 3 (.int .i64 0) 8 ?aH Try.underlying31 info3 rfl (by decide) (by omega) dv d x [.int .i64 x] (Gw D w) (fun _ => False) ?aS1 ?aX ?aP (fun _ hk => hk.elim) ?aF ?aO ?aB ?aS ?aL ?_
  case aW => rfl
  case aH => rfl
  case aS1 => rfl
  case aX => rfl
  case aP => exact rfl
  case aF => exact fun k hk => .inr (by rw [← HSz.out]; exact hk)
  case aO => exact Kd.R_mono HDw.out (fun k hk => .inl hk)
  case aB => exact Below.refl _ _
  case aS => rw [HSz.out]; exact HBase.out
  case aL => exact HLEN.out
  intro v1 w1 h1 h2 h3 h4
  obtain ⟨g1, cap1, rfl, -, -, -⟩ := Kd.R_form h1 (by simp)
  have A1 := Aside0.mk h1
  have A2 := Aside0.mk h2
  have A3 := Aside0.mk h3
  have A4 := Aside0.mk h4
  clear h1 h2 h3 h4
  have c2 : w1.cell? ⟨b, 2, none⟩ = some dv := (blk_cell ((A3.out.block b (by rw [HSz.out]; exact HBlt.out) HbD1.out).trans (by rw [HHp.out]; exact HBK.out)) 2).trans rfl
  have c3 : w1.cell? ⟨gl, n * 2, none⟩ = some (.int .i64 x) := (World.cell?_of_block (w := wd) (w' := w1) (a := ⟨gl, n * 2, none⟩) (A3.out.block gl (by rw [HSz.out]; exact HGlt.out) HgD1.out)).trans (by rw [HWD.out]; exact c30.out)
  have f2 : w1.frozen? ⟨b, 2, none⟩ = false := blk_frozen ((A3.out.block b (by rw [HSz.out]; exact HBlt.out) HbD1.out).trans (by rw [HHp.out]; exact HBK.out)) 2
  refine hK.out _ _ ⟨c2, c3⟩ (fun hHeld => ?_)
  clear hK K
  refine norm_ (a' := ?_) ?_ ?_
  rotate_left
  · show Act.put _ (some 20) _ = _
    simp only [Act.put, List.setIfInBounds_toArray, List.set_cons_zero, List.set_cons_succ, i64_w, i32_w]
    rfl
  refine pure_ (i := 14) (N := some 21) (v := ?_) (a' := ?_) #[true, true, true, true, true, true, true, true, true, true, true, true, true, true, true, false, false] rfl rfl (by kernel_rfl) (fun _ _ _ h => h) (Or.inl ⟨by rfl, ?_⟩) ?_ ?_
  rotate_left
  · intro w'
    go_simp
    with_reducible rfl
  rotate_left
  · simp only [Act.put, List.setIfInBounds_toArray, List.set_cons_zero, List.set_cons_succ, i64_w, i32_w]
    rfl
  refine pure_ (i := 15) (N := some 22) (v := ?_) (a' := ?_) #[true, true, true, true, true, true, true, true, true, true, true, true, true, true, true, true, false] rfl rfl (by kernel_rfl) (fun _ _ _ h => h) (Or.inl ⟨by rfl, ?_⟩) ?_ ?_
  rotate_left
  · intro w'
    go_simp
    with_reducible rfl
  rotate_left
  · simp only [Act.put, List.setIfInBounds_toArray, List.set_cons_zero, List.set_cons_succ, i64_w, i32_w]
    rfl
  refine last_ (i := 16) (N := none) #[true, true, true, true, true, true, true, true, true, true, true, true, true, true, true, true, true] rfl rfl (by kernel_rfl) (by decide) (fun K hK => ?_)
  refine skip_ (w1 := ?_) (by rfl) rfl ?_ ?_
  rotate_left
  · go_simp
    rfl
  refine hK.out _ _ ?_
  clear hK K
  refine done_ (by kernel_rfl) ?_

  clear hwn hwl
  go_wp2
  go_ret
  have ed : (d ++ [x]).length = d.length + 1 := by simp
  have hw0 : Fr (fun k => k = b ∨ D k) w wd := by rw [HWD.out]; exact (Fr.refl _ w).drew
  have hF := hw0.grown A3.out (fun k hk => .inl (.inr (HD.out.1 k hk)))
  have hL1 : kstep.R 55 w1 base L (.slice (some ⟨gl, 0, none⟩) (n + 1) cl) (l ++ [(x, k)]) := Kd.R_grown (show kstep.R 55 wd base L _ _ by rw [HWD.out]; exact Kd.R_drew HL.out) A3.out (fun k hk e => HDL.out k (HD.out.1 k e.symm) hk)
  have hL2 := Kd.R_take (Kd.R_far (p := ⟨b, 2, none⟩) hL1 (fun k hk e => HbL.out (by rw [← show k = b from e]; exact hk)) (.slice (some ⟨g1, 0, none⟩) (d.length + 1) cap1)) (m := n) (by simp; have := HLN.out; omega)
  rw [List.take_append_of_le_length (by have := HLN.out; omega), List.take_of_length_le (by have := HLN.out; omega)] at hL2
  refine ⟨rfl, _, blk_put (A3.out.block b (by rw [HSz.out]; exact HBlt.out) HbD1.out |>.trans (by rw [HHp.out]; exact HBK.out)) 2 _, hF.setCell (.inl (.inl rfl)) _, ?_, hL2⟩
  have hD1 := A1.out
  rw [ed] at hD1
  refine Kd.R_mono (Kd.R_far (p := ⟨b, 2, none⟩) (ok := fun k => Gw D w k ∧ k ≠ b) (Kd.R_mono (Kd.R_bound hD1) ?_) (fun k hk => hk.2) _) (fun k hk => hk.1)
  rintro k ⟨h1, h2⟩
  refine ⟨h1, ?_⟩
  rintro rfl
  rcases h1 with h1 | h1
  · exact HbD.out h1
  · have := HBlt.out; omega
end Go.Proofs.Ytldgmneijipbjaa.H
end
/- YtldgmneijipbjaaHFrom -/
section
/- The contract of (*walker).from: it walks from a place just as 'visit' does. -/
namespace Go.Proofs.Ytldgmneijipbjaa.H
open Go.RowKit Go.Proofs.YtldgmneijipbjaaW.PrintWords Go.Proofs.YtldgmneijipbjaaW.PrintLast Go.Proofs.YtldgmneijipbjaaW.PrintMore
open Gr (out sn unseen visit scan complete mu)
set_option linter.unusedVariables false
set_option linter.unusedSimpArgs false

def castL (l : List Nat) : List Int := l.map fun (x : Nat) => (x : Int)
def castG (g : Gr.G) : List (List Int) := g.map castL
def cst (st : List (Nat × Nat)) : List (Int × Int) := st.reverse.map fun (e : Nat × Nat) => ((e.1 : Int), (e.2 : Int))
theorem castL_length (l : List Nat) : (castL l).length = l.length := by simp [castL]
theorem cst_cons (x k : Nat) (st : List (Nat × Nat)) : cst ((x, k) :: st) = cst st ++ [((x : Int), (k : Int))] := by simp [cst]
theorem cst_length (st : List (Nat × Nat)) : (cst st).length = st.length := by simp [cst]
theorem castG_getD (g : Gr.G) (x : Nat) : (castG g).getD x [] = castL (out g x) := by
  simp only [castG, out, List.getD_eq_getElem?_getD, List.getElem?_map]
  cases g[x]? <;> simp [castL]
theorem sn_rdOf (s : List Bool) (x : Nat) (h : x < s.length) : rdOf false s (x : Int) = sn s x := by
  simp [rdOf, sn, List.getD_eq_getElem?_getD, h]

abbrev KE := Kd.slice 3 (Kd.int .i64)
theorem edge_row {w : World} {A : Option Addr} {g : Gr.G} (h : Kd.C KE w A g.length (castG g)) (x : Nat) (hx : x < g.length) :
    ∃ ad A0 c0, A = some ad ∧ w.cell? (ad.add x) = some (.slice A0 (out g x).length c0) ∧ (Kd.int .i64).C w A0 (out g x).length (castL (out g x)) := by
  obtain ⟨ad, c, e, _, ⟨A0, c0, rfl, l0, g0⟩, hc⟩ := Kd.C_get h ([] : List Int) (x : Int) (by omega) (by omega)
  have q := hc 0 _ rfl
  have e1 : (castG g).getD (x : Int).toNat [] = castL (out g x) := by rw [Int.toNat_natCast]; exact castG_getD g x
  rw [e1, castL_length] at q g0
  rw [show (x : Int).toNat * KE.sz + 0 = x by show (x : Int).toNat * 1 + 0 = x; omega] at q
  exact ⟨ad, A0, c0, e, q, g0⟩
theorem edge_at {w : World} {A : Option Addr} {r : List Nat} (h : (Kd.int .i64).C w A r.length (castL r)) (k y : Nat) (hy : r[k]? = some y) :
    ∃ ad, A = some ad ∧ w.cell? (ad.add k) = some (.int .i64 y) := by
  obtain ⟨hk, rfl⟩ := List.getElem?_eq_some_iff.1 hy
  obtain ⟨ad, e, hc⟩ := Kd.at_int h (k : Int) (by omega) (by omega)
  refine ⟨ad, e, ?_⟩
  rw [Int.toNat_natCast] at hc
  rw [hc]
  simp [rd, castL, List.getD_eq_getElem?_getD, hk]

/-- the walker in memory: its block b; P, D: the blocks of its marks and of what it has told -/
structure WS (w : World) (base b : Nat) (ev : Value) (gs cs : Nat) (P D : Nat → Prop) (dv : Value) (p : Gr.St) : Prop where
  blk : w.heap[b]? = some (.cells #[ev, .slice (some ⟨gs, 0, none⟩) p.1.length cs, dv] 43 (0, 0))
  seen : Kd.R Kd.bool 4 w base P (.slice (some ⟨gs, 0, none⟩) p.1.length cs) p.1
  done : Kd.R (Kd.int .i64) 3 w base D dv (castL p.2)
  bP : ¬ P b
  bD : ¬ D b
  PD : ∀ k, P k → ¬ D k
  Plt : ∀ k, P k → k < w.heap.size

/-- what holds ahead of each round -/
structure FR (g : Gr.G) (N : Nat) (fin : Gr.St) (w : World) (base b : Nat) (ev : Value) (gs cs : Nat) (P D : Nat → Prop) (gk : Nat) (lv : Value) (wr : World) (st : List (Nat × Nat)) (s : List Bool) (d : List Nat) (dv : Value) (D' L' : Nat → Prop) : Prop where
  ws : WS wr base b ev gs cs P D' dv (s, d)
  stack : kstep.R 55 wr base L' lv (cst st)
  bL : ¬ L' b
  PL : ∀ k, P k → ¬ L' k
  DL : ∀ k, D' k → ¬ L' k
  newD : ∀ k, D' k → Gw D w k
  newL : ∀ k, L' k → w.heap.size ≤ k
  fr : Fr (fun k => k = b ∨ P k ∨ D k) w wr
  left : complete g N st (s, d) = fin
  rounds : unseen s ≤ N
  len : s.length = g.length
  inG : ∀ e, e ∈ st → e.1 < g.length
  small : d.length + st.length + unseen s ≤ N
  dist : mu g s st ≤ gk
  size : base ≤ wr.heap.size

/-- the post -/
def FromPost (g : Gr.G) (fin : Gr.St) (w : World) (base b : Nat) (ev : Value) (gs cs : Nat) (P D : Nat → Prop) (e : Ending) (w' : World) : Prop :=
  e = .returned (.tuple #[]) ∧ ∃ D' dv, WS w' base b ev gs cs P D' dv fin ∧ (∀ k, D' k → Gw D w k) ∧ Fr (fun k => k = b ∨ P k ∨ D k) w w'

theorem FR.leave {g : Gr.G} {N : Nat} {fin : Gr.St} {w wr w' : World} {base b : Nat} {ev : Value} {gs cs : Nat} {P D : Nat → Prop} {gk : Nat} {lv lv' : Value} {x k : Nat} {st : List (Nat × Nat)} {s : List Bool} {d : List Nat} {dv dv' : Value} {D' L' : Nat → Prop}
    (h : FR g N fin w base b ev gs cs P D gk lv wr ((x, k) :: st) s d dv D' L') (hk : (out g x).length ≤ k)
    (hb : w'.heap[b]? = some (.cells #[ev, .slice (some ⟨gs, 0, none⟩) s.length cs, dv'] 43 (0, 0))) (hf : Fr (fun k => k = b ∨ D' k) wr w')
    (hd : Kd.R (Kd.int .i64) 3 w' base (Gw D' wr) dv' (castL d ++ [(x : Int)])) (hl : kstep.R 55 w' base (fun k => L' k ∧ k < wr.heap.size) lv' (cst st)) :
    FR g N fin w base b ev gs cs P D (mu g s st) lv' w' st s (d ++ [x]) dv' (Gw D' wr) (fun k => L' k ∧ k < wr.heap.size) := by
  have hsz := h.fr.size
  refine ⟨⟨hb, fr_R h.ws.seen hf (fun k hk => ?_), by simpa [castL] using hd, h.ws.bP, ?_, ?_, fun k hk => Nat.lt_of_lt_of_le (h.ws.Plt k hk) hf.size⟩, ?_, fun q => h.bL q.1, fun k q r => h.PL k q r.1, ?_, ?_, fun k q => h.newL k q.1, ?_, ?_, h.rounds, h.len, fun e he => h.inG e (by simp [he]), ?_, Nat.le_refl _, Nat.le_trans h.size hf.size⟩
  · rintro (rfl | q)
    · exact h.ws.bP hk
    · exact h.ws.PD k hk q
  · rintro (q | q)
    · exact h.ws.bD q
    · have := blk_lt h.ws.blk; omega
  · rintro k q (r | r)
    · exact h.ws.PD k q r
    · have := h.ws.Plt k q; omega
  · exact hl
  · rintro k (q | q) ⟨r1, r2⟩
    · exact h.DL k q r1
    · omega
  · rintro k (q | q)
    · exact h.newD k q
    · exact .inr (by omega)
  · exact h.fr.trans hf (fun k hk => by
      rcases hk with rfl | hk
      · exact .inl (.inl rfl)
      · rcases h.newD k hk with q | q
        · exact .inl (.inr (.inr q))
        · exact .inr q)
  · rw [← h.left, Gr.complete_leave g N x k st (s, d) hk]
  · have := h.small
    simp at this ⊢
    omega

theorem FR.skip {g : Gr.G} {N : Nat} {fin : Gr.St} {w wr w' : World} {base b : Nat} {ev : Value} {gs cs : Nat} {P D : Nat → Prop} {gk : Nat} {lv : Value} {x k y : Nat} {st : List (Nat × Nat)} {s : List Bool} {d : List Nat} {dv : Value} {D' L' : Nat → Prop}
    (h : FR g N fin w base b ev gs cs P D gk lv wr ((x, k) :: st) s d dv D' L') (hy : (out g x)[k]? = some y) (hs : sn s y = true)
    (hf : Fr L' wr w') (hl : kstep.R 55 w' base L' lv (cst ((x, k + 1) :: st))) :
    FR g N fin w base b ev gs cs P D (mu g s ((x, k + 1) :: st)) lv w' ((x, k + 1) :: st) s d dv D' L' := by
  have hn : ∀ k, P k → ¬ L' k := h.PL
  refine ⟨⟨hf.blk h.ws.blk h.bL, fr_R h.ws.seen hf h.PL, fr_R h.ws.done hf h.DL, h.ws.bP, h.ws.bD, h.ws.PD, fun k hk => Nat.lt_of_lt_of_le (h.ws.Plt k hk) hf.size⟩, hl, h.bL, h.PL, h.DL, h.newD, h.newL, ?_, ?_, h.rounds, h.len, ?_, ?_, Nat.le_refl _, Nat.le_trans h.size hf.size⟩
  · exact h.fr.trans hf (fun k hk => .inr (h.newL k hk))
  · rw [← h.left, Gr.complete_skip g N x k y st (s, d) hy hs]
  · intro e he
    rcases List.mem_cons.1 he with rfl | he
    · exact h.inG (x, k) (by simp)
    · exact h.inG e (by simp [he])
  · have := h.small; simpa using this

theorem FR.enter {g : Gr.G} {N : Nat} {fin : Gr.St} {w wr w' : World} {base b : Nat} {ev : Value} {gs cs : Nat} {P D : Nat → Prop} {gk : Nat} {lv lv' : Value} {x k y : Nat} {st : List (Nat × Nat)} {s : List Bool} {d : List Nat} {dv : Value} {D' L' : Nat → Prop}
    (h : FR g N fin w base b ev gs cs P D gk lv wr ((x, k) :: st) s d dv D' L') (hy : (out g x)[k]? = some y) (hs : sn s y = false) (hyg : y < g.length)
    (hf : Fr (fun k => P k ∨ L' k) wr w') (hse : Kd.R Kd.bool 4 w' base P (.slice (some ⟨gs, 0, none⟩) s.length cs) (s.set y true))
    (hl : kstep.R 55 w' base (Gw L' wr) lv' (cst ((x, k + 1) :: st) ++ [((y : Int), 0)])) :
    FR g N fin w base b ev gs cs P D (mu g (s.set y true) ((y, 0) :: (x, k + 1) :: st)) lv' w' ((y, 0) :: (x, k + 1) :: st) (s.set y true) d dv (fun k => D' k ∧ k < wr.heap.size) (Gw L' wr) := by
  have hu := Gr.unseen_set hs
  have hsz := h.fr.size
  refine ⟨⟨?_, by simpa using hse, ?_, h.ws.bP, fun q => h.ws.bD q.1, fun k q r => h.ws.PD k q r.1, fun k hk => Nat.lt_of_lt_of_le (h.ws.Plt k hk) hf.size⟩, by rw [cst_cons]; exact hl, ?_, ?_, ?_, fun k q => h.newD k q.1, ?_, ?_, by rw [← h.left, Gr.complete_enter g N x k y st (s, d) hy hs h.rounds], ?_, by simpa using h.len, ?_, ?_, Nat.le_refl _, Nat.le_trans h.size hf.size⟩
  · have := hf.blk h.ws.blk (by rintro (q | q); exact h.ws.bP q; exact h.bL q)
    simpa using this
  · refine fr_R (Kd.R_mono (Kd.R_bound h.ws.done) (fun k q => ⟨q.1, q.2.2.1⟩)) hf (fun k q => ?_)
    rintro (r | r)
    · exact h.ws.PD k r q.1
    · exact h.DL k q.1 r
  · rintro (q | q)
    · exact h.bL q
    · have := blk_lt h.ws.blk; omega
  · rintro k q (r | r)
    · exact h.PL k q r
    · have := h.ws.Plt k q; omega
  · rintro k ⟨q1, q2⟩ (r | r)
    · exact h.DL k q1 r
    · omega
  · rintro k (q | q)
    · exact h.newL k q
    · omega
  · exact h.fr.trans hf (fun k hk => by
      rcases hk with hk | hk
      · exact .inl (.inr (.inl hk))
      · exact .inr (h.newL k hk))
  · have := h.rounds; omega
  · intro e he
    rcases List.mem_cons.1 he with rfl | he
    · exact hyg
    · rcases List.mem_cons.1 he with rfl | he
      · exact h.inG (x, k) (by simp)
      · exact h.inG e (by simp [he])
  · have := h.small; simp at this ⊢; omega

theorem stack_bump {w : World} {base gl n cl : Nat} {L : Nat → Prop} {l : List (Int × Int)} {x k : Int} (hl : kstep.R 55 w base L (.slice (some ⟨gl, 0, none⟩) (n + 1) cl) (l ++ [(x, k)])) (hn : l.length = n) (k' : Int) :
    kstep.R 55 (w.setCell ⟨gl, n * 2 + 1, none⟩ (.int .i64 k')) base L (.slice (some ⟨gl, 0, none⟩) (n + 1) cl) (l ++ [(x, k')]) := by
  obtain ⟨c3, c4⟩ := step_cell hl n (x, k) (by rw [List.getElem?_append_right (by omega), hn]; simp)
  have h := (Kd.R_seg hl (n : Int) (by omega) (by omega) (c := [.int .i64 x, .int .i64 k]) (seg := [.int .i64 k']) (j := 1) rfl (by
    intro j u hj
    match j, hj with
    | 0, hj => cases hj; exact c3
    | 1, hj => cases hj; exact c4) (Nat.le_refl 2) (x' := (x, k')) (okp := fun _ => False) ⟨[.int .i64 x], [.int .i64 k'], rfl, rfl, rfl⟩ (fun _ h => h.elim)).1
  rw [Int.toNat_natCast] at h
  have e : (l ++ [(x, k)]).set n (x, k') = l ++ [(x, k')] := by
    rw [List.set_append_right _ _ (by omega), hn]; simp
  rw [e] at h
  exact h

def FrRel (g : Gr.G) (N : Nat) (fin : Gr.St) (w : World) (base b : Nat) (ev : Value) (gs cs : Nat) (P D : Nat → Prop) (gk : Nat) (lv : Value) (wr : World) : Prop :=
  ∃ st s d dv D' L', FR g N fin w base b ev gs cs P D gk lv wr st s d dv D' L'

theorem enter_start (g : Gr.G) (N b x n : Nat) (ev : Value) (gs cs : Nat) (base : Nat) (P D : Nat → Prop) (dv : Value) (s : List Bool) (d : List Nat) (w : World) (fin : Gr.St)
    (hn : g.length = n) (hws : WS w base b ev gs cs P D dv (s, d)) (hlen : s.length = n) (hx : x < n) (hN : d.length + n + 1 ≤ N) (hbase : base ≤ w.heap.size) (hDlt : ∀ k, D k → k < w.heap.size)
    (hfin : fin = if sn s x then (s, d) else visit g N x (s, d)) :
    Calls Try.prog 27 #[.pointer (some ⟨b, 0, none⟩), .slice none 0 0, .int .i64 x] w fun e w' => ∃ lv, e = .returned lv ∧ ∃ gk, FrRel g N fin w base b ev gs cs P D gk lv w' := by
  have hu : unseen s ≤ n := by rw [← hlen]; exact List.count_le_length
  cases hs : sn s x with
  | true =>
    refine (enter_seen b x ev dv (.slice none 0 0) gs cs s base P w hws.blk hws.seen (by omega) (by omega) (by rw [sn_rdOf s x (by omega)]; exact hs)).mono ?_
    rintro e w' ⟨rfl, rfl⟩
    rw [hs, if_pos rfl] at hfin
    exact ⟨_, rfl, _, [], s, d, dv, D, fun _ => False, hws, Kd.R_nil _ _ _ _ _, id, fun _ _ h => h, fun _ _ h => h, fun k hk => .inl hk, fun _ h => h.elim, Fr.refl _ _, hfin.symm, by omega, by omega, by simp, by simp; omega, Nat.le_refl _, hbase⟩
  | false =>
    have hu2 := Gr.unseen_set hs
    refine (enter_new b x ev dv (.slice none 0 0) gs cs s [] base P (fun _ => False) w hws.blk hws.seen (by omega) (by omega) (by rw [sn_rdOf s x (by omega)]; exact hs) (Kd.R_nil _ _ _ _ _) (fun _ _ h => h) hws.bP id hbase (by simp)).mono ?_
    rintro e w' ⟨v, rfl, hf, h1, h2⟩
    rw [hs] at hfin
    simp only [Bool.false_eq_true, if_false] at hfin
    have hnP : ∀ k, D k → ¬ (P k ∨ False) := fun k hk q => hws.PD k (q.resolve_right id) hk
    refine ⟨_, rfl, _, [(x, 0)], s.set x true, d, dv, D, Gw (fun _ => False) w, ⟨?_, by simpa using h1, fr_R hws.done hf hnP, hws.bP, hws.bD, hws.PD, fun k hk => Nat.lt_of_lt_of_le (hws.Plt k hk) hf.size⟩, by simpa [cst] using h2, ?_, ?_, ?_, fun k hk => .inl hk, fun k hk => hk.resolve_left id, hf.mono ?_, ?_, by omega, by simp; omega, by simp; omega, by simp; omega, Nat.le_refl _, Nat.le_trans hbase hf.size⟩
    · have := hf.blk hws.blk (fun q => hws.bP (q.resolve_right id))
      simpa using this
    · rintro (q | q)
      · exact q
      · have := blk_lt hws.blk; omega
    · rintro k q (r | r)
      · exact r
      · have := hws.Plt k q; omega
    · rintro k q (r | r)
      · exact r
      · have := hDlt k q; omega
    · rintro k (q | q)
      · exact .inr (.inl q)
      · exact q.elim
    · rw [hfin, Gr.visit_fuel g hs (m := N + 1) (by simp; omega) (by simp; omega), Gr.visit_succ]
      simp [complete]

theorem enter_step {g : Gr.G} {N : Nat} {fin : Gr.St} {w wr W : World} {base b : Nat} {ev : Value} {gs cs : Nat} {P D : Nat → Prop} {gk m gl cl : Nat} {x k y : Nat} {st : List (Nat × Nat)} {s : List Bool} {d : List Nat} {dv : Value} {D' L' : Nat → Prop}
    (h : FR g N fin w base b ev gs cs P D gk (.slice (some ⟨gl, 0, none⟩) (m + 1) cl) wr ((x, k) :: st) s d dv D' L') (hm : st.length = m) (hg : Gr.Good g) (hN2 : N ≤ 4398046511103)
    (hy : (out g x)[k]? = some y) {q : Nat} (hW : W = (wr.drewN q).setCell ⟨gl, m * 2 + 1, none⟩ (.int .i64 ((k : Int) + 1))) :
    Calls Try.prog 27 #[.pointer (some ⟨b, 0, none⟩), .slice (some ⟨gl, 0, none⟩) (m + 1) cl, .int .i64 y] W fun e w' => ∃ lv', e = .returned lv' ∧ ∃ gk', gk' < gk ∧ FrRel g N fin w base b ev gs cs P D gk' lv' w' := by
  have hk : k < (out g x).length := (List.getElem?_eq_some_iff.1 hy).1
  have hyn : y < g.length := hg x y (List.mem_iff_getElem?.2 ⟨k, hy⟩)
  have hst := h.stack
  rw [cst_cons] at hst
  have hgl : L' gl := hst.1 gl rfl
  have hf : Fr L' wr W := by rw [hW]; exact ((Fr.refl _ wr).drewN q).setCell (.inl hgl) _
  have hl1 : kstep.R 55 W base L' (.slice (some ⟨gl, 0, none⟩) (m + 1) cl) (cst ((x, k + 1) :: st)) := by
    rw [hW, cst_cons]
    have := stack_bump (Kd.R_drewN hst q) (by rw [cst_length]; exact hm) ((k : Int) + 1)
    simpa using this
  have hsz : W.heap.size = wr.heap.size := by rw [hW]; simp [World.setCell, World.drewN]
  have hws : WS W base b ev gs cs P D' dv (s, d) := ⟨hf.blk h.ws.blk h.bL, fr_R h.ws.seen hf h.PL, fr_R h.ws.done hf h.DL, h.ws.bP, h.ws.bD, h.ws.PD, fun k hk => Nat.lt_of_lt_of_le (h.ws.Plt k hk) hf.size⟩
  have hys : y < s.length := by rw [h.len]; exact hyn
  cases hs : sn s y with
  | true =>
    refine (enter_seen b y ev dv _ gs cs s base P W hws.blk hws.seen (by omega) (by omega) (by rw [sn_rdOf s y hys]; exact hs)).mono ?_
    rintro e w' ⟨rfl, rfl⟩
    exact ⟨_, rfl, _, Nat.lt_of_lt_of_le (Gr.mu_skip g s x k st hk) h.dist, _, _, _, _, _, _, h.skip hy hs hf hl1⟩
  | false =>
    refine (enter_new b y ev dv _ gs cs s (cst ((x, k + 1) :: st)) base P L' W hws.blk hws.seen (by omega) (by omega) (by rw [sn_rdOf s y hys]; exact hs) hl1 h.PL h.ws.bP h.bL (Nat.le_trans h.size hf.size) (by
      have := h.small
      rw [cst_length]
      simp at this ⊢
      omega)).mono ?_
    rintro e w' ⟨v, rfl, hf2, h1, h2⟩
    have hG : ∀ i, Gw L' W i ↔ Gw L' wr i := fun i => by unfold Gw; rw [hsz]
    refine ⟨_, rfl, _, Nat.lt_of_lt_of_le (Gr.mu_enter g s x k y st hk hs) h.dist, _, _, _, _, _, _, h.enter hy hs hyn ((hf.mono (fun i q => .inr q)).trans hf2 (fun i q => .inl q)) h1 (Kd.R_mono h2 (fun i q => (hG i).1 q))⟩

set_option maxHeartbeats 2000000 in
theorem from_any (g : Gr.G) (N b x n : Nat) (A : Option Addr) (c : Nat) (gs cs : Nat) (base : Nat) (P D : Nat → Prop) (dv : Value) (s : List Bool) (d : List Nat) (w : World) (fin : Gr.St)
    (hn : g.length = n) (hg : Gr.Good g) (hws : WS w base b (.slice A n c) gs cs P D dv (s, d)) (hlen : s.length = n) (hx : x < n) (hN : d.length + n + 1 ≤ N) (hN2 : N ≤ 4398046511103) (hbase : base ≤ w.heap.size) (hDlt : ∀ k, D k → k < w.heap.size)
    (hE : ∀ W, Fr (fun k => k = b ∨ P k ∨ D k) w W → Kd.C KE W A n (castG g))
    (hfin : fin = if sn s x then (s, d) else visit g N x (s, d)) :
    Calls Try.prog 19 #[.pointer (some ⟨b, 0, none⟩), .int .i64 x] w (FromPost g fin w base b (.slice A n c) gs cs P D) := by
  have HS := Aside0.mk (enter_start g N b x n (.slice A n c) gs cs base P D dv s d w fin hn hws hlen hx hN hbase hDlt hfin)
  have HE := Aside0.mk hE
  have HG := Aside0.mk hg
  have HN := Aside0.mk hn
  clear hE hws hfin hlen hN hbase hDlt hg hn
  go_enter Try.func19, Try.ntmps19
  go_wp2_with (go_at_call 27; refine HS.out.mono ?_; rintro e w1 ⟨lv, rfl, gk0, hrel0⟩)
  have HR0 := Aside0.mk hrel0
  clear hrel0 HS
  go_loopg [4] gk0 (fun kq v4 wr => FrRel g N fin w base b (.slice A n c) gs cs P D kq v4 wr)
  case atStart => exact HR0.out
  case round =>
    obtain ⟨st, s', d', dv', D', L', h⟩ := hrel
    cases st with
    | nil =>
      obtain ⟨A1, c1, rfl, -, -⟩ := Kd.R_reads h.stack
      have H := Aside0.mk h
      clear h
      go_wp2
      go_end0
      have hl : (s', d') = fin := H.out.left
      exact ⟨rfl, D', dv', by rw [← hl]; exact H.out.ws, H.out.newD, H.out.fr⟩
    | cons p st =>
      obtain ⟨x1, k1⟩ := p
      have hst := h.stack
      rw [cst_cons] at hst
      obtain ⟨gl, cl, rfl, -, -, -⟩ := Kd.R_form hst (by simp)
      obtain ⟨m, hm⟩ : ∃ m, st.length = m := ⟨_, rfl⟩
      have hlm : (cst st ++ [((x1 : Int), (k1 : Int))]).length = m + 1 := by simp [cst_length, hm]
      rw [hlm] at hst h ⊢
      obtain ⟨c3, c4⟩ := step_cell hst m ((x1 : Int), (k1 : Int)) (by rw [List.getElem?_append_right (by rw [cst_length]; omega), cst_length, hm]; simp)
      have c1 : wr.cell? ⟨b, 0, none⟩ = some (.slice A n c) := (blk_cell h.ws.blk 0).trans rfl
      have hx1 : x1 < n := by have := h.inG (x1, k1) (by simp); have := HN.out; omega
      have hmb : m < 4611686018427387904 := by have := h.small; simp at this; omega
      obtain ⟨ad, A0, c0, rfl, c5, hrow⟩ := edge_row (by rw [HN.out]; exact HE.out wr h.fr) x1 (by rw [HN.out]; exact hx1)
      have hx1i : (x1 : Int) < (n : Int) := by omega
      have H := Aside0.mk h
      have HST := Aside0.mk hst
      have HM := Aside0.mk hm
      have HROW := Aside0.mk hrow
      clear h hst hm hlm hrow
      obtain ⟨rl, hrl⟩ : ∃ r, (out g x1).length = r := ⟨_, rfl⟩
      rw [hrl] at c5
      have HRL := Aside0.mk hrl
      clear hrl
      by_cases hk : k1 < rl
      · have hki : (k1 : Int) < (rl : Int) := by omega
        obtain ⟨y, hy⟩ : ∃ y, (out g x1)[k1]? = some y := ⟨_, List.getElem?_eq_getElem (by rw [HRL.out]; exact hk)⟩
        obtain ⟨ad2, rfl, c6⟩ := edge_at HROW.out k1 y hy
        have hyn : y < n := by rw [← HN.out]; exact HG.out x1 y (List.mem_iff_getElem?.2 ⟨k1, hy⟩)
        have HY := Aside0.mk hy
        clear hy
        have f4 : wr.frozen? ⟨gl, m * 2 + 1, none⟩ = false := by
          obtain ⟨cells, hc⟩ := Kd.R_typed HST.out gl rfl
          exact blk_frozen hc _
        have hkb : k1 < 9223372036854775807 := by have := HROW.out.2.1; rw [HRL.out] at this; omega
        have HEN := Aside0.mk (fun (q : Nat) => enter_step H.out HM.out HG.out hN2 HY.out (q := q) rfl)
        go_wp2
        go_quiet (fail)
        go_wp2_with fail
        go_quiet (fail)
        go_wp2_with (go_at_call 27; refine (HEN.out _).mono ?_; rintro e w2 ⟨lv2, rfl, gk2, hlt, hrel2⟩; have Q := Aside0.mk hrel2; have Q2 := Aside0.mk hlt; clear hrel2 hlt)
        go_roundg gk2
        case measure => exact Q2.out
        case rel => exact Q.out
      · have hk2 : ¬ ((k1 : Int) < (rl : Int)) := by omega
        have hk3 : rl ≤ k1 := by omega
        have HST2 := Aside0.mk (show kstep.R 55 wr base (fun k => L' k ∧ k < wr.heap.size) _ _ from Kd.R_mono (Kd.R_bound HST.out) (fun k q => ⟨q.1, q.2.2.1⟩))
        have HLV := Aside0.mk (fun nq : Nat => leave_any b x1 k1 0 (.slice (some ad) n c) _ dv' gl cl m (castL d') (cst st) base D' (fun k => L' k ∧ k < wr.heap.size) (wr.drewN nq) (blk_drewN H.out.ws.blk nq) (by omega) (by rw [cst_length]; exact HM.out) (Kd.R_drewN H.out.ws.done nq) (Kd.R_drewN HST2.out nq) (fun k q r => H.out.DL k q r.1) H.out.ws.bD (fun q => H.out.bL q.1) H.out.size (by rw [castL_length]; have := H.out.small; simp at this; omega))
        go_wp2
        go_quiet (fail)
        go_wp2_with (go_at_call 28; refine (HLV.out _).mono ?_; rintro e w2 ⟨rfl, dv2, hb2, hf2, hd2, hl2⟩; have Q := Aside0.mk (H.out.leave (by rw [HRL.out]; exact hk3) hb2 (((Fr.refl _ wr).drewN _).trans hf2 (fun i q => .inl q)) hd2 hl2); clear hb2 hf2 hd2 hl2)
        go_roundg (mu g s' st)
        case measure => exact Nat.lt_of_lt_of_le (Gr.mu_leave g s' x1 k1 st) H.out.dist
        case rel => exact ⟨_, _, _, _, _, _, Q.out⟩
end Go.Proofs.Ytldgmneijipbjaa.H
end
/- YtldgmneijipbjaaPSt -/
section
/- OrderStands, without the program: places in an order, parts and their numbers. -/
namespace Go.Proofs.Ytldgmneijipbjaa.St
open Gr (out canon scc Scc Inv)
open H
open Pu (idx)
set_option linter.unusedVariables false

theorem idx_mem {l : List Int} {x : Int} (h : x ∈ l) : ∃ p : Nat, idx l x = p ∧ l[p]? = some x ∧ ∀ q, q < p → l[q]? ≠ some x := by
  unfold idx
  cases hf : l.findIdx? (· == x) with
  | none =>
    rw [List.findIdx?_eq_none_iff] at hf
    have := hf x h
    simp at this
  | some p =>
    rw [List.findIdx?_eq_some_iff_getElem] at hf
    obtain ⟨hp, h1, h2⟩ := hf
    refine ⟨p, rfl, ?_, fun q hq e => ?_⟩
    · rw [List.getElem?_eq_getElem hp]
      simpa using h1
    · have := h2 q hq
      rw [List.getElem?_eq_getElem (by omega)] at e
      simp at this
      exact this (by simpa using e)
theorem idx_le {l : List Int} {x : Int} {i : Nat} (h : l[i]? = some x) : 0 ≤ idx l x ∧ idx l x ≤ i := by
  obtain ⟨p, e, h1, h2⟩ := idx_mem (List.mem_of_getElem? h)
  rw [e]
  refine ⟨by omega, ?_⟩
  have : ¬ i < p := fun q => h2 i q h
  omega
theorem idx_at {l : List Int} (hn : l.Nodup) {x : Int} {i : Nat} (h : l[i]? = some x) : idx l x = i := by
  obtain ⟨p, e, h1, h2⟩ := idx_mem (List.mem_of_getElem? h)
  rw [e]
  obtain ⟨hp, e1⟩ := List.getElem?_eq_some_iff.1 h1
  obtain ⟨hi, e2⟩ := List.getElem?_eq_some_iff.1 h
  have := List.pairwise_iff_getElem.1 hn
  rcases Nat.lt_trichotomy p i with q | q | q
  · exact absurd (e1.trans e2.symm) (this p i hp hi q)
  · rw [q]
  · exact absurd (e2.trans e1.symm) (this i p hi hp q)
theorem castL_nodup {l : List Nat} (h : l.Nodup) : (castL l).Nodup := by
  unfold castL
  exact List.Pairwise.map _ (fun a b (q : a ≠ b) e => q (by omega)) h
theorem castL_get (l : List Nat) (i : Nat) : (castL l)[i]? = Option.map (fun x : Nat => (x : Int)) l[i]? := by
  unfold castL
  rw [List.getElem?_map]

/-- where an edge leads, from a place of the order -/
theorem edge_place {g : Gr.G} {s : List Bool} {o : List Nat} (h : Inv g s o []) {i m y : Nat} (hi : o[i]? = some m) (hy : y ∈ out g m) : 0 ≤ idx (castL o) y ∧ (idx (castL o) y ≤ i ∨ Scc g y m) := by
  obtain ⟨hil, e⟩ := List.getElem?_eq_some_iff.1 hi
  have hs : o = o.take i ++ m :: o.drop (i + 1) := by
    rw [← e, ← List.drop_eq_getElem_cons hil, List.take_append_drop]
  rcases h.edge _ _ _ hs y hy with q | q | ⟨q, r⟩
  · obtain ⟨j, hj⟩ := List.mem_iff_getElem?.1 q
    have hji : j < i := by have := (List.getElem?_eq_some_iff.1 hj).1; simp at this; omega
    rw [List.getElem?_take_of_lt hji] at hj
    have := idx_le (l := castL o) (x := (y : Int)) (i := j) (by rw [castL_get, hj]; rfl)
    exact ⟨this.1, .inl (by omega)⟩
  · subst q
    have := idx_le (l := castL o) (x := (y : Int)) (i := i) (by rw [castL_get, hi]; rfl)
    exact ⟨this.1, .inl this.2⟩
  · have hyo : y ∈ o := by
      rw [hs]
      rcases q with q | q
      · simp [q]
      · cases q
    obtain ⟨j, hj⟩ := List.mem_iff_getElem?.1 hyo
    have := idx_le (l := castL o) (x := (y : Int)) (i := j) (by rw [castL_get, hj]; rfl)
    exact ⟨this.1, .inr ⟨r, .one hy⟩⟩

/-! the parts are apart, and hold each place once -/
theorem canon_apart (g : Gr.G) : (canon g).Pairwise fun l l' => ∀ x, x ∈ l → ∀ y, y ∈ l' → x ≠ y := by
  refine (Gr.canon_sorted g).imp_of_mem ?_
  intro l l' hl hl' hh x hx y hy e
  subst e
  obtain ⟨v, hv, rfl⟩ := Gr.mem_canon.1 hl
  obtain ⟨v', hv', rfl⟩ := Gr.mem_canon.1 hl'
  have : Scc g v v' := (Gr.mem_scc.1 hx).2.trans (Gr.mem_scc.1 hy).2.symm
  rw [Gr.scc_eq this] at hh
  exact Nat.lt_irrefl _ hh
theorem canon_total (g : Gr.G) : ((canon g).map List.length).sum = g.length := by
  have hn : (canon g).flatten.Nodup := List.pairwise_flatten.2 ⟨fun l hl => by obtain ⟨v, hv, rfl⟩ := Gr.mem_canon.1 hl; exact Gr.scc_nodup g v, canon_apart g⟩
  have hp : (canon g).flatten.Perm (List.range g.length) := by
    rw [List.perm_ext_iff_of_nodup hn List.nodup_range]
    intro x
    rw [List.mem_flatten, List.mem_range]
    constructor
    · rintro ⟨l, hl, hx⟩
      obtain ⟨v, hv, rfl⟩ := Gr.mem_canon.1 hl
      exact (Gr.mem_scc.1 hx).1
    · intro hx
      exact ⟨scc g x, Gr.mem_canon.2 ⟨x, hx, rfl⟩, Gr.scc_self hx⟩
  have := hp.length_eq
  rw [List.length_flatten, List.length_range] at this
  exact this
theorem canon_same {g : Gr.G} {i j x : Nat} {l l' : List Nat} (hi : (canon g)[i]? = some l) (hj : (canon g)[j]? = some l') (hx : x ∈ l) (hx' : x ∈ l') : i = j := by
  obtain ⟨h1, e1⟩ := List.getElem?_eq_some_iff.1 hi
  obtain ⟨h2, e2⟩ := List.getElem?_eq_some_iff.1 hj
  have := List.pairwise_iff_getElem.1 (canon_apart g)
  rcases Nat.lt_trichotomy i j with q | q | q
  · exact absurd rfl (this i j h1 h2 q x (by rw [e1]; exact hx) x (by rw [e2]; exact hx'))
  · exact q
  · exact absurd rfl (this j i h2 h1 q x (by rw [e2]; exact hx') x (by rw [e1]; exact hx))
theorem canon_lt {g : Gr.G} {i x : Nat} {l : List Nat} (hi : (canon g)[i]? = some l) (hx : x ∈ l) : x < g.length := by
  obtain ⟨v, hv, rfl⟩ := Gr.mem_canon.1 (List.mem_of_getElem? hi)
  exact (Gr.mem_scc.1 hx).1

/-- the numbers of the parts, while they are told -/
structure PT (g : Gr.G) (pt : List Int) (i k : Nat) : Prop where
  len : pt.length = g.length
  old : ∀ j l x, j < i → (canon g)[j]? = some l → x ∈ l → pt[x]? = some (j : Int)
  now : ∀ l q x, (canon g)[i]? = some l → q < k → l[q]? = some x → pt[x]? = some (i : Int)
theorem PT.start (g : Gr.G) : PT g (List.replicate g.length 0) 0 0 := ⟨by simp, fun j l x h => by omega, fun l q x _ h => by omega⟩
theorem PT.put {g : Gr.G} {pt : List Int} {i k : Nat} {l : List Nat} {x : Nat} (h : PT g pt i k) (hl : (canon g)[i]? = some l) (hx : l[k]? = some x) : PT g (pt.set x (i : Int)) i (k + 1) := by
  have hxl : x < pt.length := by rw [h.len]; exact canon_lt hl (List.mem_of_getElem? hx)
  refine ⟨by simp [h.len], fun j l' y hj hl' hy => ?_, fun l' q y hl' hq hy => ?_⟩
  · have : x ≠ y := fun e => by
      have := canon_same hl hl' (List.mem_of_getElem? hx) (by rw [e]; exact hy)
      omega
    rw [List.getElem?_set_ne this]
    exact h.old j l' y hj hl' hy
  · by_cases e : x = y
    · subst e
      rw [List.getElem?_set_self hxl]
    · rw [List.getElem?_set_ne e]
      have : q ≠ k := fun e' => by
        subst e'
        rw [hl] at hl'
        cases hl'
        rw [hx] at hy
        exact e (by simpa using hy)
      exact h.now l' q y hl' (by omega) hy
theorem PT.next {g : Gr.G} {pt : List Int} {i : Nat} {l : List Nat} (h : PT g pt i l.length) (hl : (canon g)[i]? = some l) : PT g pt (i + 1) 0 := by
  refine ⟨h.len, fun j l' y hj hl' hy => ?_, fun l' q y _ hq => by omega⟩
  by_cases e : j = i
  · subst e
    rw [hl] at hl'
    cases hl'
    obtain ⟨q, hq⟩ := List.mem_iff_getElem?.1 hy
    exact h.now l q y hl (List.getElem?_eq_some_iff.1 hq).1 hq
  · exact h.old j l' y (by omega) hl' hy
theorem PT.same {g : Gr.G} {pt : List Int} (h : PT g pt (canon g).length 0) {x y : Nat} (hx : x < g.length) (hy : y < g.length) (hs : Scc g x y) : pt[x]? = pt[y]? := by
  have hm : scc g x ∈ canon g := Gr.mem_canon.2 ⟨x, hx, rfl⟩
  obtain ⟨j, hj⟩ := List.mem_iff_getElem?.1 hm
  have hjl := (List.getElem?_eq_some_iff.1 hj).1
  have hy : y ∈ scc g x := by
    rw [Gr.scc_eq hs]
    exact Gr.scc_self hy
  rw [h.old j _ x hjl hj (Gr.scc_self hx), h.old j _ y hjl hj hy]
theorem sum_take (l : List Nat) (i : Nat) (x : Nat) (h : l[i]? = some x) : (l.take (i + 1)).sum = (l.take i).sum + x := by
  rw [List.take_add_one, h]
  simp
end Go.Proofs.Ytldgmneijipbjaa.St
end
/- YtldgmneijipbjaaPPartsx0 -/
section
-- PRINTED BY print.sh 35421559b90ae4d0a3588c463048766b98c2df88dd9212a6774a882060cdf62d: not written by this session
namespace Go.Proofs.Ytldgmneijipbjaa.PParts
open Go.RowKit Go.Proofs.YtldgmneijipbjaaW.PrintWords Go.Proofs.YtldgmneijipbjaaW.PrintLast Go.Proofs.YtldgmneijipbjaaW.PrintMore
attribute [local go_sem] max2_int min2_int max_two min_two max_three min_three max_four min_four   -- for this text's walks alone
set_option linter.unusedVariables false
set_option linter.unusedSimpArgs false



def errW : Option Int → Value
  | none => .nilIface
  | some c => .iface 0 (.int .i64 c)
theorem errW_none : errW none = .nilIface := rfl
theorem errW_some (c : Int) : errW (some c) = .iface 0 (.int .i64 c) := rfl

theorem info3 : (Try.prog.info? 3).map (fun i => (i.zero, i.size, i.bytes)) = some (some (.int .i64 0), 1, 8) := by kernel_rfl
theorem info4 : (Try.prog.info? 4).map (fun i => (i.zero, i.size, i.bytes)) = some (some (.bool false), 1, 1) := by kernel_rfl
theorem info31 : (Try.prog.info? 31).map (fun i => (i.zero, i.size, i.bytes)) = some (some (.slice none 0 0), 1, 24) := by kernel_rfl
theorem info41 : (Try.prog.info? 41).map (fun i => (i.zero, i.size, i.bytes)) = some (some (.slice none 0 0), 1, 24) := by kernel_rfl
-- the values' own types
def rd_L1 (xs : List (List Int)) (i : Int) : (List Int) := xs.getD i.toNat ([] : List Int)
theorem at_L1 {w : World} {A : Option Addr} {n : Nat} {xs : List (List Int)} (h : Kd.C (Kd.slice 3 (Kd.int .i64)) w A n xs) (i : Int) (h0 : 0 ≤ i) (h1 : i < n) : ∃ ad A0 c0, A = some ad ∧ w.cell? (ad.add i.toNat) = some (.slice A0 (rd_L1 xs i).length c0) ∧ (rd_L1 xs i).length ≤ c0 ∧ (Kd.int .i64).C w A0 (rd_L1 xs i).length (rd_L1 xs i) := by
  obtain ⟨ad, c, e, _, hK, hc0⟩ := Kd.C_get h ([] : List Int) i h0 h1
  have hc : ∀ j u, c[j]? = some u → w.cell? (ad.add (i.toNat * 1 + j)) = some u := hc0
  obtain ⟨A0, c0, rfl, l0, g0⟩ := hK
  exact ⟨ad, A0, c0, e, by have hq := hc 0 _ rfl; rwa [Nat.mul_one, Nat.add_zero] at hq, l0, g0⟩

def rd_L3 (xs : List (List Bool)) (i : Int) : (List Bool) := xs.getD i.toNat ([] : List Bool)
theorem at_L3 {w : World} {A : Option Addr} {n : Nat} {xs : List (List Bool)} (h : Kd.C (Kd.slice 4 Kd.bool) w A n xs) (i : Int) (h0 : 0 ≤ i) (h1 : i < n) : ∃ ad A0 c0, A = some ad ∧ w.cell? (ad.add i.toNat) = some (.slice A0 (rd_L3 xs i).length c0) ∧ (rd_L3 xs i).length ≤ c0 ∧ Kd.bool.C w A0 (rd_L3 xs i).length (rd_L3 xs i) := by
  obtain ⟨ad, c, e, _, hK, hc0⟩ := Kd.C_get h ([] : List Bool) i h0 h1
  have hc : ∀ j u, c[j]? = some u → w.cell? (ad.add (i.toNat * 1 + j)) = some u := hc0
  obtain ⟨A0, c0, rfl, l0, g0⟩ := hK
  exact ⟨ad, A0, c0, e, by have hq := hc 0 _ rfl; rwa [Nat.mul_one, Nat.add_zero] at hq, l0, g0⟩

end Go.Proofs.Ytldgmneijipbjaa.PParts
end
