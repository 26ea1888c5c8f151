/- Texts of this proof, put together: YtldgmneijipbjaaPPartsx1, YtldgmneijipbjaaPu2, YtldgmneijipbjaaHOrder, YtldgmneijipbjaaHStep, YtldgmneijipbjaaHTwin, YtldgmneijipbjaaGr4, YtldgmneijipbjaaHMat, YtldgmneijipbjaaHP1, YtldgmneijipbjaaHBack, YtldgmneijipbjaaShelf, YtldgmneijipbjaaHSort, YtldgmneijipbjaaHP2, YtldgmneijipbjaaHSort2, YtldgmneijipbjaaHP3, YtldgmneijipbjaaHParts. -/
import Derived.Test.YtldgmneijipbjaaProg
import Derived.Test.YtldgmneijipbjaaWMore
import Derived.Test.YtldgmneijipbjaaWKept
import Derived.Test.YtldgmneijipbjaaWZeros
import Derived.KernelRfl
import Derived.Below
import Derived.Deep.Draws
import Derived.Deep.AppendLies
import Derived.Maps.AppendAt
import Derived.OwnWalk
import Derived.Laws.BytesArg
import Derived.Laws.MakeOwn
import Derived.Laws.OwnMore
import Derived.Deep.OwnRows
import Derived.Tactics
import Derived.Lib.ConvBytes
import Derived.Laws.Slices
import Derived.WalkKit
import Derived.RowKit3
import Derived.Deep.LoopGhost
import Derived.Deep.QuietTactic
import Derived.BigQuiet
import Derived.WideLaws
import Derived.Deep.DeepCutAuto
import Derived.Deep.CutBlock
import Derived.Deep.RegionHeld3
import Derived.Laws.Rows
import Derived.Lib.AppendStr
import Derived.ArgAppend
import Derived.Laws.IdiomCopy
import Derived.OrdersHeld
import Derived.Laws.BitsLemmas
import Derived.RowKit
import Derived.Test.YtldgmneijipbjaaWWords
import Derived.Test.YtldgmneijipbjaaWLast
import Derived.Test.YtldgmneijipbjaaWTab
import Derived.Test.YtldgmneijipbjaaWFour
import Derived.Test.YtldgmneijipbjaaWQPut
import Derived.Test.YtldgmneijipbjaaWApart
import Derived.Test.YtldgmneijipbjaaWArr
import Derived.Test.YtldgmneijipbjaaWFoot
import Derived.Test.YtldgmneijipbjaaWShare
import Derived.Test.YtldgmneijipbjaaWN
import Derived.Test.YtldgmneijipbjaaWFootNe
import Derived.Test.YtldgmneijipbjaaWAt
import Derived.Test.YtldgmneijipbjaaWEqStruct
import Derived.Test.YtldgmneijipbjaaWRepsOne
import Derived.Test.YtldgmneijipbjaaWInv
import Derived.Test.YtldgmneijipbjaaWInvWords
import Derived.Test.YtldgmneijipbjaaWGuard
import Derived.Test.YtldgmneijipbjaaWNEv
import Derived.RangeFuncNested
import Derived.RangeFuncBound
import Derived.RangeFuncCalls
import Derived.RangeFuncLeaves
import Derived.RangeFuncBox
import Derived.Shelf.Abstract
import Derived.Shelf.RegionOpen
import Derived.OwnWalkIn
import Derived.TacticsInMore
import Derived.LoopNIn
import Derived.LoopIn
import Derived.Shelf.Sort.Plain
import Derived.Ground.Names2Prog
import Derived.Shelf.Slices.Clone
import Derived.Ground.SlsfProg
import Derived.Shelf.SlSortCmp.Whole1
import Derived.Shelf.SlSortCmp.NoneTotal
import Derived.Sort.OwnSortedInts
import Derived.Maps.OwnIn
import Derived.Test.YtldgmneijipbjaaMs0
/- YtldgmneijipbjaaPPartsx1 -/
section
-- PRINTED BY print.sh 35421559b90ae4d0a3588c463048766b98c2df88dd9212a6774a882060cdf62d: not written by this session
namespace Go.Proofs.Ytldgmneijipbjaa.PParts
open Go.RowKit Go.Proofs.YtldgmneijipbjaaW.PrintWords Go.Proofs.YtldgmneijipbjaaW.PrintLast Go.Proofs.YtldgmneijipbjaaW.PrintMore
attribute [local go_sem] max2_int min2_int max_two min_two max_three min_three max_four min_four   -- for this text's walks alone
set_option linter.unusedVariables false
set_option linter.unusedSimpArgs false

/-! ### gussetref11_Check: function 9 -/
mutual
def gussetref11_Check.l0 : Nat → List (List Int) → Int → Option (Int)
  | 0, _, _ => none
  | k + 1, x0, x3 => if x3 < (x0.length : Int) then (gussetref11_Check.l1 k x0 x3 0) else (some 0)
def gussetref11_Check.l1 : Nat → List (List Int) → Int → Int → Option (Int)
  | 0, _, _, _ => none
  | k + 1, x0, x3, x4 => if 0 ≤ x3 then (if x3 < (x0.length : Int) then (if x4 < ((rd_L1 x0 x3).length : Int) then (if 0 ≤ x4 then (if (rd (rd_L1 x0 x3) x4) < 0 then (some 110) else (if (rd (rd_L1 x0 x3) x4) ≥ (x0.length : Int) then (some 110) else (gussetref11_Check.l1 k x0 x3 (wrap64 (x4 + 1))))) else (none)) else (gussetref11_Check.l0 k x0 (wrap64 (x3 + 1)))) else (none)) else (none)
end
def gussetref11_Check.f (k : Nat) (l0 : List (List Int)) : Option (Int) := gussetref11_Check.l0 k l0 0
theorem gussetref11_Check.mono_l : ∀ k, (∀ y0 y1, LeO (gussetref11_Check.l0 k y0 y1) (gussetref11_Check.l0 (k + 1) y0 y1)) ∧ (∀ y0 y1 y2, LeO (gussetref11_Check.l1 k y0 y1 y2) (gussetref11_Check.l1 (k + 1) y0 y1 y2))
  | 0 => ⟨fun _ _ r h => by simp [gussetref11_Check.l0] at h, fun _ _ _ r h => by simp [gussetref11_Check.l1] at h⟩
  | k + 1 => by
    obtain ⟨ih0, ih1⟩ := gussetref11_Check.mono_l k
    refine ⟨?_, ?_⟩
    · intro y0 y1
      unfold gussetref11_Check.l0
      repeat' first
      | (with_reducible exact ih0 _ _)
      | (with_reducible exact ih1 _ _ _)
      | (with_reducible exact LeO.refl _)
      | (with_reducible exact LeO.none _)
      | (with_reducible refine LeO.ite ?_ ?_)
      | (with_reducible refine LeO.bind ?_ (fun _ => ?_))
      | exact ih0 _ _
      | exact ih1 _ _ _
      | exact LeO.none _
      | refine LeO.ite ?_ ?_
      | refine LeO.bind ?_ (fun _ => ?_)
    · intro y0 y1 y2
      unfold gussetref11_Check.l1
      repeat' first
      | (with_reducible exact ih0 _ _)
      | (with_reducible exact ih1 _ _ _)
      | (with_reducible exact LeO.refl _)
      | (with_reducible exact LeO.none _)
      | (with_reducible refine LeO.ite ?_ ?_)
      | (with_reducible refine LeO.bind ?_ (fun _ => ?_))
      | exact ih0 _ _
      | exact ih1 _ _ _
      | exact LeO.none _
      | refine LeO.ite ?_ ?_
      | refine LeO.bind ?_ (fun _ => ?_)
theorem gussetref11_Check.mono : ∀ a0 k, LeO (gussetref11_Check.f k a0) (gussetref11_Check.f (k + 1) a0) := by
  intro a0 k
  obtain ⟨ih0, ih1⟩ := gussetref11_Check.mono_l k
  unfold gussetref11_Check.f
  repeat' first
      | (with_reducible exact ih0 _ _)
      | (with_reducible exact ih1 _ _ _)
      | (with_reducible exact LeO.refl _)
      | (with_reducible exact LeO.none _)
      | (with_reducible refine LeO.ite ?_ ?_)
      | (with_reducible refine LeO.bind ?_ (fun _ => ?_))
      | exact ih0 _ _
      | exact ih1 _ _ _
      | exact LeO.none _
      | refine LeO.ite ?_ ?_
      | refine LeO.bind ?_ (fun _ => ?_)
set_option maxHeartbeats 8000000 in
set_option maxRecDepth 100000 in
theorem gussetref11_Check.calls (k : Nat) (A0 : Option Addr) (c0 : Nat) (l0 : List (List Int)) (r : Int) (w : World) (hr0 : Kd.C (Kd.slice 3 (Kd.int .i64)) w A0 l0.length l0) (hc0 : l0.length ≤ c0) (h : gussetref11_Check.f k l0 = some r) :
    Calls Try.prog 9 #[.slice A0 l0.length c0] w fun e w' => e = .returned (.int .i64 r) ∧ Drawn0 w w' := by
  have HR0 := Aside0.mk hr0
  have HC0 := Aside0.mk hc0
  clear hr0 hc0
  have H : (gussetref11_Check.l0 k l0 0) = some r := h
  clear h
  have H' := Aside0.mk H
  clear H
  go_enter Try.func9, Try.ntmps9
  go_wp2
  go_loopg [3] k (fun kq v3 w' => ∃ (x3_1 : Int), v3 = .int .i64 x3_1 ∧ Aside0 (gussetref11_Check.l0 kq l0 x3_1 = some r) ∧ Aside0 (kq ≤ k) ∧ Drawn0 w w')
  case atStart => exact ⟨(0), (by first | rfl | (simp; done) | (simp [*]; done)), H', ⟨Nat.le_refl _⟩, by repeat (first | exact Drawn0.refl _ | apply Drawn0.step)⟩
  case round =>
    clear H'
    obtain ⟨x3_1, rfl, HA, HK1, ⟨m1, rfl⟩⟩ := hrel
    cases gk with
    | zero => exact absurd HA.out (by simp [gussetref11_Check.l0])
    | succ k1 =>
      have H := HA.out
      clear HA
      simp only [gussetref11_Check.l0] at H
      by_cases c2 : x3_1 < (l0.length : Int)
      · rw [if_pos c2] at H
        have c2b0 : decide (x3_1 < (l0.length : Int)) = true := decide_eq_true c2
        clear c2
        have H' := Aside0.mk H
        clear H
        go_wp2
        go_loopg [4] k1 (fun kq v4 w' => ∃ (x4_2 : Int), v4 = .int .i64 x4_2 ∧ Aside0 (gussetref11_Check.l1 kq l0 x3_1 x4_2 = some r) ∧ Aside0 (kq ≤ k1) ∧ Drawn0 w w')
        case atStart => exact ⟨(0), (by first | rfl | (simp; done) | (simp [*]; done)), H', ⟨Nat.le_refl _⟩, by repeat (first | exact Drawn0.refl _ | apply Drawn0.step)⟩
        case round =>
          clear H'
          try clear c2
          try clear c2b0
          try clear p2
          obtain ⟨x4_2, rfl, HA, HK2, ⟨m2, rfl⟩⟩ := hrel
          cases gk with
          | zero => exact absurd HA.out (by simp [gussetref11_Check.l1])
          | succ k2 =>
            have H := HA.out
            clear HA
            simp only [gussetref11_Check.l1] at H
            by_cases c3 : 0 ≤ x3_1
            · rw [if_pos c3] at H
              have c3b0 : decide (0 ≤ x3_1) = true := decide_eq_true c3
              clear c3
              by_cases c4 : x3_1 < (l0.length : Int)
              · rw [if_pos c4] at H
                have c4b0 : decide (x3_1 < (l0.length : Int)) = true := decide_eq_true c4
                clear c4
                by_cases c5 : x4_2 < ((rd_L1 l0 x3_1).length : Int)
                · rw [if_pos c5] at H
                  have c5b0 : decide (x4_2 < ((rd_L1 l0 x3_1).length : Int)) = true := decide_eq_true c5
                  clear c5
                  by_cases c6 : 0 ≤ x4_2
                  · rw [if_pos c6] at H
                    have c6b0 : decide (0 ≤ x4_2) = true := decide_eq_true c6
                    clear c6
                    by_cases c7 : (rd (rd_L1 l0 x3_1) x4_2) < 0
                    · rw [if_pos c7] at H
                      have c7b0 : decide ((rd (rd_L1 l0 x3_1) x4_2) < 0) = true := decide_eq_true c7
                      clear c7
                      obtain rfl := Option.some.inj H
                      have p101 : 0 ≤ (x3_1 : Int) := of_decide_eq_true (by first | (with_reducible assumption) | assumption)
                      have q101 : x3_1 < (l0.length : Int) := of_decide_eq_true (by first | (with_reducible assumption) | assumption)
                      obtain ⟨ad101, A101_0, c101_0, e101, hx101_0, hl101_0, hi101_0⟩ := at_L1 HR0.out x3_1 p101 q101
                      cases e101
                      have HR101_0 := Aside0.mk hi101_0
                      have HC101_0 := Aside0.mk hl101_0
                      clear hi101_0 hl101_0
                      replace p101 := eq_true p101
                      replace q101 := eq_true q101
                      have p102 : 0 ≤ (x3_1 : Int) := of_decide_eq_true (by first | (with_reducible assumption) | assumption)
                      have q102 : x3_1 < (l0.length : Int) := of_decide_eq_true (by first | (with_reducible assumption) | assumption)
                      obtain ⟨ad102, A102_0, c102_0, e102, hx102_0, hl102_0, hi102_0⟩ := at_L1 HR0.out x3_1 p102 q102
                      obtain rfl : ad101 = ad102 := (by injection e102)
                      have HR102_0 := Aside0.mk hi102_0
                      have HC102_0 := Aside0.mk hl102_0
                      clear hi102_0 hl102_0
                      replace p102 := eq_true p102
                      replace q102 := eq_true q102
                      have ea_ := Option.some.inj (hx101_0.symm.trans hx102_0)
                      injection ea_ with ea_ en_ ec_
                      subst ea_
                      subst ec_
                      clear en_
                      have p103 : 0 ≤ (x4_2 : Int) := of_decide_eq_true (by first | (with_reducible assumption) | assumption)
                      have q103 : x4_2 < ((rd_L1 l0 x3_1).length : Int) := of_decide_eq_true (by first | (with_reducible assumption) | assumption)
                      obtain ⟨ad103, e103, hx103_0⟩ := Kd.at_int HR102_0.out x4_2 p103 q103
                      cases e103
                      replace p103 := eq_true p103
                      replace q103 := eq_true q103
                      go_wp2
                      go_ret
                      exact ⟨by first | rfl | (simp; done) | (simp [*]; done), by repeat (first | exact Drawn0.refl _ | apply Drawn0.step)⟩
                    · rw [if_neg c7] at H
                      have c7b0 : decide ((rd (rd_L1 l0 x3_1) x4_2) < 0) = false := decide_eq_false c7
                      clear c7
                      by_cases c8 : (rd (rd_L1 l0 x3_1) x4_2) ≥ (l0.length : Int)
                      · rw [if_pos c8] at H
                        have c8b0 : decide ((l0.length : Int) ≤ (rd (rd_L1 l0 x3_1) x4_2)) = true := decide_eq_true c8
                        clear c8
                        obtain rfl := Option.some.inj H
                        have p101 : 0 ≤ (x3_1 : Int) := of_decide_eq_true (by first | (with_reducible assumption) | assumption)
                        have q101 : x3_1 < (l0.length : Int) := of_decide_eq_true (by first | (with_reducible assumption) | assumption)
                        obtain ⟨ad101, A101_0, c101_0, e101, hx101_0, hl101_0, hi101_0⟩ := at_L1 HR0.out x3_1 p101 q101
                        cases e101
                        have HR101_0 := Aside0.mk hi101_0
                        have HC101_0 := Aside0.mk hl101_0
                        clear hi101_0 hl101_0
                        replace p101 := eq_true p101
                        replace q101 := eq_true q101
                        have p102 : 0 ≤ (x3_1 : Int) := of_decide_eq_true (by first | (with_reducible assumption) | assumption)
                        have q102 : x3_1 < (l0.length : Int) := of_decide_eq_true (by first | (with_reducible assumption) | assumption)
                        obtain ⟨ad102, A102_0, c102_0, e102, hx102_0, hl102_0, hi102_0⟩ := at_L1 HR0.out x3_1 p102 q102
                        obtain rfl : ad101 = ad102 := (by injection e102)
                        have HR102_0 := Aside0.mk hi102_0
                        have HC102_0 := Aside0.mk hl102_0
                        clear hi102_0 hl102_0
                        replace p102 := eq_true p102
                        replace q102 := eq_true q102
                        have ea_ := Option.some.inj (hx101_0.symm.trans hx102_0)
                        injection ea_ with ea_ en_ ec_
                        subst ea_
                        subst ec_
                        clear en_
                        have p103 : 0 ≤ (x4_2 : Int) := of_decide_eq_true (by first | (with_reducible assumption) | assumption)
                        have q103 : x4_2 < ((rd_L1 l0 x3_1).length : Int) := of_decide_eq_true (by first | (with_reducible assumption) | assumption)
                        obtain ⟨ad103, e103, hx103_0⟩ := Kd.at_int HR102_0.out x4_2 p103 q103
                        cases e103
                        replace p103 := eq_true p103
                        replace q103 := eq_true q103
                        have p104 : 0 ≤ (x3_1 : Int) := of_decide_eq_true (by first | (with_reducible assumption) | assumption)
                        have q104 : x3_1 < (l0.length : Int) := of_decide_eq_true (by first | (with_reducible assumption) | assumption)
                        obtain ⟨ad104, A104_0, c104_0, e104, hx104_0, hl104_0, hi104_0⟩ := at_L1 HR0.out x3_1 p104 q104
                        obtain rfl : ad101 = ad104 := (by injection e104)
                        have HR104_0 := Aside0.mk hi104_0
                        have HC104_0 := Aside0.mk hl104_0
                        clear hi104_0 hl104_0
                        replace p104 := eq_true p104
                        replace q104 := eq_true q104
                        have ea_ := Option.some.inj (hx101_0.symm.trans hx104_0)
                        injection ea_ with ea_ en_ ec_
                        subst ea_
                        subst ec_
                        clear en_
                        have p105 : 0 ≤ (x4_2 : Int) := of_decide_eq_true (by first | (with_reducible assumption) | assumption)
                        have q105 : x4_2 < ((rd_L1 l0 x3_1).length : Int) := of_decide_eq_true (by first | (with_reducible assumption) | assumption)
                        obtain ⟨ad105, e105, hx105_0⟩ := Kd.at_int HR104_0.out x4_2 p105 q105
                        cases e105
                        replace p105 := eq_true p105
                        replace q105 := eq_true q105
                        go_wp2
                        go_ret
                        exact ⟨by first | rfl | (simp; done) | (simp [*]; done), by repeat (first | exact Drawn0.refl _ | apply Drawn0.step)⟩
                      · rw [if_neg c8] at H
                        have c8b0 : decide ((l0.length : Int) ≤ (rd (rd_L1 l0 x3_1) x4_2)) = false := decide_eq_false c8
                        clear c8
                        have H' := Aside0.mk H
                        clear H
                        have p101 : 0 ≤ (x3_1 : Int) := of_decide_eq_true (by first | (with_reducible assumption) | assumption)
                        have q101 : x3_1 < (l0.length : Int) := of_decide_eq_true (by first | (with_reducible assumption) | assumption)
                        obtain ⟨ad101, A101_0, c101_0, e101, hx101_0, hl101_0, hi101_0⟩ := at_L1 HR0.out x3_1 p101 q101
                        cases e101
                        have HR101_0 := Aside0.mk hi101_0
                        have HC101_0 := Aside0.mk hl101_0
                        clear hi101_0 hl101_0
                        replace p101 := eq_true p101
                        replace q101 := eq_true q101
                        have p102 : 0 ≤ (x3_1 : Int) := of_decide_eq_true (by first | (with_reducible assumption) | assumption)
                        have q102 : x3_1 < (l0.length : Int) := of_decide_eq_true (by first | (with_reducible assumption) | assumption)
                        obtain ⟨ad102, A102_0, c102_0, e102, hx102_0, hl102_0, hi102_0⟩ := at_L1 HR0.out x3_1 p102 q102
                        obtain rfl : ad101 = ad102 := (by injection e102)
                        have HR102_0 := Aside0.mk hi102_0
                        have HC102_0 := Aside0.mk hl102_0
                        clear hi102_0 hl102_0
                        replace p102 := eq_true p102
                        replace q102 := eq_true q102
                        have ea_ := Option.some.inj (hx101_0.symm.trans hx102_0)
                        injection ea_ with ea_ en_ ec_
                        subst ea_
                        subst ec_
                        clear en_
                        have p103 : 0 ≤ (x4_2 : Int) := of_decide_eq_true (by first | (with_reducible assumption) | assumption)
                        have q103 : x4_2 < ((rd_L1 l0 x3_1).length : Int) := of_decide_eq_true (by first | (with_reducible assumption) | assumption)
                        obtain ⟨ad103, e103, hx103_0⟩ := Kd.at_int HR102_0.out x4_2 p103 q103
                        cases e103
                        replace p103 := eq_true p103
                        replace q103 := eq_true q103
                        have p104 : 0 ≤ (x3_1 : Int) := of_decide_eq_true (by first | (with_reducible assumption) | assumption)
                        have q104 : x3_1 < (l0.length : Int) := of_decide_eq_true (by first | (with_reducible assumption) | assumption)
                        obtain ⟨ad104, A104_0, c104_0, e104, hx104_0, hl104_0, hi104_0⟩ := at_L1 HR0.out x3_1 p104 q104
                        obtain rfl : ad101 = ad104 := (by injection e104)
                        have HR104_0 := Aside0.mk hi104_0
                        have HC104_0 := Aside0.mk hl104_0
                        clear hi104_0 hl104_0
                        replace p104 := eq_true p104
                        replace q104 := eq_true q104
                        have ea_ := Option.some.inj (hx101_0.symm.trans hx104_0)
                        injection ea_ with ea_ en_ ec_
                        subst ea_
                        subst ec_
                        clear en_
                        have p105 : 0 ≤ (x4_2 : Int) := of_decide_eq_true (by first | (with_reducible assumption) | assumption)
                        have q105 : x4_2 < ((rd_L1 l0 x3_1).length : Int) := of_decide_eq_true (by first | (with_reducible assumption) | assumption)
                        obtain ⟨ad105, e105, hx105_0⟩ := Kd.at_int HR104_0.out x4_2 p105 q105
                        cases e105
                        replace p105 := eq_true p105
                        replace q105 := eq_true q105
                        go_wp2
                        go_roundg k2
                        case measure => have := HK1.out; have := HK2.out; omega
                        case rel => exact ⟨(wrap64 (x4_2 + 1)), (by first | rfl | (simp; done) | (simp [*]; done)), H', ⟨by have := HK1.out; have := HK2.out; omega⟩, by repeat (first | exact Drawn0.refl _ | apply Drawn0.step)⟩
                  · rw [if_neg c6] at H
                    exact absurd H (by simp)
                · rw [if_neg c5] at H
                  have c5b0 : decide (x4_2 < ((rd_L1 l0 x3_1).length : Int)) = false := decide_eq_false c5
                  clear c5
                  have H' := Aside0.mk H
                  clear H
                  have p101 : 0 ≤ (x3_1 : Int) := of_decide_eq_true (by first | (with_reducible assumption) | assumption)
                  have q101 : x3_1 < (l0.length : Int) := of_decide_eq_true (by first | (with_reducible assumption) | assumption)
                  obtain ⟨ad101, A101_0, c101_0, e101, hx101_0, hl101_0, hi101_0⟩ := at_L1 HR0.out x3_1 p101 q101
                  cases e101
                  have HR101_0 := Aside0.mk hi101_0
                  have HC101_0 := Aside0.mk hl101_0
                  clear hi101_0 hl101_0
                  replace p101 := eq_true p101
                  replace q101 := eq_true q101
                  go_wp2
                  go_roundg k2
                  case measure => have := HK1.out; have := HK2.out; omega
                  case rel => exact ⟨(wrap64 (x3_1 + 1)), (by first | rfl | (simp; done) | (simp [*]; done)), H', ⟨by have := HK1.out; have := HK2.out; omega⟩, by repeat (first | exact Drawn0.refl _ | apply Drawn0.step)⟩
              · rw [if_neg c4] at H
                exact absurd H (by simp)
            · rw [if_neg c3] at H
              exact absurd H (by simp)
      · rw [if_neg c2] at H
        have c2b0 : decide (x3_1 < (l0.length : Int)) = false := decide_eq_false c2
        clear c2
        obtain rfl := Option.some.inj H
        go_wp2
        go_ret
        exact ⟨by first | rfl | (simp; done) | (simp [*]; done), by repeat (first | exact Drawn0.refl _ | apply Drawn0.step)⟩

/-! ### gussetref11_reach: function 25 -/
mutual
def gussetref11_reach.l0 : Nat → List (List Int) → List Bool → List Int → Option (List Bool)
  | 0, _, _, _ => none
  | k + 1, x0, x5, x6 => if (x6.length : Int) > 0 then (if 0 ≤ (wrap64 ((x6.length : Int) - 1)) then (if (wrap64 ((x6.length : Int) - 1)) < (x6.length : Int) then (if (wrap64 ((x6.length : Int) - 1)) ≤ (x6.length : Int) then (gussetref11_reach.l1 k x0 x5 (x6.take ((wrap64 ((x6.length : Int) - 1)) : Int).toNat) (rd x6 (wrap64 ((x6.length : Int) - 1))) 0) else (none)) else (none)) else (none)) else (some x5)
def gussetref11_reach.l1 : Nat → List (List Int) → List Bool → List Int → Int → Int → Option (List Bool)
  | 0, _, _, _, _, _ => none
  | k + 1, x0, x5, x6, x7, x8 => if 0 ≤ x7 then (if x7 < (x0.length : Int) then (if x8 < ((rd_L1 x0 x7).length : Int) then (if 0 ≤ x8 then (if 0 ≤ (rd (rd_L1 x0 x7) x8) then (if (rd (rd_L1 x0 x7) x8) < (x5.length : Int) then (if (rdOf false x5 (rd (rd_L1 x0 x7) x8) = true) then (gussetref11_reach.l1 k x0 x5 x6 x7 (wrap64 (x8 + 1))) else (if x6.length < 17592186044416 then (gussetref11_reach.l1 k x0 (x5.set ((rd (rd_L1 x0 x7) x8) : Int).toNat true) (x6 ++ [rd (rd_L1 x0 x7) x8]) x7 (wrap64 (x8 + 1))) else (none))) else (none)) else (none)) else (none)) else (gussetref11_reach.l0 k x0 x5 x6)) else (none)) else (none)
end
def gussetref11_reach.f (k : Nat) (l0 : List (List Int)) (a1 : Int) : Option (List Bool) := if 0 ≤ (l0.length : Int) then (if ((l0.length : Int) : Int).toNat ≤ 281474976710656 then ((some (List.replicate ((l0.length : Int) : Int).toNat false : List Bool)).bind fun y106 => (if 0 ≤ a1 then (if a1 < (y106.length : Int) then (gussetref11_reach.l0 k l0 (y106.set (a1 : Int).toNat true) (([a1] : List Int))) else (none)) else (none))) else (none)) else (none)
theorem gussetref11_reach.mono_l : ∀ k, (∀ y0 y1 y2, LeO (gussetref11_reach.l0 k y0 y1 y2) (gussetref11_reach.l0 (k + 1) y0 y1 y2)) ∧ (∀ y0 y1 y2 y3 y4, LeO (gussetref11_reach.l1 k y0 y1 y2 y3 y4) (gussetref11_reach.l1 (k + 1) y0 y1 y2 y3 y4))
  | 0 => ⟨fun _ _ _ r h => by simp [gussetref11_reach.l0] at h, fun _ _ _ _ _ r h => by simp [gussetref11_reach.l1] at h⟩
  | k + 1 => by
    obtain ⟨ih0, ih1⟩ := gussetref11_reach.mono_l k
    refine ⟨?_, ?_⟩
    · intro y0 y1 y2
      unfold gussetref11_reach.l0
      repeat' first
      | (with_reducible exact ih0 _ _ _)
      | (with_reducible exact ih1 _ _ _ _ _)
      | (with_reducible exact LeO.refl _)
      | (with_reducible exact LeO.none _)
      | (with_reducible refine LeO.ite ?_ ?_)
      | (with_reducible refine LeO.bind ?_ (fun _ => ?_))
      | exact ih0 _ _ _
      | exact ih1 _ _ _ _ _
      | exact LeO.none _
      | refine LeO.ite ?_ ?_
      | refine LeO.bind ?_ (fun _ => ?_)
    · intro y0 y1 y2 y3 y4
      unfold gussetref11_reach.l1
      repeat' first
      | (with_reducible exact ih0 _ _ _)
      | (with_reducible exact ih1 _ _ _ _ _)
      | (with_reducible exact LeO.refl _)
      | (with_reducible exact LeO.none _)
      | (with_reducible refine LeO.ite ?_ ?_)
      | (with_reducible refine LeO.bind ?_ (fun _ => ?_))
      | exact ih0 _ _ _
      | exact ih1 _ _ _ _ _
      | exact LeO.none _
      | refine LeO.ite ?_ ?_
      | refine LeO.bind ?_ (fun _ => ?_)
theorem gussetref11_reach.mono : ∀ a0 a1 k, LeO (gussetref11_reach.f k a0 a1) (gussetref11_reach.f (k + 1) a0 a1) := by
  intro a0 a1 k
  obtain ⟨ih0, ih1⟩ := gussetref11_reach.mono_l k
  unfold gussetref11_reach.f
  repeat' first
      | (with_reducible exact ih0 _ _ _)
      | (with_reducible exact ih1 _ _ _ _ _)
      | (with_reducible exact LeO.refl _)
      | (with_reducible exact LeO.none _)
      | (with_reducible refine LeO.ite ?_ ?_)
      | (with_reducible refine LeO.bind ?_ (fun _ => ?_))
      | exact ih0 _ _ _
      | exact ih1 _ _ _ _ _
      | exact LeO.none _
      | refine LeO.ite ?_ ?_
      | refine LeO.bind ?_ (fun _ => ?_)
set_option maxHeartbeats 8000000 in
set_option maxRecDepth 100000 in
theorem gussetref11_reach.calls (k : Nat) (A0 : Option Addr) (c0 : Nat) (l0 : List (List Int)) (a1 : Int) (r : List Bool) (w : World) (hr0 : Kd.C (Kd.slice 3 (Kd.int .i64)) w A0 l0.length l0) (hc0 : l0.length ≤ c0) (h : gussetref11_reach.f k l0 a1 = some r) :
    Calls Try.prog 25 #[.slice A0 l0.length c0, .int .i64 a1] w fun e w' => ∃ v0_ : Value, e = .returned (v0_) ∧ Kd.R Kd.bool 4 w' w.heap.size (fun _ => True) v0_ r ∧ Below w.heap.size w w' := by
  have HR0 := Aside0.mk hr0
  have HC0 := Aside0.mk hc0
  clear hr0 hc0
  have HB := Aside0.mk (Below.refl w.heap.size w)
  have H : (if 0 ≤ (l0.length : Int) then (if ((l0.length : Int) : Int).toNat ≤ 281474976710656 then ((some (List.replicate ((l0.length : Int) : Int).toNat false : List Bool)).bind fun y106 => (if 0 ≤ a1 then (if a1 < (y106.length : Int) then (gussetref11_reach.l0 k l0 (y106.set (a1 : Int).toNat true) (([a1] : List Int))) else (none)) else (none))) else (none)) else (none)) = some r := h
  clear h
  by_cases c3 : 0 ≤ (l0.length : Int)
  · rw [if_pos c3] at H
    have c3b0 := eq_true c3
    have c3b1 : decide (0 ≤ (l0.length : Int)) = true := decide_eq_true c3
    clear c3
    by_cases c4 : ((l0.length : Int) : Int).toNat ≤ 281474976710656
    · rw [if_pos c4] at H
      have c4b0 := eq_true c4
      have c4b1 : decide (((l0.length : Int) : Int).toNat ≤ 281474976710656) = true := decide_eq_true c4
      clear c4
      obtain ⟨y106, hy106⟩ : ∃ y_ : List Bool, y_ = (List.replicate ((l0.length : Int) : Int).toNat false) := ⟨_, rfl⟩
      replace H : (if 0 ≤ a1 then (if a1 < (y106.length : Int) then (gussetref11_reach.l0 k l0 (y106.set (a1 : Int).toNat true) (([a1] : List Int))) else (none)) else (none)) = some r := by first | (rw [hy106]; with_reducible exact H) | (have H2_ := (Option.bind_some _ _).symm.trans H; rw [hy106]; with_reducible exact H2_) | (have H2_ := (Option.bind_some _ _).symm.trans H; with_reducible exact H2_) | with_reducible exact H | (rw [hy106]; exact H) | exact H
      have Ny106 := Aside0.mk hy106
      clear hy106
      by_cases c5 : 0 ≤ a1
      · rw [if_pos c5] at H
        have c5b0 : decide (0 ≤ a1) = true := decide_eq_true c5
        clear c5
        by_cases c6 : a1 < (y106.length : Int)
        · rw [if_pos c6] at H
          have c6b0 : decide (a1 < (y106.length : Int)) = true := decide_eq_true c6
          clear c6
          obtain ⟨y109, hy109⟩ : ∃ y_ : List Bool, y_ = (y106.set (a1 : Int).toNat true) := ⟨_, rfl⟩
          replace H : (gussetref11_reach.l0 k l0 y109 (([a1] : List Int))) = some r := by first | (rw [hy109]; with_reducible exact H) | (have H2_ := (Option.bind_some _ _).symm.trans H; rw [hy109]; with_reducible exact H2_) | (have H2_ := (Option.bind_some _ _).symm.trans H; with_reducible exact H2_) | with_reducible exact H | (rw [hy109]; exact H) | exact H
          have Ny109 := Aside0.mk hy109
          clear hy109
          obtain ⟨y110, hy110⟩ : ∃ y_ : List Int, y_ = (([a1] : List Int)) := ⟨_, rfl⟩
          replace H : (gussetref11_reach.l0 k l0 y109 y110) = some r := by first | (rw [hy110]; with_reducible exact H) | (have H2_ := (Option.bind_some _ _).symm.trans H; rw [hy110]; with_reducible exact H2_) | (have H2_ := (Option.bind_some _ _).symm.trans H; with_reducible exact H2_) | with_reducible exact H | (rw [hy110]; exact H) | exact H
          have Ny110 := Aside0.mk hy110
          clear hy110
          have H' := Aside0.mk H
          clear H
          go_enter Try.func25, Try.ntmps25
          go_wp2_with (first | ((with_reducible refine gate_dst (N := 12) rfl ?_); refine Kd.R_make Kd.bool _ 4 rfl (N := 12) rfl 41 _ _ rfl (l0.length : Int) rfl rfl Try.underlying41 (.bool false) 1 info4 rfl (by decide) (by omega) false (ok := fun _ => True) (okp := fun _ => True) rfl (fun _ hk => hk) trivial (of_decide_eq_true (by first | (with_reducible assumption) | assumption)) (Nat.le_trans (Nat.mul_le_mul_right _ (of_decide_eq_true (by first | (with_reducible assumption) | assumption) : (l0.length : Int).toNat ≤ 281474976710656)) (by omega)) (Below.refl _ _) (Nat.le_refl _) ?_; intro v107 w8 ho9 hb hg_ hnew_; clear hg_ hnew_; (first | rw [← Ny106.out] at ho9 | (simp only [Int.reduceToNat] at ho9; rw [← Ny106.out] at ho9)); have n0_ := Aside0.mk (Kd.R_lower ho9 (below_size (by repeat (first | (with_reducible first | exact HB.out | apply below_alloc | apply pw_below_drewN | apply below_drew1) | exact HB.out)))); have n1_ := Aside0.mk (below_step (by repeat (first | (with_reducible first | exact HB.out | apply below_alloc | apply pw_below_drewN | apply below_drew1) | exact HB.out)) hb); clear HB; have HO108 := n0_; have HB := n1_; clear n0_ n1_; clear hb ho9; have p7 : 0 ≤ (a1 : Int) := of_decide_eq_true (by first | (with_reducible assumption) | assumption); have q7 : (a1 : Int) < ((y106.length : Int) : Int) := of_decide_eq_true (by first | (with_reducible assumption) | assumption); obtain ⟨go7, co7, eo7, gb7, gl7, cl7, HG7⟩ := Kd.R_form HO108.out (by omega); (first | cases eo7 | (injection eo7 with ea_ en_ ec_; (first | subst ea_ | (injection ea_ with ea_; subst ea_)); subst ec_; clear en_)); have GB7 := Aside0.mk gb7; have GG7 := Aside0.mk HG7; clear gb7 gl7 HG7; obtain ⟨hx7_0, hf7_0⟩ := Kd.R_celln false HO108.out (a1 : Int) p7 q7; replace p7 := eq_true p7; replace q7 := eq_true q7; obtain ⟨hy10_, hz10_⟩ := Kd.R_celln false HO108.out (a1 : Int) (of_decide_eq_true (by first | (with_reducible assumption) | assumption)) (of_decide_eq_true (by first | (with_reducible assumption) | assumption)); have HP10 := Kd.R_putg HO108.out (a1 : Int) true) | ((with_reducible refine gate_store (t := 4) (p := 15) rfl ?_); refine store_event (t := 4) (p := 15) (v := ?vo_w11) (w1 := (w8.setCell ⟨go7, (a1 : Int).toNat, none⟩ (.bool true))) ?hg ?ho ?hn ?hr ?_; (case ho => rfl); (case hg => rfl); (case hn => rfl); (case hr => first | (go_simp; done) | (go_simp; rfl)); intro w11 hw; have hg : w8.grownBy w11 (some go7) := (by rw [hw]; exact HP10.2); have hp_ : Kd.R Kd.bool 4 w11 w.heap.size (fun _ => True) (.slice (some ⟨go7, 0, none⟩) y106.length co7) y109 := (by rw [hw, Ny109.out]; exact HP10.1); clear HP10; have n0_ := Aside0.mk (hp_); have n1_ := Aside0.mk ((by rw [hw]; exact below_set (HB.out) GB7.out : Below w.heap.size w w11)); clear HO108; clear HB; have HO108 := n0_; have HB := n1_; clear n0_ n1_; clear hg hw hp_) | ((with_reducible refine gate_dst (N := 17) rfl ?_); refine Kd.R_lit (Kd.int .i64) _ 3 ?hg (N := 17) ?hd (xs := ([a1] : List Int)) (inner := [.int .i64 a1]) (ok := fun _ => True) (okp := fun _ => True) ?hr ?hp (fun _ hk => hk) trivial (Below.refl _ _) (Nat.le_refl _) (by simp) ?_; (case hd => rfl); (case hg => rfl); (case hr => first | (go_simp; done) | (go_simp; rfl)); (case hp => exact (Reps.one (show Kd.M (Kd.int .i64) _ _ _ a1 [.int .i64 a1] from rfl) (Reps.none _ _))); intro v111 w12 ho13 hb hg_ hnew_; clear hg_ hnew_; (first | rw [← Ny110.out] at ho13 | (simp only [Int.reduceToNat] at ho13; rw [← Ny110.out] at ho13)); have n0_ := Aside0.mk (Kd.R_below (by (with_reducible repeat (first | apply Kd.R_alloc | apply Kd.R_drewN | apply Kd.R_drew)); exact HO108.out) hb); have n1_ := Aside0.mk (Kd.R_lower ho13 (below_size (by repeat (first | (with_reducible first | exact HB.out | apply below_alloc | apply pw_below_drewN | apply below_drew1) | exact HB.out)))); have n2_ := Aside0.mk (below_step (by repeat (first | (with_reducible first | exact HB.out | apply below_alloc | apply pw_below_drewN | apply below_drew1) | exact HB.out)) hb); clear HO108; clear HB; have HO108 := n0_; have HO112 := n1_; have HB := n2_; clear n0_ n1_ n2_; clear hb ho13))
          go_loopg [6] k (fun kq v6 w' => ∃ (x5_1 : List Bool) (x6_1 : List Int), Aside0 (gussetref11_reach.l0 kq l0 x5_1 x6_1 = some r) ∧ Aside0 (kq ≤ k) ∧ Aside0 (Kd.R Kd.bool 4 w' w.heap.size (fun _ => True) (.slice (some ⟨go7, 0, none⟩) y106.length co7) x5_1) ∧ Aside0 (Kd.R (Kd.int .i64) 3 w' w.heap.size (fun _ => True) v6 x6_1) ∧ Aside0 (Below w.heap.size w w'))
          case atStart => exact ⟨(y109), (y110), H', ⟨Nat.le_refl _⟩, ⟨by (with_reducible repeat (first | apply Kd.R_alloc | apply Kd.R_drewN | apply Kd.R_drew)); exact HO108.out⟩, ⟨by (with_reducible repeat (first | apply Kd.R_alloc | apply Kd.R_drewN | apply Kd.R_drew)); exact HO112.out⟩, ⟨by repeat (first | (with_reducible first | exact HB.out | apply below_alloc | apply pw_below_drewN | apply below_drew1) | exact HB.out)⟩⟩
          case round =>
            clear H'
            try clear c2
            try clear p2
            try clear c3
            try clear c3b0
            try clear c3b1
            try clear c4
            try clear c4b0
            try clear c4b1
            try clear c5
            try clear c5b0
            try clear c6
            try clear c6b0
            try clear p7
            try clear q7
            try clear hx7
            try clear hf7
            try clear hx7_0
            try clear p7
            try clear q7
            obtain ⟨x5_1, x6_1, HA, HK1, HO_5, HO_6, HB⟩ := hrel
            have hl5_1 := (Kd.R_reads' HO_5.out).1
            rw [hl5_1] at HO_5
            (try simp only [hl5_1])
            (try simp only [hl5_1] at HO_6)
            cases gk with
            | zero => exact absurd HA.out (by simp [gussetref11_reach.l0])
            | succ k1 =>
              have H := HA.out
              clear HA
              simp only [gussetref11_reach.l0] at H
              by_cases c14 : (x6_1.length : Int) > 0
              · rw [if_pos c14] at H
                have c14b0 : decide (0 < (x6_1.length : Int)) = true := decide_eq_true c14
                have c14b1 : decide (0 < x6_1.length) = true := decide_eq_true (by omega)
                clear c14
                obtain ⟨ji15, hji15⟩ : ∃ j_ : Int, (wrap64 ((x6_1.length : Int) - 1)) = j_ := ⟨_, rfl⟩
                replace H : (if 0 ≤ (ji15) then (if (ji15) < (x6_1.length : Int) then (if (ji15) ≤ (x6_1.length : Int) then (gussetref11_reach.l1 k1 l0 x5_1 (x6_1.take ((ji15) : Int).toNat) (rd x6_1 (ji15)) 0) else (none)) else (none)) else (none)) = some r := by first | (rw [hji15] at H; exact H) | (simp only [hji15] at H ⊢; exact H)
                have hji15w : (IntKind.i64.wrap ((x6_1.length : Int) - 1)) = ji15 := (i64_w _).trans hji15
                by_cases c16 : 0 ≤ (ji15)
                · rw [if_pos c16] at H
                  have c16b0 : decide (0 ≤ (ji15)) = true := decide_eq_true c16
                  clear c16
                  by_cases c17 : (ji15) < (x6_1.length : Int)
                  · rw [if_pos c17] at H
                    have c17b0 : decide ((ji15) < (x6_1.length : Int)) = true := decide_eq_true c17
                    clear c17
                    by_cases c18 : (ji15) ≤ (x6_1.length : Int)
                    · rw [if_pos c18] at H
                      have c18b0 := eq_true c18
                      have c18b1 : decide ((ji15) ≤ (x6_1.length : Int)) = true := decide_eq_true c18
                      clear c18
                      obtain ⟨y114, hy114⟩ : ∃ y_ : List Int, y_ = (x6_1.take ((ji15) : Int).toNat) := ⟨_, rfl⟩
                      replace H : (gussetref11_reach.l1 k1 l0 x5_1 y114 (rd x6_1 (ji15)) 0) = some r := by first | (rw [hy114]; with_reducible exact H) | (have H2_ := (Option.bind_some _ _).symm.trans H; rw [hy114]; with_reducible exact H2_) | (have H2_ := (Option.bind_some _ _).symm.trans H; with_reducible exact H2_) | with_reducible exact H | (rw [hy114]; exact H) | exact H
                      have Ny114 := Aside0.mk hy114
                      clear hy114
                      have H' := Aside0.mk H
                      clear H
                      obtain ⟨Ao19, co19, eo19⟩ := Kd.R_slice HO_6.out
                      subst eo19
                      have p113 : 0 ≤ ((ji15) : Int) := of_decide_eq_true (by first | (with_reducible assumption) | assumption)
                      have q113 : (ji15) < (x6_1.length : Int) := of_decide_eq_true (by first | (with_reducible assumption) | assumption)
                      obtain ⟨ad113, e113, hx113_0⟩ := Kd.at_int (Kd.R_reads' HO_6.out).2.2 (ji15) p113 q113
                      cases e113
                      replace p113 := eq_true p113
                      replace q113 := eq_true q113
                      have q20 : ((ji15) : Int) ≤ ((x6_1.length : Int) : Int) := of_decide_eq_true (by first | (with_reducible assumption) | assumption)
                      obtain ⟨i020, hi020, _, hsz20, _⟩ := info_parts info3
                      have hcut20 := cut_to (P := Try.prog) 31 3 .i64 Try.underlying31 hi020 (some ad113) x6_1.length co19 (ji15) (of_decide_eq_true (by first | (with_reducible assumption) | assumption)) q20 (Kd.R_reads' HO_6.out).2.1
                      have hr20 := Kd.R_take (m := ((ji15) : Int).toNat) HO_6.out (by omega)
                      have hy20 : y114.length = ((ji15) : Int).toNat := (by rw [Ny114.out, List.length_take]; omega)
                      rw [← Ny114.out] at hr20
                      rw [← hy20] at hr20 hcut20
                      clear hy20 hi020 hsz20 HO_6
                      have HO116 := Aside0.mk hr20
                      clear hr20
                      replace q20 := eq_true q20
                      go_wp2
                      go_loopg [6, 8] k1 (fun kq v6 v8 w' => ∃ (x5_2 : List Bool) (x6_2 : List Int) (x8_2 : Int), v8 = .int .i64 x8_2 ∧ Aside0 (gussetref11_reach.l1 kq l0 x5_2 x6_2 (rd x6_1 (ji15)) x8_2 = some r) ∧ Aside0 (kq ≤ k1) ∧ Aside0 (Kd.R Kd.bool 4 w' w.heap.size (fun _ => True) (.slice (some ⟨go7, 0, none⟩) x5_1.length co7) x5_2) ∧ Aside0 (Kd.R (Kd.int .i64) 3 w' w.heap.size (fun _ => True) v6 x6_2) ∧ Aside0 (Below w.heap.size w w'))
                      case atStart => exact ⟨(x5_1), (y114), (0), (by first | rfl | (simp; done) | (simp [*]; done)), H', ⟨Nat.le_refl _⟩, ⟨by (try simp only [hl5_1]); (with_reducible repeat (first | apply Kd.R_alloc | apply Kd.R_drewN | apply Kd.R_drew)); exact HO_5.out⟩, ⟨by (try simp only [hl5_1]); (with_reducible repeat (first | apply Kd.R_alloc | apply Kd.R_drewN | apply Kd.R_drew)); exact HO116.out⟩, ⟨by repeat (first | (with_reducible first | exact HB.out | apply below_alloc | apply pw_below_drewN | apply below_drew1) | exact HB.out)⟩⟩
                      case round =>
                        clear H'
                        try clear c1
                        try clear p1
                        try clear q1
                        try clear hx1
                        try clear c2
                        try clear p2
                        try clear q2
                        try clear c3
                        try clear c3b0
                        try clear c3b1
                        try clear c4
                        try clear c4b0
                        try clear c4b1
                        try clear c5
                        try clear c5b0
                        try clear c6
                        try clear c6b0
                        try clear p6
                        try clear p7
                        try clear q7
                        try clear hx7
                        try clear hf7
                        try clear p11
                        try clear q11
                        try clear hx11
                        try clear c14
                        try clear c14b0
                        try clear c14b1
                        try clear c16
                        try clear c16b0
                        try clear c17
                        try clear c17b0
                        try clear c18
                        try clear c18b0
                        try clear c18b1
                        try clear q20
                        try clear hx113_0
                        try clear hx7_0
                        try clear p113
                        try clear p2
                        try clear p7
                        try clear q113
                        try clear q20
                        try clear q7
                        obtain ⟨x5_2, x6_2, x8_2, rfl, HA, HK2, HO_5, HO_6, HB⟩ := hrel
                        have hl5_2 := (Kd.R_reads' HO_5.out).1
                        rw [hl5_2] at HO_5
                        (try simp only [hl5_2])
                        (try simp only [hl5_2] at HO_6)
                        cases gk with
                        | zero => exact absurd HA.out (by simp [gussetref11_reach.l1])
                        | succ k2 =>
                          have H := HA.out
                          clear HA
                          simp only [gussetref11_reach.l1] at H
                          by_cases c21 : 0 ≤ (rd x6_1 (ji15))
                          · rw [if_pos c21] at H
                            have c21b0 : decide (0 ≤ (rd x6_1 (ji15))) = true := decide_eq_true c21
                            clear c21
                            by_cases c22 : (rd x6_1 (ji15)) < (l0.length : Int)
                            · rw [if_pos c22] at H
                              have c22b0 : decide ((rd x6_1 (ji15)) < (l0.length : Int)) = true := decide_eq_true c22
                              clear c22
                              by_cases c23 : x8_2 < ((rd_L1 l0 (rd x6_1 (ji15))).length : Int)
                              · rw [if_pos c23] at H
                                have c23b0 : decide (x8_2 < ((rd_L1 l0 (rd x6_1 (ji15))).length : Int)) = true := decide_eq_true c23
                                clear c23
                                by_cases c24 : 0 ≤ x8_2
                                · rw [if_pos c24] at H
                                  have c24b0 : decide (0 ≤ x8_2) = true := decide_eq_true c24
                                  clear c24
                                  by_cases c25 : 0 ≤ (rd (rd_L1 l0 (rd x6_1 (ji15))) x8_2)
                                  · rw [if_pos c25] at H
                                    have c25b0 : decide (0 ≤ (rd (rd_L1 l0 (rd x6_1 (ji15))) x8_2)) = true := decide_eq_true c25
                                    clear c25
                                    by_cases c26 : (rd (rd_L1 l0 (rd x6_1 (ji15))) x8_2) < (x5_2.length : Int)
                                    · rw [if_pos c26] at H
                                      have c26b0 : decide ((rd (rd_L1 l0 (rd x6_1 (ji15))) x8_2) < (x5_2.length : Int)) = true := decide_eq_true c26
                                      clear c26
                                      obtain ⟨bq27, hbq27⟩ : ∃ b_ : Bool, b_ = (rdOf false x5_2 (rd (rd_L1 l0 (rd x6_1 (ji15))) x8_2)) := ⟨_, rfl⟩
                                      replace H : (if (bq27 = true) then (gussetref11_reach.l1 k2 l0 x5_2 x6_2 (rd x6_1 (ji15)) (wrap64 (x8_2 + 1))) else (if x6_2.length < 17592186044416 then (gussetref11_reach.l1 k2 l0 (x5_2.set ((rd (rd_L1 l0 (rd x6_1 (ji15))) x8_2) : Int).toNat true) (x6_2 ++ [rd (rd_L1 l0 (rd x6_1 (ji15))) x8_2]) (rd x6_1 (ji15)) (wrap64 (x8_2 + 1))) else (none))) = some r := by rw [← hbq27] at H; exact H
                                      have Nbq27 := Aside0.mk hbq27
                                      clear hbq27
                                      by_cases c28 : (bq27 = true)
                                      · subst c28
                                        have H1 : (gussetref11_reach.l1 k2 l0 x5_2 x6_2 (rd x6_1 (ji15)) (wrap64 (x8_2 + 1))) = some r := by rw [if_pos rfl] at H; exact H
                                        clear H
                                        have H := H1
                                        clear H1
                                        have H' := Aside0.mk H
                                        clear H
                                        have p117 : 0 ≤ ((rd x6_1 (ji15)) : Int) := of_decide_eq_true (by first | (with_reducible assumption) | assumption)
                                        have q117 : (rd x6_1 (ji15)) < (l0.length : Int) := of_decide_eq_true (by first | (with_reducible assumption) | assumption)
                                        obtain ⟨ad117, A117_0, c117_0, e117, hx117_0, hl117_0, hi117_0⟩ := at_L1 HR0.out (rd x6_1 (ji15)) p117 q117
                                        cases e117
                                        replace hx117_0 := (HB.out.cell (World.block_lt_of_cell? w _ hx117_0)).trans hx117_0
                                        have HR117_0 := Aside0.mk hi117_0
                                        have HC117_0 := Aside0.mk hl117_0
                                        clear hi117_0 hl117_0
                                        replace p117 := eq_true p117
                                        replace q117 := eq_true q117
                                        have p118 : 0 ≤ ((rd x6_1 (ji15)) : Int) := of_decide_eq_true (by first | (with_reducible assumption) | assumption)
                                        have q118 : (rd x6_1 (ji15)) < (l0.length : Int) := of_decide_eq_true (by first | (with_reducible assumption) | assumption)
                                        obtain ⟨ad118, A118_0, c118_0, e118, hx118_0, hl118_0, hi118_0⟩ := at_L1 HR0.out (rd x6_1 (ji15)) p118 q118
                                        obtain rfl : ad117 = ad118 := (by injection e118)
                                        replace hx118_0 := (HB.out.cell (World.block_lt_of_cell? w _ hx118_0)).trans hx118_0
                                        have HR118_0 := Aside0.mk hi118_0
                                        have HC118_0 := Aside0.mk hl118_0
                                        clear hi118_0 hl118_0
                                        replace p118 := eq_true p118
                                        replace q118 := eq_true q118
                                        have ea_ := Option.some.inj (hx117_0.symm.trans hx118_0)
                                        injection ea_ with ea_ en_ ec_
                                        subst ea_
                                        subst ec_
                                        clear en_
                                        have p119 : 0 ≤ (x8_2 : Int) := of_decide_eq_true (by first | (with_reducible assumption) | assumption)
                                        have q119 : x8_2 < ((rd_L1 l0 (rd x6_1 (ji15))).length : Int) := of_decide_eq_true (by first | (with_reducible assumption) | assumption)
                                        obtain ⟨ad119, e119, hx119_0⟩ := Kd.at_int HR118_0.out x8_2 p119 q119
                                        cases e119
                                        replace hx119_0 := (HB.out.cell (World.block_lt_of_cell? w _ hx119_0)).trans hx119_0
                                        replace p119 := eq_true p119
                                        replace q119 := eq_true q119
                                        have p120 : 0 ≤ ((rd (rd_L1 l0 (rd x6_1 (ji15))) x8_2) : Int) := of_decide_eq_true (by first | (with_reducible assumption) | assumption)
                                        have q120 : (rd (rd_L1 l0 (rd x6_1 (ji15))) x8_2) < (x5_2.length : Int) := of_decide_eq_true (by first | (with_reducible assumption) | assumption)
                                        obtain ⟨ad120, e120, hx120_0⟩ := Kd.at_bool (Kd.R_reads' HO_5.out).2.2 (rd (rd_L1 l0 (rd x6_1 (ji15))) x8_2) p120 q120
                                        (try rw [← Nbq27.out] at hx120_0)
                                        obtain rfl : (⟨go7, 0, none⟩ : Addr) = ad120 := (by injection e120)
                                        (first | simp only [add_plain] at hx120_0 | simp only [add_at] at hx120_0 | simp only [Addr.add, Nat.zero_add] at hx120_0 | skip)
                                        replace p120 := eq_true p120
                                        replace q120 := eq_true q120
                                        go_wp2
                                        (try simp only [← hl5_2])
                                        go_roundg k2
                                        case measure => have := HK1.out; have := HK2.out; omega
                                        case rel => exact ⟨(x5_2), (x6_2), (wrap64 (x8_2 + 1)), (by first | rfl | (simp; done) | (simp [*]; done)), H', ⟨by have := HK1.out; have := HK2.out; omega⟩, ⟨by (try simp only [hl5_1]); (try simp only [hl5_2]); (with_reducible repeat (first | apply Kd.R_alloc | apply Kd.R_drewN | apply Kd.R_drew)); exact HO_5.out⟩, ⟨by (try simp only [hl5_1]); (try simp only [hl5_2]); (with_reducible repeat (first | apply Kd.R_alloc | apply Kd.R_drewN | apply Kd.R_drew)); exact HO_6.out⟩, ⟨by repeat (first | (with_reducible first | exact HB.out | apply below_alloc | apply pw_below_drewN | apply below_drew1) | exact HB.out)⟩⟩
                                      · replace c28 := Bool.eq_false_iff.mpr c28
                                        subst c28
                                        have H1 : (if x6_2.length < 17592186044416 then (gussetref11_reach.l1 k2 l0 (x5_2.set ((rd (rd_L1 l0 (rd x6_1 (ji15))) x8_2) : Int).toNat true) (x6_2 ++ [rd (rd_L1 l0 (rd x6_1 (ji15))) x8_2]) (rd x6_1 (ji15)) (wrap64 (x8_2 + 1))) else (none)) = some r := by rw [if_neg (show ¬ (false = true) by decide)] at H; exact H
                                        clear H
                                        have H := H1
                                        clear H1
                                        obtain ⟨y121, hy121⟩ : ∃ y_ : List Bool, y_ = (x5_2.set ((rd (rd_L1 l0 (rd x6_1 (ji15))) x8_2) : Int).toNat true) := ⟨_, rfl⟩
                                        replace H : (if x6_2.length < 17592186044416 then (gussetref11_reach.l1 k2 l0 y121 (x6_2 ++ [rd (rd_L1 l0 (rd x6_1 (ji15))) x8_2]) (rd x6_1 (ji15)) (wrap64 (x8_2 + 1))) else (none)) = some r := by first | (rw [hy121]; with_reducible exact H) | (have H2_ := (Option.bind_some _ _).symm.trans H; rw [hy121]; with_reducible exact H2_) | (have H2_ := (Option.bind_some _ _).symm.trans H; with_reducible exact H2_) | with_reducible exact H | (rw [hy121]; exact H) | exact H
                                        have Ny121 := Aside0.mk hy121
                                        clear hy121
                                        by_cases c30 : x6_2.length < 17592186044416
                                        · rw [if_pos c30] at H
                                          have LMc30 := Aside0.mk c30
                                          clear c30
                                          obtain ⟨y122, hy122⟩ : ∃ y_ : List Int, y_ = (x6_2 ++ [rd (rd_L1 l0 (rd x6_1 (ji15))) x8_2]) := ⟨_, rfl⟩
                                          replace H : (gussetref11_reach.l1 k2 l0 y121 y122 (rd x6_1 (ji15)) (wrap64 (x8_2 + 1))) = some r := by first | (rw [hy122]; with_reducible exact H) | (have H2_ := (Option.bind_some _ _).symm.trans H; rw [hy122]; with_reducible exact H2_) | (have H2_ := (Option.bind_some _ _).symm.trans H; with_reducible exact H2_) | with_reducible exact H | (rw [hy122]; exact H) | exact H
                                          have Ny122 := Aside0.mk hy122
                                          clear hy122
                                          have H' := Aside0.mk H
                                          clear H
                                          have p117 : 0 ≤ ((rd x6_1 (ji15)) : Int) := of_decide_eq_true (by first | (with_reducible assumption) | assumption)
                                          have q117 : (rd x6_1 (ji15)) < (l0.length : Int) := of_decide_eq_true (by first | (with_reducible assumption) | assumption)
                                          obtain ⟨ad117, A117_0, c117_0, e117, hx117_0, hl117_0, hi117_0⟩ := at_L1 HR0.out (rd x6_1 (ji15)) p117 q117
                                          cases e117
                                          replace hx117_0 := (HB.out.cell (World.block_lt_of_cell? w _ hx117_0)).trans hx117_0
                                          have HR117_0 := Aside0.mk hi117_0
                                          have HC117_0 := Aside0.mk hl117_0
                                          clear hi117_0 hl117_0
                                          replace p117 := eq_true p117
                                          replace q117 := eq_true q117
                                          have p118 : 0 ≤ ((rd x6_1 (ji15)) : Int) := of_decide_eq_true (by first | (with_reducible assumption) | assumption)
                                          have q118 : (rd x6_1 (ji15)) < (l0.length : Int) := of_decide_eq_true (by first | (with_reducible assumption) | assumption)
                                          obtain ⟨ad118, A118_0, c118_0, e118, hx118_0, hl118_0, hi118_0⟩ := at_L1 HR0.out (rd x6_1 (ji15)) p118 q118
                                          obtain rfl : ad117 = ad118 := (by injection e118)
                                          replace hx118_0 := (HB.out.cell (World.block_lt_of_cell? w _ hx118_0)).trans hx118_0
                                          have HR118_0 := Aside0.mk hi118_0
                                          have HC118_0 := Aside0.mk hl118_0
                                          clear hi118_0 hl118_0
                                          replace p118 := eq_true p118
                                          replace q118 := eq_true q118
                                          have ea_ := Option.some.inj (hx117_0.symm.trans hx118_0)
                                          injection ea_ with ea_ en_ ec_
                                          subst ea_
                                          subst ec_
                                          clear en_
                                          have p119 : 0 ≤ (x8_2 : Int) := of_decide_eq_true (by first | (with_reducible assumption) | assumption)
                                          have q119 : x8_2 < ((rd_L1 l0 (rd x6_1 (ji15))).length : Int) := of_decide_eq_true (by first | (with_reducible assumption) | assumption)
                                          obtain ⟨ad119, e119, hx119_0⟩ := Kd.at_int HR118_0.out x8_2 p119 q119
                                          cases e119
                                          replace hx119_0 := (HB.out.cell (World.block_lt_of_cell? w _ hx119_0)).trans hx119_0
                                          replace p119 := eq_true p119
                                          replace q119 := eq_true q119
                                          have p120 : 0 ≤ ((rd (rd_L1 l0 (rd x6_1 (ji15))) x8_2) : Int) := of_decide_eq_true (by first | (with_reducible assumption) | assumption)
                                          have q120 : (rd (rd_L1 l0 (rd x6_1 (ji15))) x8_2) < (x5_2.length : Int) := of_decide_eq_true (by first | (with_reducible assumption) | assumption)
                                          obtain ⟨ad120, e120, hx120_0⟩ := Kd.at_bool (Kd.R_reads' HO_5.out).2.2 (rd (rd_L1 l0 (rd x6_1 (ji15))) x8_2) p120 q120
                                          (try rw [← Nbq27.out] at hx120_0)
                                          obtain rfl : (⟨go7, 0, none⟩ : Addr) = ad120 := (by injection e120)
                                          (first | simp only [add_plain] at hx120_0 | simp only [add_at] at hx120_0 | simp only [Addr.add, Nat.zero_add] at hx120_0 | skip)
                                          replace p120 := eq_true p120
                                          replace q120 := eq_true q120
                                          have p29 : 0 ≤ ((rd (rd_L1 l0 (rd x6_1 (ji15))) x8_2) : Int) := of_decide_eq_true (by first | (with_reducible assumption) | assumption)
                                          have q29 : ((rd (rd_L1 l0 (rd x6_1 (ji15))) x8_2) : Int) < ((x5_2.length : Int) : Int) := of_decide_eq_true (by first | (with_reducible assumption) | assumption)
                                          obtain ⟨hx29_0, hf29_0⟩ := Kd.R_celln false HO_5.out ((rd (rd_L1 l0 (rd x6_1 (ji15))) x8_2) : Int) p29 q29
                                          replace p29 := eq_true p29
                                          replace q29 := eq_true q29
                                          have HP31 := Kd.R_putg HO_5.out ((rd (rd_L1 l0 (rd x6_1 (ji15))) x8_2) : Int) true
                                          go_wp2_with (first | ((with_reducible refine gate_store (t := 4) (p := 55) rfl ?_); refine store_event (t := 4) (p := 55) (v := ?vo_w32) (w1 := (wr.setCell ⟨go7, ((rd (rd_L1 l0 (rd x6_1 (ji15))) x8_2) : Int).toNat, none⟩ (.bool true))) ?hg ?ho ?hn ?hr ?_; (case ho => rfl); (case hg => rfl); (case hn => rfl); (case hr => first | (go_simp; done) | (go_simp; rfl)); intro w32 hw; have hg : wr.grownBy w32 (some go7) := (by rw [hw]; exact HP31.2); have hp_ : Kd.R Kd.bool 4 w32 w.heap.size (fun _ => True) (.slice (some ⟨go7, 0, none⟩) x5_2.length co7) y121 := (by rw [hw, Ny121.out]; exact HP31.1); clear HP31; have n0_ := Aside0.mk (hp_); have n1_ := Aside0.mk (Kd.R_over' (v := (.slice (some ⟨go7, 0, none⟩) x5_2.length co7)) (by (with_reducible repeat (first | apply Kd.R_alloc | apply Kd.R_drewN | apply Kd.R_drew)); exact HO_6.out) (Kd.R_typed HO_5.out) (by decide) hg); have n2_ := Aside0.mk ((by rw [hw]; exact below_set (HB.out) GB7.out : Below w.heap.size w w32)); clear HO_5; clear HO_6; clear HB; have HO_5 := n0_; have HO_6 := n1_; have HB := n2_; clear n0_ n1_ n2_; clear hg hw hp_) | ((with_reducible refine gate_builtin (b := .append) (xs := #[.tmp 56, .tmp 58]) rfl ?_); at_builtin; refine Kd.R_append (Kd.int .i64) (w0 := w) w.heap.size rfl (.tmp 56) (.tmp 58) 31 3 (.int .i64 0) 8 rfl Try.underlying31 info3 rfl (by decide) (by omega) u6 x6_2 (rd (rd_L1 l0 (rd x6_1 (ji15))) x8_2) [.int .i64 (rd (rd_L1 l0 (rd x6_1 (ji15))) x8_2)] (fun _ => True) (fun _ => False) rfl rfl ?aP (fun _ hk => hk.elim) ?aF ?aO ?aB ?aS ?aL ?_; (case aP => exact rfl); (case aB => exact (by repeat (first | (with_reducible first | exact HB.out | apply below_alloc | apply pw_below_drewN | apply below_drew1) | exact HB.out))); (case aF => exact (fun _ _ => trivial)); (case aO => exact (by (with_reducible repeat (first | apply Kd.R_alloc | apply Kd.R_drewN | apply Kd.R_drew)); exact HO_6.out)); (case aS => exact (below_size (by repeat (first | (with_reducible first | exact HB.out | apply below_alloc | apply pw_below_drewN | apply below_drew1) | exact HB.out)))); (case aL => have := LMc30.out; omega); intro v123 w33 ho hb hg hat; rw [← Ny122.out] at ho; have n0_ := Aside0.mk (Kd.R_over' (by (with_reducible repeat (first | apply Kd.R_alloc | apply Kd.R_drewN | apply Kd.R_drew)); exact HO_5.out) (Kd.R_typed (by (with_reducible repeat (first | apply Kd.R_alloc | apply Kd.R_drewN | apply Kd.R_drew)); exact HO_6.out)) (by decide) hg); have n1_ := Aside0.mk (hb); have n2_ := Aside0.mk (ho); clear HO_5; clear HB; clear HO_6; have HO_5 := n0_; have HB := n1_; have HO124 := n2_; clear n0_ n1_ n2_; clear ho hb hg hat))
                                          (try simp only [← hl5_2])
                                          go_roundg k2
                                          case measure => have := HK1.out; have := HK2.out; omega
                                          case rel => exact ⟨(y121), (y122), (wrap64 (x8_2 + 1)), (by first | rfl | (simp; done) | (simp [*]; done)), H', ⟨by have := HK1.out; have := HK2.out; omega⟩, ⟨by (try simp only [hl5_1]); (try simp only [hl5_2]); (with_reducible repeat (first | apply Kd.R_alloc | apply Kd.R_drewN | apply Kd.R_drew)); exact HO_5.out⟩, ⟨by (try simp only [hl5_1]); (try simp only [hl5_2]); (with_reducible repeat (first | apply Kd.R_alloc | apply Kd.R_drewN | apply Kd.R_drew)); exact HO124.out⟩, ⟨by repeat (first | (with_reducible first | exact HB.out | apply below_alloc | apply pw_below_drewN | apply below_drew1) | exact HB.out)⟩⟩
                                        · rw [if_neg c30] at H
                                          exact absurd H (by simp)
                                    · rw [if_neg c26] at H
                                      exact absurd H (by simp)
                                  · rw [if_neg c25] at H
                                    exact absurd H (by simp)
                                · rw [if_neg c24] at H
                                  exact absurd H (by simp)
                              · rw [if_neg c23] at H
                                have c23b0 : decide (x8_2 < ((rd_L1 l0 (rd x6_1 (ji15))).length : Int)) = false := decide_eq_false c23
                                clear c23
                                have H' := Aside0.mk H
                                clear H
                                have p117 : 0 ≤ ((rd x6_1 (ji15)) : Int) := of_decide_eq_true (by first | (with_reducible assumption) | assumption)
                                have q117 : (rd x6_1 (ji15)) < (l0.length : Int) := of_decide_eq_true (by first | (with_reducible assumption) | assumption)
                                obtain ⟨ad117, A117_0, c117_0, e117, hx117_0, hl117_0, hi117_0⟩ := at_L1 HR0.out (rd x6_1 (ji15)) p117 q117
                                cases e117
                                replace hx117_0 := (HB.out.cell (World.block_lt_of_cell? w _ hx117_0)).trans hx117_0
                                have HR117_0 := Aside0.mk hi117_0
                                have HC117_0 := Aside0.mk hl117_0
                                clear hi117_0 hl117_0
                                replace p117 := eq_true p117
                                replace q117 := eq_true q117
                                go_wp2
                                (try simp only [← hl5_1, ← hl5_2])
                                go_roundg k2
                                case measure => have := HK1.out; have := HK2.out; omega
                                case rel => exact ⟨(x5_2), (x6_2), H', ⟨by have := HK1.out; have := HK2.out; omega⟩, ⟨by (try simp only [hl5_1]); (try simp only [hl5_2]); (with_reducible repeat (first | apply Kd.R_alloc | apply Kd.R_drewN | apply Kd.R_drew)); exact HO_5.out⟩, ⟨by (try simp only [hl5_1]); (try simp only [hl5_2]); (with_reducible repeat (first | apply Kd.R_alloc | apply Kd.R_drewN | apply Kd.R_drew)); exact HO_6.out⟩, ⟨by repeat (first | (with_reducible first | exact HB.out | apply below_alloc | apply pw_below_drewN | apply below_drew1) | exact HB.out)⟩⟩
                            · rw [if_neg c22] at H
                              exact absurd H (by simp)
                          · rw [if_neg c21] at H
                            exact absurd H (by simp)
                    · rw [if_neg c18] at H
                      exact absurd H (by simp)
                  · rw [if_neg c17] at H
                    exact absurd H (by simp)
                · rw [if_neg c16] at H
                  exact absurd H (by simp)
              · rw [if_neg c14] at H
                have c14b0 : decide (0 < (x6_1.length : Int)) = false := decide_eq_false c14
                have c14b1 : decide (0 < x6_1.length) = false := decide_eq_false (by omega)
                clear c14
                obtain rfl := Option.some.inj H
                obtain ⟨Ao34, co34, eo34⟩ := Kd.R_slice HO_6.out
                subst eo34
                go_wp2
                go_ret
                exact ⟨_, by first | rfl | (simp [errW_none, errW_some] <;> rfl) | (simp [*, errW_none, errW_some] <;> rfl), by (with_reducible repeat (first | apply Kd.R_alloc | apply Kd.R_drewN | apply Kd.R_drew)); exact HO_5.out, by repeat (first | (with_reducible first | exact HB.out | apply below_alloc | apply pw_below_drewN | apply below_drew1) | exact HB.out)⟩
        · rw [if_neg c6] at H
          exact absurd H (by simp)
      · rw [if_neg c5] at H
        exact absurd H (by simp)
    · rw [if_neg c4] at H
      exact absurd H (by simp)
  · rw [if_neg c3] at H
    exact absurd H (by simp)

end Go.Proofs.Ytldgmneijipbjaa.PParts
end
/- YtldgmneijipbjaaPu2 -/
section
/- What the reference's walk, its Order and its reach answer, in terms of walks over a graph. -/
namespace Go.Proofs.Ytldgmneijipbjaa.Pu
open Go.RowKit Go.Proofs.YtldgmneijipbjaaW.PrintWords H
open Gr (out sn unseen visit scan)
set_option linter.unusedVariables false

theorem len_row (g : Gr.G) (x : Nat) : (castL (out g x)).length = (out g x).length := castL_length _
theorem rd_castL (l : List Nat) (j : Nat) (h : j < l.length) : rd (castL l) (j : Int) = (l[j] : Int) := by
  rw [rd_nat _ _ (by rw [castL_length]; exact h)]; simp [castL]
theorem castG_length (g : Gr.G) : (castG g).length = g.length := by simp [castG]

section walk
open POrder
theorem rdrow (g : Gr.G) (x : Nat) : rd_L1 (castG g) (x : Int) = castL (out g x) := by
  rw [rd_L1, Int.toNat_natCast]; exact castG_getD g x
theorem walk_row (g : Gr.G) (hg : Gr.Good g) (N x : Nat) (hx : x < g.length) (M : Nat) (hM : M < 17592186044416) (hr : (out g x).length ≤ 4611686018427387904)
    (ih : ∀ y (s : List Bool) (d : List Nat), s.length = g.length → sn s y = false → unseen s ≤ N → d.length + unseen s ≤ M → Ev (fun k => gussetref11_walk.f k (castG g) (y : Int) s (castL d)) (castL (visit g N y (s, d)).2, (visit g N y (s, d)).1))
    (len : ∀ y (s : List Bool) (d : List Nat), s.length = g.length → sn s y = false → (visit g N y (s, d)).2.length + unseen (visit g N y (s, d)).1 ≤ d.length + unseen s) (dd : Nat) :
    ∀ (j : Nat) (s : List Bool) (d : List Nat), (out g x).length - j = dd → j ≤ (out g x).length → s.length = g.length → unseen s ≤ N → d.length + unseen s ≤ M →
      Ev (fun k => gussetref11_walk.l0 k (castG g) (x : Int) s (castL d) (j : Int)) (castL (scan g N ((out g x).drop j) (s, d)).2 ++ [(x : Int)], (scan g N ((out g x).drop j) (s, d)).1) := by
  have hlen := castG_length g
  have hrow := rdrow g x
  have hrl := len_row g x
  induction dd with
  | zero =>
    intro j s d hj hle hs hu hm
    refine ev_eq (Ev.step (f := fun _ => some (castL d ++ [(x : Int)], s)) (fun k => ?_) (Ev.now _)) ?_
    · simp only [gussetref11_walk.l0]; rw [hrow, if_pos (by omega), if_pos (by omega), if_neg (by omega), if_pos (by rw [castL_length]; omega)]
    · rw [List.drop_eq_nil_of_le (by omega), Gr.scan_nil]
  | succ dd ihd =>
    intro j s d hj hle hs hu hm
    have hlt : j < (out g x).length := by omega
    have hy : (out g x)[j] < g.length := hg x _ (List.getElem_mem hlt)
    have hrd := rd_castL (out g x) j hlt
    have hro := sn_rdOf s (out g x)[j] (by omega)
    rw [List.drop_eq_getElem_cons hlt, Gr.scan_cons]
    cases hsn : sn s (out g x)[j] with
    | true =>
      simp only [if_true]
      refine Ev.step (f := fun k => gussetref11_walk.l0 k (castG g) (x : Int) s (castL d) ((j + 1 : Nat) : Int)) (fun k => ?_) (ihd (j + 1) s d (by omega) (by omega) hs hu hm)
      simp only [gussetref11_walk.l0]
      rw [hrow, if_pos (by omega), if_pos (by omega), if_pos (by omega), if_pos (by omega), hrd, if_pos (by omega), if_pos (by omega), hro, hsn, if_pos rfl, wrap_small (by omega) (by omega)]; rfl
    | false =>
      simp only [Bool.false_eq_true, if_false]
      have hle2 := Gr.le_visit g N (out g x)[j] (s, d) hsn
      have hln := len _ s d hs hsn
      refine Ev.step (f := fun k => (gussetref11_walk.f k (castG g) ((out g x)[j] : Int) s (castL d)).bind fun b => gussetref11_walk.l0 k (castG g) (x : Int) b.2 b.1 ((j + 1 : Nat) : Int)) (fun k => ?_) (Ev.bind (ih _ s d hs hsn hu hm) ?_)
      · simp only [gussetref11_walk.l0]
        rw [hrow, if_pos (by omega), if_pos (by omega), if_pos (by omega), if_pos (by omega), hrd, if_pos (by omega), if_pos (by omega), hro, hsn, if_neg (by simp), wrap_small (by omega) (by omega)]; rfl
      · exact ihd (j + 1) _ _ (by omega) (by omega) (by rw [hle2.1]; exact hs) (Nat.le_trans hle2.2.1 hu) (Nat.le_trans hln hm)

theorem len_both (g : Gr.G) (hg : Gr.Good g) (N : Nat) : (∀ y (p : Gr.St), sn p.1 y = false → (visit g N y p).2.length + unseen (visit g N y p).1 ≤ p.2.length + unseen p.1) ∧ ∀ ys (p : Gr.St), (scan g N ys p).2.length + unseen (scan g N ys p).1 ≤ p.2.length + unseen p.1 := by
  induction N with
  | zero =>
    refine ⟨fun y p _ => Nat.le_refl _, fun ys => ?_⟩
    induction ys with
    | nil => exact fun p => Nat.le_refl _
    | cons y ys ih => intro p; rw [Gr.scan_cons]; split <;> exact ih _
  | succ n ih =>
    have hv : ∀ y (p : Gr.St), sn p.1 y = false → (visit g (n + 1) y p).2.length + unseen (visit g (n + 1) y p).1 ≤ p.2.length + unseen p.1 := fun y p h => by
      have := Gr.unseen_set h
      have := ih.2 (out g y) (p.1.set y true, p.2)
      rw [Gr.visit_succ]
      simp only [List.length_append, List.length_singleton] at *
      omega
    refine ⟨hv, fun ys => ?_⟩
    induction ys with
    | nil => exact fun p => Nat.le_refl _
    | cons y ys ihy =>
      intro p; rw [Gr.scan_cons]; split
      · exact ihy _
      · rename_i h; exact Nat.le_trans (ihy _) (hv y p (by simpa using h))

theorem walk_ev (g : Gr.G) (hg : Gr.Good g) (hr : ∀ x, (out g x).length ≤ 4611686018427387904) (M : Nat) (hM : M < 17592186044416) (N : Nat) :
    ∀ y (s : List Bool) (d : List Nat), s.length = g.length → sn s y = false → unseen s ≤ N → d.length + unseen s ≤ M → Ev (fun k => gussetref11_walk.f k (castG g) (y : Int) s (castL d)) (castL (visit g N y (s, d)).2, (visit g N y (s, d)).1) := by
  induction N with
  | zero => intro y s d _ h hu _; have := Gr.unseen_pos h; omega
  | succ N ih =>
    intro y s d hs hsn hu hm
    have hy : y < g.length := by have := Gr.sn_lt hsn; omega
    have hus := Gr.unseen_set hsn
    have h := walk_row g hg N y hy M hM (hr y) ih (fun z s d _ h => (len_both g hg N).1 z (s, d) h) _ 0 (s.set y true) d rfl (Nat.zero_le _) (by simpa using hs) (by omega) (by omega)
    rw [List.drop_zero] at h
    refine ev_eq (Ev.step (f := fun k => gussetref11_walk.l0 k (castG g) (y : Int) (s.set y true) (castL d) ((0 : Nat) : Int)) (fun k => ?_) h) ?_
    · simp only [gussetref11_walk.f]; rw [if_pos (by omega), if_pos (by omega), Int.toNat_natCast]; rfl
    · rw [Gr.visit_succ]; simp [castL]

theorem order_ev (g : Gr.G) (hg : Gr.Good g) (hok : okE (castG g) = true) (hn : g.length < 17592186044416) (hr : ∀ x, (out g x).length ≤ 4611686018427387904) (root : Nat) (hroot : root < g.length) :
    ∃ k, gussetref11_Order.f k (castG g) (root : Int) = some (castL (Gr.orderOf g root)) := by
  have hlen := castG_length g
  have hrr : ∀ r, r ∈ castG g → r.length ≤ 4611686018427387904 := by
    intro r hrm
    obtain ⟨q, hq, rfl⟩ := List.mem_map.1 hrm
    rw [castL_length]
    obtain ⟨i, hi, rfl⟩ := List.mem_iff_getElem.1 hq
    have := hr i
    simpa [out, List.getD_eq_getElem?_getD, hi] using this
  have h1 := rcheck_ev (castG g) (by omega) hrr
  rw [if_pos hok] at h1
  have h2 := walk_ev g hg hr g.length hn g.length root (List.replicate g.length false) [] (by simp) (by simp [sn, hroot]) (by rw [Gr.unseen_start]; omega) (by rw [Gr.unseen_start]; simp)
  refine Ev.rounds (g := fun k => gussetref11_Order.f k (castG g) (root : Int)) ?_
  simp only [gussetref11_Order.f]
  refine Ev.bind h1 ?_
  refine Ev.congr (f := fun k => (gussetref11_walk.f k (castG g) (root : Int) (List.replicate g.length false) (castL [])).bind fun b => some b.1) (fun k => ?_) (Ev.bind h2 (Ev.now _))
  rw [if_pos rfl, if_neg (by omega), if_neg (by omega), if_pos (by omega), if_pos (by omega), Int.toNat_natCast, hlen]
  rfl
end walk
end Go.Proofs.Ytldgmneijipbjaa.Pu
end
/- YtldgmneijipbjaaHOrder -/
section
/- The contracts of walkOf and order.Order: a walker that has seen nothing; the places that a root reaches, each behind those to which it leads. -/
namespace Go.Proofs.Ytldgmneijipbjaa.H
open Go.RowKit Go.Proofs.YtldgmneijipbjaaW.PrintWords Go.Proofs.YtldgmneijipbjaaW.PrintLast Go.Proofs.YtldgmneijipbjaaW.PrintMore
open Gr (out sn unseen visit scan complete mu)
set_option linter.unusedVariables false
set_option linter.unusedSimpArgs false

theorem info4 : (Try.prog.info? 4).map (fun i => (i.zero, i.size, i.bytes)) = some (some (.bool false), 1, 1) := by kernel_rfl

theorem R_blk {α : Type} {d : Kd α} {e base b : Nat} {ok : Nat → Prop} {v : Value} {xs : List α} {w : World} (h : d.R e w base ok v xs) (hb : v.ownBlock = some b) : ∃ cap, v = .slice (some ⟨b, 0, none⟩) xs.length cap := by
  obtain ⟨_, inner, ⟨_, h2⟩, _⟩ := h
  rcases h2 with ⟨rfl, _⟩ | ⟨g, cap, cur, rfl, _⟩
  · simp [Value.ownBlock] at hb
  · simp [Value.ownBlock] at hb
    subst hb
    exact ⟨cap, rfl⟩

theorem R_only {α : Type} {enc : α → Value} {h1 : ∀ x, (enc x).oneCell' = true} {e base : Nat} {ok ok' : Nat → Prop} {v : Value} {xs : List α} {w : World} (h : (Kd.scalar enc h1).R e w base ok v xs) (hk : ∀ k, v.ownBlock = some k → ok' k) : (Kd.scalar enc h1).R e w base ok' v xs :=
  ⟨hk, h.2.imp_ (fun _ _ q => q)⟩

theorem R_onlyB {e base : Nat} {ok ok' : Nat → Prop} {v : Value} {xs : List Bool} {w : World} (h : Kd.bool.R e w base ok v xs) (hk : ∀ k, v.ownBlock = some k → ok' k) : Kd.bool.R e w base ok' v xs := R_only h hk
theorem R_onlyI {i : IntKind} {e base : Nat} {ok ok' : Nat → Prop} {v : Value} {xs : List Int} {w : World} (h : (Kd.int i).R e w base ok v xs) (hk : ∀ k, v.ownBlock = some k → ok' k) : (Kd.int i).R e w base ok' v xs := R_only h hk

set_option maxHeartbeats 1000000 in
theorem walkOf_any (A : Option Addr) (n c base : Nat) (w : World) (hn : n ≤ 4398046511103) (hbase : base ≤ w.heap.size) :
    Calls Try.prog 18 #[.slice A n c] w fun e w' => ∃ b gs cs, e = .returned (.pointer (some ⟨b, 0, none⟩)) ∧ w.heap.size ≤ b ∧ w.heap.size ≤ gs ∧
      WS w' base b (.slice A n c) gs cs (fun k => k = gs) (fun _ => False) (.slice none 0 0) (List.replicate n false, []) ∧ Fr (fun _ => False) w w' := by
  have HBase := Aside0.mk hbase
  clear hbase
  go_enter Try.func18, Try.ntmps18
  go_wp2_with (first | ((with_reducible refine gate_dst (N := 6) rfl ?_); refine Kd.R_make Kd.bool (w0 := w) w.heap.size 4 rfl (N := 6) rfl 41 _ _ rfl (n : Int) rfl rfl Try.underlying41 (.bool false) 1 info4 rfl (by decide) (by omega) false (ok := fun _ => True) (okp := fun _ => True) rfl (fun _ hk => hk) trivial (by omega) (by omega) (Below.refl _ _) (Nat.le_refl _) ?_; intro v1 w1 h1 h2 h3 h4; obtain ⟨gs, h4, h5⟩ := h4; obtain ⟨cs, rfl⟩ := R_blk h1 h4; have A1 := Aside0.mk h1; have A2 := Aside0.mk h2; have A5 := Aside0.mk h5; clear h1 h2 h3 h4 h5))
  go_ret
  have hsz := A2.out.size
  have hgs := (Kd.R_bound A1.out).1 gs rfl
  have el : (List.replicate (n : Int).toNat false).length = n := by simp
  have hF : Fr (fun _ => False) w w1 := Fr.of_below A2.out
  refine ⟨w1.heap.size, gs, cs, rfl, hsz, A5.out, ⟨?_, ?_, Kd.R_nil _ _ _ _ _, by have := hgs.2.2.1; omega, id, fun _ _ h => h, ?_⟩, hF.alloc _⟩
  · rw [blk_new]
    simp
  · have := Kd.R_lower (Kd.R_alloc (R_onlyB (ok' := fun k => k = gs) A1.out (fun k hk => by simpa [Value.ownBlock] using hk.symm)) (.cells #[.slice A n c, .slice (some ⟨gs, 0, none⟩) n cs, .slice none 0 0] 43)) HBase.out
    simpa using this
  · rintro k rfl
    have := hgs.2.2.1
    simp
    omega

open Pu (okE okR)
/-- edges as a graph -/
def gOf (el : List (List Int)) : Gr.G := el.map fun r => r.map Int.toNat
theorem castG_gOf {el : List (List Int)} (h : okE el = true) : castG (gOf el) = el := by
  simp only [okE, okR, List.all_eq_true, Bool.and_eq_true, decide_eq_true_eq] at h
  simp only [castG, gOf, List.map_map]
  conv => rhs; rw [← List.map_id el]
  refine List.map_congr_left (fun r hr => ?_)
  simp only [Function.comp_apply, castL, List.map_map, id_eq]
  conv => rhs; rw [← List.map_id r]
  refine List.map_congr_left (fun x hx => ?_)
  have := h r hr x hx
  simp only [Function.comp_apply, id_eq]
  omega
theorem gOf_length (el : List (List Int)) : (gOf el).length = el.length := by simp [gOf]
theorem gOf_good {el : List (List Int)} (h : okE el = true) : Gr.Good (gOf el) := by
  intro x y hy
  rw [gOf_length]
  simp only [okE, okR, List.all_eq_true, Bool.and_eq_true, decide_eq_true_eq] at h
  simp only [out, gOf, List.getD_eq_getElem?_getD, List.getElem?_map] at hy
  cases hr : el[x]? with
  | none => simp [hr] at hy
  | some r =>
    simp [hr] at hy
    obtain ⟨z, hz, rfl⟩ := hy
    have := h r (List.mem_of_getElem? hr) z hz
    omega

/-- what Order answers -/
def orderAns (el : List (List Int)) (root : Int) : List Int := if okE el = true ∧ 0 ≤ root ∧ root < el.length then castL (Gr.orderOf (gOf el) root.toNat) else []
/-- lists that are no longer than memory bears -/
structure Small (el : List (List Int)) : Prop where
  len : el.length ≤ 1099511627776
  row : ∀ r, r ∈ el → r.length ≤ 1099511627776

def OwnInts (w : World) (l : List Int) (e : Ending) (w' : World) : Prop := ∃ v, e = .returned v ∧ (Kd.int .i64).R 3 w' w.heap.size (fun _ => True) v l ∧ Below w.heap.size w w'

theorem hide {p : Prop} (h : p) : Aside0 p := Aside0.mk h

set_option maxHeartbeats 2000000 in
theorem order_bad (A : Option Addr) (c : Nat) (el : List (List Int)) (root : Int) (w : World) (hE : Kd.C KE w A el.length el) (hc : el.length ≤ c) (hs : Small el) (hok : okE el = false) :
    Calls Try.prog 15 #[.slice A el.length c, .int .i64 root] w (OwnInts w []) := by
  obtain ⟨k, hk⟩ := Pu.check_ev el (by have := hs.len; omega) (fun r hr => by have := hs.row r hr; omega)
  rw [hok] at hk
  have HK := hide hk
  have HE := hide hE
  have HC := hide hc
  clear hk hE hc hok hs
  go_enter Try.func15, Try.ntmps15
  go_wp2_with (go_at_call 8; refine (PCheck.order_Check.calls k A c el 110 _ ?s1 ?s2 HK.out).mono ?_; (case s1 => exact HE.out); (case s2 => exact HC.out); rintro e w1 ⟨rfl, ⟨nd, rfl⟩⟩)
  go_ret
  exact ⟨_, rfl, Kd.R_nil _ _ _ _ _, pw_below_drewN (Below.refl _ _) nd⟩

set_option maxHeartbeats 2000000 in
theorem order_out (A : Option Addr) (c : Nat) (el : List (List Int)) (root : Int) (w : World) (hE : Kd.C KE w A el.length el) (hc : el.length ≤ c) (hs : Small el) (hok : okE el = true) (hr : root < 0 ∨ (el.length : Int) ≤ root) :
    Calls Try.prog 15 #[.slice A el.length c, .int .i64 root] w (OwnInts w []) := by
  obtain ⟨k, hk⟩ := Pu.check_ev el (by have := hs.len; omega) (fun r hr => by have := hs.row r hr; omega)
  rw [hok] at hk
  have HK := hide hk
  have HE := hide hE
  have HC := hide hc
  clear hk hE hc hok hs
  by_cases h0 : root < 0
  · clear hr
    go_enter Try.func15, Try.ntmps15
    go_wp2_with (go_at_call 8; refine (PCheck.order_Check.calls k A c el 0 _ ?s1 ?s2 HK.out).mono ?_; (case s1 => exact HE.out); (case s2 => exact HC.out); rintro e w1 ⟨rfl, ⟨nd, rfl⟩⟩)
    go_ret
    exact ⟨_, rfl, Kd.R_nil _ _ _ _ _, pw_below_drewN (Below.refl _ _) nd⟩
  · have h1 : (el.length : Int) ≤ root := hr.resolve_left h0
    clear hr
    go_enter Try.func15, Try.ntmps15
    go_wp2_with (go_at_call 8; refine (PCheck.order_Check.calls k A c el 0 _ ?s1 ?s2 HK.out).mono ?_; (case s1 => exact HE.out); (case s2 => exact HC.out); rintro e w1 ⟨rfl, ⟨nd, rfl⟩⟩)
    go_ret
    exact ⟨_, rfl, Kd.R_nil _ _ _ _ _, pw_below_drewN (Below.refl _ _) nd⟩

set_option maxHeartbeats 2000000 in
theorem order_good (A : Option Addr) (c : Nat) (el : List (List Int)) (root : Nat) (w : World) (hE : Kd.C KE w A el.length el) (hc : el.length ≤ c) (hs : Small el) (hok : okE el = true) (hr : root < el.length) :
    Calls Try.prog 15 #[.slice A el.length c, .int .i64 root] w (OwnInts w (castL (Gr.orderOf (gOf el) root))) := by
  obtain ⟨k, hk⟩ := Pu.check_ev el (by have := hs.len; omega) (fun r hr => by have := hs.row r hr; omega)
  rw [hok] at hk
  have HK := hide hk
  have HE := hide hE
  have HC := hide hc
  have HS := hide hs
  have HOK := hide hok
  have HWALK := hide (fun nd : Nat => walkOf_any A el.length c w.heap.size (w.drewN nd) (by have := hs.len; omega) (Nat.le_refl _))
  have hri : (root : Int) < (el.length : Int) := by omega
  clear hk hE hc hok hs
  go_enter Try.func15, Try.ntmps15
  go_wp2_with (first | (go_at_call 8; refine (PCheck.order_Check.calls k A c el 0 _ ?s1 ?s2 HK.out).mono ?_; (case s1 => exact HE.out); (case s2 => exact HC.out); rintro e w1 ⟨rfl, ⟨nd, rfl⟩⟩) | (go_at_call 18; refine (HWALK.out _).mono ?_; rintro e w1 ⟨b, gs, cs, rfl, hb, hg, hws, hf⟩; have HB := hide hb; have HG := hide hg; have HWS := hide hws; have HF := hide hf; clear hb hg hws hf HWALK))
  have HF2 := hide (show Fr (fun _ => False) w w1 from ((Fr.refl _ w).drewN nd).trans HF.out (fun _ q => q.elim))
  have HFROM := hide (from_any (gOf el) (el.length + 1) b root el.length A c gs cs w.heap.size (fun k => k = gs) (fun _ => False) (.slice none 0 0) (List.replicate el.length false) [] w1 (visit (gOf el) (el.length + 1) root (List.replicate el.length false, []))
    (gOf_length el) (gOf_good HOK.out) HWS.out (by simp) hr (by simp) (by have := HS.out.len; omega) HF2.out.size (fun _ q => q.elim)
    (fun W hW => by
      rw [castG_gOf HOK.out]
      refine Kd.C_below HE.out (Fr.below (S := fun k => w.heap.size ≤ k) (HF2.out.trans hW ?_ |>.mono (fun _ q => q.elim)) (Nat.le_refl _) (fun _ q => q))
      rintro i (rfl | rfl | q)
      · exact .inr HB.out
      · exact .inr HG.out
      · exact q.elim) (by rw [if_neg]; simp [sn, hr]))
  go_wp2_with (go_at_call 19; refine HFROM.out.mono ?_; rintro e w2 ⟨rfl, D', dv, hws2, hD2, hf2⟩; have HWS2 := hide hws2; have HD2 := hide hD2; have HFF := hide hf2; have c2 : w2.cell? ⟨b, 2, none⟩ = some dv := (blk_cell hws2.blk 2).trans rfl; clear hws2 hD2 hf2)
  go_ret
  refine ⟨_, rfl, ?_, ?_⟩
  · have h := HWS2.out.done
    have e1 : Gr.orderOf (gOf el) root = (visit (gOf el) (el.length + 1) root (List.replicate el.length false, [])).2 := by
      unfold Gr.orderOf
      rw [gOf_length, Gr.visit_fuel (gOf el) (m := el.length + 1) (by simp [sn, hr]) (by rw [Gr.unseen_start]; omega) (by rw [Gr.unseen_start]; omega)]
    rw [e1]
    exact R_onlyI h (fun _ _ => trivial)
  · refine Fr.below (S := fun k => w.heap.size ≤ k) ((HF2.out.trans HFF.out ?_).mono (fun _ q => q.elim)) (Nat.le_refl _) (fun _ q => q)
    rintro i (rfl | rfl | q)
    · exact .inr HB.out
    · exact .inr HG.out
    · exact q.elim

theorem order_any (A : Option Addr) (c : Nat) (el : List (List Int)) (root : Int) (w : World) (hE : Kd.C KE w A el.length el) (hc : el.length ≤ c) (hs : Small el) :
    Calls Try.prog 15 #[.slice A el.length c, .int .i64 root] w (OwnInts w (orderAns el root)) := by
  unfold orderAns
  cases hok : okE el with
  | false => simpa using order_bad A c el root w hE hc hs hok
  | true =>
    by_cases h : 0 ≤ root ∧ root < el.length
    · obtain ⟨r, rfl⟩ := Int.eq_ofNat_of_zero_le h.1
      have := order_good A c el r w hE hc hs hok (by omega)
      rw [if_pos ⟨rfl, h⟩, Int.toNat_natCast]
      exact this
    · rw [if_neg (fun q => h q.2)]
      exact order_out A c el root w hE hc hs hok (by omega)
end Go.Proofs.Ytldgmneijipbjaa.H
end
/- YtldgmneijipbjaaHStep -/
section
/- An append of whatever slice that is read, as one step of a region that draws its order. -/
namespace Go.Proofs.Ytldgmneijipbjaa.H
open Go.RowKit Go.Proofs.YtldgmneijipbjaaW.PrintWords Go.Proofs.YtldgmneijipbjaaW.PrintLast Go.Proofs.YtldgmneijipbjaaW.PrintMore
set_option linter.unusedVariables false
set_option linter.unusedSimpArgs false

section
variable {P : Program} {ops : Array Oper} {o : Oper} {a : Act} {Q : Exit → Act → World → Prop} {Kc : Act → World → Prop} {α : Type}
theorem R_app_step {W : World} (enc : α → Value) (d : α) {h1 : ∀ x : α, (enc x).oneCell' = true} (base : Nat) (hw : Region.wanted o (yielded ops a.tmps) = true) (s x : Operand) (t e : TypeId) (z : Value) (bytes : Nat)
    (ho : o.op = .call { callee := .builtin .append, args := #[s, x], argTypes := #[t, t] })
    (ht : P.underlying t = some (.slice e)) (hinfo : (P.info? e).map (fun i => (i.zero, i.size, i.bytes)) = some (some z, 1, bytes)) (hz : z.cells.size = 1) (hb0 : 0 < bytes)
    (v : Value) (xs ys : List α) (A : Option Addr) (m c : Nat) (ok : Nat → Prop) (hs : a.eval s = v) (hx : a.eval x = .slice A m c) (hfresh : ∀ k, W.heap.size ≤ k → ok k)
    (HO0 : (Kd.scalar enc h1).R e W base ok v xs) (HR0 : (Kd.scalar enc h1).C W A m ys) (hbase : base ≤ W.heap.size) (hl : (xs.length + m) * bytes ≤ 140737488355328)
    (h : ∀ v1 w1, (Kd.scalar enc h1).R e w1 base ok v1 (xs ++ ys) → W.grownBy w1 v.ownBlock → (v1.ownBlock = v.ownBlock ∨ v1.ownBlock = some W.heap.size) → Kc (a.put o.dst v1) w1) :
    if Region.wanted o (yielded ops a.tmps) = true then Oper.wp P o a W Kc Q else Kc (a.put o.dst undef) W := by
  have HO := Kd.own_of_R HO0
  have HR := Kd.reads_of_C (d := d) HR0
  obtain ⟨i0, hi, hzz⟩ := Option.map_eq_some_iff.1 hinfo
  simp only [Prod.mk.injEq] at hzz
  obtain ⟨hz0, hz1, hz2⟩ := hzz
  have hm : ys.length = m := HR.1
  have hlen : xs.length + m ≤ 140737488355328 := Nat.le_trans (Nat.le_mul_of_pos_right _ hb0) hl
  have hrun : ∃ v1 w1, (Builtin.append_ #[t, t] o.type #[v, .slice A m c]).run P W = .ok v1 w1 ∧ w1.ownsRow base e 1 v1 (xs ++ ys).length (encs enc (xs ++ ys)) ∧ W.grownBy w1 v.ownBlock ∧ (v1.ownBlock = v.ownBlock ∨ v1.ownBlock = some W.heap.size) := by
    rcases A with _ | ad
    · have h0 : m = 0 := by
        rcases Nat.eq_zero_or_pos m with h0 | h0
        · exact h0
        · obtain ⟨ad, h, _⟩ := HR.2.2 h0
          cases h
      subst h0
      obtain rfl : ys = [] := List.eq_nil_of_length_eq_zero hm
      refine ⟨v, W, ?_, by simpa using HO, World.grownBy.refl W _, .inl rfl⟩
      rcases HO.2 with ⟨rfl, hn⟩ | ⟨g, cap, cur, rfl, _, _, hnc, _⟩
      · simp [Builtin.append_, run_underlying ht, sizeOf, typeInfo, hi, Builtin.lenOf, Builtin.firstCells]
      · simp [Builtin.append_, run_underlying ht, sizeOf, typeInfo, hi, Builtin.lenOf, Builtin.firstCells, hnc, storeCells]
    · have hcells : ∀ j u, (encs enc ys)[j]? = some u → W.cell? (ad.add j) = some u := by
        intro j u hu
        have hj : j < ys.length := by
          rcases Nat.lt_or_ge j ys.length with h | h
          · exact h
          · simp [encs, List.getElem?_eq_none h] at hu
        obtain ⟨ad', h', hc⟩ := HR.2.2 (by omega)
        injection h' with h'
        subst h'
        rw [encs_get (d := d) ys j hj] at hu
        rw [← hu]
        exact hc j (by omega)
      obtain ⟨v1, w1, hr, h2, h3, _, h5⟩ := run_append_own_at (P := P) W base t o.type e i0 z 1 bytes ht hi hz0 hz1 hz2 hz (by omega) v xs.length (encs enc xs) HO ad m c (encs enc ys) (by simp [encs, hm]) hcells
        (by intro u hu; simp only [encs, List.mem_map] at hu; obtain ⟨q, _, rfl⟩ := hu; exact h1 q) (by simp only [maxLen]; omega) hl hbase
      exact ⟨v1, w1, hr, by simpa [encs, hm] using h2, h3, h5⟩
  rw [if_pos hw]
  obtain ⟨v1, w1, hr, hown, hg, hat⟩ := hrun
  unfold Oper.wp execOp
  simp only [ho, resolve, invoke, builtin, Sem.run_bind, Sem.run_pure, Result.andThen_ok, List.map_toArray, List.map_cons, List.map_nil, hs, hx, hr]
  refine h v1 w1 (Kd.R_of_own hown (fun k hk => ?_)) hg hat
  rcases hat with hat | hat
  · exact HO0.1 k (hat ▸ hk)
  · rw [hat] at hk; cases hk; exact hfresh _ (Nat.le_refl _)
end
end Go.Proofs.Ytldgmneijipbjaa.H
end
/- YtldgmneijipbjaaHTwin -/
section
/- The contract of twin: the same edges in memory of the call's own. -/
namespace Go.Proofs.Ytldgmneijipbjaa.H
open Go.RowKit Go.Proofs.YtldgmneijipbjaaW.PrintWords Go.Proofs.YtldgmneijipbjaaW.PrintLast Go.Proofs.YtldgmneijipbjaaW.PrintMore
set_option linter.unusedVariables false
set_option linter.unusedSimpArgs false

theorem info31 : (Try.prog.info? 31).map (fun i => (i.zero, i.size, i.bytes)) = some (some (.slice none 0 0), 1, 24) := by kernel_rfl

/-- a row of edges, as the memory holds it -/
theorem row_at {w : World} {A : Option Addr} {el : List (List Int)} (h : Kd.C KE w A el.length el) (i : Nat) (r : List Int) (hr : el[i]? = some r) :
    ∃ ad A0 c0, A = some ad ∧ w.cell? (ad.add i) = some (.slice A0 r.length c0) ∧ r.length ≤ c0 ∧ (Kd.int .i64).C w A0 r.length r := by
  obtain ⟨hi, rfl⟩ := List.getElem?_eq_some_iff.1 hr
  obtain ⟨ad, c, e, _, ⟨A0, c0, rfl, l0, g0⟩, hc⟩ := Kd.C_get h ([] : List Int) (i : Int) (by omega) (by omega)
  have q := hc 0 _ rfl
  have e1 : el.getD (i : Int).toNat [] = el[i] := by simp [List.getD_eq_getElem?_getD, hi]
  rw [e1] at q g0 l0
  rw [show (i : Int).toNat * KE.sz + 0 = i by show (i : Int).toNat * 1 + 0 = i; omega] at q
  exact ⟨ad, A0, c0, e, q, l0, g0⟩

theorem lit_C {w : World} {gb : Nat} {x : Int} (h : w.heap[gb]? = some (.cells #[.int .i64 x] 3 (0, 0))) : (Kd.int .i64).C w (some ⟨gb, 0, none⟩) 1 [x] := by
  refine ⟨rfl, by omega, fun _ => ⟨_, rfl, fun j p hp => ?_⟩⟩
  match j, hp with
  | 0, hp =>
    cases hp
    refine ⟨[.int .i64 x], rfl, rfl, fun i u hu => ?_⟩
    match i, hu with
    | 0, hu => cases hu; exact (blk_cell h 0).trans rfl
def TwF (r : List Int) (wd : World) (s : Value × Nat) (w' : World) : Prop :=
  (Kd.int .i64).R 3 w' wd.heap.size (fun k => k ≠ s.2) s.1 r ∧ w'.heap[s.2]? = some (.cells #[.int .i64 77] 3 (0, 0)) ∧ Below wd.heap.size wd w' ∧ wd.heap.size ≤ s.2
theorem tw_close1 {r : List Int} {wd w1 : World} {v1 : Value} (h1 : (Kd.int .i64).R 3 w1 wd.heap.size (fun k => wd.heap.size ≤ k) v1 ([] ++ r)) (hb : Below wd.heap.size wd w1) (h3 : v1.ownBlock = Value.ownBlock (.slice none 0 0) ∨ v1.ownBlock = some wd.heap.size) :
    TwF r wd (v1, w1.heap.size) (w1.alloc (.cells #[.int .i64 77] 3)) := by
  refine ⟨Kd.R_alloc (R_onlyI (by simpa using h1) (fun k hk => ?_)) _, blk_new _ _, below_alloc hb _, hb.size⟩
  have := own_lt (Kd.own_of_R h1) k hk
  simp only
  omega
theorem tw_close2 {r : List Int} {wd w1 : World} {v1 : Value} (h1 : (Kd.int .i64).R 3 w1 wd.heap.size (fun k => wd.heap.size ≤ k ∧ k ≠ wd.heap.size) v1 ([] ++ r)) (hb : Below wd.heap.size wd w1) (h2 : (wd.alloc (.cells #[.int .i64 77] 3)).grownBy w1 (Value.ownBlock (.slice none 0 0))) :
    TwF r wd (v1, wd.heap.size) w1 := by
  refine ⟨R_onlyI (by simpa using h1) (fun k hk => (h1.1 k hk).2), ?_, hb, Nat.le_refl _⟩
  exact (h2.block _ (by simp) (by simp [Value.ownBlock])).trans (blk_new _ _)
theorem tw_row {r : List Int} {wr wd w3 : World} {g2 cap2 rl base : Nat} (h : (Kd.int .i64).R 3 w3 wd.heap.size (fun k => wd.heap.size ≤ k) (.slice (some ⟨g2, 0, none⟩) (r ++ [77] : List Int).length cap2) (r ++ [77])) (hr : r.length = rl) (hw : wd = wr.drew) (hb : base ≤ wr.heap.size) :
    KE.M w3 base (fun k => wd.heap.size ≤ k) r [.slice (some ⟨g2, 0, none⟩) rl cap2] := by
  have h2 := Kd.R_take h (m := rl) (by simp; omega)
  rw [List.take_append_of_le_length (by omega), List.take_of_length_le (by omega)] at h2
  exact ⟨_, rfl, Kd.R_lower h2 (by rw [hw]; exact hb)⟩

def OwnRows (w : World) (l : List (List Int)) (e : Ending) (w' : World) : Prop := ∃ v, e = .returned v ∧ KE.R 31 w' w.heap.size (fun _ => True) v l ∧ Below w.heap.size w w'

set_option maxHeartbeats 4000000 in
theorem twin_any (A : Option Addr) (c : Nat) (el : List (List Int)) (w : World) (hE : Kd.C KE w A el.length el) (hc : el.length ≤ c) (hs : Small el) :
    Calls Try.prog 7 #[.slice A el.length c] w (OwnRows w el) := by
  have hlen := hs.len
  have HE := hide hE
  have HS := hide hs
  clear hE hc hs
  go_enter Try.func7, Try.ntmps7
  go_wp2
  go_loopg [3, 4] (el.length + 1) (fun gk v3 v4 wr => ∃ i : Nat, i ≤ el.length ∧ el.length - i < gk ∧ v4 = .int .i64 i ∧ Aside0 (KE.R 31 wr w.heap.size (fun _ => True) v3 (el.take i)) ∧ Aside0 (Below w.heap.size w wr))
  case atStart => exact ⟨0, Nat.zero_le _, by omega, rfl, ⟨Kd.R_nil _ _ _ _ _⟩, ⟨Below.refl _ _⟩⟩
  case round =>
    obtain ⟨i, hi, hgk, rfl, HR, HB⟩ := hrel
    by_cases hlt : i < el.length
    · obtain ⟨r, hr⟩ : ∃ r, el[i]? = some r := ⟨_, List.getElem?_eq_getElem hlt⟩
      obtain ⟨ad, A0, c0, rfl, c01, hc0, hrow0⟩ := row_at HE.out i r hr
      have c1 := pw_cell_below HB.out c01
      have hrow := Kd.C_below hrow0 HB.out
      clear hrow0
      have hrl := HS.out.row r (List.mem_of_getElem? hr)
      obtain ⟨rl, hrl2⟩ : ∃ n, r.length = n := ⟨_, rfl⟩
      rw [hrl2] at c1 hrl hc0
      rw [hrl2] at c01
      have C0 := hide c01
      clear c01
      have HRL := hide hrl2
      have HROW := hide hrow
      have HR0 := hide hr
      have hlti : (i : Int) < (el.length : Int) := by omega
      have C1 := hide c1
      clear hrl2 hrow hr
      go_wp2
      refine start_ (n := 17) (S := fun w' => w'.cell? (ad.add i) = some (.slice A0 rl c0)) (ds := []) #[false, false, false, false, false, false, false, false, false, false, false, false, false, false, false, false, false] (by kernel_rfl) rfl rfl (c1) (fun hHeld => ?_)
      obtain ⟨wd, hwd⟩ : ∃ wd, wd = wr.drew := ⟨_, rfl⟩
      rw [← hwd] at hHeld ⊢
      have HWD := hide hwd
      have C1 := hide (show wd.cell? (ad.add i) = some (.slice A0 rl c0) from hHeld)
      have HC := hide (show (Kd.int .i64).C wd A0 rl r by rw [HWD.out, ← HRL.out]; exact Kd.C_drew HROW.out)
      have HRd := hide (show KE.R 31 wd w.heap.size (fun _ => True) u3 (el.take i) by rw [HWD.out]; exact Kd.R_drew HR.out)
      have HSz := hide (show w.heap.size ≤ wd.heap.size by rw [HWD.out]; exact HB.out.size)
      clear hwd c1
      refine pure_ (i := 0) (N := some 11) (v := ?_) (a' := ?_) #[true, false, false, false, false, false, false, false, false, false, false, false, false, false, false, false, false] rfl rfl (by kernel_rfl) (fun _ _ _ h => h) (Or.inl ⟨by rfl, ?_⟩) ?_ ?_
      rotate_left
      · intro w'
        go_simp
        with_reducible rfl
      rotate_left
      · simp only [Act.put, List.setIfInBounds_toArray, List.set_cons_zero, List.set_cons_succ, i64_w, i32_w]
        rfl
      refine pure_ (i := 1) (N := some 12) (v := ?_) (a' := ?_) #[true, true, false, false, false, false, false, false, false, false, false, false, false, false, false, false, false] rfl rfl (by kernel_rfl) (fun _ _ _ h => h) (Or.inl ⟨by rfl, ?_⟩) ?_ ?_
      rotate_left
      · intro w'
        go_simp
        with_reducible rfl
      rotate_left
      · simp only [Act.put, List.setIfInBounds_toArray, List.set_cons_zero, List.set_cons_succ, i64_w, i32_w]
        rfl
      refine pure_ (i := 2) (N := some 13) (v := ?_) (a' := ?_) #[true, true, true, false, false, false, false, false, false, false, false, false, false, false, false, false, false] rfl rfl (by kernel_rfl) (fun _ _ _ h => h) (Or.inl ⟨by rfl, ?_⟩) ?_ ?_
      rotate_left
      · intro w'
        go_simp
        with_reducible rfl
      rotate_left
      · simp only [Act.put, List.setIfInBounds_toArray, List.set_cons_zero, List.set_cons_succ, i64_w, i32_w]
        rfl
      refine pure_ (i := 3) (N := some 14) (v := ?_) (a' := ?_) #[true, true, true, true, false, false, false, false, false, false, false, false, false, false, false, false, false] rfl rfl (by kernel_rfl) (fun _ _ _ h => h) (Or.inl ⟨by rfl, ?_⟩) ?_ ?_
      rotate_left
      · intro w'
        go_simp
        with_reducible rfl
      rotate_left
      · simp only [Act.put, List.setIfInBounds_toArray, List.set_cons_zero, List.set_cons_succ, i64_w, i32_w]
        rfl
      refine pure_ (i := 8) (N := some 19) (v := ?_) (a' := ?_) #[true, true, true, true, false, false, false, false, true, false, false, false, false, false, false, false, false] rfl rfl (by kernel_rfl) (fun _ _ _ h => h) (Or.inl ⟨by rfl, ?_⟩) ?_ ?_
      rotate_left
      · intro w'
        go_simp
        with_reducible rfl
      rotate_left
      · simp only [Act.put, List.setIfInBounds_toArray, List.set_cons_zero, List.set_cons_succ, i64_w, i32_w]
        rfl
      refine pure_ (i := 9) (N := some 20) (v := ?_) (a' := ?_) #[true, true, true, true, false, false, false, false, true, true, false, false, false, false, false, false, false] rfl rfl (by kernel_rfl) (fun _ _ _ h => h) (Or.inl ⟨by rfl, ?_⟩) ?_ ?_
      rotate_left
      · intro w'
        go_simp
        with_reducible rfl
      rotate_left
      · simp only [Act.put, List.setIfInBounds_toArray, List.set_cons_zero, List.set_cons_succ, i64_w, i32_w]
        rfl
      refine pure_ (i := 10) (N := some 21) (v := ?_) (a' := ?_) #[true, true, true, true, false, false, false, false, true, true, true, false, false, false, false, false, false] rfl rfl (by kernel_rfl) (fun _ _ _ h => h) (Or.inl ⟨by rfl, ?_⟩) ?_ ?_
      rotate_left
      · intro w'
        go_simp
        with_reducible rfl
      rotate_left
      · simp only [Act.put, List.setIfInBounds_toArray, List.set_cons_zero, List.set_cons_succ, i64_w, i32_w]
        rfl
      refine take_ (i := 4) (N := some 15) (v := ?_) (a' := ?_) #[true, true, true, true, true, false, false, false, true, true, true, false, false, false, false, false, false] rfl rfl (by kernel_rfl) (fun _ _ _ h => h) (Or.inl ⟨by rfl, ?_⟩) hHeld ?_ ?_
      rotate_left
      · intro w' s0
        go_simp
        with_reducible rfl
      rotate_left
      · simp only [Act.put, List.setIfInBounds_toArray, List.set_cons_zero, List.set_cons_succ, i64_w, i32_w]
        rfl
      refine take_ (i := 11) (N := some 22) (v := ?_) (a' := ?_) #[true, true, true, true, true, false, false, false, true, true, true, true, false, false, false, false, false] rfl rfl (by kernel_rfl) (fun _ _ _ h => h) (Or.inl ⟨by rfl, ?_⟩) hHeld ?_ ?_
      rotate_left
      · intro w' s0
        go_simp
        with_reducible rfl
      rotate_left
      · simp only [Act.put, List.setIfInBounds_toArray, List.set_cons_zero, List.set_cons_succ, i64_w, i32_w]
        rfl
      refine pure_ (i := 12) (N := some 23) (v := ?_) (a' := ?_) #[true, true, true, true, true, false, false, false, true, true, true, true, true, false, false, false, false] rfl rfl (by kernel_rfl) (fun _ _ _ h => h) (Or.inl ⟨by rfl, ?_⟩) ?_ ?_
      rotate_left
      · intro w'
        go_simp
        with_reducible rfl
      rotate_left
      · simp only [Act.put, List.setIfInBounds_toArray, List.set_cons_zero, List.set_cons_succ, i64_w, i32_w]
        rfl
      refine join_ (σ := Value × Nat) 5 #[true, true, true, true, true, true, true, false, true, true, true, true, true, false, false, false, false] (fun s => [(16, s.1), (17, .slice (some ⟨s.2, 0, none⟩) 1 1)]) (fun s w' => TwF r wd s w') ?_ ?_
      rotate_left
      · intro hCont
        refine two_ (i := 5) (j := 6) (Ni := some 16) (Nj := some 17) #[true, true, true, true, true, true, false, false, true, true, true, true, true, false, false, false, false] #[true, true, true, true, true, false, true, false, true, true, true, true, true, false, false, false, false] rfl rfl rfl rfl (by kernel_rfl) (by decide) (by decide) (fun K hK => ?_) (fun K hK => ?_)
        · skip
          refine R_app_step (Value.int .i64) (0 : Int) (h1 := fun _ => rfl) wd.heap.size ?aWq1 (.const (.slice none 0 0)) (.tmp 15) 31 3 (.int .i64 0) 8 ?aHq1 Try.underlying31 info3 rfl (by omega) (.slice none 0 0) [] r A0 rl c0 (fun k => wd.heap.size ≤ k) ?aS1q1 ?aXq1 ?aFq1 ?aOq1 ?aCq1 ?aBq1 ?aLq1 ?_
          case aWq1 => rfl
          case aHq1 => rfl
          case aS1q1 => rfl
          case aXq1 => rfl
          case aFq1 => exact fun k hk => hk
          case aOq1 => exact Kd.R_nil _ _ _ _ _
          case aCq1 => exact HC.out
          case aBq1 => exact Nat.le_refl _
          case aLq1 => simp; omega
          intro v1 w1 h1 h2 h3
          have F5 : Below wd.heap.size wd w1 := ⟨h2.os, h2.tape, h2.output, h2.size, fun k hk => h2.block k hk (by simp [Value.ownBlock])⟩
          refine hK.out _ _ (pw_cell_below F5 C1.out) (fun hHeld => ?_)
          clear hK K
          refine norm_ (a' := ?_) ?_ ?_
          rotate_left
          · show Act.put _ (some 16) _ = _
            simp only [Act.put, List.setIfInBounds_toArray, List.set_cons_zero, List.set_cons_succ, i64_w, i32_w]
            rfl
          refine one_ (i := 6) (N := some 17) #[true, true, true, true, true, true, true, false, true, true, true, true, true, false, false, false, false] rfl rfl (by kernel_rfl) (by decide) (fun K hK => ?_)
          refine value_ (w1 := ?_) (v := ?_) (by rfl) rfl ?_ ?_
          rotate_left 2
          · go_simp
            constructor
            · rfl
            · rfl
          refine hK.out _ _ (pw_cell_below (below_alloc F5 _) C1.out) (fun hHeld => ?_)
          clear hK K
          refine norm_ (a' := ?_) ?_ ?_
          rotate_left
          · show Act.put _ (some 17) _ = _
            simp only [Act.put, List.setIfInBounds_toArray, List.set_cons_zero, List.set_cons_succ, i64_w, i32_w]
            rfl
          exact norm_ (by simp only [putAll, Act.put, List.setIfInBounds_toArray, List.set_cons_zero, List.set_cons_succ]) (hCont (v1, w1.heap.size) _ (tw_close1 h1 F5 h3))
        · skip
          refine value_ (w1 := ?_) (v := ?_) (by rfl) rfl ?_ ?_
          rotate_left 2
          · go_simp
            constructor
            · rfl
            · rfl
          refine hK.out _ _ (pw_cell_below (below_alloc (Below.refl _ _) _) C1.out) (fun hHeld => ?_)
          clear hK K
          refine norm_ (a' := ?_) ?_ ?_
          rotate_left
          · show Act.put _ (some 17) _ = _
            simp only [Act.put, List.setIfInBounds_toArray, List.set_cons_zero, List.set_cons_succ, i64_w, i32_w]
            rfl
          refine one_ (i := 5) (N := some 16) #[true, true, true, true, true, true, true, false, true, true, true, true, true, false, false, false, false] rfl rfl (by kernel_rfl) (by decide) (fun K hK => ?_)
          refine R_app_step (Value.int .i64) (0 : Int) (h1 := fun _ => rfl) wd.heap.size ?aWq2 (.const (.slice none 0 0)) (.tmp 15) 31 3 (.int .i64 0) 8 ?aHq2 Try.underlying31 info3 rfl (by omega) (.slice none 0 0) [] r A0 rl c0 (fun k => wd.heap.size ≤ k ∧ k ≠ wd.heap.size) ?aS1q2 ?aXq2 ?aFq2 ?aOq2 ?aCq2 ?aBq2 ?aLq2 ?_
          case aWq2 => rfl
          case aHq2 => rfl
          case aS1q2 => rfl
          case aXq2 => rfl
          case aFq2 => exact fun k hk => (by simp at hk; omega)
          case aOq2 => exact Kd.R_nil _ _ _ _ _
          case aCq2 => exact Kd.C_alloc HC.out _
          case aBq2 => simp
          case aLq2 => simp; omega
          intro v1 w1 h1 h2 h3
          have F5 : Below wd.heap.size wd w1 := (below_alloc (Below.refl _ _) _).trans ⟨h2.os, h2.tape, h2.output, h2.size, fun k hk => h2.block k (by simp; omega) (by simp [Value.ownBlock])⟩
          refine hK.out _ _ (pw_cell_below F5 C1.out) (fun hHeld => ?_)
          clear hK K
          refine norm_ (a' := ?_) ?_ ?_
          rotate_left
          · show Act.put _ (some 16) _ = _
            simp only [Act.put, List.setIfInBounds_toArray, List.set_cons_zero, List.set_cons_succ, i64_w, i32_w]
            rfl
          exact norm_ (by simp only [putAll, Act.put, List.setIfInBounds_toArray, List.set_cons_zero, List.set_cons_succ]) (hCont (v1, wd.heap.size) _ (tw_close2 h1 F5 h2))
      rintro ⟨v1, gb⟩ w2 ⟨F1, F2, F3, F4⟩
      have G1 := hide F1
      have G2 := hide F2
      have G3 := hide F3
      have G4 := hide F4
      clear F1 F2 F3 F4
      have hHeld : w2.cell? (ad.add i) = some (.slice A0 rl c0) := pw_cell_below G3.out C1.out
      refine norm_ (a' := ?_) ?_ ?_
      rotate_left
      · simp only [putAll, Act.put, List.setIfInBounds_toArray, List.set_cons_zero, List.set_cons_succ]
        rfl
      refine one_ (i := 7) (N := some 18) #[true, true, true, true, true, true, true, true, true, true, true, true, true, false, false, false, false] rfl rfl (by kernel_rfl) (by decide) (fun K hK => ?_)
      refine R_app_step (Value.int .i64) (0 : Int) (h1 := fun _ => rfl) wd.heap.size ?aWq3 (.tmp 16) (.tmp 17) 31 3 (.int .i64 0) 8 ?aHq3 Try.underlying31 info3 rfl (by omega) v1 r [77] (some ⟨gb, 0, none⟩) 1 1 (fun k => wd.heap.size ≤ k) ?aS1q3 ?aXq3 ?aFq3 ?aRq3 ?aCq3 ?aBq3 ?aLq3 ?_
      case aWq3 => rfl
      case aHq3 => rfl
      case aS1q3 => rfl
      case aXq3 => rfl
      case aFq3 => exact fun k hk => Nat.le_trans G3.out.size hk
      case aRq3 => exact R_onlyI G1.out (fun k hk => own_base (Kd.own_of_R G1.out) k hk)
      case aCq3 => exact lit_C G2.out
      case aBq3 => exact G3.out.size
      case aLq3 => have q := HRL.out; omega
      intro v2 w3 h1 h2 h3
      obtain ⟨g2, cap2, rfl, -, -, -⟩ := Kd.R_form h1 (by simp)
      have B1 := hide h1
      have B2 := hide (show Below wd.heap.size wd w3 from G3.out.trans ⟨h2.os, h2.tape, h2.output, h2.size, fun k hk => h2.block k (Nat.lt_of_lt_of_le hk G3.out.size) (fun e => by have := own_base (Kd.own_of_R G1.out) k e.symm; omega)⟩)
      have hcap : rl ≤ cap2 := by have := (Kd.R_reads' h1).2.1; have q := HRL.out; simp at this; omega
      have hcapi : (rl : Int) ≤ (cap2 : Int) := by omega
      clear h1 h2 h3
      have c2 : w3.cell? (ad.add i) = some (.slice A0 rl c0) := pw_cell_below B2.out C1.out
      have e2 : (r ++ [77] : List Int).length = rl + 1 := by have q := HRL.out; simp; exact q
      rw [e2]
      clear e2
      refine hK.out _ _ (c2) (fun hHeld => ?_)
      clear hK K
      refine norm_ (a' := ?_) ?_ ?_
      rotate_left
      · show Act.put _ (some 18) _ = _
        simp only [Act.put, List.setIfInBounds_toArray, List.set_cons_zero, List.set_cons_succ, i64_w, i32_w]
        rfl
      refine pure_ (i := 13) (N := some 24) (v := ?_) (a' := ?_) #[true, true, true, true, true, true, true, true, true, true, true, true, true, true, false, false, false] rfl rfl (by kernel_rfl) (fun _ _ _ h => h) (Or.inl ⟨by rfl, ?_⟩) ?_ ?_
      rotate_left
      · intro w'
        go_simp
        with_reducible rfl
      rotate_left
      · simp only [Act.put, List.setIfInBounds_toArray, List.set_cons_zero, List.set_cons_succ, i64_w, i32_w]
        rfl
      refine one_ (i := 14) (N := some 25) #[true, true, true, true, true, true, true, true, true, true, true, true, true, true, true, false, false] rfl rfl (by kernel_rfl) (by decide) (fun K hK => ?_)
      refine value_ (w1 := ?_) (v := ?_) (by rfl) rfl ?_ ?_
      rotate_left 2
      · go_simp
        constructor
        · rfl
        · rfl
      refine hK.out _ _ (pw_cell_below (below_alloc (Below.refl _ _) _) c2) (fun hHeld => ?_)
      clear hK K
      refine norm_ (a' := ?_) ?_ ?_
      rotate_left
      · show Act.put _ (some 25) _ = _
        simp only [Act.put, List.setIfInBounds_toArray, List.set_cons_zero, List.set_cons_succ, i64_w, i32_w]
        rfl
      refine one_ (i := 15) (N := some 26) #[true, true, true, true, true, true, true, true, true, true, true, true, true, true, true, true, false] rfl rfl (by kernel_rfl) (by decide) (fun K hK => ?_)
      refine Kd.R_append_step KE (w0 := w3) w.heap.size ?aWq4 (.tmp 11) (.tmp 25) 22 31 (.slice none 0 0) 24 ?aHq4 Try.underlying22 info31 rfl (by decide) (by omega) u3 (el.take i) r [.slice (some ⟨g2, 0, none⟩) rl cap2] (fun _ => True) (fun k => wd.heap.size ≤ k) ?aS1q4 ?aXq4 ?aPq4 ?aokq4 (fun _ _ => trivial) ?aOq4 ?aBq4 ?aSq4 ?aLq4 ?_
      case aWq4 => rfl
      case aHq4 => rfl
      case aS1q4 => rfl
      case aXq4 => rfl
      case aPq4 => exact tw_row B1.out HRL.out HWD.out HB.out.size
      case aokq4 => exact fun k hk => ⟨trivial, fun e => by have := (Kd.R_bound HRd.out).1 k e.symm; omega⟩
      case aOq4 => exact Kd.R_below HRd.out B2.out
      case aBq4 => exact Below.refl _ _
      case aSq4 => exact Nat.le_trans HSz.out B2.out.size
      case aLq4 => rw [List.length_take]; omega
      intro v4 w4 h1 h2 h3 h4
      have D1 := hide h1
      have D2 := hide (show Below w.heap.size w w4 from (HB.out.trans (by rw [HWD.out] at B2; exact (below_drew (Below.refl _ _)).trans (B2.out.mono (by show w.heap.size ≤ wr.heap.size; exact HB.out.size)))).trans h2)
      clear h1 h2 h3 h4
      have c3 : w4.cell? (ad.add i) = some (.slice A0 rl c0) := pw_cell_below D2.out C0.out
      refine hK.out _ _ (c3) (fun hHeld => ?_)
      clear hK K
      refine norm_ (a' := ?_) ?_ ?_
      rotate_left
      · show Act.put _ (some 26) _ = _
        simp only [Act.put, List.setIfInBounds_toArray, List.set_cons_zero, List.set_cons_succ, i64_w, i32_w]
        rfl
      refine pure_ (i := 16) (N := some 3) (v := ?_) (a' := ?_) #[true, true, true, true, true, true, true, true, true, true, true, true, true, true, true, true, true] rfl rfl (by kernel_rfl) (fun _ _ _ h => h) (Or.inl ⟨by rfl, ?_⟩) ?_ ?_
      rotate_left
      · intro w'
        go_simp
        with_reducible rfl
      rotate_left
      · simp only [Act.put, List.setIfInBounds_toArray, List.set_cons_zero, List.set_cons_succ, i64_w, i32_w]
        rfl
      refine done_ (by kernel_rfl) ?_

      go_wp2
      go_roundg (el.length - i)
      case measure => omega
      case rel => exact ⟨i + 1, by omega, by omega, by go_num, ⟨by rw [List.take_succ_eq_append_getElem hlt, ← (List.getElem?_eq_some_iff.1 HR0.out).2] at *; exact D1.out⟩, D2⟩
    · obtain rfl : i = el.length := by omega
      go_wp2
      go_ret
      exact ⟨_, rfl, by rw [List.take_length] at HR; exact HR.out, HB.out⟩
end Go.Proofs.Ytldgmneijipbjaa.H
end
/- YtldgmneijipbjaaGr4 -/
section
/- The edges turned round, as the program makes them. -/
namespace Go.Proofs.Ytldgmneijipbjaa.Gr
def bput (bk : G) (e : Nat × Nat) : G := bk.set e.2 (bk.getD e.2 [] ++ [e.1])
def backE (n : Nat) (es : List (Nat × Nat)) : G := es.foldl bput (List.replicate n [])
def esU (g : G) (x : Nat) : List (Nat × Nat) := (List.range x).flatMap fun z => (out g z).map fun y => (z, y)
def esV (g : G) (x j : Nat) : List (Nat × Nat) := esU g x ++ ((out g x).take j).map fun y => (x, y)
theorem esV_zero (g : G) (x : Nat) : esV g x 0 = esU g x := by simp [esV]
theorem esV_all (g : G) (x j : Nat) (h : (out g x).length ≤ j) : esV g x j = esU g (x + 1) := by
  simp [esV, esU, List.range_succ, List.take_of_length_le h]
theorem esV_succ (g : G) (x j y : Nat) (h : (out g x)[j]? = some y) : esV g x (j + 1) = esV g x j ++ [(x, y)] := by
  simp [esV, List.take_add_one, h]
theorem backE_snoc (n : Nat) (es : List (Nat × Nat)) (e : Nat × Nat) : backE n (es ++ [e]) = bput (backE n es) e := by simp [backE, List.foldl_append]
theorem backE_length (n : Nat) (es : List (Nat × Nat)) : (backE n es).length = n := by
  have : ∀ (es : List (Nat × Nat)) (bk : G), (es.foldl bput bk).length = bk.length := by
    intro es
    induction es with
    | nil => intro bk; rfl
    | cons e es ih => intro bk; rw [List.foldl_cons, ih]; simp [bput]
  rw [backE, this]; simp
theorem bput_get (bk : G) (e : Nat × Nat) (y : Nat) (h : e.2 < bk.length) : (bput bk e).getD y [] = if e.2 = y then bk.getD y [] ++ [e.1] else bk.getD y [] := by
  simp only [bput, List.getD_eq_getElem?_getD, List.getElem?_set]
  by_cases q : e.2 = y
  · subst q; simp [h]
  · simp [q]
theorem backE_row (n : Nat) (es : List (Nat × Nat)) (hes : ∀ e, e ∈ es → e.2 < n) (y : Nat) : (∀ z, z ∈ (backE n es).getD y [] ↔ (z, y) ∈ es) ∧ ((backE n es).getD y []).length ≤ es.length := by
  have : ∀ (m : Nat) (es : List (Nat × Nat)), es.length = m → (∀ e, e ∈ es → e.2 < n) → (∀ z, z ∈ (backE n es).getD y [] ↔ (z, y) ∈ es) ∧ ((backE n es).getD y []).length ≤ es.length := by
    intro m
    induction m with
    | zero =>
      intro es hm _
      obtain rfl := List.eq_nil_of_length_eq_zero hm
      simp only [backE, List.foldl_nil, List.getD_eq_getElem?_getD, List.getElem?_replicate]
      by_cases q : y < n <;> simp [q]
    | succ m ih =>
      intro es hm h
      rcases List.eq_nil_or_concat es with rfl | ⟨es', e, rfl⟩
      · cases hm
      · rw [List.concat_eq_append] at *
        obtain ⟨i1, i2⟩ := ih es' (by simpa using hm) (fun e he => h e (by simp [he]))
        rw [backE_snoc, bput_get _ _ _ (by rw [backE_length]; exact h e (by simp))]
        by_cases q : e.2 = y
        · rw [if_pos q]
          refine ⟨fun z => ?_, by rw [List.length_append, List.length_append]; simp only [List.length_singleton]; omega⟩
          rw [List.mem_append, i1 z, List.mem_append]
          obtain ⟨e1, e2⟩ := e
          simp only at q
          subst q
          simp
        · rw [if_neg q]
          refine ⟨fun z => ?_, by rw [List.length_append]; omega⟩
          rw [i1 z, List.mem_append]
          obtain ⟨e1, e2⟩ := e
          simp only at q
          simp [Ne.symm q]
  exact this _ es rfl hes
theorem esU_lt {g : G} (hg : Good g) (x : Nat) : ∀ e, e ∈ esU g x → e.2 < g.length := by
  intro e he
  simp only [esU, List.mem_flatMap, List.mem_map] at he
  obtain ⟨z, _, y, hy, rfl⟩ := he
  exact hg z y hy
theorem esV_lt {g : G} (hg : Good g) (x j : Nat) : ∀ e, e ∈ esV g x j → e.2 < g.length := by
  intro e he
  rcases List.mem_append.1 he with he | he
  · exact esU_lt hg x e he
  · obtain ⟨y, hy, rfl⟩ := List.mem_map.1 he
    exact hg x y (List.mem_of_mem_take hy)
theorem esU_length (g : G) (x : Nat) (hx : x ≤ g.length) : (esU g x).length ≤ (g.map List.length).sum := by
  have h1 : (esU g x).length = ((List.range x).map fun z => (out g z).length).sum := by
    simp [esU, List.length_flatMap]
  have h2 : ∀ (g : G) (x : Nat), x ≤ g.length → ((List.range x).map fun z => (out g z).length).sum ≤ (g.map List.length).sum := by
    intro g
    induction g with
    | nil => intro x hx; simp at hx; subst hx; simp
    | cons r g ih =>
      intro x hx
      cases x with
      | zero => simp
      | succ x =>
        rw [List.range_succ_eq_map, List.map_cons, List.sum_cons, List.map_map]
        have := ih x (by simpa using hx)
        simp only [List.map_cons, List.sum_cons]
        have e : ((List.range x).map ((fun z => (out (r :: g) z).length) ∘ Nat.succ)) = ((List.range x).map fun z => (out g z).length) := by
          refine List.map_congr_left (fun z _ => ?_)
          simp [out]
        rw [e]
        have e0 : (out (r :: g) 0).length = r.length := by simp [out]
        omega
  rw [h1]; exact h2 g x hx
theorem esV_length (g : G) (x j : Nat) (hx : x < g.length) : (esV g x j).length ≤ (g.map List.length).sum := by
  have h1 := esU_length g (x + 1) hx
  rw [← esV_all g x _ (Nat.le_refl _)] at h1
  simp only [esV, List.length_append, List.length_map, List.length_take] at h1 ⊢
  omega
theorem back_is {g : G} (hg : Good g) : Back g (backE g.length (esU g g.length)) := by
  refine ⟨backE_length _ _, fun x y => ?_⟩
  have := (backE_row g.length (esU g g.length) (esU_lt hg _) y).1 x
  unfold out at *
  rw [this]
  simp only [esU, List.mem_flatMap, List.mem_range, List.mem_map]
  constructor
  · rintro ⟨z, hz, y', hy', e⟩
    cases e
    exact hy'
  · intro h
    exact ⟨x, out_lt h, y, h, rfl⟩
end Go.Proofs.Ytldgmneijipbjaa.Gr
end
/- YtldgmneijipbjaaHMat -/
section
/- A list of lists of the call's own: one row taken out, made longer, put back. -/
namespace Go.Proofs.Ytldgmneijipbjaa.H
open Go.RowKit Go.Proofs.YtldgmneijipbjaaW.PrintWords Go.Proofs.YtldgmneijipbjaaW.PrintLast Go.Proofs.YtldgmneijipbjaaW.PrintMore
set_option linter.unusedVariables false

theorem mat_lend {W : World} {base gb cb n : Nat} {ok : Nat → Prop} {rows : List (List Int)} (h : Kd.S KE 31 W base ok (.slice (some ⟨gb, 0, none⟩) n cb) rows) (y : Nat) (hy : y < n) :
    ∃ oki v0, (Kd.int .i64).R 3 W base oki v0 (rows.getD y []) ∧ W.cell? ⟨gb, y, none⟩ = some v0 ∧ (∀ k, oki k → ok k ∧ k ≠ gb) ∧ Kd.H KE 31 W base ok (.slice (some ⟨gb, 0, none⟩) n cb) rows (y : Int) oki [v0] := by
  obtain ⟨oki, c, hc, ⟨v0, rfl, hM⟩, hcell, hoki, hH⟩ := Kd.S_lend h ([] : List Int) (y : Int) (by omega) (by omega)
  rw [Int.toNat_natCast] at hM hcell
  have q := hcell 0 v0 rfl
  rw [show y * KE.sz + 0 = y by show y * 1 + 0 = y; omega] at q
  exact ⟨oki, v0, hM, q, hoki, hH⟩

theorem mat_back {W w1 : World} {base gb cb n y : Nat} {ok oki : Nat → Prop} {rows : List (List Int)} {row' : List Int} {v0 v1 : Value} (hH : Kd.H KE 31 W base ok (.slice (some ⟨gb, 0, none⟩) n cb) rows (y : Int) oki [v0]) (hy : y < n)
    (hoki : ∀ k, oki k → ok k ∧ k ≠ gb) (hgb : gb < W.heap.size) (hg : W.grownBy w1 v0.ownBlock) (hv0 : ∀ k, v0.ownBlock = some k → oki k) (hr : (Kd.int .i64).R 3 w1 base (fun k => oki k ∨ W.heap.size ≤ k) v1 row') (hok : ∀ k, ok k → k < W.heap.size) (h1 : v1.oneCell' = true) :
    Kd.S KE 31 (w1.setCell ⟨gb, y, none⟩ v1) base (fun k => ok k ∨ W.heap.size ≤ k) (.slice (some ⟨gb, 0, none⟩) n cb) (rows.set y row') := by
  have h2 := Kd.H_grown hH hg (fun k e => hv0 k e)
  have h3 : Kd.H KE 31 w1 base (fun k => (ok k ∨ W.heap.size ≤ k) ∧ ¬ W.heap.size ≤ k) (.slice (some ⟨gb, 0, none⟩) n cb) rows (y : Int) oki [v0] := Kd.H_mono h2 (fun k hk => ⟨.inl hk, by have := hok k hk; omega⟩)
  have h4 := (Kd.S_seg h3 (by omega) (by omega) (seg := [v1]) (j := 0) (x' := row') (okp := fun k => oki k ∨ W.heap.size ≤ k) (Nat.le_refl 1) ⟨v1, rfl, hr⟩ (fun k hk => hk) (fun k hk => ⟨.inr hk, by omega⟩)).1
  rw [Int.toNat_natCast] at h4
  have e : y * KE.sz + 0 = y := by show y * 1 + 0 = y; omega
  rw [e] at h4
  exact h4
end Go.Proofs.Ytldgmneijipbjaa.H
end
/- YtldgmneijipbjaaHP1 -/
section
/- What holds in the first loop of Parts: the walker has walked from the places below x, the edges es are turned round. -/
namespace Go.Proofs.Ytldgmneijipbjaa.H
open Go.RowKit Go.Proofs.YtldgmneijipbjaaW.PrintWords Go.Proofs.YtldgmneijipbjaaW.PrintLast Go.Proofs.YtldgmneijipbjaaW.PrintMore
open Gr (out sn unseen visit scan backE bput)
set_option linter.unusedVariables false

def st0 (n : Nat) : Gr.St := (List.replicate n false, [])
abbrev NN (g : Gr.G) : Nat := 2 * g.length + 1
structure P1 (g : Gr.G) (w : World) (b : Nat) (ev : Value) (gs cs gb cb : Nat) (x : Nat) (es : List (Nat × Nat)) (wr : World) (D Q : Nat → Prop) (dv : Value) : Prop where
  ws : WS wr w.heap.size b ev gs cs (fun k => k = gs) D dv (scan g (NN g) (List.range x) (st0 g.length))
  mat : Kd.S KE 31 wr w.heap.size Q (.slice (some ⟨gb, 0, none⟩) g.length cb) ((backE g.length es).map castL)
  Dlt : ∀ k, D k → k < wr.heap.size
  Qlt : ∀ k, Q k → k < wr.heap.size
  Dge : ∀ k, D k → w.heap.size ≤ k
  Qge : ∀ k, Q k → w.heap.size ≤ k
  bge : w.heap.size ≤ b
  gsge : w.heap.size ≤ gs
  Qb : ∀ k, Q k → k ≠ b ∧ k ≠ gs ∧ ¬ D k
  below : Below w.heap.size w wr

theorem scan_snoc (g : Gr.G) (N : Nat) (x : Nat) (p : Gr.St) : scan g N (List.range (x + 1)) p = if sn (scan g N (List.range x) p).1 x then scan g N (List.range x) p else visit g N x (scan g N (List.range x) p) := by
  rw [List.range_succ, Gr.scan_append, Gr.scan_cons, Gr.scan_nil]
theorem scan_bounds (g : Gr.G) (hg : Gr.Good g) (ys : List Nat) : (scan g (NN g) ys (st0 g.length)).1.length = g.length ∧ (scan g (NN g) ys (st0 g.length)).2.length ≤ g.length := by
  have h1 := Gr.le_scan g (NN g) ys (st0 g.length)
  have h2 := (Pu.len_both g hg (NN g)).2 ys (st0 g.length)
  have h3 : unseen (st0 g.length).1 = g.length := Gr.unseen_start _
  refine ⟨by rw [h1.1]; simp [st0], ?_⟩
  simp only [st0, List.length_nil] at h2 h3 ⊢
  omega

theorem P1.from_ {g : Gr.G} {w wr : World} {b n c gs cs gb cb x : Nat} {A : Option Addr} {es : List (Nat × Nat)} {D Q : Nat → Prop} {dv : Value}
    (h : P1 g w b (.slice A n c) gs cs gb cb x es wr D Q dv) (hg : Gr.Good g) (hn : g.length = n) (hx : x < n) (hsm : n ≤ 1099511627776) (hE : Kd.C KE w A n (castG g)) :
    Calls Try.prog 19 #[.pointer (some ⟨b, 0, none⟩), .int .i64 x] wr fun e w' => e = .returned (.tuple #[]) ∧ ∃ D' dv', P1 g w b (.slice A n c) gs cs gb cb (x + 1) es w' D' Q dv' := by
  have hb := scan_bounds g hg (List.range x)
  have hS : ∀ i, (i = b ∨ i = gs ∨ D i) → w.heap.size ≤ i := by
    rintro i (rfl | rfl | q)
    · exact h.bge
    · exact h.gsge
    · exact h.Dge i q
  obtain ⟨s, d, hp⟩ : ∃ s d, scan g (NN g) (List.range x) (st0 g.length) = (s, d) := ⟨_, _, rfl⟩
  have hws := h.ws
  rw [hp] at hb hws
  refine (from_any g (NN g) b x n A c gs cs w.heap.size (fun k => k = gs) D dv s d wr (scan g (NN g) (List.range (x + 1)) (st0 g.length)) hn hg hws (by rw [hb.1]; exact hn) hx (by have := hb.2; simp only [NN] at *; omega) (by simp only [NN]; omega) h.below.size h.Dlt
    (fun W hW => Kd.C_below hE (h.below.trans (hW.below h.below.size hS))) (by rw [scan_snoc, hp])).mono ?_
  rintro e w2 ⟨rfl, D', dv', hws, hD', hf⟩
  refine ⟨rfl, fun k => D' k ∧ k < w2.heap.size, dv', ⟨hws.blk, hws.seen, R_onlyI hws.done (fun k hk => ⟨hws.done.1 k hk, own_lt (Kd.own_of_R hws.done) k hk⟩), hws.bP, fun q => hws.bD q.1, fun k q r => hws.PD k q r.1, hws.Plt⟩, ?_, fun k hk => hk.2, fun k hk => Nat.lt_of_lt_of_le (h.Qlt k hk) hf.size, ?_, h.Qge, h.bge, h.gsge, ?_, ?_⟩
  · refine Kd.S_kept h.mat hf.kept (fun k hk => ?_)
    have := h.Qb k hk
    rintro (q | q | q)
    · exact this.1 q
    · exact this.2.1 q
    · exact this.2.2 q
  · rintro k ⟨q, _⟩
    rcases hD' k q with q | q
    · exact h.Dge k q
    · exact Nat.le_trans h.below.size q
  · intro k hk
    have := h.Qb k hk
    refine ⟨this.1, this.2.1, fun q => ?_⟩
    rcases hD' k q.1 with q | q
    · exact this.2.2 q
    · have := h.Qlt k hk; omega
  · exact h.below.trans (hf.below h.below.size hS)

theorem castL_snoc (l : List Nat) (x : Nat) : castL l ++ [(x : Int)] = castL (l ++ [x]) := by simp [castL]

/-- an edge from x to y turned round: y's row is made longer -/
theorem P1.put {g : Gr.G} {w wr w1 : World} {b : Nat} {ev : Value} {gs cs gb cb x x' y : Nat} {es : List (Nat × Nat)} {D Q oki : Nat → Prop} {dv v0 v1 : Value}
    (h : P1 g w b ev gs cs gb cb x' es wr D Q dv) (hy : y < g.length)
    (hH : Kd.H KE 31 wr w.heap.size Q (.slice (some ⟨gb, 0, none⟩) g.length cb) ((backE g.length es).map castL) (y : Int) oki [v0])
    (hoki : ∀ k, oki k → Q k ∧ k ≠ gb) (hg : wr.grownBy w1 v0.ownBlock) (hv0 : ∀ k, v0.ownBlock = some k → oki k)
    (hr : (Kd.int .i64).R 3 w1 w.heap.size (fun k => oki k ∨ wr.heap.size ≤ k) v1 (((backE g.length es).map castL).getD y [] ++ [(x : Int)])) (h1 : v1.oneCell' = true) :
    P1 g w b ev gs cs gb cb x' (es ++ [(x, y)]) (w1.setCell ⟨gb, y, none⟩ v1) D (fun k => (Q k ∨ wr.heap.size ≤ k) ∧ k < w1.heap.size) dv := by
  have hgb : Q gb := (Kd.S_R h.mat).1 gb rfl
  have hF : Fr Q wr (w1.setCell ⟨gb, y, none⟩ v1) := ((Fr.refl Q wr).grown hg (fun k e => .inl (hoki k (hv0 k e)).1)).setCell (.inl hgb) _
  have hbase := (Kd.R_bound (Kd.S_R h.mat))
  have hsz : (w1.setCell ⟨gb, y, none⟩ v1).heap.size = w1.heap.size := by simp [World.setCell]
  have hwsz := h.below.size
  refine ⟨⟨hF.blk h.ws.blk (fun q => (h.Qb _ q).1 rfl), fr_R h.ws.seen hF (fun k hk q => (h.Qb _ q).2.1 hk), fr_R h.ws.done hF (fun k hk q => (h.Qb _ q).2.2 hk), h.ws.bP, h.ws.bD, h.ws.PD, fun k hk => Nat.lt_of_lt_of_le (h.ws.Plt k hk) hF.size⟩, ?_, fun k hk => Nat.lt_of_lt_of_le (h.Dlt k hk) hF.size, ?_, h.Dge, ?_, h.bge, h.gsge, ?_, ?_⟩
  · have hm := mat_back hH hy hoki (h.Qlt gb hgb) hg hv0 hr h.Qlt h1
    have e : ((backE g.length es).map castL).set y (((backE g.length es).map castL).getD y [] ++ [(x : Int)]) = (backE g.length (es ++ [(x, y)])).map castL := by
      rw [Gr.backE_snoc]
      unfold bput
      rw [List.map_set]
      congr 1
      rw [List.getD_eq_getElem?_getD, List.getElem?_map, List.getD_eq_getElem?_getD]
      cases (backE g.length es)[y]? <;> simp [castL]
    rw [e] at hm
    exact Kd.S_mono (Kd.S_bound hm) (fun k hk => ⟨hk.1, by have := hk.2.2.1; omega⟩)
  · intro k hk; rw [hsz]; exact hk.2
  · rintro k ⟨hk | hk, _⟩
    · exact h.Qge k hk
    · omega
  · rintro k ⟨hk | hk, _⟩
    · exact h.Qb k hk
    · refine ⟨?_, ?_, ?_⟩
      · rintro rfl; have := blk_lt h.ws.blk; omega
      · rintro rfl; have := h.ws.Plt k rfl; omega
      · intro q; have := h.Dlt k q; omega
  · exact h.below.trans ⟨hF.os, hF.tape, hF.output, hF.size, fun k hk => hF.block k (by omega) (fun q => by have := h.Qge k q; omega)⟩
end Go.Proofs.Ytldgmneijipbjaa.H
end
/- YtldgmneijipbjaaHBack -/
section
/- slices.Backward at a slice of ints: what goes over it hands out all elements, the last one first, whatever a round does elsewhere. -/
namespace Go.Proofs.Ytldgmneijipbjaa.H
open Go.RowKit Go.Shelf Go.Proofs.YtldgmneijipbjaaW.PrintWords Go.Proofs.YtldgmneijipbjaaW.PrintLast Go.Proofs.YtldgmneijipbjaaW.PrintMore
set_option linter.unusedVariables false
set_option linter.unusedSimpArgs false
attribute [local go_sem] Oper.semAt_some

/-- these blocks lie as they lay -/
def Keeps (K : Nat → Prop) (A B : World) : Prop := ∀ k, K k → B.heap[k]? = A.heap[k]?
theorem Keeps.t {K : Nat → Prop} {A B C : World} (h : Keeps K A B) (k : Keeps K B C) : Keeps K A C := fun i hi => (k i hi).trans (h i hi)

section
variable {β : Type}
def bseq (zs : List β) : List (Nat × β) := (zs.zipIdx.map fun p => (p.2, p.1)).reverse
theorem bseq_length (zs : List β) : (bseq zs).length = zs.length := by simp [bseq]
theorem bseq_at (zs : List β) (q : Nat) (x : β) (h : zs[q]? = some x) : (bseq zs)[zs.length - 1 - q]? = some (q, x) := by
  obtain ⟨hq, rfl⟩ := List.getElem?_eq_some_iff.1 h
  unfold bseq
  rw [List.getElem?_reverse (by simp; omega)]
  simp only [List.length_map, List.length_zipIdx, List.getElem?_map, List.getElem?_zipIdx]
  rw [show zs.length - 1 - (zs.length - 1 - q) = q by omega]
  simp [hq]
theorem bseq_val (zs : List β) : (bseq zs).map (fun p => p.2) = zs.reverse := by
  unfold bseq
  rw [List.map_reverse, List.map_map]
  congr 1
  exact List.zipIdx_map_fst (i := 0) (l := zs)
end

set_option maxRecDepth 100000 in
set_option maxHeartbeats 2000000 in
theorem back1_in {β : Type} (val : β → Int) (F : Fence) (n : Nat) (h29 : F.fn 29) (hro : F.round = none) (hn : 1 ≤ n) (l Bs cap : Nat) (A : Option Addr) (zs : List β) (hlen : zs.length ≤ 9007199254740992) (K : Nat → Prop) (J Jx : List (Nat × β) → World → Prop)
    (hY : ∀ pre x W, J pre W → pre.length < zs.length → YieldAt F (n - 1) Try.prog l #[.int .i64 (x.1 : Int), .int .i64 (val x.2)] W fun e W' =>
      (e = .returned (.bool true) ∧ J (pre ++ [x]) W' ∧ Keeps K W W') ∨ (e = .returned (.bool false) ∧ Jx (pre ++ [x]) W'))
    (W : World) (hBs : W.cell? ⟨Bs, 0, none⟩ = some (.slice A zs.length cap)) (hKB : K Bs) (hc : ∀ W', Keeps K W W' → (Kd.int .i64).C W' A zs.length (zs.map val)) (h0 : J [] W) :
    CallsIn F n Try.prog 29 #[.func (.yield l) #[] #[], .pointer (some ⟨Bs, 0, none⟩)] W fun e W' => (∃ v, e = .returned v) ∧
      ((∃ ys, ys = bseq zs ∧ J ys W') ∨ (∃ pre, (∃ k, pre = (bseq zs).take k) ∧ Jx pre W')) := by
  have HC := Aside0.mk hc
  clear hc
  refine callsIn_of_wp Try.func29 rfl h29 ?_ hro
  simp only [Try.ntmps29, List.size_toArray, List.length_cons, List.length_nil, Nat.reduceAdd, Nat.reduceSub, Array.replicate_succ, Array.replicate_zero, List.push_toArray, List.append_toArray, List.nil_append, List.cons_append]
  gi_wp2
  gi_loopw [3] (fun i wr => ∃ m : Nat, m ≤ zs.length ∧ i = .int .i64 ((m : Int) - 1) ∧ J ((bseq zs).take (zs.length - m)) wr ∧ Aside0 (Keeps K W wr))
    (fun i _ => (intOf i + 1).toNat)
  case atStart => exact ⟨zs.length, Nat.le_refl _, rfl, by simpa using h0, ⟨fun _ _ => rfl⟩⟩
  case round =>
    obtain ⟨m, hm, rfl, hJs, hnx⟩ := hrel
    cases m with
    | zero =>
      simp only [Nat.sub_zero] at hJs
      rw [List.take_of_length_le (by rw [bseq_length]; omega)] at hJs
      gi_wp2
      go_end0
      exact ⟨⟨_, rfl⟩, .inl ⟨_, rfl, hJs⟩⟩
    | succ q =>
      have e1 : ((q + 1 : Nat) : Int) - 1 = (q : Int) := by omega
      rw [e1]
      clear e1
      obtain ⟨x, hx⟩ : ∃ x, zs[q]? = some x := ⟨_, List.getElem?_eq_getElem (by omega)⟩
      have hb := bseq_at zs q x hx
      have hcB : wr.cell? ⟨Bs, 0, none⟩ = some (.slice A zs.length cap) := by
        have := hnx.out Bs hKB
        exact (World.cell?_of_block (w := W) (w' := wr) (a := ⟨Bs, 0, none⟩) this).trans hBs
      obtain ⟨ad, rfl, hcx⟩ := Kd.at_int (HC.out wr hnx.out) (q : Int) (by omega) (by omega)
      have hrd : rd (zs.map val) (q : Int) = val x := by
        simp [rd, List.getD_eq_getElem?_getD, hx]
      rw [hrd, Int.toNat_natCast] at hcx
      clear hrd
      have hql : (q : Int) < (zs.length : Int) := by omega
      obtain ⟨fn, tmps, assign, body, hy, hR⟩ := hY _ (q, x) wr hJs (by rw [List.length_take, bseq_length]; omega)
      dsimp only at hy
      have ht : (bseq zs).take (zs.length - (q + 1)) ++ [(q, x)] = (bseq zs).take (zs.length - q) := by
        rw [show zs.length - q = zs.length - (q + 1) + 1 by omega, List.take_add_one]
        rw [show zs.length - 1 - q = zs.length - (q + 1) by omega] at hb
        rw [hb]; rfl
      have HT := Aside0.mk ht
      clear ht hb hx
      gi_wp2
      refine hR.mono ?_
      rintro e W3 (⟨rfl, hJ3, hk3⟩ | ⟨rfl, hJx3⟩)
      · rw [HT.out] at hJ3
        gi_wp2
        go_roundw
        case rel => exact ⟨q, by omega, rfl, hJ3, ⟨hnx.out.t hk3⟩⟩
        case measure => simp [intOf]
      · rw [HT.out] at hJx3
        gi_wp2
        refine bodyPost_ret (results_none rfl _ _ _) rfl ?_
        exact ⟨⟨_, rfl⟩, .inr ⟨_, ⟨zs.length - q, rfl⟩, hJx3⟩⟩

theorem back_any (A : Option Addr) (m c : Nat) (w : World) :
    Calls Try.prog 20 #[.slice A m c] w fun e w' => e = .returned (.func (.func 29) #[] #[.pointer (some ⟨w.heap.size, 0, none⟩)]) ∧ w' = w.alloc (.cells #[.slice A m c] 31) := by
  go_enter Try.func20, Try.ntmps20
  go_wp2
  go_ret
  exact ⟨rfl, rfl⟩

theorem back_stops {β : Type} (val : β → Int) (F : Fence) (n : Nat) (h29 : F.fn 29) (hro : F.round = none) (hn : 1 ≤ n) (Bs cap : Nat) (A : Option Addr) (zs : List β) (hlen : zs.length ≤ 9007199254740992) (K : Nat → Prop) (w : World)
    (hBs : w.cell? ⟨Bs, 0, none⟩ = some (.slice A zs.length cap)) (hKB : K Bs) (hK : ∀ k, K k → k < w.heap.size) (hc : ∀ W', Keeps K w W' → (Kd.int .i64).C W' A zs.length (zs.map val)) :
    SeqStopsK F n Try.prog 29 #[.pointer (some ⟨Bs, 0, none⟩)] (fun x : Nat × β => #[Value.int .i64 (x.1 : Int), Value.int .i64 (val x.2)]) (Keeps K) (fun ys => ys = bseq zs) (fun _ => True) zs.length w := fun l J Jx W hW _ _ hY h0 => by
  have hk : Keeps K w W := fun k q => hW.block k (hK k q)
  refine (back1_in val F n h29 hro hn l Bs cap A zs hlen K J Jx hY W ((hW.cell (p := ⟨Bs, 0, none⟩) (hK Bs hKB)).trans hBs) hKB (fun W' q => hc W' (hk.t q)) h0).mono ?_
  rintro e W' ⟨he, ⟨ys, rfl, hj⟩ | ⟨pre, _, hj⟩⟩
  · exact ⟨he, .inl ⟨_, rfl, hj⟩⟩
  · exact ⟨he, .inr ⟨_, trivial, hj⟩⟩
end Go.Proofs.Ytldgmneijipbjaa.H
end
/- YtldgmneijipbjaaShelf -/
section
/-
  DERIVED: THE SHELF's CONTRACTS AT THIS DUMP, IN PLAIN WORDS (tools/lay-plain.mjs out of 'YtldgmneijipbjaaShelf.lean', which tools/lay-shelf.mjs wrote): THE SAME DECLARATIONS UNDER THE SAME NAMES: 'import', 'namespace', 'open', 'def', 'theorem' AND NOTHING ELSE: no command of the shelf's: FOR A HAND-IN. Each laying: the table of numbers ('.._ren') and one theorem, a field a fact of the dump's own or the kernel's comparison; each contract: ONE APPLICATION.
-/
namespace Go.Proofs
open Go.Shelf
def Try.lays189_ren : Go.Shelf.Ren := ⟨fun | 189 => 22 | 125 => 31 | 257 => 30 | 128 => 42 | 129 => 43 | 294 => 33 | 295 => 34 | 296 => 35 | 297 => 36 | 298 => 37 | 299 => 38 | 216 => 39 | 300 => 40 | 301 => 41 | 328 => 52 | 329 => 53 | 330 => 54 | 331 => 55 | 332 => 56 | 215 => 57 | 343 => 61 | n => n, fun | 28 => 31 | 3 => 3 | 46 => 60 | 0 => 0 | 51 => 71 | 53 => 73 | 4 => 4 | 183 => 64 | 182 => 63 | 131 => 68 | 5 => 5 | 9 => 9 | 218 => 79 | 222 => 83 | 228 => 88 | 229 => 89 | n => n, fun | n => n⟩
theorem Try.lays189 : Go.Proofs.Lays.n189 Try.prog Try.lays189_ren := {
  mixed := by kernel_rfl
  f125 := Try.func31.trans (congrArg some (by kernel_rfl))
  f128 := Try.func42.trans (congrArg some (by kernel_rfl))
  f129 := Try.func43.trans (congrArg some (by kernel_rfl))
  f189 := Try.func22.trans (congrArg some (by kernel_rfl))
  f215 := Try.func57.trans (congrArg some (by kernel_rfl))
  f216 := Try.func39.trans (congrArg some (by kernel_rfl))
  f257 := Try.func30.trans (congrArg some (by kernel_rfl))
  f294 := Try.func33.trans (congrArg some (by kernel_rfl))
  f295 := Try.func34.trans (congrArg some (by kernel_rfl))
  f296 := Try.func35.trans (congrArg some (by kernel_rfl))
  f297 := Try.func36.trans (congrArg some (by kernel_rfl))
  f298 := Try.func37.trans (congrArg some (by kernel_rfl))
  f299 := Try.func38.trans (congrArg some (by kernel_rfl))
  f300 := Try.func40.trans (congrArg some (by kernel_rfl))
  f301 := Try.func41.trans (congrArg some (by kernel_rfl))
  f328 := Try.func52.trans (congrArg some (by kernel_rfl))
  f329 := Try.func53.trans (congrArg some (by kernel_rfl))
  f330 := Try.func54.trans (congrArg some (by kernel_rfl))
  f331 := Try.func55.trans (congrArg some (by kernel_rfl))
  f332 := Try.func56.trans (congrArg some (by kernel_rfl))
  f343 := Try.func61.trans (congrArg some (by kernel_rfl))
  t0 := Try.underlying0
  a0 := Try.isAgg0
  z0 := Try.sizeOf0
  v0 := Try.zeroValue0
  t3 := Try.underlying3
  a3 := Try.isAgg3
  z3 := Try.sizeOf3
  v3 := Try.zeroValue3
  t4 := Try.underlying4
  a4 := Try.isAgg4
  z4 := Try.sizeOf4
  v4 := Try.zeroValue4
  t5 := Try.underlying5
  a5 := Try.isAgg5
  z5 := Try.sizeOf5
  v5 := Try.zeroValue5
  t9 := Try.underlying9
  a9 := Try.isAgg9
  z9 := Try.sizeOf9
  v9 := Try.zeroValue9
  t28 := Try.underlying31
  a28 := Try.isAgg31
  z28 := Try.sizeOf31
  v28 := Try.zeroValue31
  t46 := Try.underlying60
  a46 := Try.isAgg60
  z46 := Try.sizeOf60
  v46 := Try.zeroValue60
  t51 := Try.underlying71
  a51 := Try.isAgg71
  z51 := Try.sizeOf71
  v51 := Try.zeroValue71
  t53 := Try.underlying73
  a53 := Try.isAgg73
  z53 := Try.sizeOf73
  v53 := Try.zeroValue73
  t131 := Try.underlying68
  a131 := Try.isAgg68
  z131 := Try.sizeOf68
  v131 := Try.zeroValue68
  t182 := Try.underlying63
  a182 := Try.isAgg63
  z182 := Try.sizeOf63
  v182 := Try.zeroValue63
  t183 := Try.underlying64
  a183 := Try.isAgg64
  z183 := Try.sizeOf64
  v183 := Try.zeroValue64
  t218 := Try.underlying79
  a218 := Try.isAgg79
  z218 := Try.sizeOf79
  v218 := Try.zeroValue79
  t222 := Try.underlying83
  a222 := Try.isAgg83
  z222 := Try.sizeOf83
  v222 := Try.zeroValue83
  t228 := Try.underlying88
  a228 := Try.isAgg88
  z228 := Try.sizeOf88
  v228 := Try.zeroValue88
  t229 := Try.underlying89
  a229 := Try.isAgg89
  z229 := Try.sizeOf89
  v229 := Try.zeroValue89 }
open Go.Sort Go.RowKit in
theorem Try.slices_Sort_int (blk off cap : Nat) (zs : List Int) (w : World) (hH : Holds (Value.int .i64) w blk off zs.toArray) (hblk : blk < w.heap.size) (hsz : zs.length < 4611686018427387904) :
    Calls Try.prog 22 #[.slice (some ⟨blk, off, none⟩) zs.length cap] w fun e w' =>
      e = .returned (.tuple #[]) ∧ ∃ n os, w' = grow (putRow (Value.int .i64) (Sort.ahead w n) blk off (zs.mergeSort fun x y => decide (x ≤ y)).toArray) os := Any.slices_Sort_int Try.lays189 blk off cap zs w hH hblk hsz
def Try.laysNm215_ren : Go.Shelf.Ren := ⟨fun | 15 => 21 | n => n, fun | 22 => 31 | 3 => 3 | 4 => 4 | n => n, fun | n => n⟩
theorem Try.laysNm215 : Go.Proofs.Lays2.n15 Try.prog Try.laysNm215_ren := {
  mixed := by kernel_rfl
  f15 := Try.func21.trans (congrArg some (by kernel_rfl))
  t3 := Try.underlying3
  a3 := Try.isAgg3
  z3 := Try.sizeOf3
  v3 := Try.zeroValue3
  t4 := Try.underlying4
  a4 := Try.isAgg4
  z4 := Try.sizeOf4
  v4 := Try.zeroValue4
  t22 := Try.underlying31
  a22 := Try.isAgg31
  z22 := Try.sizeOf31
  v22 := Try.zeroValue31
  i3 := by kernel_rfl }
open Go.RowKit Go.Lib in
/-- slices.Clone at []int: "Clone returns a copy of the slice. The elements are copied using assignment, so this is a shallow clone. The result may have additional unused capacity. The result preserves the nilness of s.": OF A SLICE THAT IS NOT nil IT RETURNS A SLICE THAT IS NOT nil, OF THE SAME ELEMENTS, IN MEMORY OF THE CALL's OWN: in the how-to's words (6f): 'w'.ownsRow B e 1 v' n cells': v' begins at the head of a row among the blocks from B on (B: the heap's size at the call), not frozen, whose first cells are the elements · 'Below B w w'': below B all is as it was. The capacity is whatever the run-time gives. 'zs': what the cells behind the slice's address hold; 'zs.take n': its elements. (LAID: no walk: one application.) -/
theorem Try.slices_Clone_int (b off n c : Nat) (zs : List Int) (w : World) (hz : n ≤ zs.length) (hbig : n * 8 ≤ 140737488355328) (hc : ∀ j, j < zs.length → w.cell? ⟨b, off + j, none⟩ = some (.int .i64 (zs.getD j 0))) :
    Calls Try.prog 21 #[.slice (some ⟨b, off, none⟩) n c] w fun e w' => ∃ v', e = .returned v' ∧ w'.ownsRow w.heap.size 3 1 v' n ((zs.take n).map (Value.int .i64)) ∧ v' ≠ .slice none 0 0 ∧ Below w.heap.size w w' := Any.slices_Clone_int Try.laysNm215 b off n c zs w hz hbig hc
def Try.laysSlF6_f23_ren : Go.Shelf.Ren := ⟨fun | 6 => 23 | 15 => 31 | 14 => 32 | 28 => 42 | 29 => 43 | 20 => 44 | 21 => 45 | 22 => 46 | 23 => 47 | 24 => 48 | 25 => 49 | 26 => 50 | 27 => 51 | 46 => 58 | 47 => 53 | 48 => 54 | 49 => 59 | 50 => 60 | 57 => 62 | n => n, fun | 22 => 22 | 24 => 31 | 25 => 47 | 3 => 3 | 39 => 60 | 0 => 0 | 53 => 71 | 55 => 73 | 4 => 4 | 46 => 64 | 45 => 63 | 50 => 68 | 5 => 5 | 9 => 9 | 66 => 79 | 70 => 83 | 76 => 88 | 77 => 89 | n => n, fun | n => n⟩
theorem Try.laysSlF6_f23 : Go.Proofs.SlLaysF.n6 Try.prog Try.laysSlF6_f23_ren := {
  mixed := by kernel_rfl
  f6 := ⟨Try.f23.name, by decide, Try.func23.trans (congrArg some (by kernel_rfl))⟩
  f14 := ⟨Try.f32.name, by decide, Try.func32.trans (congrArg some (by kernel_rfl))⟩
  f15 := Try.func31.trans (congrArg some (by kernel_rfl))
  f20 := ⟨Try.f44.name, by decide, Try.func44.trans (congrArg some (by kernel_rfl))⟩
  f21 := ⟨Try.f45.name, by decide, Try.func45.trans (congrArg some (by kernel_rfl))⟩
  f22 := ⟨Try.f46.name, by decide, Try.func46.trans (congrArg some (by kernel_rfl))⟩
  f23 := ⟨Try.f47.name, by decide, Try.func47.trans (congrArg some (by kernel_rfl))⟩
  f24 := ⟨Try.f48.name, by decide, Try.func48.trans (congrArg some (by kernel_rfl))⟩
  f25 := ⟨Try.f49.name, by decide, Try.func49.trans (congrArg some (by kernel_rfl))⟩
  f26 := ⟨Try.f50.name, by decide, Try.func50.trans (congrArg some (by kernel_rfl))⟩
  f27 := ⟨Try.f51.name, by decide, Try.func51.trans (congrArg some (by kernel_rfl))⟩
  f28 := Try.func42.trans (congrArg some (by kernel_rfl))
  f29 := Try.func43.trans (congrArg some (by kernel_rfl))
  f46 := ⟨Try.f58.name, by decide, Try.func58.trans (congrArg some (by kernel_rfl))⟩
  f47 := Try.func53.trans (congrArg some (by kernel_rfl))
  f48 := Try.func54.trans (congrArg some (by kernel_rfl))
  f49 := ⟨Try.f59.name, by decide, Try.func59.trans (congrArg some (by kernel_rfl))⟩
  f50 := ⟨Try.f60.name, by decide, Try.func60.trans (congrArg some (by kernel_rfl))⟩
  f57 := ⟨Try.f62.name, by decide, Try.func62.trans (congrArg some (by kernel_rfl))⟩
  t0 := Try.underlying0
  a0 := Try.isAgg0
  z0 := Try.sizeOf0
  v0 := Try.zeroValue0
  t3 := Try.underlying3
  a3 := Try.isAgg3
  z3 := Try.sizeOf3
  v3 := Try.zeroValue3
  t4 := Try.underlying4
  a4 := Try.isAgg4
  z4 := Try.sizeOf4
  v4 := Try.zeroValue4
  t5 := Try.underlying5
  a5 := Try.isAgg5
  z5 := Try.sizeOf5
  v5 := Try.zeroValue5
  t9 := Try.underlying9
  a9 := Try.isAgg9
  z9 := Try.sizeOf9
  v9 := Try.zeroValue9
  t22 := Try.underlying22
  a22 := Try.isAgg22
  z22 := Try.sizeOf22
  v22 := Try.zeroValue22
  a24 := Try.isAgg31
  z24 := Try.sizeOf31
  t25 := Try.underlying47
  a25 := Try.isAgg47
  z25 := Try.sizeOf47
  v25 := Try.zeroValue47
  t39 := Try.underlying60
  a39 := Try.isAgg60
  z39 := Try.sizeOf60
  v39 := Try.zeroValue60
  t45 := Try.underlying63
  a45 := Try.isAgg63
  z45 := Try.sizeOf63
  v45 := Try.zeroValue63
  t46 := Try.underlying64
  a46 := Try.isAgg64
  z46 := Try.sizeOf64
  v46 := Try.zeroValue64
  t50 := Try.underlying68
  a50 := Try.isAgg68
  z50 := Try.sizeOf68
  v50 := Try.zeroValue68
  t53 := Try.underlying71
  a53 := Try.isAgg71
  z53 := Try.sizeOf71
  v53 := Try.zeroValue71
  t55 := Try.underlying73
  a55 := Try.isAgg73
  z55 := Try.sizeOf73
  v55 := Try.zeroValue73
  t66 := Try.underlying79
  a66 := Try.isAgg79
  z66 := Try.sizeOf79
  v66 := Try.zeroValue79
  t70 := Try.underlying83
  a70 := Try.isAgg83
  z70 := Try.sizeOf83
  v70 := Try.zeroValue83
  t76 := Try.underlying88
  a76 := Try.isAgg88
  z76 := Try.sizeOf88
  v76 := Try.zeroValue88
  t77 := Try.underlying89
  a77 := Try.isAgg89
  z77 := Try.sizeOf89
  v77 := Try.zeroValue89 }
open Go.RowKit Go.Lib Go.Sort in
/-- **slices.SortFunc, IN THE DOCUMENTATION's OWN TERMS: A PERMUTATION OF WHAT THE ROW HELD, SORTED BY 'cmp(a, b) < 0'.** Which of two equals comes first is left open ("The sort is not guaranteed to be stable"). (LAID AT THE INSTANCE 'slices.SortFunc[[][]int,[]int]': no walk: one application.) -/
theorem Try.slices_SortFunc {α : Type} [Inhabited α] (enc : α → Value) (h1 : OneCell enc) (cf : α → α → Int) (hO : SWO (ltOf cf)) (g : Nat) (cb : Array Value) (blk off cap : Nat) (d : Array α) (w : World) (eg : ∀ args w, (callFunc g args).run Try.prog w = .ok (.enter g args) w) (hcmp : CmpLays1 Try.prog g cb enc cf blk off d.size w) (hH : Holds enc w blk off d) (hblk : blk < w.heap.size) (hsz : d.size < 4611686018427387904) :
    Calls Try.prog 23 #[.slice (some ⟨blk, off, none⟩) d.size cap, .func (.func g) #[] cb] w fun e w' =>
      e = .returned (.tuple #[]) ∧ ∃ d' n os, PermIn 0 d.size d d' ∧ SortedIn (ltOf cf) 0 d.size d' ∧ w' = sortWorld enc w blk off n d' os := Any.slices_SortFunc Try.laysSlF6_f23 enc h1 cf hO g cb blk off cap d w eg hcmp hH hblk hsz
def Try.laysSlF06_f23_ren : Go.Shelf.Ren := ⟨fun | 6 => 23 | 15 => 31 | 14 => 32 | 28 => 42 | 29 => 43 | 20 => 44 | 21 => 45 | 22 => 46 | 23 => 47 | 24 => 48 | 25 => 49 | 26 => 50 | 27 => 51 | 46 => 58 | 47 => 53 | 48 => 54 | 49 => 59 | 50 => 60 | 57 => 62 | n => n, fun | 22 => 22 | 24 => 31 | 25 => 47 | 3 => 3 | 39 => 60 | 0 => 0 | 53 => 71 | 55 => 73 | 4 => 4 | 46 => 64 | 45 => 63 | 50 => 68 | 5 => 5 | 9 => 9 | 66 => 79 | 70 => 83 | 76 => 88 | 77 => 89 | n => n, fun | n => n⟩
theorem Try.laysSlF06_f23 : Go.Proofs.SlLaysF0.n6 Try.prog Try.laysSlF06_f23_ren := {
  mixed := by kernel_rfl
  f6 := ⟨Try.f23.name, by decide, Try.func23.trans (congrArg some (by kernel_rfl))⟩
  f14 := ⟨Try.f32.name, by decide, Try.func32.trans (congrArg some (by kernel_rfl))⟩
  f15 := Try.func31.trans (congrArg some (by kernel_rfl))
  f20 := ⟨Try.f44.name, by decide, Try.func44.trans (congrArg some (by kernel_rfl))⟩
  f21 := ⟨Try.f45.name, by decide, Try.func45.trans (congrArg some (by kernel_rfl))⟩
  f22 := ⟨Try.f46.name, by decide, Try.func46.trans (congrArg some (by kernel_rfl))⟩
  f23 := ⟨Try.f47.name, by decide, Try.func47.trans (congrArg some (by kernel_rfl))⟩
  f24 := ⟨Try.f48.name, by decide, Try.func48.trans (congrArg some (by kernel_rfl))⟩
  f25 := ⟨Try.f49.name, by decide, Try.func49.trans (congrArg some (by kernel_rfl))⟩
  f26 := ⟨Try.f50.name, by decide, Try.func50.trans (congrArg some (by kernel_rfl))⟩
  f27 := ⟨Try.f51.name, by decide, Try.func51.trans (congrArg some (by kernel_rfl))⟩
  f28 := Try.func42.trans (congrArg some (by kernel_rfl))
  f29 := Try.func43.trans (congrArg some (by kernel_rfl))
  f46 := ⟨Try.f58.name, by decide, Try.func58.trans (congrArg some (by kernel_rfl))⟩
  f47 := Try.func53.trans (congrArg some (by kernel_rfl))
  f48 := Try.func54.trans (congrArg some (by kernel_rfl))
  f49 := ⟨Try.f59.name, by decide, Try.func59.trans (congrArg some (by kernel_rfl))⟩
  f50 := ⟨Try.f60.name, by decide, Try.func60.trans (congrArg some (by kernel_rfl))⟩
  f57 := ⟨Try.f62.name, by decide, Try.func62.trans (congrArg some (by kernel_rfl))⟩
  t0 := Try.underlying0
  a0 := Try.isAgg0
  z0 := Try.sizeOf0
  v0 := Try.zeroValue0
  t3 := Try.underlying3
  a3 := Try.isAgg3
  z3 := Try.sizeOf3
  v3 := Try.zeroValue3
  t4 := Try.underlying4
  a4 := Try.isAgg4
  z4 := Try.sizeOf4
  v4 := Try.zeroValue4
  t5 := Try.underlying5
  a5 := Try.isAgg5
  z5 := Try.sizeOf5
  v5 := Try.zeroValue5
  t9 := Try.underlying9
  a9 := Try.isAgg9
  z9 := Try.sizeOf9
  v9 := Try.zeroValue9
  t22 := Try.underlying22
  a22 := Try.isAgg22
  z22 := Try.sizeOf22
  v22 := Try.zeroValue22
  t25 := Try.underlying47
  a25 := Try.isAgg47
  z25 := Try.sizeOf47
  v25 := Try.zeroValue47
  t39 := Try.underlying60
  a39 := Try.isAgg60
  z39 := Try.sizeOf60
  v39 := Try.zeroValue60
  t45 := Try.underlying63
  a45 := Try.isAgg63
  z45 := Try.sizeOf63
  v45 := Try.zeroValue63
  t46 := Try.underlying64
  a46 := Try.isAgg64
  z46 := Try.sizeOf64
  v46 := Try.zeroValue64
  t50 := Try.underlying68
  a50 := Try.isAgg68
  z50 := Try.sizeOf68
  v50 := Try.zeroValue68
  t53 := Try.underlying71
  a53 := Try.isAgg71
  z53 := Try.sizeOf71
  v53 := Try.zeroValue71
  t55 := Try.underlying73
  a55 := Try.isAgg73
  z55 := Try.sizeOf73
  v55 := Try.zeroValue73
  t66 := Try.underlying79
  a66 := Try.isAgg79
  z66 := Try.sizeOf79
  v66 := Try.zeroValue79
  t70 := Try.underlying83
  a70 := Try.isAgg83
  z70 := Try.sizeOf83
  v70 := Try.zeroValue83
  t76 := Try.underlying88
  a76 := Try.isAgg88
  z76 := Try.sizeOf88
  v76 := Try.zeroValue88
  t77 := Try.underlying89
  a77 := Try.isAgg89
  z77 := Try.sizeOf89
  v77 := Try.zeroValue89 }
open Go.RowKit Go.Lib Go.Sort in
/-- **slices.SortFunc AT NO ELEMENT, A nil SLICE TOO: nothing turns.** (LAID AT THE INSTANCE 'slices.SortFunc[[][]int,[]int]': no walk: one application.) -/
theorem Try.slices_SortFunc_none {α : Type} [Inhabited α] (p : Option Addr) (cap : Nat) (fv : Value) (w : World) :
    Calls Try.prog 23 #[.slice p 0 cap, fv] w fun e w' => e = .returned (.tuple #[]) ∧ w' = w := AnyF.slices_SortFunc_none Try.laysSlF06_f23 p cap fv w
end Go.Proofs
end
/- YtldgmneijipbjaaHSort -/
section
/- The library's Clone, Sort and SortFunc where Parts calls them, in the words of rows that are read and rows of one's own. -/
namespace Go.Proofs.Ytldgmneijipbjaa.H
open Go.RowKit Go.Shelf Go.Sort Go.Proofs.YtldgmneijipbjaaW.PrintWords Go.Proofs.YtldgmneijipbjaaW.PrintLast Go.Proofs.YtldgmneijipbjaaW.PrintMore
set_option linter.unusedVariables false
set_option linter.unusedSimpArgs false

theorem clone_any (b off c : Nat) (xs : List Int) (w : World) (hC : (Kd.int .i64).C w (some ⟨b, off, none⟩) xs.length xs) (hb : xs.length * 8 ≤ 140737488355328) :
    Calls Try.prog 21 #[.slice (some ⟨b, off, none⟩) xs.length c] w fun e w' => ∃ v', e = .returned v' ∧ (Kd.int .i64).R 3 w' w.heap.size (fun _ => True) v' xs ∧ Below w.heap.size w w' := by
  refine (Try.slices_Clone_int b off xs.length c xs w (Nat.le_refl _) hb (fun j hj => ?_)).mono ?_
  · obtain ⟨ad, e, hc⟩ := Kd.at_int hC (j : Int) (by omega) (by omega)
    cases e
    rw [Int.toNat_natCast, add_at] at hc
    rw [hc]
    simp [YtldgmneijipbjaaW.PrintWords.rd]
  · rintro e w' ⟨v', rfl, ho, _, hbl⟩
    rw [List.take_length] at ho
    exact ⟨v', rfl, Kd.R_of_own ho (fun _ _ => trivial), hbl⟩

theorem sort_any (xs : List Int) (hp : 0 < xs.length) (hs : xs.length < 4611686018427387904) (v : Value) (base : Nat) (ok : Nat → Prop) (w : World) (hR : (Kd.int .i64).R 3 w base ok v xs) :
    Calls Try.prog 22 #[v] w fun e w' => e = .returned (.tuple #[]) ∧ Fr ok w w' ∧ (Kd.int .i64).R 3 w' base ok v (xs.mergeSort fun x y => decide (x ≤ y)) := by
  have ho := Kd.own_of_R hR
  obtain ⟨g0, cap0, rfl, hb0, -, -⟩ := Kd.R_form hR hp
  rcases ho.2 with ⟨e, _⟩ | ⟨g, cap, cur, e, hbase, hb, h1, h2, h3, h4⟩
  · cases e
  · cases e
    have hl : (xs.mergeSort fun x y => decide (x ≤ y)).length = xs.length := List.length_mergeSort _
    refine (Try.slices_Sort_int g0 0 cap0 xs w (holds_of_blockI hb (by simpa [encs] using h4)) (Array.getElem?_eq_some_iff.1 hb).1 hs).mono ?_
    rintro e w' ⟨rfl, n, os, rfl⟩
    have hok : ok g0 := hR.1 g0 rfl
    have hgr := grownBy_sortedI (w := w) (g := g0) (n := n) (os := os) (xs.mergeSort fun x y => decide (x ≤ y)).toArray
    refine ⟨rfl, (Fr.refl ok w).grown hgr (fun k e => by cases e; exact .inl hok), ?_⟩
    have := ownsRow_sortedI (w := w) (n := n) (os := os) hl hbase hb h1 h2 h3
    exact Kd.R_of_own (by rw [hl]; exact this) (fun k hk => hR.1 k hk)

set_option maxHeartbeats 1000000 in
theorem cmp_any (a1 a2 : Addr) (n1 c1 n2 c2 : Nat) (x y : Int) (w : World) (h1 : 0 < n1) (h2 : 0 < n2) (hx : w.cell? a1 = some (.int .i64 x)) (hy : w.cell? a2 = some (.int .i64 y))
    (bx : 0 ≤ x ∧ x ≤ 1099511627776) (by_ : 0 ≤ y ∧ y ≤ 1099511627776) :
    Calls Try.prog 24 #[.slice (some a1) n1 c1, .slice (some a2) n2 c2] w fun e w' => e = .returned (.int .i64 (x - y)) ∧ ∃ q, w' = w.drewN q := by
  have hx0 : w.cell? (a1.add 0) = some (.int .i64 x) := by rw [show a1.add 0 = a1 by simp [Addr.add]]; exact hx
  have hy0 : w.cell? (a2.add 0) = some (.int .i64 y) := by rw [show a2.add 0 = a2 by simp [Addr.add]]; exact hy
  have i1 : (0 : Int) < (n1 : Int) := by omega
  have i2 : (0 : Int) < (n2 : Int) := by omega
  have hw : wrap64 (x - y) = x - y := by unfold wrap64; omega
  have HW := Aside0.mk hw
  clear bx by_
  go_enter Try.func24, Try.ntmps24
  go_wp2
  go_quiet (fail)
  go_wp2
  go_ret
  refine ⟨?_, _, rfl⟩
  show Ending.returned (.int .i64 (wrap64 (x - y))) = _
  rw [HW.out]

/-! SortFunc at a row of rows, by their first elements -/
/-- a row's value, what it holds and where it stood, in the world where the sort begins -/
def SRow (w : World) (base : Nat) (ok : Nat → Prop) (g : Nat) (f : Nat → Nat) : Type := { p : Value × (List Nat × Nat) // p.1.oneCell' = true ∧ (∃ n c ad, p.1 = .slice (some ad) n c ∧ 0 < n ∧ ad.block < w.heap.size ∧ ad.block ≠ g ∧ w.cell? ad = some (.int .i64 (p.2.1.headD 0 : Nat))) ∧ p.2.1.headD 0 ≤ 1099511627776 ∧ (Kd.int .i64).R 3 w base (fun k => (ok k ∧ k ≠ g) ∧ f k = p.2.2) p.1 (castL p.2.1) }
section
variable {w : World} {base g : Nat} {ok : Nat → Prop} {f : Nat → Nat}
def srow (x : SRow w base ok g f) : Value := x.1.1
def scf (x y : SRow w base ok g f) : Int := ((x.1.2.1.headD 0 : Nat) : Int) - ((y.1.2.1.headD 0 : Nat) : Int)
theorem srow_one : OneCell (srow (w := w) (base := base) (ok := ok) (g := g) (f := f)) := fun x => x.2.1
theorem scf_swo : SWO (ltOf (scf (w := w) (base := base) (ok := ok) (g := g) (f := f))) := by
  refine ⟨fun x => ?_, fun x y z h k => ?_, fun x y z h k => ?_⟩ <;> simp only [ltOf] at * <;> first | (have h1 := of_decide_eq_true h; have h2 := of_decide_eq_true k; refine decide_eq_true ?_; unfold scf at *; omega) | (have h1 := of_decide_eq_false h; have h2 := of_decide_eq_false k; refine decide_eq_false ?_; unfold scf at *; omega) | (refine decide_eq_false ?_; unfold scf at *; omega)
theorem sort_world_old {α : Type} [Inhabited α] (enc : α → Value) (w : World) (g m : Nat) (dk : Array α) (os : Array Obj) (hg : g < w.heap.size) : w.grownBy (sortWorld enc w g 0 m dk os) (some g) := by
  refine ⟨rfl, rfl, rfl, by simp [sortWorld, putRow, mapBlock, Sort.ahead], fun k hk hne => ?_⟩
  unfold sortWorld
  rw [heap_grow_old _ _ (by simpa [putRow, mapBlock, Sort.ahead] using hk)]
  have : g ≠ k := fun e => hne (by rw [e])
  simp [putRow, mapBlock, Sort.ahead, Array.getElem?_modify, this]
theorem scmp [Inhabited (SRow w base ok g f)] (size : Nat) (hg : g < w.heap.size) : CmpLays1 Try.prog 24 #[] srow (scf (w := w) (base := base) (ok := ok) (g := g) (f := f)) g 0 size w := by
  intro m os dk _ x y
  obtain ⟨⟨vx, lx, ix⟩, h1, ⟨n1, c1, a1, e1, p1, q1, r1, s1⟩, b1, -⟩ := x
  obtain ⟨⟨vy, ly, iy⟩, h2, ⟨n2, c2, a2, e2, p2, q2, r2, s2⟩, b2, -⟩ := y
  simp only at e1 e2 s1 s2 b1 b2
  subst e1 e2
  have hgr := sort_world_old srow w g m dk os hg
  have k1 := (World.cell?_of_block (a := a1) (hgr.block a1.block q1 (by simpa using r1))).trans s1
  have k2 := (World.cell?_of_block (a := a2) (hgr.block a2.block q2 (by simpa using r2))).trans s2
  refine (cmp_any a1 a2 n1 c1 n2 c2 _ _ _ p1 p2 k1 k2 ⟨by omega, by omega⟩ ⟨by omega, by omega⟩).mono ?_
  rintro e w' ⟨rfl, q, rfl⟩
  exact ⟨rfl, q, #[], by simp⟩
end
end Go.Proofs.Ytldgmneijipbjaa.H
end
/- YtldgmneijipbjaaHP2 -/
section
/- What holds in the second loop of Parts: the rounds of the range over slices.Backward. -/
namespace Go.Proofs.Ytldgmneijipbjaa.H
open Go.RowKit Go.Shelf Go.Proofs.YtldgmneijipbjaaW.PrintWords Go.Proofs.YtldgmneijipbjaaW.PrintLast Go.Proofs.YtldgmneijipbjaaW.PrintMore
open Gr (out sn unseen visit scan backE bput kparts All2)
set_option linter.unusedVariables false

section
variable {F : Fence} {n : Nat} {P : Program} {ops : Array Oper} {rest : List Oper} {o : Oper} {a : Act} {Q : Exit → Act → World → Prop} {α : Type}
/-- append of one element, in a round -/
theorem R_append_in (d : Kd α) {W : World} (base : Nat) (hgd : o.guard = none) (s x : Operand) (t e : TypeId) (z : Value) (bytes : Nat)
    (ho : o.op = .call { callee := .builtin .append, args := #[s, x], argTypes := #[t, t] })
    (ht : P.underlying t = some (.slice e)) (hinfo : (P.info? e).map (fun i => (i.zero, i.size, i.bytes)) = some (some z, d.sz, bytes)) (hz : z.cells.size = d.sz) (hs0 : 0 < d.sz) (hb0 : 0 < bytes)
    (v : Value) (xs : List α) (p : α) (cs : List Value) (ok okp : Nat → Prop) (hs : a.eval s = v) (ad : Addr) (hx : a.eval x = .slice (some ad) 1 1) (hcs : ∀ j u, cs[j]? = some u → W.cell? (ad.add j) = some u) (hp : d.M W base okp p cs) (hokp : ∀ k, okp k → ok k ∧ some k ≠ v.ownBlock) (hfresh : ∀ k, W.heap.size ≤ k → ok k)
    (HO : d.R e W base ok v xs) (hbase : base ≤ W.heap.size) (hl : (xs.length + 1) * bytes ≤ 140737488355328)
    (h : ∀ v1 w1, d.R e w1 base ok v1 (xs ++ [p]) → W.grownBy w1 v.ownBlock → wpListIn F n P ops Q rest (a.put o.dst v1) w1) :
    wpListIn F n P ops Q (o :: rest) a W := by
  obtain ⟨h0, inner, hown, hr⟩ := HO
  obtain ⟨i, hi, hzz⟩ := Option.map_eq_some_iff.1 hinfo
  simp only [Prod.mk.injEq] at hzz
  obtain ⟨hz0, hz1, hz2⟩ := hzz
  have hl1 : xs.length + 1 ≤ 140737488355328 := Nat.le_trans (Nat.le_mul_of_pos_right _ hb0) hl
  refine wpListIn_append_own_at W hgd s x t ho base e i z d.sz bytes ht hi hz0 hz1 hz2 hz hs0 v xs.length inner hs hown ad 1 1 cs hx (by rw [d.K_len (d.K_of_M hp)]; simp) hcs (d.K_one (d.K_of_M hp)) (by unfold maxLen; omega) hl hbase ?_
  intro v1 w1 hown1 hg1 _ hat1
  exact h v1 w1 (Kd.R_appended h0 hr hp hokp hfresh hown1 hg1 (hat1.imp_right fun q => ⟨_, q, Nat.le_refl _⟩)) hg1
/-- append of one element whose rows lie apart from the others', in a round -/
theorem S_append_in (d : Kd α) {W : World} (base : Nat) (hgd : o.guard = none) (s x : Operand) (t e : TypeId) (z : Value) (bytes : Nat)
    (ho : o.op = .call { callee := .builtin .append, args := #[s, x], argTypes := #[t, t] })
    (ht : P.underlying t = some (.slice e)) (hinfo : (P.info? e).map (fun i => (i.zero, i.size, i.bytes)) = some (some z, d.sz, bytes)) (hz : z.cells.size = d.sz) (hs0 : 0 < d.sz) (hb0 : 0 < bytes)
    (v : Value) (xs : List α) (p : α) (cs : List Value) (ok okp : Nat → Prop) (hs : a.eval s = v) (ad : Addr) (hx : a.eval x = .slice (some ad) 1 1) (hcs : ∀ j u, cs[j]? = some u → W.cell? (ad.add j) = some u) (hp : d.M W base okp p cs) (hokp : ∀ k, okp k → ok k ∧ some k ≠ v.ownBlock) (hfresh : ∀ k, W.heap.size ≤ k → ok k)
    (HO : Kd.S d e W base (fun k => ok k ∧ ¬ okp k) v xs) (hbase : base ≤ W.heap.size) (hl : (xs.length + 1) * bytes ≤ 140737488355328)
    (h : ∀ v1 w1, Kd.S d e w1 base ok v1 (xs ++ [p]) → W.grownBy w1 v.ownBlock → wpListIn F n P ops Q rest (a.put o.dst v1) w1) :
    wpListIn F n P ops Q (o :: rest) a W := by
  obtain ⟨f, hf, hR⟩ := Kd.S_tag HO xs.length okp (fun _ hk h2 => h2.2 hk)
  refine R_append_in (Kd.tag f d) base hgd s x t e z bytes ho ht hinfo hz hs0 hb0 v xs.zipIdx (p, xs.length) cs ok okp hs ad hx hcs (d.M_mono (fun k hk => ⟨hk, hf k hk⟩) hp) hokp hfresh (Kd.R_mono hR (fun _ hk => hk.1)) hbase (by rw [List.length_zipIdx]; exact hl) ?_
  intro v1 w1 hr
  rw [← Kd.zip_snoc] at hr
  exact h v1 w1 ⟨f, hr⟩
theorem fr_S {d : Kd α} {e base : Nat} {ok S : Nat → Prop} {v : Value} {xs : List α} {w w' : World} (h : Kd.S d e w base ok v xs) (hk : Fr S w w') (hn : ∀ k, ok k → ¬ S k) : Kd.S d e w' base ok v xs := by
  obtain ⟨f, h⟩ := h
  exact ⟨f, fr_R h hk hn⟩
end

def PS (l l' : List Nat) : Prop := l.Perm l' ∧ l'.Pairwise (· ≤ ·)
abbrev a0 (n : Nat) : Gr.St × List (List Nat) := (st0 n, [])
structure P2 (h : Gr.G) (N n : Nat) (base : Nat) (W0 : World) (b gs cs : Nat) (ev : Value) (Bo : Nat) (xs : List Nat) (W : World) (D O : Nat → Prop) (dv ov : Value) (ps : List (List Nat)) : Prop where
  ws : WS W base b ev gs cs (fun k => k = gs) D dv (kparts h N xs (a0 n)).1
  box : W.heap[Bo]? = some (.cells #[ov] 22 (0, 0))
  out : Kd.S KE 31 W base O ov (ps.map castL)
  ps2 : All2 PS (kparts h N xs (a0 n)).2 ps
  Dc : ∀ k, D k → ∃ cells t, W.heap[k]? = some (.cells cells t (0, 0))
  Oc : ∀ k, O k → ∃ cells t, W.heap[k]? = some (.cells cells t (0, 0))
  Dge : ∀ k, D k → W0.heap.size ≤ k
  Oge : ∀ k, O k → W0.heap.size ≤ k
  OD : ∀ k, O k → ¬ D k
  fr : Fr (fun k => k = b ∨ k = gs ∨ k = Bo) W0 W
/-- what does not change -/
structure P2S (base : Nat) (W0 : World) (b gs Bo : Nat) : Prop where
  b_ : b < W0.heap.size
  gs_ : gs < W0.heap.size
  Bo_ : Bo < W0.heap.size
  bge : base ≤ b
  gsge : base ≤ gs
  Boge : base ≤ Bo
  bgs : b ≠ gs
  bBo : b ≠ Bo
  gsBo : gs ≠ Bo

theorem kparts_snoc (h : Gr.G) (N x : Nat) (xs : List Nat) (a : Gr.St × List (List Nat)) : kparts h N (xs ++ [x]) a = Gr.kstep h N (kparts h N xs a) x := by unfold kparts; rw [List.foldl_append]; rfl

theorem cells_grown {X Y : World} {row : Option Nat} (hg : X.grownBy Y row) (hr : ∀ r, row = some r → ∃ o : Obj, X.heap[r]? = some o ∧ o.isCells = false) {k : Nat} (hk : ∃ cells t, X.heap[k]? = some (.cells cells t (0, 0))) : Y.heap[k]? = X.heap[k]? := by
  obtain ⟨cells, t, hc⟩ := hk
  refine hg.block k (Array.getElem?_eq_some_iff.1 hc).1 (fun e => ?_)
  obtain ⟨o, ho, hi⟩ := hr k e.symm
  rw [hc] at ho
  cases ho
  cases hi

theorem P2.own {h : Gr.G} {N n base : Nat} {W0 : World} {b gs cs : Nat} {ev : Value} {Bo : Nat} {xs : List Nat} {D O : Nat → Prop} {dv ov : Value} {ps : List (List Nat)} {X Y : World} {row : Option Nat}
    (q : P2 h N n base W0 b gs cs ev Bo xs X D O dv ov ps) (hg : X.grownBy Y row) (hr : ∀ r, row = some r → W0.heap.size ≤ r ∧ ∃ o : Obj, X.heap[r]? = some o ∧ o.isCells = false) : P2 h N n base W0 b gs cs ev Bo xs Y D O dv ov ps := by
  have hb : Y.heap[b]? = X.heap[b]? := cells_grown hg (fun r e => (hr r e).2) ⟨_, _, q.ws.blk⟩
  have hB : Y.heap[Bo]? = X.heap[Bo]? := cells_grown hg (fun r e => (hr r e).2) ⟨_, _, q.box⟩
  obtain ⟨cg, hcg⟩ := Kd.R_typed q.ws.seen gs rfl
  have hG : Y.heap[gs]? = X.heap[gs]? := cells_grown hg (fun r e => (hr r e).2) ⟨_, _, hcg⟩
  refine ⟨⟨hb.trans q.ws.blk, Kd.R_move q.ws.seen (fun k hk => by subst hk; exact hG), Kd.R_move q.ws.done (fun k hk => cells_grown hg (fun r e => (hr r e).2) (q.Dc k hk)), q.ws.bP, q.ws.bD, q.ws.PD, fun k hk => Nat.lt_of_lt_of_le (q.ws.Plt k hk) hg.size⟩,
    hB.trans q.box, Kd.S_move q.out (fun k hk => cells_grown hg (fun r e => (hr r e).2) (q.Oc k hk)), q.ps2, fun k hk => ?_, fun k hk => ?_, q.Dge, q.Oge, q.OD, ?_⟩
  · obtain ⟨c, t, e⟩ := q.Dc k hk
    exact ⟨c, t, (cells_grown hg (fun r e => (hr r e).2) ⟨c, t, e⟩).trans e⟩
  · obtain ⟨c, t, e⟩ := q.Oc k hk
    exact ⟨c, t, (cells_grown hg (fun r e => (hr r e).2) ⟨c, t, e⟩).trans e⟩
  · exact q.fr.grown hg (fun k e => .inr (hr k e).1)

theorem castL_sort (l : List Nat) : ((castL l).mergeSort fun x y => decide (x ≤ y)) = castL (l.mergeSort fun x y => decide (x ≤ y)) := by
  unfold castL
  rw [List.map_mergeSort]
  intro a _ b _
  simp
theorem ps_sort (l : List Nat) : PS l (l.mergeSort fun x y => decide (x ≤ y)) := by
  refine ⟨(List.mergeSort_perm _ _).symm, ?_⟩
  have := List.pairwise_mergeSort (le := fun x y : Nat => decide (x ≤ y)) (fun a b c h k => by simp at *; omega) (fun a b => by simp; omega) l
  exact this.imp (fun {a b} q => by simpa using q)

/-- a place that was not seen: the whole round -/
theorem P2.put {h : Gr.G} {N n base x : Nat} {W0 : World} {b gs cs : Nat} {ev : Value} {Bo : Nat} {xs : List Nat} {D O D2 : Nat → Prop} {dv ov dv2 ov5 : Value} {ps : List (List Nat)} {W W2 W4 W5 : World}
    (q : P2 h N n base W0 b gs cs ev Bo xs W D O dv ov ps) (S : P2S base W0 b gs Bo) (hx : sn (kparts h N xs (a0 n)).1.1 x = false)
    (ws2 : WS W2 base b ev gs cs (fun k => k = gs) D2 dv2 (visit h N x (kparts h N xs (a0 n)).1)) (hD2 : ∀ k, D2 k → Gw D W k) (hf2 : Fr (fun k => k = b ∨ k = gs ∨ D k) W W2)
    (hf4 : Fr (fun k => W2.heap.size ≤ k) W2 W4)
    (hg5 : W4.grownBy W5 ov.ownBlock) (h5 : Kd.S KE 31 W5 base (fun k => O k ∨ W2.heap.size ≤ k) ov5 ((ps ++ [((visit h N x (kparts h N xs (a0 n)).1).2.drop (kparts h N xs (a0 n)).1.2.length).mergeSort fun x y => decide (x ≤ y)]).map castL)) :
    (∃ D' O', P2 h N n base W0 b gs cs ev Bo (xs ++ [x]) (W5.setCell ⟨Bo, 0, none⟩ ov5) D' O' dv2 ov5 (ps ++ [((visit h N x (kparts h N xs (a0 n)).1).2.drop (kparts h N xs (a0 n)).1.2.length).mergeSort fun x y => decide (x ≤ y)])) ∧
      KeepsFrom W0.heap.size W (W5.setCell ⟨Bo, 0, none⟩ ov5) ∧ Keeps (fun k => k < W0.heap.size ∧ k ≠ b ∧ k ≠ gs ∧ k ≠ Bo) W (W5.setCell ⟨Bo, 0, none⟩ ov5) := by
  have hOl : ∀ k, O k → k < W.heap.size := fun k hk => by obtain ⟨c, t, e⟩ := q.Oc k hk; exact (Array.getElem?_eq_some_iff.1 e).1
  have hov : ∀ k, ov.ownBlock = some k → O k := (Kd.S_R q.out).1
  have s0 := q.fr.size
  have s2 := hf2.size
  have s4 := hf4.size
  have s5 := hg5.size
  have b_ := S.b_
  have gs_ := S.gs_
  have Bo_ := S.Bo_
  have hsz : (W5.setCell ⟨Bo, 0, none⟩ ov5).heap.size = W5.heap.size := by simp [World.setCell]
  have hF4 : Fr (fun k => k = b ∨ k = gs ∨ D k) W W4 := hf2.trans hf4 (fun i hi => .inr (by omega))
  have hF5 : Fr (fun k => k = b ∨ k = gs ∨ D k ∨ O k) W W5 := (hF4.mono (S' := fun k => k = b ∨ k = gs ∨ D k ∨ O k) (fun k hk => by rcases hk with e | e | e; exact .inl e; exact .inr (.inl e); exact .inr (.inr (.inl e)))).grown hg5 (fun k e => .inl (.inr (.inr (.inr (hov k e)))))
  have hF : Fr (fun k => k = b ∨ k = gs ∨ k = Bo ∨ D k ∨ O k) W (W5.setCell ⟨Bo, 0, none⟩ ov5) := (hF5.mono (S' := fun k => k = b ∨ k = gs ∨ k = Bo ∨ D k ∨ O k) (fun k hk => by rcases hk with e | e | e | e; exact .inl e; exact .inr (.inl e); exact .inr (.inr (.inr (.inl e))); exact .inr (.inr (.inr (.inr e))))).setCell (.inl (.inr (.inr (.inl rfl)))) _
  have hF25 : Fr O W2 W5 := (((Fr.refl O W2).trans hf4 (fun i hi => .inr hi)).grown hg5 (fun k e => .inl (hov k e)))
  have hF2 : Fr (fun k => k = Bo ∨ O k) W2 (W5.setCell ⟨Bo, 0, none⟩ ov5) := (hF25.mono (fun k hk => .inr hk)).setCell (.inl (.inl rfl)) _
  have hbx : W5.heap[Bo]? = some (.cells #[ov] 22 (0, 0)) := by
    refine (hF5.block Bo (by omega) ?_).trans q.box
    rintro (e | e | e | e)
    · exact S.bBo e.symm
    · exact S.gsBo e.symm
    · have := q.Dge _ e; omega
    · have := q.Oge _ e; omega
  have hD2n : ∀ k, D2 k → ¬ (k = Bo ∨ O k) := by
    rintro k hk (rfl | hO)
    · rcases hD2 k hk with r | r
      · have := q.Dge k r; omega
      · omega
    · rcases hD2 k hk with r | r
      · exact q.OD k hO r
      · have := hOl k hO; omega
  have hbS := fun k (hk : k = b ∨ k = gs) => show ¬ (k = Bo ∨ O k) by
    rintro (rfl | hO)
    · rcases hk with e | e
      · exact S.bBo e.symm
      · exact S.gsBo e.symm
    · have := q.Oge k hO
      rcases hk with rfl | rfl <;> omega
  refine ⟨⟨fun k => D2 k ∧ ∃ cells t, W2.heap[k]? = some (.cells cells t (0, 0)), fun k => (O k ∨ W2.heap.size ≤ k) ∧ ∃ cells t, W5.heap[k]? = some (.cells cells t (0, 0)), ?_, ?_, ?_, ?_, ?_, ?_, ?_, ?_, ?_, ?_⟩, ?_, ?_⟩
  · have e : (kparts h N (xs ++ [x]) (a0 n)).1 = visit h N x (kparts h N xs (a0 n)).1 := by rw [kparts_snoc]; unfold Gr.kstep; rw [hx]; rfl
    rw [e]
    refine ⟨hF2.blk ws2.blk (hbS b (.inl rfl)), fr_R ws2.seen hF2 (fun k hk => hbS k (.inr hk)), ?_, ws2.bP, fun r => ws2.bD r.1, fun k r s => ws2.PD k r s.1, fun k hk => Nat.lt_of_lt_of_le (ws2.Plt k hk) hF2.size⟩
    refine fr_R (Kd.R_mono (Kd.R_bound ws2.done) (fun k hk => ⟨hk.1, ?_⟩)) hF2 (fun k hk => hD2n k hk.1)
    obtain ⟨q, _, c, e⟩ := hk.2.2.2
    exact ⟨c, q, e⟩
  · exact blk_put hbx 0 ov5
  · refine Kd.S_move (Kd.S_mono (Kd.S_bound h5) (fun k hk => ⟨hk.1, ?_⟩)) (fun k hk => Below.heap_setCell W5 ⟨Bo, 0, none⟩ ov5 k ?_)
    · obtain ⟨q, _, c, e⟩ := hk.2.2.2
      exact ⟨c, q, e⟩
    · intro (e : k = Bo)
      rcases hk.1 with r | r
      · have := q.Oge k r; omega
      · omega
  · rw [kparts_snoc]
    unfold Gr.kstep
    rw [hx]
    exact q.ps2.snoc (ps_sort _)
  · rintro k ⟨h1, c, t, e⟩
    exact ⟨c, t, hF2.blk e (hD2n k h1)⟩
  · rintro k ⟨h1, c, t, e⟩
    refine ⟨c, t, (Below.heap_setCell W5 ⟨Bo, 0, none⟩ ov5 k ?_).trans e⟩
    intro (e : k = Bo)
    rcases h1 with r | r
    · have := q.Oge k r; omega
    · omega
  · rintro k ⟨h1, _⟩
    rcases hD2 k h1 with r | r
    · exact q.Dge k r
    · omega
  · rintro k ⟨r | r, _⟩
    · exact q.Oge k r
    · omega
  · rintro k ⟨r | r, _⟩ ⟨h1, c, t, e⟩
    · exact hD2n k h1 (.inr r)
    · have := (Array.getElem?_eq_some_iff.1 e).1
      omega
  · refine q.fr.trans hF ?_
    rintro i (r | r | r | r | r)
    · exact .inl (.inl r)
    · exact .inl (.inr (.inl r))
    · exact .inl (.inr (.inr r))
    · exact .inr (q.Dge i r)
    · exact .inr (q.Oge i r)
  · refine ⟨hF.size, fun k o hB ho hn => (hF.block k (Array.getElem?_eq_some_iff.1 ho).1 ?_).trans ho⟩
    rintro (r | r | r | r | r)
    · omega
    · omega
    · omega
    · obtain ⟨c, t, e⟩ := q.Dc k r
      rw [ho] at e; cases e; cases hn
    · obtain ⟨c, t, e⟩ := q.Oc k r
      rw [ho] at e; cases e; cases hn
  · rintro k ⟨h1, h2, h3, h4⟩
    refine hF.block k (by omega) ?_
    rintro (r | r | r | r | r)
    · exact h2 r
    · exact h3 r
    · exact h4 r
    · have := q.Dge k r; omega
    · have := q.Oge k r; omega
end Go.Proofs.Ytldgmneijipbjaa.H
end
/- YtldgmneijipbjaaHSort2 -/
section
/- SortFunc at a row of rows of one's own, by their first elements. -/
namespace Go.Proofs.Ytldgmneijipbjaa.H
open Go.RowKit Go.Shelf Go.Sort Go.Proofs.YtldgmneijipbjaaW.PrintWords Go.Proofs.YtldgmneijipbjaaW.PrintLast Go.Proofs.YtldgmneijipbjaaW.PrintMore
set_option linter.unusedVariables false

section
variable {α : Type} [Inhabited α] (enc : α → Value)
theorem holds_of_blockA {w : World} {g : Nat} {cur : Array Value} {e : TypeId} {ss : List α} (hb : w.heap[g]? = some (.cells cur e (0, 0))) (ht : cur.toList.take ss.length = ss.map enc) : Holds enc w g 0 ss.toArray := by
  intro j hj
  have hj' : j < ss.length := by simpa using hj
  refine ⟨?_, by simp [World.frozen?, hb]⟩
  have h1 : (cur.toList.take ss.length)[j]? = (ss.map enc)[j]? := by rw [ht]
  rw [List.getElem?_take_of_lt hj'] at h1
  simp only [World.cell?, hb, Nat.zero_add]
  simp only [Option.isSome_none, Bool.false_eq_true, if_false]
  rw [← Array.getElem?_toList, h1]
  simp [hj']
theorem heap_sortedA {w : World} {g n : Nat} {os : Array Obj} {cur : Array Value} {e : TypeId} {fr : Nat × Nat} (d : Array α) (hb : w.heap[g]? = some (.cells cur e fr)) :
    (sortWorld enc w g 0 n d os).heap[g]? = some (.cells (putCells enc 0 d cur) e fr) := by
  have hg : g < w.heap.size := (Array.getElem?_eq_some_iff.1 hb).1
  unfold sortWorld
  rw [heap_grow_old _ _ (by simpa [putRow, mapBlock, Sort.ahead] using hg)]
  simp [putRow, mapBlock, Sort.ahead, Array.getElem?_modify, hb, onCells]
theorem take_putCellsA (cur : Array Value) (ts : List α) (h : ts.length ≤ cur.size) : (putCells enc 0 ts.toArray cur).toList.take ts.length = ts.map enc := by
  apply List.ext_getElem?
  intro j
  by_cases hj : j < ts.length
  · rw [List.getElem?_take_of_lt hj, Array.getElem?_toList]
    simp [putCells, hj, show j < cur.size by omega]
  · rw [List.getElem?_take_eq_none (by omega), List.getElem?_eq_none (by simp; omega)]
end

theorem reps_cons {α : Type} {R : α → List Value → Prop} {p : α} {ps : List α} {inner : List Value} (h : Reps R 1 (p :: ps) inner) : ∃ u rest, inner = u :: rest ∧ R p [u] ∧ Reps R 1 ps rest := by
  obtain ⟨hl, hr⟩ := h
  cases inner with
  | nil => simp at hl
  | cons u rest =>
    refine ⟨u, rest, rfl, by simpa using hr 0 p rfl, by simpa using hl, fun j q hq => ?_⟩
    have := hr (j + 1) q (by simpa using hq)
    simpa using this
theorem reps_nil {α : Type} {R : α → List Value → Prop} {inner : List Value} (h : Reps R 1 [] inner) : inner = [] := List.eq_nil_of_length_eq_zero (by simpa using h.1)
theorem reps_of {α β : Type} {R : α → List Value → Prop} (f : β → α) (u : β → Value) (l : List β) (h : ∀ x, x ∈ l → R (f x) [u x]) : Reps R 1 (l.map f) (l.map u) := by
  refine ⟨by simp, fun j p hp => ?_⟩
  simp only [List.getElem?_map, Option.map_eq_some_iff] at hp
  obtain ⟨x, hx, rfl⟩ := hp
  have : ((l.map u).drop (j * 1)).take 1 = [u x] := by
    rw [Nat.mul_one]
    have hj := (List.getElem?_eq_some_iff.1 hx).1
    rw [List.drop_eq_getElem_cons (by simpa using hj)]
    simp [(List.getElem?_eq_some_iff.1 hx).2]
  rw [this]
  exact h x (List.mem_of_getElem? hx)

theorem srows {w : World} {base g : Nat} {ok : Nat → Prop} {f : Nat → Nat} (ps : List (List Nat × Nat)) (hne : ∀ l, l ∈ ps → l.1 ≠ [] ∧ l.1.headD 0 ≤ 1099511627776) : ∀ inner : List Value, Reps (fun (l : List Int × Nat) cs => ∃ v, cs = [v] ∧ (Kd.int .i64).R 3 w base (fun k => (ok k ∧ k ≠ g) ∧ f k = l.2) v l.1) 1 (ps.map (fun p => (castL p.1, p.2))) inner →
    ∃ d : List (SRow w base ok g f), d.map srow = inner ∧ d.map (fun x => x.1.2) = ps := by
  induction ps with
  | nil => intro inner h; exact ⟨[], (reps_nil h).symm, rfl⟩
  | cons li ps ih =>
    obtain ⟨l, i⟩ := li
    intro inner h
    obtain ⟨u, rest, rfl, ⟨v, e, hv⟩, hrest⟩ := reps_cons h
    cases e
    obtain ⟨d, e1, e2⟩ := ih (fun l' hl => hne l' (by simp [hl])) rest hrest
    obtain ⟨hl, hb⟩ := hne (l, i) (by simp)
    simp only at hl hb hv
    have hpos : 0 < l.length := List.length_pos_iff.2 hl
    obtain ⟨gi, ci, rfl, -, -, -⟩ := Kd.R_form hv (by rw [castL_length]; exact hpos)
    have hgi := hv.1 gi rfl
    obtain ⟨cells, hcells⟩ := Kd.R_typed hv gi rfl
    obtain ⟨A, c, ea, _, hC⟩ := Kd.R_reads hv
    injection ea with ea
    subst ea
    obtain ⟨ad, ee, hcell⟩ := Kd.at_int hC (0 : Int) (by omega) (by rw [castL_length]; omega)
    cases ee
    have hcell2 : w.cell? ⟨gi, 0, none⟩ = some (.int .i64 (l.headD 0 : Nat)) := by
      have e0 : (⟨gi, 0, none⟩ : Addr).add (0 : Int).toNat = ⟨gi, 0, none⟩ := by simp [Addr.add]
      rw [e0] at hcell
      rw [hcell]
      cases l with
      | nil => exact absurd rfl hl
      | cons a l => simp [YtldgmneijipbjaaW.PrintWords.rd, castL]
    obtain ⟨x, hx1, hx2⟩ : ∃ x : SRow w base ok g f, srow x = .slice (some ⟨gi, 0, none⟩) (castL l).length ci ∧ x.1.2 = (l, i) :=
      ⟨⟨(_, (l, i)), rfl, ⟨_, _, _, rfl, by rw [castL_length]; exact hpos, blk_lt hcells, hgi.1.2, hcell2⟩, hb, hv⟩, rfl, rfl⟩
    exact ⟨x :: d, by rw [List.map_cons, hx1, e1], by rw [List.map_cons, hx2, e2]⟩

theorem zip_castL (ps : List (List Nat)) : (ps.map castL).zipIdx = ps.zipIdx.map (fun p => (castL p.1, p.2)) := by
  rw [List.zipIdx_map]
  rfl
theorem reps_ofL {α β : Type} {R : α → List Value → Prop} (fa : β → α) (u : β → Value) (l : List β) (h : ∀ x, x ∈ l → R (fa x) [u x]) : ∀ j x, (l.map fa)[j]? = some x → R x (((l.map u).drop (j * 1)).take 1) := (reps_of fa u l h).2

theorem sortFunc_any (ps : List (List Nat)) (hne : ∀ l, l ∈ ps → l ≠ [] ∧ l.headD 0 ≤ 1099511627776) (hs : ps.length < 4611686018427387904) (v : Value) (base : Nat) (ok : Nat → Prop) (w : World) (hS : Kd.S KE 31 w base ok v (ps.map castL)) :
    Calls Try.prog 23 #[v, .func (.func 24) #[] #[]] w fun e w' => e = .returned (.tuple #[]) ∧ Fr ok w w' ∧ ∃ qs, ps.Perm qs ∧ qs.Pairwise (fun l l' => l.headD 0 ≤ l'.headD 0) ∧ Kd.S KE 31 w' base ok v (qs.map castL) := by
  cases ps with
  | nil =>
    obtain ⟨A, c, rfl, -, -⟩ := Kd.R_reads (Kd.S_R hS)
    refine (Try.slices_SortFunc_none (α := Int) A c (.func (.func 24) #[] #[]) w).mono ?_
    rintro e w' ⟨rfl, rfl⟩
    exact ⟨rfl, Fr.refl _ _, [], .nil, .nil, hS⟩
  | cons l0 ps0 =>
    obtain ⟨ps, hps⟩ : ∃ ps, l0 :: ps0 = ps := ⟨_, rfl⟩
    have hpos : 0 < ps.length := by rw [← hps]; simp
    rw [hps] at hne hs hS ⊢
    obtain ⟨f, hR⟩ := hS
    rw [zip_castL] at hR
    obtain ⟨h0, inner, ⟨hil, ho⟩, hr⟩ := hR
    rcases ho with ⟨rfl, e⟩ | ⟨g, cap, cur, rfl, hbase, hb, h1, h2, h3, h4⟩
    · rw [List.length_map, List.length_zipIdx] at e; omega
    · have hok : ok g := h0 g rfl
      have hlen : (ps.zipIdx.map (fun p => (castL p.1, p.2))).length = ps.length := by rw [List.length_map, List.length_zipIdx]
      have hlen2 : (ps.map castL).length = ps.length := List.length_map _
      have hK1 : (Kd.tag f KE).sz = 1 := rfl
      rw [hlen] at h1 h4 hil ⊢
      rw [hK1, Nat.mul_one] at h3 h4 hil
      have hr1 : inner.length = ps.length := hil
      obtain ⟨d, hd1, hd2⟩ := srows (w := w) (base := base) (ok := ok) (g := g) (f := f) ps.zipIdx (fun l hl => hne l.1 (by obtain ⟨a, i⟩ := l; exact (List.mem_zipIdx hl).2.2 ▸ List.getElem_mem _)) inner (by
        refine ⟨by rw [List.length_map, List.length_zipIdx, Nat.mul_one]; exact hr1, fun j p hp => ?_⟩
        obtain ⟨u, hu, hv⟩ := hr.2 j p hp
        exact ⟨u, hu, Kd.R_mono hv (fun k hk => ⟨⟨hk.1.1, fun e => hk.1.2 (by rw [e]; rfl)⟩, hk.2⟩)⟩)
      have hdl : d.length = ps.length := by have := congrArg List.length hd2; simpa using this
      have hda : d.toArray.size = ps.length := by simpa using hdl
      cases hdd : d with
      | nil => rw [hdd] at hdl; simp at hdl; omega
      | cons x0 dr =>
        haveI : Inhabited (SRow w base ok g f) := ⟨x0⟩
        have hH : Holds srow w g 0 d.toArray := holds_of_blockA srow hb (by rw [hdl, hd1]; simpa using h4)
        have hc := Try.slices_SortFunc srow srow_one scf scf_swo 24 #[] g 0 cap d.toArray w (enters_of Try.func24 (by kernel_rfl) rfl) (scmp _ (blk_lt hb)) hH (blk_lt hb) (by rw [hda]; exact hs)
        rw [hda] at hc
        refine hc.mono ?_
        rintro e w' ⟨rfl, d', n, os, hperm, hsort, rfl⟩
        have hgr := sort_world_old srow w g n d' os (blk_lt hb)
        have hsz : d'.size = ps.length := hperm.1.trans hda
        have hp : d'.toList.Perm d := by
          have := hperm.2.2
          have e1 : d'.extract 0 ps.length = d' := by rw [← hsz]; simp
          have e2 : d.toArray.extract 0 ps.length = d.toArray := by rw [← hda]; simp
          rw [e1, e2] at this
          simpa using this
        have hqs : (d'.toList.map (fun x => x.1.2.1)).length = ps.length := by simpa using hsz
        have hid : (d'.toList.map (fun x => x.1.2.2)).Nodup := by
          have h1 : (d'.toList.map (fun x => x.1.2.2)).Perm (List.range ps.length) := by
            refine (hp.map _).trans (List.Perm.of_eq ?_)
            have := congrArg (List.map Prod.snd) hd2
            rw [List.map_map] at this
            rw [List.range_eq_range', ← List.zipIdx_map_snd, ← this]
            rfl
          exact h1.symm.nodup List.nodup_range
        refine ⟨rfl, (Fr.refl ok w).grown hgr (fun k e => by cases e; exact .inl hok), d'.toList.map (fun x => x.1.2.1), ?_, ?_, ?_⟩
        · have e1 : ps = d.map (fun x => x.1.2.1) := by
            have := congrArg (List.map Prod.fst) hd2
            rw [List.map_map, List.zipIdx_map_fst] at this
            exact this.symm
          conv => lhs; rw [e1]
          exact (hp.map _).symm
        · rw [List.pairwise_iff_getElem]
          intro i j hi hj hij
          have hj' : j < d'.size := by simpa using hj
          have hi' : i < d'.size := by simpa using hi
          have := hsort i j (Nat.zero_le _) hij (by omega)
          rw [getElem!_pos d' i hi', getElem!_pos d' j hj'] at this
          have := of_decide_eq_false this
          simp only [List.getElem_map, Array.getElem_toList]
          unfold scf at this
          omega
        · have hh := heap_sortedA srow (n := n) (os := os) d' hb
          have hrow : ∀ (j : Nat) x, ((d'.toList.map (fun x => x.1.2.1)).map castL)[j]? = some x → KE.M (sortWorld srow w g 0 n d' os) base (fun k => (ok k ∧ k ≠ g) ∧ ∃ y, d'.toList[j]? = some y ∧ f k = y.1.2.2) x (((d'.toList.map srow).drop (j * KE.sz)).take KE.sz) := by
            intro j x hx
            rw [List.map_map, List.getElem?_map] at hx
            obtain ⟨y, hy, rfl⟩ := Option.map_eq_some_iff.1 hx
            have e1 : ((d'.toList.map srow).drop (j * KE.sz)).take KE.sz = [srow y] := by
              show ((d'.toList.map srow).drop (j * 1)).take 1 = [srow y]
              rw [Nat.mul_one]
              have hj := (List.getElem?_eq_some_iff.1 hy).1
              rw [List.drop_eq_getElem_cons (by simpa using hj)]
              simp [(List.getElem?_eq_some_iff.1 hy).2]
            rw [e1]
            refine ⟨_, rfl, ?_⟩
            exact Kd.R_mono (Kd.R_move (Kd.R_bound y.2.2.2.2) (fun k hk => hgr.block k hk.2.2.1 (fun e => hk.1.1.2 (by cases e; rfl)))) (fun k hk => ⟨hk.1.1, y, hy, hk.1.2⟩)
          obtain ⟨f', hf'⟩ := Kd.reps_tag (d := KE) (w := sortWorld srow w g 0 n d' os) (base := base) (ok := fun k => ok k ∧ k ≠ g) (xs := (d'.toList.map (fun x => x.1.2.1)).map castL) (inner := d'.toList.map srow) _ (fun i j k hi hj => by
            obtain ⟨_, y, hy, e1⟩ := hi
            obtain ⟨_, z, hz, e2⟩ := hj
            have hi' := (List.getElem?_eq_some_iff.1 hy).1
            have hj' := (List.getElem?_eq_some_iff.1 hz).1
            have key := List.pairwise_iff_getElem.1 hid
            have hh1 : (d'.toList.map (fun x => x.1.2.2))[i]'(by simpa using hi') = (d'.toList.map (fun x => x.1.2.2))[j]'(by simpa using hj') := by
              rw [List.getElem_map, List.getElem_map, (List.getElem?_eq_some_iff.1 hy).2, (List.getElem?_eq_some_iff.1 hz).2, ← e1, ← e2]
            rcases Nat.lt_trichotomy i j with h | h | h
            · exact absurd hh1 (key i j _ _ h)
            · exact h
            · exact absurd hh1.symm (key j i _ _ h)) (fun j k hk => hk.1) (by simp; show d'.size = d'.size * 1; omega) hrow
          have hK2 : (Kd.tag f' KE).sz = 1 := rfl
          refine ⟨f', h0, d'.toList.map srow, ⟨by simp [hsz, hK2], .inr ⟨g, cap, _, by simp [hsz], hbase, hh, by simpa [hsz] using h1, h2, by simpa [putCells, hK2] using h3, ?_⟩⟩, ?_⟩
          · have := take_putCellsA srow cur d'.toList (by rw [h3]; simp; show d'.size ≤ cap; omega)
            simpa [hK2] using this
          · exact hf'.imp_ (fun p c hp => (Kd.tag f' KE).M_mono (fun k hk => ⟨hk.1, fun e => hk.2 (by cases e; rfl)⟩) hp)
end Go.Proofs.Ytldgmneijipbjaa.H
end
/- YtldgmneijipbjaaHP3 -/
section
/- The second loop of Parts: what it adds up to. -/
namespace Go.Proofs.Ytldgmneijipbjaa.H
open Go.RowKit Go.Shelf Go.Proofs.YtldgmneijipbjaaW.PrintWords Go.Proofs.YtldgmneijipbjaaW.PrintLast Go.Proofs.YtldgmneijipbjaaW.PrintMore
open Gr (out sn unseen visit scan backE bput kparts All2 esU)
set_option linter.unusedVariables false

theorem unseen_le (s : List Bool) : unseen s ≤ s.length := by unfold unseen; exact List.count_le_length
theorem kstep_len (h : Gr.G) (N x : Nat) (a : Gr.St × List (List Nat)) : (Gr.kstep h N a x).1.1.length = a.1.1.length := by
  unfold Gr.kstep
  cases hs : sn a.1.1 x with
  | true => rfl
  | false => exact (Gr.le_visit h N x a.1 hs).1
theorem kparts_fuel (h : Gr.G) {n m L : Nat} (hn : L ≤ n) (hm : L ≤ m) (xs : List Nat) : ∀ a : Gr.St × List (List Nat), a.1.1.length = L → kparts h n xs a = kparts h m xs a := by
  induction xs with
  | nil => intro a _; rfl
  | cons x xs ih =>
    intro a ha
    have e : Gr.kstep h n a x = Gr.kstep h m a x := by
      unfold Gr.kstep
      cases hs : sn a.1.1 x with
      | true => rfl
      | false =>
        have := unseen_le a.1.1
        rw [Gr.visit_fuel h (n := n) (m := m) hs (by omega) (by omega)]
    rw [Gr.kparts_cons, Gr.kparts_cons, e]
    exact ih _ (by rw [kstep_len]; exact ha)
theorem kparts_bounds (h : Gr.G) (hg : Gr.Good h) (N : Nat) (xs : List Nat) : ∀ a : Gr.St × List (List Nat), a.1.1.length = h.length → a.1.2.length + unseen a.1.1 ≤ h.length →
    (kparts h N xs a).1.1.length = h.length ∧ (kparts h N xs a).1.2.length + unseen (kparts h N xs a).1.1 ≤ h.length ∧ (kparts h N xs a).2.length ≤ a.2.length + xs.length := by
  induction xs with
  | nil => intro a h1 h2; exact ⟨h1, h2, by simp [kparts]⟩
  | cons x xs ih =>
    intro a h1 h2
    rw [Gr.kparts_cons]
    have h3 : (Gr.kstep h N a x).1.2.length + unseen (Gr.kstep h N a x).1.1 ≤ h.length ∧ (Gr.kstep h N a x).2.length ≤ a.2.length + 1 := by
      unfold Gr.kstep
      cases hs : sn a.1.1 x with
      | true => exact ⟨h2, by simp⟩
      | false =>
        have := (Pu.len_both h hg N).1 x a.1 hs
        simp only [Bool.false_eq_true, if_false]
        exact ⟨by omega, by simp⟩
    obtain ⟨q1, q2, q3⟩ := ih _ (by rw [kstep_len]; exact h1) h3.1
    exact ⟨q1, q2, by simp only [List.length_cons]; omega⟩
theorem kparts_start (h : Gr.G) (hg : Gr.Good h) (N : Nat) (xs : List Nat) : (kparts h N xs (a0 h.length)).1.1.length = h.length ∧ (kparts h N xs (a0 h.length)).1.2.length + unseen (kparts h N xs (a0 h.length)).1.1 ≤ h.length ∧ (kparts h N xs (a0 h.length)).2.length ≤ xs.length := by
  have := kparts_bounds h hg N xs (a0 h.length) (by simp [st0]) (by simp [st0, Gr.unseen_start])
  simpa [a0] using this
theorem All2_length {α β : Type} {R : α → β → Prop} {l : List α} {l' : List β} (h : All2 R l l') : l.length = l'.length := by
  induction h with
  | nil => rfl
  | cons _ _ ih => simp [ih]

/-- what was told, at the end, and sorted by the first places: the parts -/
theorem parts_end {g : Gr.G} (hg : Gr.Good g) {ps qs : List (List Nat)} {d : List Nat} (hd : d = (scan g (NN g) (List.range g.length) (st0 g.length)).2)
    (h1 : All2 PS (kparts (backE g.length (esU g g.length)) (NN g) d.reverse (a0 g.length)).2 ps) (h2 : ps.Perm qs) (h3 : qs.Pairwise fun l l' => l.headD 0 ≤ l'.headD 0) : qs = Gr.canon g := by
  refine Gr.parts_canon hg (Gr.back_is hg) (ps := ps) ?_ h2 h3
  have e1 : d = Gr.allOf g := by
    rw [hd]
    unfold Gr.allOf
    rw [Gr.scan_fuel (n := NN g) (m := g.length) g (by simp [st0, NN, Gr.unseen_start]; omega) (by simp [st0, Gr.unseen_start])]
    rfl
  have e2 := kparts_fuel (backE g.length (esU g g.length)) (n := NN g) (m := g.length) (L := g.length) (by simp only [NN]; omega) (Nat.le_refl _) d.reverse (a0 g.length) (by simp [st0])
  rw [e2, e1] at h1
  exact h1
/-- what was done lies in the graph, and holds each place -/
theorem done_lt {g : Gr.G} (hg : Gr.Good g) : ∀ x, x ∈ (scan g (NN g) (List.range g.length) (st0 g.length)).2 → x < g.length := by
  intro x hx
  have := (Gr.scan_inv hg (n := NN g) (by simp only [NN]; omega) (List.range g.length) _ _ (Gr.inv_start g) (by simp)).1
  exact this.lt x (.inl hx)
theorem attach_lt {n : Nat} (d : List Nat) (h : ∀ x, x ∈ d → x < n) : ∃ zs : List { x : Nat // x < n }, zs.map (fun p => p.1) = d := by
  induction d with
  | nil => exact ⟨[], rfl⟩
  | cons x d ih =>
    obtain ⟨zs, e⟩ := ih (fun y hy => h y (by simp [hy]))
    exact ⟨⟨x, h x (by simp)⟩ :: zs, by simp [e]⟩
theorem ext_both (g : Gr.G) (N : Nat) : (∀ y (p : Gr.St), ∃ r, (visit g N y p).2 = p.2 ++ r) ∧ ∀ ys (p : Gr.St), ∃ r, (scan g N ys p).2 = p.2 ++ r := by
  have hs : ∀ N, (∀ y (p : Gr.St), ∃ r, (visit g N y p).2 = p.2 ++ r) → ∀ ys (p : Gr.St), ∃ r, (scan g N ys p).2 = p.2 ++ r := by
    intro N h ys
    induction ys with
    | nil => intro p; exact ⟨[], by simp [Gr.scan_nil]⟩
    | cons y ys ih =>
      intro p
      rw [Gr.scan_cons]
      split
      · exact ih _
      · obtain ⟨r, e⟩ := ih (visit g N y p)
        obtain ⟨r2, e2⟩ := h y p
        exact ⟨r2 ++ r, by rw [e, e2, List.append_assoc]⟩
  induction N with
  | zero => exact ⟨fun y p => ⟨[], by simp [visit]⟩, hs 0 (fun y p => ⟨[], by simp [visit]⟩)⟩
  | succ n ih =>
    have hv : ∀ y (p : Gr.St), ∃ r, (visit g (n + 1) y p).2 = p.2 ++ r := fun y p => by
      rw [Gr.visit_succ]
      obtain ⟨r, e⟩ := ih.2 (out g y) (p.1.set y true, p.2)
      exact ⟨r ++ [y], by rw [e, List.append_assoc]⟩
    exact ⟨hv, hs (n + 1) hv⟩
theorem visit_more (g : Gr.G) (N y : Nat) (p : Gr.St) : p.2.length < (visit g (N + 1) y p).2.length := by
  rw [Gr.visit_succ]
  obtain ⟨r, e⟩ := (ext_both g N).2 (out g y) (p.1.set y true, p.2)
  rw [e]
  simp

section
variable {h : Gr.G} {n base : Nat} {W0 : World} {b gs cs cb gb : Nat} {Bo : Nat} {xs : List Nat} {D O : Nat → Prop} {dv ov : Value} {ps : List (List Nat)} {W : World}
theorem P2.from_ {x B0 : Nat} (q : P2 h (NN h) n base W0 b gs cs (.slice (some ⟨gb, 0, none⟩) n cb) Bo xs W D O dv ov ps) (S : P2S base W0 b gs Bo) (hg : Gr.Good h) (hn : h.length = n) (hx : x < n) (hsm : n ≤ 1099511627776)
    (hbase : base ≤ B0) (hB0 : B0 ≤ W0.heap.size) (h1 : B0 ≤ b ∧ B0 ≤ gs ∧ B0 ≤ Bo) (hE : ∀ W, Below B0 W0 W → Kd.C KE W (some ⟨gb, 0, none⟩) n (castG h)) (hs : sn (kparts h (NN h) xs (a0 n)).1.1 x = false) :
    Calls Try.prog 19 #[.pointer (some ⟨b, 0, none⟩), .int .i64 x] W fun e W2 => e = .returned (.tuple #[]) ∧ ∃ D2 dv2, WS W2 base b (.slice (some ⟨gb, 0, none⟩) n cb) gs cs (fun k => k = gs) D2 dv2 (visit h (NN h) x (kparts h (NN h) xs (a0 n)).1) ∧ (∀ k, D2 k → Gw D W k) ∧ Fr (fun k => k = b ∨ k = gs ∨ D k) W W2 := by
  have hb := kparts_start h hg (NN h) xs
  rw [hn] at hb
  have hws := q.ws
  obtain ⟨s, d, hp⟩ : ∃ s d, (kparts h (NN h) xs (a0 n)).1 = (s, d) := ⟨_, _, rfl⟩
  rw [hp] at hb hws hs ⊢
  have hf := q.fr.below hB0 (by rintro k (rfl | rfl | rfl); exact h1.1; exact h1.2.1; exact h1.2.2)
  refine (from_any h (NN h) b x n (some ⟨gb, 0, none⟩) cb gs cs base (fun k => k = gs) D dv s d W (visit h (NN h) x (s, d)) hn hg hws hb.1 hx (by have := hb.2.1; simp only [NN] at *; omega) (by simp only [NN]; omega) (by have := q.fr.size; omega)
    (fun k hk => by obtain ⟨c, t, e⟩ := q.Dc k hk; exact (Array.getElem?_eq_some_iff.1 e).1) (fun W' hW => hE W' (hf.trans (hW.below (by have := q.fr.size; omega) ?_))) (by rw [if_neg (by simp [hs])])).mono ?_
  · rintro k (rfl | rfl | r)
    · exact h1.1
    · exact h1.2.1
    · have := q.Dge k r; omega
  · rintro e W2 ⟨rfl, D2, dv2, h2, h3, h4⟩
    exact ⟨rfl, D2, dv2, h2, h3, h4⟩
theorem P2.cells {ev : Value} {x : Nat} (q : P2 h (NN h) n base W0 b gs cs ev Bo xs W D O dv ov ps) (hg : Gr.Good h) (hn : h.length = n) (hx : x < n) :
    W.cell? ⟨b, 1, none⟩ = some (.slice (some ⟨gs, 0, none⟩) n cs) ∧ W.cell? ⟨b, 2, none⟩ = some dv ∧ W.cell? ⟨gs, x, none⟩ = some (.bool (sn (kparts h (NN h) xs (a0 n)).1.1 x)) ∧ W.cell? ⟨Bo, 0, none⟩ = some ov := by
  have hb := kparts_start h hg (NN h) xs
  rw [hn] at hb
  have e := q.ws.blk
  have hse := q.ws.seen
  rw [hb.1] at e hse
  refine ⟨(blk_cell e 1).trans rfl, (blk_cell e 2).trans rfl, ?_, (blk_cell q.box 0).trans rfl⟩
  obtain ⟨A, c, ea, _, hc⟩ := Kd.R_reads hse
  injection ea with e1 e2 e3
  subst e1
  obtain ⟨ad, ee, hcell⟩ := Kd.at_bool hc (x : Int) (by omega) (by rw [hb.1]; omega)
  cases ee
  rw [Int.toNat_natCast] at hcell
  have : (⟨gs, 0, none⟩ : Addr).add x = ⟨gs, x, none⟩ := by simp [Addr.add]; exact fun e => e.symm
  rw [this] at hcell
  rw [hcell]
  have hl : x < (kparts h (NN h) xs (a0 n)).1.1.length := by rw [hb.1]; exact hx
  simp [rdOf, sn, List.getD_eq_getElem?_getD, List.getElem?_eq_getElem hl]
theorem P2.bv {N : Nat} {ev : Value} {Bv : Nat} (q : P2 h N n base W0 b gs cs ev Bo xs W D O dv ov ps) (hB : Bv < W0.heap.size ∧ Bv ≠ b ∧ Bv ≠ gs ∧ Bv ≠ Bo ∧ W0.heap[Bv]? = some (.cells #[.pointer (some ⟨b, 0, none⟩)] 35 (0, 0))) :
    W.cell? ⟨Bv, 0, none⟩ = some (.pointer (some ⟨b, 0, none⟩)) := by
  have := q.fr.blk hB.2.2.2.2 (by rintro (r | r | r); exact hB.2.1 r; exact hB.2.2.1 r; exact hB.2.2.2.1 r)
  exact (blk_cell this 0).trans rfl
theorem P2.after {ev : Value} {N x m0 : Nat} {Bv : Nat} {D4 : Nat → Prop} {dv4 : Value} {W2 : World} (q : P2 h (N + 1) n base W0 b gs cs ev Bo xs W D O dv ov ps) (S : P2S base W0 b gs Bo)
    (hB : Bv < W0.heap.size ∧ Bv ≠ b ∧ Bv ≠ gs ∧ Bv ≠ Bo ∧ W0.heap[Bv]? = some (.cells #[.pointer (some ⟨b, 0, none⟩)] 35 (0, 0)))
    (hws : WS W2 base b ev gs cs (fun k => k = gs) D4 dv4 (visit h (N + 1) x (kparts h (N + 1) xs (a0 n)).1)) (hD4 : ∀ k, D4 k → Gw D W k) (hf : Fr (fun k => k = b ∨ k = gs ∨ D k) W W2) (hm0 : (kparts h (N + 1) xs (a0 n)).1.2.length = m0) :
    ∃ gd cd m, dv4 = .slice (some ⟨gd, 0, none⟩) m cd ∧ (visit h (N + 1) x (kparts h (N + 1) xs (a0 n)).1).2.length = m ∧ m0 < m ∧ m ≤ cd ∧ W2.cell? ⟨Bv, 0, none⟩ = some (.pointer (some ⟨b, 0, none⟩)) ∧ W2.cell? ⟨b, 2, none⟩ = some (.slice (some ⟨gd, 0, none⟩) m cd) ∧
      (Kd.int .i64).C W2 (some ⟨gd, m0, none⟩) (castL ((visit h (N + 1) x (kparts h (N + 1) xs (a0 n)).1).2.drop m0)).length (castL ((visit h (N + 1) x (kparts h (N + 1) xs (a0 n)).1).2.drop m0)) := by
  have hv := visit_more h N x (kparts h (N + 1) xs (a0 n)).1
  rw [hm0] at hv
  have hbv : W.heap[Bv]? = some (.cells #[.pointer (some ⟨b, 0, none⟩)] 35 (0, 0)) := q.fr.blk hB.2.2.2.2 (by rintro (r | r | r); exact hB.2.1 r; exact hB.2.2.1 r; exact hB.2.2.2.1 r)
  have hbv2 := hf.blk hbv (by rintro (r | r | r); exact hB.2.1 r; exact hB.2.2.1 r; (have := q.Dge _ r; have := hB.1; omega))
  obtain ⟨l, hl⟩ : ∃ l, (visit h (N + 1) x (kparts h (N + 1) xs (a0 n)).1).2 = l := ⟨_, rfl⟩
  have hR := hws.done
  have hblk := hws.blk
  rw [hl] at hv hR ⊢
  obtain ⟨gd, cd, rfl, -, -, -⟩ := Kd.R_form hR (by rw [castL_length]; omega)
  obtain ⟨A, c, e, hc, hC⟩ := Kd.R_reads hR
  injection e with e1 e2 e3
  subst e1 e3
  have hd := Kd.C_drop (m := m0) hC (by rw [castL_length]; omega) hc
  rw [castL_length] at hc
  rw [if_neg (by omega)] at hd
  have e1 : (castL l).drop m0 = castL (l.drop m0) := by simp [castL]
  rw [e1] at hd
  refine ⟨gd, cd, l.length, by rw [castL_length], rfl, hv, hc, (blk_cell hbv2 0).trans rfl, ?_, ?_⟩
  · have := (blk_cell hblk 2).trans rfl
    rw [castL_length] at this
    exact this
  · have e2 : Option.map (fun x => x.add (m0 * (Kd.int .i64).sz)) (some (⟨gd, 0, none⟩ : Addr)) = some ⟨gd, m0, none⟩ := by
      show some ((⟨gd, 0, none⟩ : Addr).add (m0 * 1)) = _
      rw [Nat.mul_one]
      simp [Addr.add]; exact fun e => e.symm
    rw [e2] at hd
    exact hd
theorem P2.box4 {N : Nat} {ev : Value} {W2 W4 : World} (q : P2 h N n base W0 b gs cs ev Bo xs W D O dv ov ps) (S : P2S base W0 b gs Bo) (hf2 : Fr (fun k => k = b ∨ k = gs ∨ D k) W W2) (hf4 : Fr (fun k => W2.heap.size ≤ k) W2 W4) :
    W4.cell? ⟨Bo, 0, none⟩ = some ov := by
  have h1 := hf2.blk q.box (by rintro (r | r | r); exact S.bBo r.symm; exact S.gsBo r.symm; (have := q.Dge _ r; have := S.Bo_; omega))
  exact (blk_cell (hf4.blk h1 (by have := S.Bo_; have := q.fr.size; have := hf2.size; omega)) 0).trans rfl
theorem P2.out4 {N : Nat} {ev : Value} {W2 W4 : World} (q : P2 h N n base W0 b gs cs ev Bo xs W D O dv ov ps) (S : P2S base W0 b gs Bo) (hf2 : Fr (fun k => k = b ∨ k = gs ∨ D k) W W2) (hf4 : Fr (fun k => W2.heap.size ≤ k) W2 W4) :
    Kd.S KE 31 W4 base O ov (ps.map castL) := by
  refine fr_S (S := fun k => k = b ∨ k = gs ∨ D k) q.out (hf2.trans hf4 (fun i hi => .inr (Nat.le_trans hf2.size hi))) ?_
  rintro k hk (r | r | r)
  · have := q.Oge k hk; have := S.b_; omega
  · have := q.Oge k hk; have := S.gs_; omega
  · exact q.OD k hk r
theorem P2.box5 {N : Nat} {ev : Value} {W2 W4 W5 : World} (q : P2 h N n base W0 b gs cs ev Bo xs W D O dv ov ps) (S : P2S base W0 b gs Bo) (hf2 : Fr (fun k => k = b ∨ k = gs ∨ D k) W W2) (hf4 : Fr (fun k => W2.heap.size ≤ k) W2 W4) (hg5 : W4.grownBy W5 ov.ownBlock) :
    W5.frozen? ⟨Bo, 0, none⟩ = false ∧ W5.cell? ⟨Bo, 0, none⟩ = some ov := by
  have h1 := hf2.blk q.box (by rintro (r | r | r); exact S.bBo r.symm; exact S.gsBo r.symm; (have := q.Dge _ r; have := S.Bo_; omega))
  have h4 := hf4.blk h1 (by have := S.Bo_; have := q.fr.size; have := hf2.size; omega)
  have h5 : W5.heap[Bo]? = _ := (hg5.block Bo (blk_lt h4) (fun e => by have := q.Oge Bo ((Kd.S_R q.out).1 Bo e.symm); have := S.Bo_; omega)).trans h4
  exact ⟨blk_frozen h5 0, (blk_cell h5 0).trans rfl⟩
theorem P2.start {w1 W0 : World} {N : Nat} {ev : Value} (hws : WS w1 base b ev gs cs (fun k => k = gs) (fun _ => False) (.slice none 0 0) (List.replicate n false, [])) (hf : Fr (fun _ => False) w1 W0) (hBo : W0.heap[Bo]? = some (.cells #[.slice none 0 0] 22 (0, 0))) :
    P2 h N n base W0 b gs cs ev Bo [] W0 (fun _ => False) (fun _ => False) (.slice none 0 0) (.slice none 0 0) [] :=
  ⟨⟨hf.blk hws.blk id, fr_R hws.seen hf (fun _ _ q => q), Kd.R_nil _ _ _ _ _, hws.bP, id, fun _ _ q => q, fun k hk => Nat.lt_of_lt_of_le (hws.Plt k hk) hf.size⟩, hBo, Kd.S_nil _ _ _ _ _, .nil, fun _ q => q.elim, fun _ q => q.elim, fun _ q => q.elim, fun _ q => q.elim, fun _ q => q.elim, Fr.refl _ _⟩
/-- each part told is no empty one, its first place in the graph -/
theorem P2.parts {g : Gr.G} {ev : Value} (q : P2 (backE g.length (esU g g.length)) (NN (backE g.length (esU g g.length))) g.length base W0 b gs cs ev Bo xs W D O dv ov ps) (hg : Gr.Good g)
    (hxs : xs = (scan g (NN g) (List.range g.length) (st0 g.length)).2.reverse) (hsm : g.length ≤ 1099511627776) :
    All2 PS (kparts (backE g.length (esU g g.length)) (NN g) (scan g (NN g) (List.range g.length) (st0 g.length)).2.reverse (a0 g.length)).2 ps ∧ ∀ l, l ∈ ps → l ≠ [] ∧ l.headD 0 ≤ 1099511627776 := by
  have hN : NN (backE g.length (esU g g.length)) = NN g := by simp only [NN]; rw [Gr.backE_length]
  have h2 := q.ps2
  rw [hN, hxs] at h2
  refine ⟨h2, fun l hl => ?_⟩
  obtain ⟨a, ha, hpm, -⟩ := h2.right l hl
  have e1 : (scan g (NN g) (List.range g.length) (st0 g.length)).2 = Gr.allOf g := by
    unfold Gr.allOf
    rw [Gr.scan_fuel (n := NN g) (m := g.length) g (by simp [st0, NN, Gr.unseen_start]; omega) (by simp [st0, Gr.unseen_start])]
    rfl
  rw [e1, kparts_fuel (backE g.length (esU g g.length)) (n := NN g) (m := g.length) (L := g.length) (by simp only [NN]; omega) (Nat.le_refl _) _ (a0 g.length) (by simp [st0])] at ha
  obtain ⟨hnd, v, hv, hmem⟩ := (Gr.rawParts_spec hg (Gr.back_is hg)).1 a ha
  have hvl : v ∈ l := hpm.subset ((hmem v).2 (Gr.scc_self hv))
  cases l with
  | nil => simp at hvl
  | cons y l =>
    refine ⟨by simp, ?_⟩
    have := Gr.mem_scc.1 ((hmem y).1 (hpm.symm.subset (by simp)))
    simp only [List.headD_cons]
    omega
theorem P2.box6 {N : Nat} {ev : Value} {W6 : World} (q : P2 h N n base W0 b gs cs ev Bo xs W D O dv ov ps) (S : P2S base W0 b gs Bo) (hf : Fr O W W6) : W6.cell? ⟨Bo, 0, none⟩ = some ov :=
  (blk_cell (hf.blk q.box (fun r => by have := q.Oge _ r; have := S.Bo_; omega)) 0).trans rfl
theorem P2.def6 {N : Nat} {ev : Value} {W6 : World} {Dd : Nat} {x : Option (List Deferred)} (q : P2 h N n base W0 b gs cs ev Bo xs W D O dv ov ps) (S : P2S base W0 b gs Bo) (hf : Fr O W W6) (hK : W.heap[Dd]? = some (.deferred x)) : W6.heap[Dd]? = some (.deferred x) :=
  hf.blk hK (fun r => by obtain ⟨c, t, e⟩ := q.Oc _ r; rw [hK] at e; cases e)
end
end Go.Proofs.Ytldgmneijipbjaa.H
end
/- YtldgmneijipbjaaHParts -/
section
/- The contract of order.Parts. -/
namespace Go.Proofs.Ytldgmneijipbjaa.H
open Go.RowKit Go.Shelf Go.Proofs.YtldgmneijipbjaaW.PrintWords Go.Proofs.YtldgmneijipbjaaW.PrintLast Go.Proofs.YtldgmneijipbjaaW.PrintMore
open Gr (out sn unseen visit scan backE bput esU esV kparts All2)
open Pu (okE okR)
set_option linter.unusedVariables false
set_option linter.unusedSimpArgs false
attribute [local go_sem] Oper.semAt_some

/-- rows of the call's own that lie apart -/
def OwnRowsS (w : World) (l : List (List Int)) (e : Ending) (w' : World) : Prop := ∃ v, e = .returned v ∧ Kd.S KE 31 w' w.heap.size (fun _ => True) v l ∧ Below w.heap.size w w'

/-- the first loop begins -/
theorem P1.start {g : Gr.G} {w w1 w2 : World} {b gs cs gb cb nd n c : Nat} {A : Option Addr} (hn : g.length = n) (hb : (w.drewN nd).heap.size ≤ b) (hgs : (w.drewN nd).heap.size ≤ gs)
    (hws : WS w1 w.heap.size b (.slice A n c) gs cs (fun k => k = gs) (fun _ => False) (.slice none 0 0) (List.replicate n false, [])) (hf : Fr (fun _ => False) (w.drewN nd) w1)
    (hm : Kd.S KE 31 w2 w.heap.size (fun k => w1.heap.size ≤ k) (.slice (some ⟨gb, 0, none⟩) (List.replicate (n : Int).toNat ([] : List Int)).length cb) (List.replicate (n : Int).toNat [])) (hg2 : w1.grownBy w2 none) :
    P1 g w b (.slice A n c) gs cs gb cb 0 [] w2 (fun _ => False) (fun k => w1.heap.size ≤ k ∧ k < w2.heap.size) (.slice none 0 0) := by
  have hF : Fr (fun _ => False) w1 w2 := ⟨hg2.os, hg2.tape, hg2.output, hg2.size, fun k hk _ => hg2.block k hk (by simp)⟩
  have hsz : w.heap.size ≤ w1.heap.size := hf.size
  have hb1 := blk_lt hws.blk
  have hg1 := hws.Plt gs rfl
  subst hn
  refine ⟨⟨hF.blk hws.blk id, fr_R hws.seen hF (fun _ _ q => q), Kd.R_nil _ _ _ _ _, hws.bP, id, fun _ _ q => q, fun k hk => Nat.lt_of_lt_of_le (hws.Plt k hk) hF.size⟩, ?_, fun _ q => q.elim, fun k hk => hk.2, fun _ q => q.elim, fun k hk => by omega, hb, hgs, fun k hk => ⟨by omega, by omega, id⟩, ?_⟩
  · have e : (backE g.length []).map castL = List.replicate g.length ([] : List Int) := by simp [backE, castL]
    rw [e]
    have := Kd.S_mono (Kd.S_bound hm) (ok' := fun k => w1.heap.size ≤ k ∧ k < w2.heap.size) (fun k hk => ⟨hk.1, hk.2.2.1⟩)
    simpa using this
  · exact ((pw_below_drewN (Below.refl _ w) nd).trans (hf.below (B := w.heap.size) (Nat.le_refl _) (fun _ q => q.elim))).trans (hF.below hsz (fun _ q => q.elim))

theorem backE_len {g : Gr.G} (hg : Gr.Good g) : (backE g.length (esU g g.length)).length = g.length := Gr.backE_length _ _

set_option maxRecDepth 100000 in
set_option maxHeartbeats 8000000 in
theorem parts_good (A : Option Addr) (c : Nat) (g : Gr.G) (w : World) (hg : Gr.Good g) (hE : Kd.C KE w A g.length (castG g)) (hc : g.length ≤ c) (hsm : g.length ≤ 1099511627776) (htot : (g.map List.length).sum ≤ 1099511627776)
    (hck : ∃ k, PCheck.order_Check.f k (castG g) = some 0) :
    Calls Try.prog 11 #[.slice A g.length c] w (OwnRowsS w ((Gr.canon g).map castL)) := by
  have hn : g.length = g.length := rfl
  obtain ⟨k, hk⟩ := hck
  have hcl : (castG g).length = g.length := by simp [castG, hn]
  have hk2 := PCheck.order_Check.calls k A c (castG g) 0 w (by rw [hcl]; exact hE) (by omega) hk
  rw [hcl] at hk2
  have HK := hide hk2
  have HE := hide hE
  have HC := hide hc
  have HG := hide hg
  have HCL := hide hcl
  have HT := hide htot
  have HWALK := hide (fun nd : Nat => walkOf_any A g.length c w.heap.size (w.drewN nd) (by omega) (Nat.le_refl _))
  clear hk hk2 hE hc hg hn hcl htot
  refine (callsIn_wide (n := 9)).1 ?_
  refine callsIn_of_wp_marks Try.func11 rfl trivial ?_ rfl
  simp only [Try.ntmps11, List.size_toArray, List.length_cons, List.length_nil, Nat.reduceAdd, Nat.reduceSub, Array.replicate_succ, Array.replicate_zero, List.push_toArray, List.append_toArray, List.nil_append, List.cons_append]
  refine wpIn_wide.2 ?_
  go_wp2_with (first | (go_at_call 8; refine HK.out.mono ?_; rintro e w1 ⟨rfl, ⟨nd, rfl⟩⟩) | (go_at_call 18; refine (HWALK.out _).mono ?_; rintro e w1 ⟨b, gs, cs, rfl, hb, hgg, hws, hf⟩; have HB := hide hb; have HGS := hide hgg; have HWS := hide hws; have HF := hide hf; clear hb hgg hws hf HWALK) | ((with_reducible refine gate_dst (N := 22) rfl ?_); refine Kd.S_make KE (w0 := w) w.heap.size 31 rfl (N := 22) rfl 22 _ _ rfl (g.length : Int) rfl rfl Try.underlying22 (.slice none 0 0) 24 info31 rfl (by decide) (by omega) ([] : List Int) (ok := fun k => w1.heap.size ≤ k) (okp := fun _ => False) ?m1 (fun _ hk => hk.elim) (Nat.le_refl _) (by omega) (by omega) ?m2 ?m3 ?_; (case m1 => exact ⟨_, rfl, Kd.R_nil _ _ _ _ _⟩); (case m2 => exact ((pw_below_drewN (Below.refl _ w) nd).trans ((HF.out.below (B := w.heap.size) (Nat.le_refl _) (fun _ q => q.elim))))); (case m3 => exact HF.out.size); intro v2 w2 h1 h2 h3 h4; obtain ⟨gb, h4, h5⟩ := h4; obtain ⟨cb, rfl⟩ := R_blk (Kd.S_R h1) h4; have M1 := hide h1; have M2 := hide h2; have M3 := hide h3; clear h1 h2 h3 h4 h5))
  have HP0 := hide (P1.start rfl HB.out HGS.out HWS.out HF.out M1.out M3.out)
  clear HB HGS HWS HF M1 M2 M3
  have hnb : g.length < 9223372036854775807 := by omega
  go_loopg [25] (g.length + 1) (fun gk v25 wr => ∃ x : Nat, x ≤ g.length ∧ g.length - x < gk ∧ v25 = .int .i64 x ∧ ∃ D Q dv, Aside0 (P1 g w b (.slice A g.length c) gs cs gb cb x (esU g x) wr D Q dv))
  case atStart => exact ⟨0, Nat.zero_le _, by omega, rfl, _, _, _, HP0⟩
  case round =>
    obtain ⟨x, hx, hgk, rfl, D, Q, dv, HP⟩ := hrel
    clear HP0
    by_cases hlt : x < g.length
    · obtain ⟨ad, A0, c0, rfl, c1w, hroww⟩ := edge_row (by exact HE.out) x (by exact hlt)
      have c1 := pw_cell_below HP.out.below c1w
      have hlti : (x : Int) < (g.length : Int) := by omega
      obtain ⟨rl, hrl⟩ : ∃ r, (out g x).length = r := ⟨_, rfl⟩
      rw [hrl] at c1 hroww
      have HRL := hide hrl
      have HROW := hide hroww
      have HFROM := hide (HP.out.from_ HG.out rfl hlt hsm HE.out)
      clear hrl c1w hroww
      go_wp2_with (go_at_call 19; refine HFROM.out.mono ?_; rintro e w3 ⟨rfl, D3, dv3, hP3⟩; have HP3 := hide hP3; clear hP3)
      have hrb : rl ≤ 1099511627776 := by
        have := Gr.esV_length g x rl (by exact hlt)
        have h2 : rl ≤ (Gr.esV g x rl).length := by simp [esV, HRL.out]
        have := HT.out
        omega
      have HP4 := hide (show P1 g w b (.slice (some ad) g.length c) gs cs gb cb (x + 1) (esV g x 0) w3 D3 Q dv3 by rw [Gr.esV_zero]; exact HP3.out)
      obtain ⟨wo, hwo⟩ : ∃ wo : World, wo = wr := ⟨_, rfl⟩
      clear HP HP3 HFROM c1
      go_loopg [35] (rl + 1) (fun gj v35 wi => ∃ j : Nat, j ≤ rl ∧ rl - j < gj ∧ v35 = .int .i64 j ∧ ∃ D Q dv, Aside0 (P1 g w b (.slice (some ad) g.length c) gs cs gb cb (x + 1) (esV g x j) wi D Q dv))
      case atStart => exact ⟨0, Nat.zero_le _, by omega, rfl, _, _, _, HP4⟩
      case round =>
        clear HP4
        obtain ⟨j, hj, hgj, rfl, D5, Q5, dv5, HP5⟩ := hrel
        by_cases hjl : j < rl
        · obtain ⟨y, hy⟩ : ∃ y, (out g x)[j]? = some y := ⟨_, List.getElem?_eq_getElem (by rw [HRL.out]; exact hjl)⟩
          have hyn : y < g.length := by exact HG.out x y (List.mem_iff_getElem?.2 ⟨j, hy⟩)
          have hyi : (y : Int) < (g.length : Int) := by omega
          have hji : (j : Int) < (rl : Int) := by omega
          obtain ⟨ad2, rfl, c6⟩ := edge_at (r := out g x) (by rw [HRL.out]; exact Kd.C_below HROW.out HP5.out.below) j y hy
          obtain ⟨oki, v0, hR0, c7, hoki, hH⟩ := mat_lend HP5.out.mat y hyn
          have hv0 : ∀ k, v0.ownBlock = some k → oki k := hR0.1
          have hrow := Gr.backE_row g.length (esV g x j) (Gr.esV_lt HG.out x j) y
          have hlen := Gr.esV_length g x j (by exact hlt)
          have hrl2 : (((backE g.length (esV g x j)).map castL).getD y []).length ≤ 1099511627776 := by
            have e : ((backE g.length (esV g x j)).map castL).getD y [] = castL ((backE g.length (esV g x j)).getD y []) := castG_getD _ _
            rw [e, castL_length]
            have := HT.out
            omega
          obtain ⟨row, hrowe⟩ : ∃ r, ((backE g.length (esV g x j)).map castL).getD y [] = r := ⟨_, rfl⟩
          obtain ⟨ml, hml⟩ : ∃ m, row.length = m := ⟨_, rfl⟩
          rw [hrowe] at hR0 hrl2
          have HROWE := hide hrowe
          have HML := hide hml
          have HR0 := hide hR0
          have HOKI := hide hoki
          have HH := hide hH
          have HV0 := hide hv0
          have HRL2 := hide hrl2
          have HY := hide hy
          have hgbQ : Q5 gb := (Kd.S_R HP5.out.mat).1 gb rfl
          have HGB := hide (HP5.out.Qlt gb hgbQ)
          obtain ⟨cellsg, hcg⟩ := Kd.R_typed (Kd.S_R HP5.out.mat) gb rfl
          have HCG := hide hcg
          have HNE := hide (show some gb ≠ v0.ownBlock from fun e => (hoki gb (hv0 gb e.symm)).2 rfl)
          clear hrowe hml hR0 hoki hH hv0 hrow hlen hrl2 hy hgbQ hcg
          go_wp2_with ((with_reducible refine gate_dst (N := 47) rfl ?_); at_builtin; refine Kd.R_append (Kd.int .i64) (w0 := wr) w.heap.size rfl (.tmp 44) (.tmp 46) 31 3 (.int .i64 0) 8 rfl Try.underlying31 info3 rfl (by decide) (by omega) v0 row (x : Int) [.int .i64 x] (fun k => oki k ∨ wr.heap.size ≤ k) (fun _ => False) rfl rfl ?aP (fun _ hk => hk.elim) (fun k hk => .inr hk) ?aO (Below.refl _ _) ?aS ?aL ?_; (case aP => exact rfl); (case aO => exact Kd.R_mono HR0.out (fun k hk => .inl hk)); (case aS => exact HP5.out.below.size); (case aL => have := HRL2.out; omega); intro v1 w4 h1 h2 h3 h4; obtain ⟨g1, cap1, rfl, -, -, -⟩ := Kd.R_form h1 (by simp); have e2 : (row ++ [(x : Int)]).length = ml + 1 := (by rw [List.length_append, HML.out]; rfl); rw [e2] at h1 ⊢; clear e2; have B1 := hide h1; have B3 := hide h3; have f8 : w4.frozen? ⟨gb, y, none⟩ = false := blk_frozen ((h3.block gb HGB.out HNE.out).trans HCG.out) y; have c8 : w4.cell? ⟨gb, y, none⟩ = some v0 := (World.cell?_of_block (w := wr) (w' := w4) (a := ⟨gb, y, none⟩) (h3.block gb HGB.out HNE.out)).trans c7; clear h1 h2 h3 h4)
          go_roundg (rl - j)
          case measure => omega
          case rel => exact ⟨j + 1, by omega, by omega, by go_num, _, _, _, ⟨by rw [Gr.esV_succ g x j y HY.out]; exact HP5.out.put (by exact hyn) HH.out HOKI.out B3.out HV0.out (by rw [HROWE.out]; exact B1.out) rfl⟩⟩
        · obtain rfl : j = rl := by omega
          have HP6 := hide (show P1 g w b (.slice (some ad) g.length c) gs cs gb cb (x + 1) (esU g (x + 1)) wr D5 Q5 dv5 by rw [← Gr.esV_all g x j (by rw [HRL.out]; exact Nat.le_refl _)]; exact HP5.out)
          clear HP5
          go_wp2
          go_roundg (g.length - x)
          case measure => omega
          case rel => exact ⟨x + 1, by omega, by omega, by go_num, _, _, _, HP6⟩
    · obtain rfl : x = g.length := by omega
      obtain ⟨dl, hdl⟩ : ∃ m, (castL (scan g (NN g) (List.range g.length) (st0 g.length)).2).length = m := ⟨_, rfl⟩
      obtain ⟨Ad, cd, hdv, -, -⟩ := Kd.R_reads HP.out.ws.done
      rw [hdl] at hdv
      subst hdv
      have HDL := hide hdl
      clear hdl
      have HWALK2 := hide (walkOf_any (some ⟨gb, 0, none⟩) g.length cb w.heap.size wr (by omega) HP.out.below.size)
      go_wp2_with (first | (go_at_call 18; refine HWALK2.out.mono ?_; rintro e w1 ⟨b2, gs2, cs2, rfl, hb, hgg, hws, hf⟩; have HB := hide hb; have HGS := hide hgg; have HWS := hide hws; have HF := hide hf; have c2 : ∀ o1 o2 : Obj, ((w1.alloc o1).alloc o2).cell? ⟨b, 2, none⟩ = some (.slice Ad dl cd) := (fun o1 o2 => cell_al _ (cell_al _ ((blk_cell (hf.blk HP.out.ws.blk id) 2).trans rfl))); clear hb hgg hws hf HWALK2) | (go_at_call 20; refine (back_any _ _ _ _).mono ?_; rintro e w9 ⟨rfl, rfl⟩))
      have hgl := HB.out
      have hgsl := HGS.out
      obtain ⟨d1, hd1⟩ : ∃ d, (scan g (NN g) (List.range g.length) (st0 g.length)).2 = d := ⟨_, rfl⟩
      obtain ⟨zs, hzs⟩ := attach_lt (n := g.length) d1 (by rw [← hd1]; exact done_lt HG.out)
      have hzl : zs.length = dl := by rw [← HDL.out, hd1, ← hzs]; simp [castL]
      have hdl : dl ≤ g.length := by
        have := (scan_bounds g HG.out (List.range g.length)).2
        have e := HDL.out
        simp [castL] at e
        omega
      have hwb := HP.out.below.size
      obtain ⟨W0, hW0⟩ : ∃ W0, ((w1.alloc (.cells #[.pointer (some ⟨b2, 0, none⟩)] 35)).alloc (.cells #[.slice none 0 0] 22)).alloc (.cells #[.slice Ad dl cd] 31) = W0 := ⟨_, rfl⟩
      have hs0 : W0.heap.size = w1.heap.size + 3 := by rw [← hW0]; simp
      have hF0 : Fr (fun _ => False) w1 W0 := by rw [← hW0]; exact ((((Fr.refl _ w1).alloc _).alloc _).alloc _)
      have hBv : W0.heap[w1.heap.size]? = some (.cells #[.pointer (some ⟨b2, 0, none⟩)] 35 (0, 0)) := by
        rw [← hW0]
        exact (Below.heap_alloc _ _ _ (by simp; omega)).trans ((Below.heap_alloc _ _ _ (by simp)).trans (World.alloc_heap_new _ _))
      have hBo : W0.heap[w1.heap.size + 1]? = some (.cells #[.slice none 0 0] 22 (0, 0)) := by
        rw [← hW0]
        exact (Below.heap_alloc _ _ _ (by simp)).trans (by have := World.alloc_heap_new (w1.alloc (.cells #[.pointer (some ⟨b2, 0, none⟩)] 35)) (.cells #[.slice none 0 0] 22); rwa [World.size_alloc] at this)
      have hBs : W0.heap[w1.heap.size + 1 + 1]? = some (.cells #[.slice Ad dl cd] 31 (0, 0)) := by
        rw [← hW0]
        have := World.alloc_heap_new ((w1.alloc (.cells #[.pointer (some ⟨b2, 0, none⟩)] 35)).alloc (.cells #[.slice none 0 0] 22)) (.cells #[.slice Ad dl cd] 31)
        rwa [World.size_alloc, World.size_alloc] at this
      rw [hW0]
      have HF01 := hide hF0
      have HF02 := hide (HF.out.trans hF0 (fun _ q => q.elim))
      have hb2 := blk_lt HWS.out.blk
      have hg2 := HWS.out.Plt gs2 rfl
      have HMC := hide (show ∀ W, Below wr.heap.size W0 W → Kd.C KE W (some ⟨gb, 0, none⟩) g.length (castG (backE g.length (esU g g.length))) from by
        intro W hW
        obtain ⟨A, c, e, _, hC⟩ := Kd.R_reads (Kd.S_R HP.out.mat)
        injection e with e1 e2 e3
        subst e1
        have hl : ((backE g.length (esU g g.length)).map castL).length = g.length := by rw [List.length_map]; exact backE_len HG.out
        rw [hl] at hC
        exact Kd.C_below hC ((HF02.out.below (B := wr.heap.size) (Nat.le_refl _) (fun _ q => q.elim)).trans hW))
      have HPS := hide (show P2S w.heap.size W0 b2 gs2 (w1.heap.size + 1) from ⟨by omega, by omega, by omega, by omega, by omega, by omega, fun e => HWS.out.bP e, by omega, by omega⟩)
      have HBV := hide (show w1.heap.size < W0.heap.size ∧ w1.heap.size ≠ b2 ∧ w1.heap.size ≠ gs2 ∧ w1.heap.size ≠ w1.heap.size + 1 ∧ W0.heap[w1.heap.size]? = some (.cells #[.pointer (some ⟨b2, 0, none⟩)] 35 (0, 0)) from ⟨by omega, by omega, by omega, by omega, hBv⟩)
      refine (wpIn_wide (n := 9)).1 ?_
      refine wpIn_rangeFunc_ownG_of_H rfl (by omega) (gf := 29) (lb := #[.pointer (some ⟨w1.heap.size + 1 + 1, 0, none⟩)]) rfl trivial (enters_of Try.func29 (by kernel_rfl) rfl)
        (back_stops (β := { x : Nat // x < g.length }) (fun p => ((p.1 : Nat) : Int)) Fence.wide (9 - 1) trivial rfl (by omega) (w1.heap.size + 1 + 1) cd Ad zs (by omega) (fun k => k < W0.heap.size ∧ k ≠ b2 ∧ k ≠ gs2 ∧ k ≠ w1.heap.size + 1) W0 ?bs1 ?bs2 (fun _ q => q.1) ?bs3)
        (fun h k => h.t k) ?hKb (Below.refl _ _) (fun _ => rfl)
        (fun pre W => ∃ D O dv ov ps, P2 (backE g.length (esU g g.length)) (NN (backE g.length (esU g g.length))) g.length w.heap.size W0 b2 gs2 cs2 (.slice (some ⟨gb, 0, none⟩) g.length cb) (w1.heap.size + 1) (pre.map (fun p => p.2.1)) W D O dv ov ps)
        (fun _ _ _ => False) ?hI (fun _ _ _ _ _ hs _ _ => hs) ?h0 ?a1 ?hassign ?hbody ?hdone (fun _ _ _ _ _ _ hs _ => hs.elim) (fun _ _ _ => rfl)
      case bs1 => rw [hzl]; exact (blk_cell hBs 0).trans rfl
      case bs2 => exact ⟨by omega, by omega, by omega, by omega⟩
      case bs3 =>
        intro W' hK
        have hm := Kd.R_move (fr_R HP.out.ws.done HF02.out (fun _ _ q => q)) (w1 := W') (fun k hk => hK k ⟨by have := HP.out.Dlt k hk; omega, by have := HP.out.Dlt k hk; omega, by have := HP.out.Dlt k hk; omega, by have := HP.out.Dlt k hk; omega⟩)
        obtain ⟨A, c, e, _, hC⟩ := Kd.R_reads hm
        injection e with e1 e2 e3
        subst e1
        have e4 : castL (scan g (NN g) (List.range g.length) (st0 g.length)).2 = zs.map (fun p => ((p.1 : Nat) : Int)) := by rw [hd1, ← hzs]; simp [castL]
        rw [e4] at hC
        simpa using hC
      case hKb =>
        intro W l o o' hl _ _ _ k hk
        exact World.putObj_heap_other (by omega)
      case hI =>
        rintro pre X Y row ⟨D3, O3, dv3, ov3, ps3, q⟩ hg hr
        exact ⟨D3, O3, dv3, ov3, ps3, q.own hg hr⟩
      case h0 => exact ⟨_, _, _, _, _, P2.start HWS.out HF01.out hBo⟩
      case hassign =>
        intro l x W K hK
        gi_wp2
        exact hK
      case hbody =>
        rintro l pre x W ⟨D3, O3, dv3, ov3, ps3, HPP⟩ hlen
        have hxn : x.2.1 < g.length := x.2.2
        obtain ⟨xv, hxv⟩ : ∃ v, x.2.1 = v := ⟨_, rfl⟩
        rw [hxv] at hxn ⊢
        have hxi : (xv : Int) < (g.length : Int) := by omega
        obtain ⟨c1, c2, c3, c4⟩ := HPP.cells (Gr.back_is HG.out).good (backE_len HG.out) hxn
        have cB : W.cell? ⟨w1.heap.size, 0, none⟩ = some (.pointer (some ⟨b2, 0, none⟩)) := HPP.bv HBV.out
        obtain ⟨xs, hxs⟩ : ∃ xs, pre.map (fun p => p.2.1) = xs := ⟨_, rfl⟩
        have hxs2 : (pre ++ [x]).map (fun p => p.2.1) = xs ++ [xv] := by rw [List.map_append, hxs]; simp [hxv]
        rw [hxs] at HPP c3
        have HPQ := hide HPP
        have HXS := hide hxs2
        have HXV := hide hxv
        clear HPP hxs2 hxv
        cases hsn : sn (kparts (backE g.length (esU g g.length)) (NN (backE g.length (esU g g.length))) xs (a0 g.length)).1.1 xv with
        | true =>
          rw [hsn] at c3
          have HSN := hide hsn
          clear hsn
          gi_wp2
          refine ⟨KeepsFrom.refl _ _, fun _ _ => rfl, D3, O3, dv3, ov3, ps3, ?_⟩
          rw [HXS.out]
          have e : kparts (backE g.length (esU g g.length)) (NN (backE g.length (esU g g.length))) (xs ++ [xv]) (a0 g.length) = kparts (backE g.length (esU g g.length)) (NN (backE g.length (esU g g.length))) xs (a0 g.length) := by
            rw [kparts_snoc]
            unfold Gr.kstep
            rw [HSN.out]
            rfl
          have q := HPQ.out
          exact ⟨by rw [e]; exact q.ws, q.box, q.out, by rw [e]; exact q.ps2, q.Dc, q.Oc, q.Dge, q.Oge, q.OD, q.fr⟩
        | false =>
          rw [hsn] at c3
          have HSN := hide hsn
          have HFROM := hide (HPQ.out.from_ (B0 := wr.heap.size) HPS.out (Gr.back_is HG.out).good (backE_len HG.out) hxn hsm (by exact hwb) ?sB ?sBB ?sE hsn)
          case sB => omega
          case sBB => exact ⟨hgl, hgsl, by omega⟩
          case sE => exact HMC.out
          obtain ⟨m0, hm0⟩ : ∃ m, (kparts (backE g.length (esU g g.length)) (NN (backE g.length (esU g g.length))) xs (a0 g.length)).1.2.length = m := ⟨_, rfl⟩
          obtain ⟨Ad3, cd3, rfl, -, -⟩ := Kd.R_reads HPQ.out.ws.done
          rw [castL_length, hm0] at c2
          have HM0 := hide hm0
          clear hsn hm0
          gi_wp2
          refine ⟨trivial, ?_⟩
          refine (CallsIn.inRound l (callsIn_wide.2 HFROM.out)).mono ?_
          rintro e W2 ⟨rfl, D4, dv4, hws4, hD4, hf4⟩
          obtain ⟨gd, cd4, m4, rfl, hm4, c5, cmc, c7, c8, hC4⟩ := P2.after HPQ.out HPS.out HBV.out hws4 hD4 hf4 (hm0 := HM0.out)
          have HM4 := hide hm4
          have HC4 := hide hC4
          have HWS4 := hide hws4
          have HD4 := hide hD4
          have HF4 := hide hf4
          clear hws4 hD4 hf4 hm4 hC4
          gi_wp2
          refine ⟨trivial, ?_⟩
          obtain ⟨part, hpart⟩ : ∃ p, (visit (backE g.length (esU g g.length)) (NN (backE g.length (esU g g.length))) xv (kparts (backE g.length (esU g g.length)) (NN (backE g.length (esU g g.length))) xs (a0 g.length)).1).2.drop m0 = p := ⟨_, rfl⟩
          have hpl : (castL part).length = m4 - m0 := by rw [castL_length, ← hpart, List.length_drop, HM4.out]
          have hml : m4 ≤ g.length := by
            have := kparts_start (backE g.length (esU g g.length)) (Gr.back_is HG.out).good (NN (backE g.length (esU g g.length))) (xs ++ [xv])
            rw [kparts_snoc, backE_len HG.out] at this
            unfold Gr.kstep at this
            rw [HSN.out] at this
            have e : (visit (backE g.length (esU g g.length)) (NN (backE g.length (esU g g.length))) xv (kparts (backE g.length (esU g g.length)) (NN (backE g.length (esU g g.length))) xs (a0 g.length)).1).2.length = m4 := HM4.out
            simp only [Bool.false_eq_true, if_false] at this
            rw [e] at this
            omega
          have hcc := HC4.out
          rw [hpart] at hcc
          have hcl := clone_any gd m0 (cd4 - m0) (castL part) W2 hcc (by rw [hpl]; omega)
          rw [hpl] at hcl
          have HPART := hide hpart
          have HPL := hide hpl
          clear hpart hpl hcc
          refine (CallsIn.inRound l (callsIn_wide.2 hcl)).mono ?_
          rintro e W3 ⟨pv, rfl, hR3, hb3⟩
          clear hcl
          obtain ⟨Ap, cp, rfl, -, -⟩ := Kd.R_reads hR3
          have HSORT := hide (sort_any (castL part) (by rw [HPL.out]; omega) (by rw [HPL.out]; omega) (.slice Ap (castL part).length cp) W2.heap.size (fun k => W2.heap.size ≤ k) W3 (Kd.R_mono (Kd.R_bound hR3) (fun k hk => hk.2.1)))
          have HB3 := hide hb3
          clear hR3 hb3
          gi_wp2
          refine ⟨trivial, ?_⟩
          refine (CallsIn.inRound l (callsIn_wide.2 HSORT.out)).mono ?_
          rintro e W4 ⟨rfl, hf5, hR4⟩
          have HF5 := hide (((Fr.of_below (S := fun k => W2.heap.size ≤ k) HB3.out).trans hf5 (fun i hi => .inl hi)))
          have HR4 := hide hR4
          clear hf5 hR4 HSORT
          have c9 : W4.cell? ⟨w1.heap.size + 1, 0, none⟩ = some ov3 := HPQ.out.box4 HPS.out HF4.out HF5.out
          obtain ⟨Ao, co, rfl, -, -⟩ := Kd.R_reads (Kd.S_R HPQ.out.out)
          have hpsl : (ps3.map castL).length ≤ g.length := by
            have h1 := All2_length HPQ.out.ps2
            have h2 := (kparts_start (backE g.length (esU g g.length)) (Gr.back_is HG.out).good (NN (backE g.length (esU g g.length))) xs).2.2
            rw [backE_len HG.out] at h2
            have h3 : xs.length = pre.length := by have := congrArg List.length HXS.out; simp at this; omega
            rw [List.length_map]
            omega
          obtain ⟨pl, hpl⟩ : ∃ m, (ps3.map castL).length = m := ⟨_, rfl⟩
          rw [hpl] at hpsl
          have HAL := hide (show Fr (fun k => W2.heap.size ≤ k) W2 (W4.alloc (.cells #[.slice Ap (castL part).length cp] 31)) from HF5.out.alloc _)
          have HOUT := hide (HPQ.out.out4 HPS.out HF4.out HAL.out)
          have HR5 := hide (Kd.R_alloc HR4.out (.cells #[.slice Ap (castL part).length cp] 31))
          rw [hpl] at c4 c9 HPQ HOUT
          have HPLL := hide hpl
          have hs24 : W2.heap.size ≤ W4.heap.size := HF5.out.size
          have hsw2 : W.heap.size ≤ W2.heap.size := HF4.out.size
          have hs0w : W0.heap.size ≤ W.heap.size := HPQ.out.fr.size
          clear hpl
          have hww : w.heap.size ≤ W2.heap.size := by omega
          gi_wp2_with (gi_at_builtin; refine Aside0.out ?_)
          refine ⟨?_⟩
          refine S_append_in KE (W := W4.alloc (.cells #[.slice Ap (castL part).length cp] 31)) w.heap.size rfl (.tmp 84) (.tmp 86) 22 31 (.slice none 0 0) 24 rfl Try.underlying22 info31 rfl (by decide) (by omega) (.slice Ao pl co) (ps3.map castL) ((castL part).mergeSort fun x y => decide (x ≤ y)) [.slice Ap (castL part).length cp] (fun k => O3 k ∨ W2.heap.size ≤ k) (fun k => W2.heap.size ≤ k) rfl ⟨W4.heap.size, 0, none⟩ rfl ?aC ⟨_, rfl, Kd.R_lower HR5.out hww⟩ ?aP (fun k hk => .inr (by simp at hk; omega)) ?aO (by simp; omega) ?aL ?_
          case aC =>
            intro j u hu
            cases j with
            | succ j => simp at hu
            | zero =>
              have : u = .slice Ap (castL part).length cp := by simpa using hu.symm
              subst this
              exact (blk_cell (World.alloc_heap_new W4 _) 0).trans rfl
          case aP =>
            intro k hk
            refine ⟨.inr hk, fun e => ?_⟩
            obtain ⟨c, t, e⟩ := HPQ.out.Oc k ((Kd.S_R HPQ.out.out).1 k e.symm)
            have := (Array.getElem?_eq_some_iff.1 e).1
            omega
          case aO => exact Kd.S_mono HOUT.out (fun k hk => ⟨.inl hk, by obtain ⟨c, t, e⟩ := HPQ.out.Oc k hk; have := (Array.getElem?_eq_some_iff.1 e).1; omega⟩)
          case aL => rw [HPLL.out]; omega
          intro v5 W5 h5 hg5
          obtain ⟨A5, c5, rfl, -, -⟩ := Kd.R_reads (Kd.S_R h5)
          obtain ⟨l5, hl5⟩ : ∃ m, (ps3.map castL ++ [(castL part).mergeSort fun x y => decide (x ≤ y)]).length = m := ⟨_, rfl⟩
          rw [hl5] at h5 ⊢
          clear hl5
          have H5 := hide h5
          have HG5 := hide hg5
          obtain ⟨f9, c10⟩ := HPQ.out.box5 HPS.out HF4.out HAL.out HG5.out
          clear h5 hg5
          gi_wp2
          have e1 : (kparts (backE g.length (esU g g.length)) (NN (backE g.length (esU g g.length))) xs (a0 g.length)).1.2.length = m0 := HM0.out
          have e2 : (visit (backE g.length (esU g g.length)) (NN (backE g.length (esU g g.length))) xv (kparts (backE g.length (esU g g.length)) (NN (backE g.length (esU g g.length))) xs (a0 g.length)).1).2.drop m0 = part := HPART.out
          have hput := HPQ.out.put (W4 := W4.alloc (.cells #[.slice Ap (castL part).length cp] 31)) (W5 := W5) HPS.out HSN.out HWS4.out HD4.out HF4.out HAL.out HG5.out (by
            rw [e1, e2, List.map_append, List.map_singleton, ← castL_sort]
            exact H5.out)
          obtain ⟨⟨D6, O6, hP6⟩, hk6, hk7⟩ := hput
          exact ⟨hk6, hk7, D6, O6, _, _, _, by rw [HXS.out]; exact hP6⟩
      case hdone =>
        rintro Dd ys W hDd rfl ⟨D3, O3, dv3, ov3, ps3, HPP⟩ hK
        have hq := HPP.parts HG.out (by rw [hd1, ← hzs, ← List.map_reverse, ← bseq_val, List.map_map]; rfl) hsm
        obtain ⟨Ao, co, rfl, -, -⟩ := Kd.R_reads (Kd.S_R HPP.out)
        have hpsl : ps3.length ≤ g.length := by
          have h1 := All2_length HPP.ps2
          have h2 := (kparts_start (backE g.length (esU g g.length)) (Gr.back_is HG.out).good (NN (backE g.length (esU g g.length))) ((bseq zs).map (fun p => p.2.1))).2.2
          rw [backE_len HG.out] at h2
          have h3 : ((bseq zs).map (fun p => p.2.1)).length = zs.length := by rw [List.length_map, bseq_length]
          omega
        have c4 : W.cell? ⟨w1.heap.size + 1, 0, none⟩ = some _ := (blk_cell HPP.box 0).trans rfl
        have HDK := hide hK
        clear hK
        have HSF := hide (sortFunc_any ps3 hq.2 (by omega) _ w.heap.size O3 W HPP.out)
        have HPQ := hide HPP
        have HQ := hide hq
        clear HPP hq
        obtain ⟨l7, hl7⟩ : ∃ m, (ps3.map castL).length = m := ⟨_, rfl⟩
        rw [hl7] at c4 HSF HPQ
        have HL7 := hide hl7
        clear hl7
        go_wp2_with (go_at_call 23; refine HSF.out.mono ?_; rintro e W6 ⟨rfl, hf6, qs, hp6, hs6, hR6⟩; have HF6 := hide hf6; have HP6 := hide hp6; have HS6 := hide hs6; have HR6 := hide hR6; have c7 : W6.cell? ⟨w1.heap.size + 1, 0, none⟩ = some (.slice Ao l7 co) := (HPQ.out.box6 HPS.out hf6); have k7 : W6.heap[Dd]? = some (.deferred (some [])) := (HPQ.out.def6 HPS.out hf6 HDK.out); clear hf6 hp6 hs6 hR6)
        refine ⟨by simp, .inl ⟨_, _, rfl, run_takeDeferred k7, ?_⟩⟩
        have hcan : qs = Gr.canon g := parts_end HG.out rfl HQ.out.1 HP6.out HS6.out
        have hDd2 : Dd < W.heap.size := (Array.getElem?_eq_some_iff.1 HDK.out).1
        refine ⟨_, results_tmp rfl _ _ _, _, rfl, ?_, ?_⟩
        · rw [← hcan]
          refine Kd.S_mono (Kd.S_move HR6.out (fun k hk => World.putObj_heap_other (fun e => ?_))) (fun _ _ => trivial)
          obtain ⟨c, t, e2⟩ := HPQ.out.Oc k hk
          rw [e, HDK.out] at e2
          cases e2
        · have g1 := HP.out.below.trans (HF02.out.below hwb (fun _ q => q.elim))
          have g2 := HPQ.out.fr.below (B := w.heap.size) (by omega) (by rintro k (rfl | rfl | rfl) <;> omega)
          have g3 := HF6.out.below (B := w.heap.size) (by have := HPQ.out.fr.size; omega) (fun k hk => by have := HPQ.out.Oge k hk; omega)
          exact ((g1.trans g2).trans g3).trans (belowK_b (w := w) (Nat.le_refl _) W6 Dd _ _ (by omega) k7 rfl rfl)
theorem parts_bad (A : Option Addr) (c : Nat) (el : List (List Int)) (w : World) (hE : Kd.C KE w A el.length el) (hc : el.length ≤ c) (hs : Small el) (hok : okE el = false) :
    Calls Try.prog 11 #[.slice A el.length c] w (OwnRowsS w []) := by
  obtain ⟨k, hk⟩ := Pu.check_ev el (by have := hs.len; omega) (fun r hr => by have := hs.row r hr; omega)
  rw [hok] at hk
  have HK := hide hk
  have HE := hide hE
  have HC := hide hc
  clear hk hE hc hok hs
  refine (callsIn_wide (n := 9)).1 ?_
  refine callsIn_of_wp_marks Try.func11 rfl trivial ?_ rfl
  simp only [Try.ntmps11, List.size_toArray, List.length_cons, List.length_nil, Nat.reduceAdd, Nat.reduceSub, Array.replicate_succ, Array.replicate_zero, List.push_toArray, List.append_toArray, List.nil_append, List.cons_append]
  refine wpIn_wide.2 ?_
  go_wp2_with (go_at_call 8; refine (PCheck.order_Check.calls k A c el 110 _ ?s1 ?s2 HK.out).mono ?_; (case s1 => exact HE.out); (case s2 => exact HC.out); rintro e w1 ⟨rfl, ⟨nd, rfl⟩⟩)
  refine ⟨_, results_tmp rfl _ _ _, _, rfl, Kd.S_nil _ _ _ _ _, pw_below_drewN (Below.refl _ _) nd⟩

noncomputable def partsAns (el : List (List Int)) : List (List Int) := if okE el = true then (Gr.canon (gOf el)).map castL else []
theorem parts_anyS (A : Option Addr) (c : Nat) (el : List (List Int)) (w : World) (hE : Kd.C KE w A el.length el) (hc : el.length ≤ c) (hs : Small el) (htot : (el.map List.length).sum ≤ 1099511627776) :
    Calls Try.prog 11 #[.slice A el.length c] w (OwnRowsS w (partsAns el)) := by
  unfold partsAns
  cases hok : okE el with
  | false => simpa using parts_bad A c el w hE hc hs hok
  | true =>
    rw [if_pos rfl]
    have e := castG_gOf hok
    have hl : (gOf el).length = el.length := gOf_length el
    have := parts_good A c (gOf el) w (gOf_good hok) (by rw [e, hl]; exact hE) (by rw [hl]; exact hc) (by rw [hl]; exact hs.len) (by
      have : (gOf el).map List.length = el.map List.length := by simp [gOf]
      rw [this]; exact htot) (by
      obtain ⟨k, hk⟩ := Pu.check_ev el (by have := hs.len; omega) (fun r hr => by have := hs.row r hr; omega)
      rw [hok] at hk
      exact ⟨k, by rw [e]; exact hk⟩)
    rw [hl] at this
    exact this
theorem parts_any (A : Option Addr) (c : Nat) (el : List (List Int)) (w : World) (hE : Kd.C KE w A el.length el) (hc : el.length ≤ c) (hs : Small el) (htot : (el.map List.length).sum ≤ 1099511627776) :
    Calls Try.prog 11 #[.slice A el.length c] w (OwnRows w (partsAns el)) :=
  (parts_anyS A c el w hE hc hs htot).mono fun _ _ ⟨v, e, h1, h2⟩ => ⟨v, e, Kd.S_R h1, h2⟩
end Go.Proofs.Ytldgmneijipbjaa.H
end
