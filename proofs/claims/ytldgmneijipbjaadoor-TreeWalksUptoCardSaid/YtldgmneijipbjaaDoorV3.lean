/- What tree.All's closure hands over: all trees of a tree, each with its place, in memory of its own. -/
import Derived.Test.YtldgmneijipbjaaDoorV2
import Derived.Test.YtldgmneijipbjaaDoorT1
import Derived.RangeFuncCalls
import Derived.RangeFuncLeaves
import Derived.RangeFuncBox
import Derived.Shelf.Abstract
import Derived.Shelf.RegionOpen
import Derived.OwnWalkIn
import Derived.TacticsInMore
import Derived.LoopNIn
import Derived.LoopIn
import Derived.Stop.RegionWithIn
namespace Go.Proofs.YtldgmneijipbjaaDoor.H
open Go.RowKit Go.Shelf Go.Proofs.YtldgmneijipbjaaDoorW.PrintWords Go.Proofs.YtldgmneijipbjaaDoorW.PrintLast Go.Proofs.YtldgmneijipbjaaDoorW.PrintMore
open PTreeSames
set_option linter.unusedVariables false
set_option linter.unusedSimpArgs false
attribute [local go_sem] Oper.semAt_some

mutual
/-- all trees of a tree, in pre-order -/
def flat : Tr → List Tr
  | ⟨k, s, n, l⟩ => ⟨k, s, n, l⟩ :: flatL l
def flatL : List Tr → List Tr
  | [] => []
  | x :: l => flat x ++ flatL l
end
theorem flat_eq (x : Tr) : flat x = x :: flatL x.f3 := by obtain ⟨a, b, c, l⟩ := x; rw [flat]

/-- what is handed over: a place, a tree, and where its kids lie -/
structure El where
  i : Nat
  y : Tr
  A : Option Addr
  c : Nat
def El.args (x : El) : Array Value := #[.int .i64 x.i, .agg #[.int .i64 x.y.f0, .string x.y.f1, .int .i64 x.y.f2, .slice x.A x.y.f3.length x.c]]
def VV (D0 : Nat) (L : List Tr) (pre : List El) (x : El) (W : World) : Prop := x.i = pre.length ∧ L[pre.length]? = some x.y ∧ KT.R 24 W D0 (fun k => D0 ≤ k) (.slice x.A x.y.f3.length x.c) x.y.f3
def XX (Xs : Nat → Prop) (x : El) (k : Nat) : Prop := Xs k ∨ ∃ ad, x.A = some ad ∧ k = ad.block
/-- W is as w was, but for Xs and what is new -/
structure Agr (D0 : Nat) (Xs : Nat → Prop) (w W : World) : Prop where
  size : D0 ≤ W.heap.size
  keep : ∀ k, k < D0 → ¬ Xs k → W.heap[k]? = w.heap[k]?
theorem Agr.fr {D0 : Nat} {Xs S : Nat → Prop} {w A B : World} (h : Agr D0 Xs w A) (hb : Fr S A B) (hS : ∀ k, S k → Xs k ∨ D0 ≤ k) : Agr D0 Xs w B :=
  ⟨Nat.le_trans h.size hb.size, fun k hk hn => (hb.block k (by have := h.size; omega) (fun q => by rcases hS k q with r | r; exact hn r; omega)).trans (h.keep k hk hn)⟩
theorem Agr.below {D0 D : Nat} {Xs : Nat → Prop} {w A B : World} (h : Agr D0 Xs w A) (hb : Below D A B) (hD : D0 ≤ D) : Agr D0 Xs w B :=
  ⟨Nat.le_trans h.size hb.size, fun k hk hn => (hb.block k (by omega)).trans (h.keep k hk hn)⟩

theorem room_none {F : Fence} (hd : F.depth = none) (k : Nat) : F.room k := fun d h => by rw [hd] at h; cases h
theorem yield_any {F : Fence} (hd : F.depth = none) {m : Nat} (m' : Nat) {P : Program} {l : Nat} {args : Array Value} {W : World} {R : Ending → World → Prop} (h : YieldAt F m P l args W R) : YieldAt F m' P l args W R := by
  obtain ⟨fn, tmps, assign, body, hy, h1, h2⟩ := h
  exact ⟨fn, tmps, assign, body, hy, h1, fun c cs _ => h2 c cs (room_none hd _)⟩

/-- what a round leaves, as one way -/
def Told (J Jx : List El → World → Prop) (Fm : World → Prop) (pre : List El) (e : Ending) (W' : World) : Prop := ∃ b : Bool, e = .returned (.bool b) ∧ ((b = true ∧ ∃ x, J (pre ++ [x]) W' ∧ Fm W') ∨ (b = false ∧ ∃ x, Jx (pre ++ [x]) W'))
/-- the rounds of a loop, as the iterator may ask for them -/
def Rounds (F : Fence) (l D D0 : Nat) (Xs : Nat → Prop) (L : List Tr) (J Jx : List El → World → Prop) : Prop :=
  ∀ pre x W1, J pre W1 → D ≤ W1.heap.size → VV D0 L pre x W1 → pre.length < L.length → YieldAt F 0 Tryd.prog l x.args W1 fun e W' =>
    (e = .returned (.bool true) ∧ J (pre ++ [x]) W' ∧ Fr (XX Xs x) W1 W') ∨ (e = .returned (.bool false) ∧ Jx (pre ++ [x]) W')

set_option maxRecDepth 100000 in
set_option maxHeartbeats 4000000 in
theorem all11_in (n : Nat) (l yb D D0 : Nat) (Xs : Nat → Prop) (L : List Tr) (J Jx : List El → World → Prop) (hDD : D0 ≤ D) (hJ : StaysAt D J) (hY : Rounds Fence.wide l D D0 Xs L J Jx)
    (pre : List El) (y : Tr) (hf : Fit y) (A : Option Addr) (c : Nat) (W : World) (hj : J pre W) (hDW : D ≤ W.heap.size) (hyb : W.heap[yb]? = some (.cells #[.func (.yield l) #[] #[]] 35 (0, 0))) (hy : L[pre.length]? = some y) (hr : Rd W y A c) :
    CallsIn Fence.wide n Tryd.prog 19 #[.int .i64 (pre.length : Nat), .agg #[.int .i64 y.f0, .string y.f1, .int .i64 y.f2, .slice A y.f3.length c], .pointer (some ⟨yb, 0, none⟩)] W (Told J Jx (Fr Xs W) pre) := by
  have c0 := fun o => cell_al o ((blk_cell hyb 0).trans rfl : W.cell? ⟨yb, 0, none⟩ = some (.func (.yield l) #[] #[]))
  obtain ⟨i, hi⟩ : ∃ i, pre.length = i := ⟨_, rfl⟩
  rw [hi] at hy ⊢
  have HI := hide hi
  have HY := hide hY
  have HL := hide hy
  have HJ := hide hJ
  have Hj := hide hj
  have HR := hide hr
  have HF := hide hf
  have HYB := hide hyb
  have HDD := hide hDD
  have HDW := hide hDW
  clear hi hY hy hJ hj hr hf hyb hDD hDW
  refine callsIn_of_wp Tryd.func19 rfl trivial ?_ rfl
  simp only [Tryd.ntmps19, List.size_toArray, List.length_cons, List.length_nil, Nat.reduceAdd, Nat.reduceSub, Array.replicate_succ, Array.replicate_zero, List.push_toArray, List.append_toArray, List.nil_append, List.cons_append]
  gi_wp2
  obtain ⟨Wb, hWb⟩ : ∃ Wb, W.alloc (.cells #[.int .i64 y.f0, .string y.f1, .int .i64 y.f2, .slice A y.f3.length c] 24) = Wb := ⟨_, rfl⟩
  have HB := hide (show Below W.heap.size W Wb by rw [← hWb]; exact below_alloc (Below.refl _ _) _)
  have k0 : Wb.cell? ⟨yb, 0, none⟩ = some (.func (.yield l) #[] #[]) := by rw [← hWb]; exact c0 _
  have k1 : Wb.cell? ⟨W.heap.size, 0, none⟩ = some (.int .i64 y.f0) := by rw [← hWb]; exact (blk_cell (blk_new W _) 0).trans rfl
  have k2 : Wb.cell? ⟨W.heap.size, 1, none⟩ = some (.string y.f1) := by rw [← hWb]; exact (blk_cell (blk_new W _) 1).trans rfl
  have k3 : Wb.cell? ⟨W.heap.size, 2, none⟩ = some (.int .i64 y.f2) := by rw [← hWb]; exact (blk_cell (blk_new W _) 2).trans rfl
  have k4 : Wb.cell? ⟨W.heap.size, 3, none⟩ = some (.slice A y.f3.length c) := by rw [← hWb]; exact (blk_cell (blk_new W _) 3).trans rfl
  rw [hWb]
  clear c0 hWb
  have HCP := hide (show Calls Tryd.prog 12 #[.agg #[.int .i64 y.f0, .string y.f1, .int .i64 y.f2, .slice A y.f3.length c]] Wb.drew (fun e W2 => ∃ x : El, e = .returned (.agg #[.int .i64 y.f0, .string y.f1, .int .i64 y.f2, .slice x.A y.f3.length x.c]) ∧ W2.cell? ⟨yb, 0, none⟩ = some (.func (.yield l) #[] #[]) ∧ YieldAt Fence.wide (n - 1) Tryd.prog l #[.int .i64 (i : Nat), .agg #[.int .i64 y.f0, .string y.f1, .int .i64 y.f2, .slice x.A y.f3.length x.c]] W2 (Told J Jx (Fr Xs W) pre)) from by
    have hb0 : Below W.heap.size W Wb.drew := HB.out.trans ((below_drew (Below.refl _ Wb)).mono HB.out.size)
    refine (copy_any y HF.out A c _ (HR.out.below hb0)).mono ?_
    intro e W2 ho
    obtain ⟨A2, c2, rfl, hr2, hR2, hb2⟩ := ho.rd
    have hb : Below W.heap.size W W2 := hb0.trans (hb2.mono hb0.size)
    refine ⟨⟨i, y, A2, c2⟩, rfl, pw_cell_below hb ((blk_cell HYB.out 0).trans rfl), ?_⟩
    have hsz : W.heap.size ≤ Wb.drew.heap.size := hb0.size
    have hRD : KT.R 24 W2 D0 (fun k => D0 ≤ k) (.slice A2 y.f3.length c2) y.f3 := Kd.R_lower (Kd.R_mono hR2 (fun k hk => by have := HDD.out; have := HDW.out; omega)) (by have := HDD.out; have := HDW.out; omega)
    refine yield_any (m := 0) rfl (n - 1) ((HY.out pre ⟨i, y, A2, c2⟩ W2 (HJ.out _ _ _ Hj.out (hb.mono HDW.out)) (Nat.le_trans HDW.out hb.size) ⟨HI.out.symm, by rw [HI.out]; exact HL.out, hRD⟩ (by rw [HI.out]; exact (List.getElem?_eq_some_iff.1 HL.out).1)).mono ?_)
    rintro e W' (⟨rfl, q1, q2⟩ | ⟨rfl, q1⟩)
    · refine ⟨true, rfl, .inl ⟨rfl, _, q1, ?_⟩⟩
      refine ⟨q2.os.trans hb.os, q2.tape.trans hb.tape, q2.output.trans hb.output, Nat.le_trans hb.size q2.size, fun k hk hn => (q2.block k (Nat.lt_of_lt_of_le hk hb.size) ?_).trans (hb.block k hk)⟩
      rintro (q | ⟨ad, e, rfl⟩)
      · exact hn q
      · cases e
        obtain ⟨g, rfl⟩ := Kd.R_head hR2
        have := hR2.1 g rfl
        simp only at hk this
        omega
    · exact ⟨false, rfl, .inr ⟨rfl, _, q1⟩⟩)
  clear HB HR HF HY HJ Hj HYB
  gi_region_with (first | ((try refine ⟨trivial, (fun h => by cases h), ?_⟩); gi_at_call 12; refine (callsIn_wide.2 HCP.out).mono ?_; rintro e W2 ⟨x, rfl, k5, fn, tmps, assign, body, hy, hR⟩) | ((try refine ⟨trivial, (fun h => by cases h), ?_⟩); (try refine ⟨(fun h => by cases h), ?_⟩); refine hR.mono ?_; rintro e W3 ⟨b, rfl, hp⟩; have HP := hide hp; clear hp))
  all_goals
    gi_wp2
    go_ret
    exact ⟨b, rfl, HP.out⟩
end Go.Proofs.YtldgmneijipbjaaDoor.H
