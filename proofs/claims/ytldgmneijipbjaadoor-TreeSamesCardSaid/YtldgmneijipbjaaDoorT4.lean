/- A tree that came in: what it reads as, and how much it is. -/
import Derived.Test.YtldgmneijipbjaaDoorRows
import Derived.Test.YtldgmneijipbjaaDoorT2
import Derived.Deep.Slices
import Derived.Lib.SmallJoins
namespace Go.Proofs.YtldgmneijipbjaaDoor.H
open Go.RowKit Go.Proofs.YtldgmneijipbjaaDoorW.PrintWords Go.Proofs.YtldgmneijipbjaaDoorW.PrintLast Go.Proofs.YtldgmneijipbjaaDoorW.PrintMore
open Go.ChangeShapes Go.WideShapes
open PTreeSames Pu
set_option linter.unusedVariables false

mutual
/-- how much a tree is: its trees, and the bytes of their texts -/
def bk : Tr → Nat
  | ⟨_, s, _, l⟩ => bkL l + s.size + 1
def bkL : List Tr → Nat
  | [] => 0
  | x :: l => bk x + bkL l
end
theorem bk_eq (x : Tr) : bk x = bkL x.f3 + x.f1.size + 1 := by obtain ⟨a, b, c, l⟩ := x; rw [bk]
theorem bk_mem {l : List Tr} {y : Tr} (h : y ∈ l) : bk y ≤ bkL l := by
  induction l with
  | nil => cases h
  | cons x l ih =>
    rw [bkL]
    rcases List.mem_cons.1 h with rfl | h
    · omega
    · have := ih h; omega
theorem bk_length (l : List Tr) : l.length ≤ bkL l := by
  induction l with
  | nil => simp
  | cons x l ih => rw [bkL, List.length_cons, bk_eq]; omega
theorem bk_kid {x y : Tr} (h : y ∈ x.f3) : bk y < bk x := by rw [bk_eq x]; have := bk_mem h; omega
theorem fit_of (m : Nat) : ∀ x : Tr, bk x ≤ m → m ≤ 2513169434843 → Fit x := by
  induction m with
  | zero => intro x h; rw [bk_eq] at h; omega
  | succ m ih =>
    intro x h hm
    have h1 := bk_eq x
    have h2 := bk_length x.f3
    exact .mk x (by omega) (fun y hy => ih y (by have := bk_kid hy; omega) (by omega))
/-- small enough, as the given bound has it -/
def Low (x : Tr) : Prop := bk x ≤ 1048576
theorem Low.fit {x : Tr} (h : Low x) : Fit x := fit_of _ x h (by omega)

theorem bulk_all_get {H : Type} (n : Nat) : ∀ (f : Nat → Tr) (D : Nat → DataW H), (∀ i, i < n → bk (f i) ≤ Rows.uptoBulk (D i)) → bkL ((List.range n).map f) ≤ Rows.uptoBulkAll ((List.range n).map D) := by
  induction n with
  | zero => intro f D h; simp [bkL]
  | succ n ih =>
    intro f D h
    rw [List.range_succ_eq_map, List.map_cons, List.map_cons, List.map_map, List.map_map, bkL, Rows.uptoBulkAll]
    have h0 := h 0 (by omega)
    have h1 := ih (f ∘ Nat.succ) (D ∘ Nat.succ) (fun i hi => h (i + 1) (by omega))
    omega
theorem open_tree {H : Type} {enc : TypeId × Value → H} {W : World} (fuel : Nat) : ∀ (cs : List Value) (d : DataW H) (p : List MemPlace), DataW.trod enc Tryd.prog W 0 (fun _ => true) true fuel 24 cs = some (d, p) →
    ∃ x A c, cs = cs4 x A c ∧ Rd W x A c ∧ bk x ≤ Rows.uptoBulk d := by
  induction fuel using Nat.strongRecOn with
  | _ fuel ih =>
  intro cs d p h
  cases fuel with
  | zero => simp [DataW.trod] at h
  | succ fuel =>
    obtain ⟨y0, y1, y2, y3, hx, hl, h0, h1, h2, h3⟩ : ∃ y0 y1 y2 y3 : DataW H × List MemPlace, d = .agg [y0.1, y1.1, y2.1, y3.1] ∧ cs.length = 4 ∧ DataW.trod enc Tryd.prog W 0 (fun _ => true) true fuel 3 ((cs.drop 0).take 1) = some y0 ∧ DataW.trod enc Tryd.prog W 0 (fun _ => true) true fuel 9 ((cs.drop 1).take 1) = some y1 ∧ DataW.trod enc Tryd.prog W 0 (fun _ => true) true fuel 3 ((cs.drop 2).take 1) = some y2 ∧ DataW.trod enc Tryd.prog W 0 (fun _ => true) true fuel 22 ((cs.drop 3).take 1) = some y3 := by
      obtain ⟨xs, n, hn, hx, hl, hlen, hf⟩ := DataW.trod_struct Tryd.underlying24 h
      obtain rfl : n = fuel := by omega
      have c4 : Program.cellsOf Tryd.prog 24 = 4 := by kernel_rfl
      have c1 : Program.cellsOf Tryd.prog 3 = 1 := by kernel_rfl
      have c9 : Program.cellsOf Tryd.prog 9 = 1 := by kernel_rfl
      have c22 : Program.cellsOf Tryd.prog 22 = 1 := by kernel_rfl
      match xs, hlen with
      | [y0, y1, y2, y3], _ =>
        have a0 : DataW.trod enc Tryd.prog W 0 (fun _ => true) true n 3 ((cs.drop 0).take (Program.cellsOf Tryd.prog 3)) = some y0 := hf 0 _ rfl
        have a1 : DataW.trod enc Tryd.prog W 0 (fun _ => true) true n 9 ((cs.drop 1).take (Program.cellsOf Tryd.prog 9)) = some y1 := hf 1 _ rfl
        have a2 : DataW.trod enc Tryd.prog W 0 (fun _ => true) true n 3 ((cs.drop 2).take (Program.cellsOf Tryd.prog 3)) = some y2 := hf 2 _ rfl
        have a3 : DataW.trod enc Tryd.prog W 0 (fun _ => true) true n 22 ((cs.drop 3).take (Program.cellsOf Tryd.prog 22)) = some y3 := hf 3 _ rfl
        rw [c1] at a0 a2
        rw [c9] at a1
        rw [c22] at a3
        exact ⟨y0, y1, y2, y3, by have := congrArg Prod.fst hx; simpa using this, hl.trans c4, a0, a1, a2, a3⟩
    obtain ⟨u0, u1, u2, u3, rfl⟩ : ∃ u0 u1 u2 u3, cs = [u0, u1, u2, u3] := by
      match cs, hl with
      | [u0, u1, u2, u3], _ => exact ⟨u0, u1, u2, u3, rfl⟩
    obtain ⟨k, e0, -, -⟩ := DataW.trod_int Tryd.underlying3 h0
    obtain ⟨s, e1, x1, -⟩ := DataW.trod_string Tryd.underlying9 h1
    obtain ⟨nn, e2, -, -⟩ := DataW.trod_int Tryd.underlying3 h2
    simp only [List.drop_zero, List.take_succ_cons, List.take_zero, List.drop_succ_cons, List.cons.injEq, and_true] at e0 e1 e2
    subst e0 e1 e2 hx
    simp only [List.drop_succ_cons, List.drop_zero, List.take_succ_cons, List.take_zero] at h3
    have hb1 : Rows.uptoBulk y1.1 = s.size + 1 := by rw [x1]; simp [Rows.uptoBulk]
    simp only [Rows.uptoBulk, Rows.uptoBulkAll, hb1]
    rcases DataW.trod_slice Tryd.underlying22 h3 with ⟨e, ex⟩ | ⟨a, len, cap, elems, rest, n, hn, e, ex, hb, hlc, hm, hel, hcells, -, -⟩
    · cases e
      refine ⟨⟨k, s, nn, []⟩, none, 0, rfl, Rd.nil rfl, ?_⟩
      rw [bk_eq]
      simp only [bkL]
      omega
    · cases e
      have c4 : Program.cellsOf Tryd.prog 24 = 4 := by kernel_rfl
      rw [c4] at hcells
      have hk : ∀ i, ∃ x, i < len → ∃ A c, (∀ j u, (cs4 x A c)[j]? = some u → W.cell? (a.add (i * 4 + j)) = some u) ∧ Rd W x A c ∧ bk x ≤ Rows.uptoBulk (elems.getD i (.nil, [])).1 := by
        intro i
        by_cases hi : i < len
        · have hc := hcells i hi
          rw [List.getElem?_eq_getElem (by omega)] at hc
          obtain ⟨cs', k1, k2⟩ := Option.bind_eq_some_iff.1 hc
          obtain ⟨-, l1, g1⟩ := World.cells?_some k1
          obtain ⟨x, A, c, rfl, hr, hbk⟩ := ih n (by omega) cs' _ _ k2
          refine ⟨x, fun _ => ⟨A, c, fun j u hu => ?_, hr, ?_⟩⟩
          · have hj : j < 4 := by have := (List.getElem?_eq_some_iff.1 hu).1; simpa using this
            have := g1 j hj
            rw [hu] at this
            rw [← this]
            rw [add_add]
          · rw [List.getD_eq_getElem?_getD, List.getElem?_eq_getElem (by omega)]
            exact hbk
        · exact ⟨z24, fun h => absurd h hi⟩
      obtain ⟨f, hf⟩ := Classical.axiomOfChoice hk
      refine ⟨⟨k, s, nn, (List.range len).map f⟩, some a, cap, by simp [cs4], ⟨⟨rfl, by simp; unfold maxLen at hm; omega, fun hp => ⟨a, rfl, fun j y hy => ?_⟩⟩, by simpa using hlc⟩, ?_⟩
      · have hj : j < len := by have := (List.getElem?_eq_some_iff.1 hy).1; simpa using this
        have hy2 : f j = y := by simpa [hj] using hy
        obtain ⟨A, c, g1, hr, -⟩ := hf j hj
        rw [hy2] at g1 hr
        exact ⟨cs4 y A c, rfl, k24_mk W y hr.cap hr.kids, g1⟩
      · rw [bk_eq]
        have h5 := bulk_all_get (H := H) len f (fun i => (elems.getD i (.nil, [])).1) (fun i hi => by obtain ⟨A, c, -, -, h⟩ := hf i hi; exact h)
        have h6 : elems.map (·.1) = (List.range len).map (fun i => (elems.getD i (.nil, [])).1) := by
          apply List.ext_getElem
          · simp [hel]
          · intro i h1 h2
            have : i < elems.length := by simpa using h1
            simp [List.getD_eq_getElem?_getD, List.getElem?_eq_getElem this]
        have h7 := congrArg Prod.fst ex
        simp only at h7
        rw [h7]
        simp only [Rows.uptoBulk]
        rw [h6]
        omega
/-- an argument that is a tree -/
theorem open_arg {H : Type} {enc : TypeId × Value → H} {W : World} {r : Reach} {b0 : Nat} {v : Value} {d : DataW H} {p : List MemPlace} (hv : Value.okWide Tryd.prog W r b0 24 v) (h : DataW.Trod enc Tryd.prog W 0 (fun _ => true) true 24 v d p) :
    ∃ x A c, v = nd x A c ∧ Rd W x A c ∧ bk x ≤ Rows.uptoBulk d := by
  obtain ⟨v0, v1, v2, v3, y0, y1, y2, y3, n, rfl, -, -, t0, t1, t2, t3⟩ := Joins.open_agg4 Tryd.underlying24 (by kernel_rfl) (by kernel_rfl) hv h
  obtain ⟨k, e0, -, -⟩ := DataW.trod_int Tryd.underlying3 t0
  obtain ⟨s, e1, -, -⟩ := DataW.trod_string Tryd.underlying9 t1
  obtain ⟨m, e2, -, -⟩ := DataW.trod_int Tryd.underlying3 t2
  cases e0
  cases e1
  cases e2
  have e3 : ∃ A l c, v3 = .slice A l c := by
    rcases DataW.trod_slice Tryd.underlying22 t3 with ⟨e, -⟩ | ⟨a, len, cap, elems, rest, n, -, e, -⟩
    · cases e; exact ⟨none, 0, 0, rfl⟩
    · cases e; exact ⟨some a, len, cap, rfl⟩
  obtain ⟨A, l, c, rfl⟩ := e3
  obtain ⟨fuel, hf⟩ := h
  obtain ⟨x, A', c', e, hr, hb⟩ := open_tree fuel _ _ _ hf
  have e4 : (Value.agg #[.int .i64 k, .string s, .int .i64 m, .slice A l c]).cells.toList = [.int .i64 k, .string s, .int .i64 m, .slice A l c] := rfl
  rw [e4] at e
  simp only [cs4, List.cons.injEq, and_true] at e
  obtain ⟨e5, e6, e7, e8⟩ := e
  refine ⟨x, A', c', ?_, hr, hb⟩
  unfold nd
  rw [e5, e6, e7, e8]
end Go.Proofs.YtldgmneijipbjaaDoor.H
