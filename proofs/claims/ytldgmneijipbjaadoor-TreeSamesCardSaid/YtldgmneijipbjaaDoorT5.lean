/- A tree that came in, of whatever bulk: what it reads as, and that its lists are within memory's reach. -/
import Derived.Test.YtldgmneijipbjaaDoorT4
import Derived.SizedLaws
namespace Go.Proofs.YtldgmneijipbjaaDoor.H
open Go.RowKit Go.Proofs.YtldgmneijipbjaaDoorW.PrintWords Go.Proofs.YtldgmneijipbjaaDoorW.PrintLast Go.Proofs.YtldgmneijipbjaaDoorW.PrintMore
open Go.ChangeShapes Go.WideShapes
open PTreeSames Pu
set_option linter.unusedVariables false
theorem weights_all {H : Type} {P : Program} {e : TypeId} {l : List (DataW H)} {d : DataW H} (h : d ∈ l) {n : Nat} (hn : n ∈ DataW.weights P e d) : n ∈ DataW.weightsAll P e l := by
  induction l with
  | nil => cases h
  | cons x l ih =>
    rw [DataW.weightsAll, List.mem_append]
    rcases List.mem_cons.1 h with rfl | h
    · exact .inl hn
    · exact .inr (ih h)
theorem fit_tree {H : Type} {enc : TypeId × Value → H} {W : World} (fuel : Nat) : ∀ (cs : List Value) (d : DataW H) (p : List MemPlace), DataW.trod enc Tryd.prog W 0 (fun _ => true) true fuel 24 cs = some (d, p) →
    ∃ x A c, cs = cs4 x A c ∧ Rd W x A c ∧ ((∀ n ∈ DataW.weights Tryd.prog 24 d, n ≤ reachBytes) → Fit x) := by
  induction fuel using Nat.strongRecOn with
  | _ fuel ih =>
  intro cs d p h
  cases fuel with
  | zero => simp [DataW.trod] at h
  | succ fuel =>
    obtain ⟨y0, y1, y2, y3, hx, hl, h0, h1, h2, h3⟩ : ∃ y0 y1 y2 y3 : DataW H × List MemPlace, d = .agg [y0.1, y1.1, y2.1, y3.1] ∧ cs.length = 4 ∧ DataW.trod enc Tryd.prog W 0 (fun _ => true) true fuel 3 ((cs.drop 0).take 1) = some y0 ∧ DataW.trod enc Tryd.prog W 0 (fun _ => true) true fuel 9 ((cs.drop 1).take 1) = some y1 ∧ DataW.trod enc Tryd.prog W 0 (fun _ => true) true fuel 3 ((cs.drop 2).take 1) = some y2 ∧ DataW.trod enc Tryd.prog W 0 (fun _ => true) true fuel 22 ((cs.drop 3).take 1) = some y3 := by
      obtain ⟨xs, n, hn, hx, hl, hlen, hf⟩ := DataW.trod_struct Tryd.underlying24 h
      obtain rfl : n = fuel := by omega
      have c4 : Program.cellsOf Tryd.prog 24 = 4 := by kernel_rfl
      have c1 : Program.cellsOf Tryd.prog 3 = 1 := by kernel_rfl
      have c9 : Program.cellsOf Tryd.prog 9 = 1 := by kernel_rfl
      have c22 : Program.cellsOf Tryd.prog 22 = 1 := by kernel_rfl
      match xs, hlen with
      | [y0, y1, y2, y3], _ =>
        have a0 : DataW.trod enc Tryd.prog W 0 (fun _ => true) true n 3 ((cs.drop 0).take (Program.cellsOf Tryd.prog 3)) = some y0 := hf 0 _ rfl
        have a1 : DataW.trod enc Tryd.prog W 0 (fun _ => true) true n 9 ((cs.drop 1).take (Program.cellsOf Tryd.prog 9)) = some y1 := hf 1 _ rfl
        have a2 : DataW.trod enc Tryd.prog W 0 (fun _ => true) true n 3 ((cs.drop 2).take (Program.cellsOf Tryd.prog 3)) = some y2 := hf 2 _ rfl
        have a3 : DataW.trod enc Tryd.prog W 0 (fun _ => true) true n 22 ((cs.drop 3).take (Program.cellsOf Tryd.prog 22)) = some y3 := hf 3 _ rfl
        rw [c1] at a0 a2
        rw [c9] at a1
        rw [c22] at a3
        exact ⟨y0, y1, y2, y3, by have := congrArg Prod.fst hx; simpa using this, hl.trans c4, a0, a1, a2, a3⟩
    obtain ⟨u0, u1, u2, u3, rfl⟩ : ∃ u0 u1 u2 u3, cs = [u0, u1, u2, u3] := by
      match cs, hl with
      | [u0, u1, u2, u3], _ => exact ⟨u0, u1, u2, u3, rfl⟩
    obtain ⟨k, e0, -, -⟩ := DataW.trod_int Tryd.underlying3 h0
    obtain ⟨s, e1, x1, -⟩ := DataW.trod_string Tryd.underlying9 h1
    obtain ⟨nn, e2, -, -⟩ := DataW.trod_int Tryd.underlying3 h2
    simp only [List.drop_zero, List.take_succ_cons, List.take_zero, List.drop_succ_cons, List.cons.injEq, and_true] at e0 e1 e2
    subst e0 e1 e2 hx
    simp only [List.drop_succ_cons, List.drop_zero, List.take_succ_cons, List.take_zero] at h3
    have hw3 : ∀ n, n ∈ DataW.weights Tryd.prog 22 y3.1 → n ∈ DataW.weights Tryd.prog 24 (.agg [y0.1, y1.1, y2.1, y3.1]) := by
      intro n hn
      rw [DataW.weights, Tryd.underlying24]
      simp only [List.map_cons, List.map_nil, DataW.weightsEach, List.mem_append]
      exact .inr (.inr (.inr (.inl hn)))
    rcases DataW.trod_slice Tryd.underlying22 h3 with ⟨e, ex⟩ | ⟨a, len, cap, elems, rest, n, hn, e, ex, hb, hlc, hm, hel, hcells, -, -⟩
    · cases e
      exact ⟨⟨k, s, nn, []⟩, none, 0, rfl, Rd.nil rfl, fun _ => .mk _ (by simp) (by simp)⟩
    · cases e
      have c4 : Program.cellsOf Tryd.prog 24 = 4 := by kernel_rfl
      rw [c4] at hcells
      have hk : ∀ i, ∃ x, i < len → ∃ A c, (∀ j u, (cs4 x A c)[j]? = some u → W.cell? (a.add (i * 4 + j)) = some u) ∧ Rd W x A c ∧ ((∀ n ∈ DataW.weights Tryd.prog 24 (elems.getD i (.nil, [])).1, n ≤ reachBytes) → Fit x) := by
        intro i
        by_cases hi : i < len
        · have hc := hcells i hi
          rw [List.getElem?_eq_getElem (by omega)] at hc
          obtain ⟨cs', k1, k2⟩ := Option.bind_eq_some_iff.1 hc
          obtain ⟨-, l1, g1⟩ := World.cells?_some k1
          obtain ⟨x, A, c, rfl, hr, hbk⟩ := ih n (by omega) cs' _ _ k2
          refine ⟨x, fun _ => ⟨A, c, fun j u hu => ?_, hr, ?_⟩⟩
          · have hj : j < 4 := by have := (List.getElem?_eq_some_iff.1 hu).1; simpa using this
            have := g1 j hj
            rw [hu] at this
            rw [← this]
            rw [add_add]
          · rw [List.getD_eq_getElem?_getD, List.getElem?_eq_getElem (by omega)]
            exact hbk
        · exact ⟨z24, fun h => absurd h hi⟩
      obtain ⟨f, hf⟩ := Classical.axiomOfChoice hk
      refine ⟨⟨k, s, nn, (List.range len).map f⟩, some a, cap, by simp [cs4], ⟨⟨rfl, by simp; unfold maxLen at hm; omega, fun hp => ⟨a, rfl, fun j y hy => ?_⟩⟩, by simpa using hlc⟩, ?_⟩
      · have hj : j < len := by have := (List.getElem?_eq_some_iff.1 hy).1; simpa using this
        have hy2 : f j = y := by simpa [hj] using hy
        obtain ⟨A, c, g1, hr, -⟩ := hf j hj
        rw [hy2] at g1 hr
        exact ⟨cs4 y A c, rfl, k24_mk W y hr.cap hr.kids, g1⟩
      · intro hw
        have h7 := congrArg Prod.fst ex
        simp only at h7
        have hy : ∀ m, m ∈ DataW.weights Tryd.prog 22 y3.1 → m ≤ reachBytes := fun m hm => hw m (hw3 m hm)
        rw [h7, DataW.weights, Tryd.underlying22] at hy
        simp only [List.mem_cons, List.mem_append] at hy
        have hlen : (elems.map (·.1)).length = len := by simp [hel]
        have h56 : Program.bytesOf Tryd.prog 24 = 56 := by kernel_rfl
        have h1 := hy _ (.inl rfl)
        rw [hlen, h56] at h1
        have h2 : len ≤ 2513169434843 := by unfold reachBytes at h1; omega
        refine .mk _ (by simpa using h2) (fun y hmem => ?_)
        simp only [List.mem_map, List.mem_range] at hmem
        obtain ⟨i, hi, rfl⟩ := hmem
        obtain ⟨A, c, -, -, hfit⟩ := hf i hi
        refine hfit (fun n hn => hy n (.inr (.inl (weights_all ?_ hn))))
        rw [List.getD_eq_getElem?_getD, List.getElem?_eq_getElem (by omega)]
        exact List.mem_map_of_mem (List.getElem_mem _)
/-- an argument that is a tree: its lists are within reach -/
theorem fit_arg {H : Type} {enc : TypeId × Value → H} {W : World} {r : Reach} {b0 : Nat} {v : Value} {d : DataW H} {p : List MemPlace} (hv : Value.okWide Tryd.prog W r b0 24 v) (h : DataW.Trod enc Tryd.prog W 0 (fun _ => true) true 24 v d p) :
    ∃ x A c, v = nd x A c ∧ Rd W x A c ∧ ((∀ n ∈ DataW.weights Tryd.prog 24 d, n ≤ reachBytes) → Fit x) := by
  obtain ⟨v0, v1, v2, v3, y0, y1, y2, y3, n, rfl, -, -, t0, t1, t2, t3⟩ := Joins.open_agg4 Tryd.underlying24 (by kernel_rfl) (by kernel_rfl) hv h
  obtain ⟨k, e0, -, -⟩ := DataW.trod_int Tryd.underlying3 t0
  obtain ⟨s, e1, -, -⟩ := DataW.trod_string Tryd.underlying9 t1
  obtain ⟨m, e2, -, -⟩ := DataW.trod_int Tryd.underlying3 t2
  cases e0
  cases e1
  cases e2
  have e3 : ∃ A l c, v3 = .slice A l c := by
    rcases DataW.trod_slice Tryd.underlying22 t3 with ⟨e, -⟩ | ⟨a, len, cap, elems, rest, n, -, e, -⟩
    · cases e; exact ⟨none, 0, 0, rfl⟩
    · cases e; exact ⟨some a, len, cap, rfl⟩
  obtain ⟨A, l, c, rfl⟩ := e3
  obtain ⟨fuel, hf⟩ := h
  obtain ⟨x, A', c', e, hr, hb⟩ := fit_tree fuel _ _ _ hf
  have e4 : (Value.agg #[.int .i64 k, .string s, .int .i64 m, .slice A l c]).cells.toList = [.int .i64 k, .string s, .int .i64 m, .slice A l c] := rfl
  rw [e4] at e
  simp only [cs4, List.cons.injEq, and_true] at e
  obtain ⟨e5, e6, e7, e8⟩ := e
  refine ⟨x, A', c', ?_, hr, hb⟩
  unfold nd
  rw [e5, e6, e7, e8]
end Go.Proofs.YtldgmneijipbjaaDoor.H
