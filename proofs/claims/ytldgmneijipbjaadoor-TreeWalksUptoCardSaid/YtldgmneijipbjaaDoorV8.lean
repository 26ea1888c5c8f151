/- The law TreeWalks. -/
import Derived.Test.YtldgmneijipbjaaDoorV7
import Derived.Test.YtldgmneijipbjaaDoorVI
import Derived.Test.YtldgmneijipbjaaDoorA4
import Derived.Laws.EntriesVeiled
namespace Go.Proofs.YtldgmneijipbjaaDoor.H
open Go.RowKit Go.Shelf Go.Proofs.YtldgmneijipbjaaDoorW.PrintWords Go.Proofs.YtldgmneijipbjaaDoorW.PrintLast Go.Proofs.YtldgmneijipbjaaDoorW.PrintMore
open PTreeSames Pu
set_option linter.unusedVariables false
set_option linter.unusedSimpArgs false
attribute [local go_sem] Oper.semAt_some

theorem flatL_mem {l : List Tr} {y : Tr} (h : y ∈ flatL l) : ∃ z, z ∈ l ∧ y ∈ flat z := by
  induction l with
  | nil => simp [flatL] at h
  | cons x l ih =>
    rw [flatL, List.mem_append] at h
    rcases h with h | h
    · exact ⟨x, by simp, h⟩
    · obtain ⟨z, h1, h2⟩ := ih h
      exact ⟨z, List.mem_cons_of_mem _ h1, h2⟩
theorem flat_fit (m : Nat) : ∀ x : Tr, SizeOf.sizeOf x ≤ m → Fit x → ∀ y, y ∈ flat x → Fit y := by
  induction m with
  | zero => intro x hx; obtain ⟨a, b, c, d⟩ := x; simp [S24.mk.sizeOf_spec] at hx
  | succ m ih =>
    intro x hx hf y hy
    rw [flat_eq, List.mem_cons] at hy
    rcases hy with rfl | hy
    · exact hf
    · obtain ⟨z, h1, h2⟩ := flatL_mem hy
      exact ih z (by have := kid_lt h1; omega) (hf.kid h1) y h2
/-- the loop that writes into what was handed over -/
structure KQ (W5 W : World) (b7 k : Nat) (x : El) (b : Nat) (wr : World) : Prop where
  row : ∃ ks : List Tr, ks.length = x.y.f3.length ∧ KT.R 24 wr W5.heap.size (fun j => W5.heap.size ≤ j) (.slice x.A x.y.f3.length x.c) ks
  fr : Fr (XX (fun j => j = b7) x) W wr
  box : wr.heap[b]? = some (bx x)
  z : WZ W5 b7 k wr
theorem KQ.put {W5 W wr w2 : World} {b7 k b i : Nat} {x : El} {v3 : Value} {n : Int} (q : KQ W5 W b7 k x b wr) (h7 : b7 < W5.heap.size) (hne : ∀ ad, x.A = some ad → ad.block ≠ b) (hi : i < x.y.f3.length) (hb : Below wr.heap.size wr w2) (hM : KT.R 24 w2 wr.heap.size (fun _ => True) v3 []) :
    ∃ g, x.A = some ⟨g, 0, none⟩ ∧ (∃ u, w2.cell? ⟨g, i * 4, none⟩ = some u) ∧ (∃ u, w2.cell? ⟨g, i * 4 + 1, none⟩ = some u) ∧ (∃ u, w2.cell? ⟨g, i * 4 + 2, none⟩ = some u) ∧ (∃ u, w2.cell? ⟨g, i * 4 + 3, none⟩ = some u) ∧
      w2.frozen? ⟨g, i * 4, none⟩ = false ∧ w2.frozen? ⟨g, i * 4 + 1, none⟩ = false ∧ w2.frozen? ⟨g, i * 4 + 2, none⟩ = false ∧ w2.frozen? ⟨g, i * 4 + 3, none⟩ = false ∧
      KQ W5 W b7 k x b ((((w2.setCell ⟨g, i * 4, none⟩ (.int .i64 1)).setCell ⟨g, i * 4 + 1, none⟩ (.string mt)).setCell ⟨g, i * 4 + 2, none⟩ (.int .i64 n)).setCell ⟨g, i * 4 + 3, none⟩ v3) := by
  obtain ⟨ks, hkl, hrow⟩ := q.row
  obtain ⟨ad, e⟩ : ∃ ad, x.A = some ad := by
    obtain ⟨-, -, hC⟩ := R_C hrow
    exact C_some hC (by omega)
  rw [e] at hrow
  obtain ⟨g, rfl⟩ := Kd.R_head hrow
  have hg5 : W5.heap.size ≤ g := hrow.1 g rfl
  have hgl : g < wr.heap.size := Kd.R_lt hrow g rfl
  have hws := q.z.agr.size
  have hrow2 := Kd.R_below hrow hb
  have hM2 : KT.R 24 w2 W5.heap.size (fun j => wr.heap.size ≤ j) v3 (⟨1, mt, n, []⟩ : Tr).f3 := Kd.R_lower (Kd.R_mono (Kd.R_bound hM) (fun j hj => hj.2.1)) hws
  obtain ⟨a0, a1, a2, a3, f0, f1, f2, f3, hp⟩ := R_putM (i := i) hrow2 hi hM2 (fun j hj => ⟨by omega, by omega⟩)
  have hF : Fr (fun j => j = g) wr ((((w2.setCell ⟨g, i * 4, none⟩ (.int .i64 1)).setCell ⟨g, i * 4 + 1, none⟩ (.string mt)).setCell ⟨g, i * 4 + 2, none⟩ (.int .i64 n)).setCell ⟨g, i * 4 + 3, none⟩ v3) :=
    ((((Fr.of_below (S := fun j => j = g) hb).setCell (p := ⟨g, i * 4, none⟩) (.inl rfl) _).setCell (p := ⟨g, i * 4 + 1, none⟩) (.inl rfl) _).setCell (p := ⟨g, i * 4 + 2, none⟩) (.inl rfl) _).setCell (p := ⟨g, i * 4 + 3, none⟩) (.inl rfl) _
  refine ⟨g, e, a0, a1, a2, a3, f0, f1, f2, f3, ⟨⟨ks.set i ⟨1, mt, n, []⟩, by rw [List.length_set]; exact hkl, by rw [e]; exact hp⟩, q.fr.trans hF (fun j h => .inl (.inr ⟨_, e, h⟩)), (hF.block b (blk_lt q.box) (fun h => hne _ e h.symm)).trans q.box, ⟨q.z.agr.fr hF (fun j h => .inr (by omega)), (hF.block b7 (by omega) (fun h => by omega)).trans q.z.cnt, hF.os.trans q.z.same.1, hF.tape.trans q.z.same.2.1, hF.output.trans q.z.same.2.2⟩⟩⟩
theorem run_eql_nilF (fn : Fn) (a b : Array Value) (w : World) : Sem.run Tryd.prog (binOp .eql 27 (.func fn a b) .nilFunc) w = .ok (.bool false) w := by kernel_rfl
attribute [local go_sem] run_eql_nilF
set_option maxRecDepth 100000 in
set_option maxHeartbeats 4000000 in
theorem walks_law (w : World) (x : Tr) (hf : Fit x) (hb : (flat x).length ≤ 1048576) (A : Option Addr) (c : Nat) (hr : Rd w x A c) (a : Int) :
    Calls Tryd.prog 3 #[nd x A c, .int .i64 a] w fun e w' => e = .returned (.bool true) ∧ Below w.heap.size w w' := by
  obtain ⟨L, hL⟩ : ∃ L, (flat x).length = L := ⟨_, rfl⟩
  have hLb : L ≤ 1048576 := by rw [← hL]; exact hb
  have HL := hide hL
  have HF := hide hf
  have HB := hide hb
  have HR := hide hr
  unfold nd
  clear hf hb hr hL
  refine (callsIn_wide (n := 12)).1 ?_
  refine callsIn_of_wp_marks Tryd.func3 rfl trivial ?_ rfl
  simp only [Tryd.ntmps3, List.size_toArray, List.length_cons, List.length_nil, Nat.reduceAdd, Nat.reduceSub, Array.replicate_succ, Array.replicate_zero, List.push_toArray, List.append_toArray, List.nil_append, List.cons_append]
  refine wpIn_wide.2 ?_
  go_wp2_with (go_at_call 5; refine Aside0.out ?_)
  refine ⟨?_⟩
  obtain ⟨W3, hW3⟩ : ∃ W3, (((w.alloc (.cells #[.int .i64 x.f0, .string x.f1, .int .i64 x.f2, .slice A x.f3.length c] 24)).alloc (.cells #[.int .i64 a] 3)).alloc (.cells #[.bool false] 4)) = W3 := ⟨_, rfl⟩
  have hs3 : W3.heap.size = w.heap.size + 3 := by rw [← hW3]; simp
  have hb3 : Below w.heap.size w W3 := by rw [← hW3]; exact (below_alloc (below_alloc (below_alloc (Below.refl _ _) _) _) _)
  have m2 : W3.heap[w.heap.size]? = some (.cells #[.int .i64 x.f0, .string x.f1, .int .i64 x.f2, .slice A x.f3.length c] 24 (0, 0)) := by rw [← hW3]; exact blk_alloc (blk_alloc (blk_new w _) _) _
  have m3 : W3.heap[w.heap.size + 1]? = some (.cells #[.int .i64 a] 3 (0, 0)) := by
    rw [← hW3]; refine blk_alloc ?_ _
    have := blk_new (w.alloc (.cells #[.int .i64 x.f0, .string x.f1, .int .i64 x.f2, .slice A x.f3.length c] 24)) (.cells #[.int .i64 a] 3); rwa [World.size_alloc] at this
  have m4 : W3.heap[w.heap.size + 1 + 1]? = some (.cells #[.bool false] 4 (0, 0)) := by
    rw [← hW3]
    have := blk_new ((w.alloc (.cells #[.int .i64 x.f0, .string x.f1, .int .i64 x.f2, .slice A x.f3.length c] 24)).alloc (.cells #[.int .i64 a] 3)) (.cells #[.bool false] 4); rwa [World.size_alloc, World.size_alloc] at this
  rw [hW3]
  clear hW3
  refine (flat_up w w.heap.size _ x (Nat.le_refl _) HF.out A c (.slice none 0 0) [] W3 hb3 hb3.size ⟨Kd.C_F heap_KT HR.out.kids, HR.out.cap⟩ (Kd.R_nil _ _ _ _ _) (by have := HB.out; simp; omega)).mono ?_
  rintro e W1 ⟨v1, rfl, q⟩
  obtain ⟨ys, h1, h2⟩ := q.row
  rw [List.nil_append] at h1
  obtain ⟨A1, c1, rfl, -, -⟩ := Kd.R_reads h1
  have hb1 : Below W3.heap.size W3 W1 := q.fr.below (Nat.le_refl _) (fun k hk => by simp [OwnB, Value.ownBlock] at hk)
  have hl1 := h2.len
  rw [hl1, HL.out] at h1
  rw [hl1, HL.out]
  have m2 := (hb1.block _ (blk_lt m2)).trans m2
  have m3 := (hb1.block _ (blk_lt m3)).trans m3
  have m4 := (hb1.block _ (blk_lt m4)).trans m4
  have c0 : ∀ o, (W1.alloc o).cell? ⟨w.heap.size, 0, none⟩ = some (.int .i64 x.f0) := fun o => cell_al o ((blk_cell m2 0).trans rfl)
  have c1' : ∀ o, (W1.alloc o).cell? ⟨w.heap.size, 1, none⟩ = some (.string x.f1) := fun o => cell_al o ((blk_cell m2 1).trans rfl)
  have c2 : ∀ o, (W1.alloc o).cell? ⟨w.heap.size, 2, none⟩ = some (.int .i64 x.f2) := fun o => cell_al o ((blk_cell m2 2).trans rfl)
  have c3 : ∀ o, (W1.alloc o).cell? ⟨w.heap.size, 3, none⟩ = some (.slice A x.f3.length c) := fun o => cell_al o ((blk_cell m2 3).trans rfl)
  have HROW := hide h1
  have HLAYS := hide h2
  have HB1 := hide (hb3.trans (hb1.mono hb3.size))
  have HS1 := hide (show w.heap.size + 3 ≤ W1.heap.size by rw [← hs3]; exact hb1.size)
  have M3 := hide m3
  have M4 := hide m4
  clear q h1 h2 hb1 hl1 m2 m3 m4 hb3 hs3
  go_wp2_with (go_at_call 6; refine Aside0.out ?_)
  refine ⟨?_⟩
  have hba : Below w.heap.size w (W1.alloc (.cells #[.slice A1 L c1] 22)) := below_alloc HB1.out _
  obtain ⟨Wa, hWa⟩ : ∃ Wa, W1.alloc (.cells #[.slice A1 L c1] 22) = Wa := ⟨_, rfl⟩
  have hsa : Wa.heap.size = W1.heap.size + 1 := by rw [← hWa]; simp
  have hb1a : Below W1.heap.size W1 Wa := by rw [← hWa]; exact below_alloc (Below.refl _ _) _
  have m5 : Wa.heap[W1.heap.size]? = some (.cells #[.slice A1 L c1] 22 (0, 0)) := by rw [← hWa]; exact blk_new W1 _
  rw [hWa] at hba ⊢
  refine (all_any x HF.out A c Wa (HR.out.below hba)).mono ?_
  rintro e W2 ⟨rfl, A2, c2', hq⟩
  have hb2 := hq.below
  have hb12 : Below W1.heap.size W1 W2 := hb1a.trans (hb2.mono (by omega))
  have M5 := hide ((hb2.block _ (blk_lt m5)).trans m5)
  have HQ := hide hq
  have HB12 := hide hb12
  have HSA := hide hsa
  have HS2 := hide hb2.size
  clear hWa hba hb1a m5 hq hb2 hb12 hsa c0 c1' c2 c3
  go_wp2_with (go_at_call 7; refine Aside0.out ?_)
  refine ⟨?_⟩
  obtain ⟨Wb, hWb⟩ : ∃ Wb, W2.alloc (.cells #[.func (.func 17) #[] #[.pointer (some ⟨Wa.heap.size, 0, none⟩)]] 27) = Wb := ⟨_, rfl⟩
  have hb2b : Below W2.heap.size W2 Wb := by rw [← hWb]; exact below_alloc (Below.refl _ _) _
  have m6 : Wb.heap[W2.heap.size]? = some (.cells #[.func (.func 17) #[] #[.pointer (some ⟨Wa.heap.size, 0, none⟩)]] 27 (0, 0)) := by rw [← hWb]; exact blk_new W2 _
  rw [hWb]
  refine (awake_any Wb).mono ?_
  rintro e W4 ⟨rfl, hb4⟩
  have m6 := (hb4.block _ (blk_lt m6)).trans m6
  have hb24 : Below W2.heap.size W2 W4 := hb2b.trans (hb4.mono hb2b.size)
  have k6 : ∀ o, (W4.alloc o).cell? ⟨W2.heap.size, 0, none⟩ = some (.func (.func 17) #[] #[.pointer (some ⟨Wa.heap.size, 0, none⟩)]) := fun o => cell_al o ((blk_cell m6 0).trans rfl)
  have M6 := hide m6
  have HB24 := hide hb24
  clear hWb hb2b m6 hb4 hb24
  go_wp2
  obtain ⟨W0, hW0⟩ : ∃ W0, W4.alloc (.cells #[.int .i64 0] 3) = W0 := ⟨_, rfl⟩
  have hs0 : W0.heap.size = W4.heap.size + 1 := by rw [← hW0]; simp
  have hb0 : Below W4.heap.size W4 W0 := by rw [← hW0]; exact below_alloc (Below.refl _ _) _
  have h7 : W0.heap[W4.heap.size]? = some (counter 0) := by rw [← hW0]; exact blk_new W4 _
  rw [hW0]
  have hb20 : Below W2.heap.size W2 W0 := HB24.out.trans (hb0.mono HB24.out.size)
  have hb10 : Below W1.heap.size W1 W0 := HB12.out.trans (hb20.mono HB12.out.size)
  have hq := HQ.out
  have i1 := HSA.out
  have i2 := HS2.out
  have i3 := HB24.out.size
  have i4 := HS1.out
  have i5 := HB12.out.size
  have i6 := blk_lt M6.out
  have HSM0 := hide (show W0.os = w.os ∧ W0.tape = w.tape ∧ W0.output = w.output from ⟨hb10.os.trans HB1.out.os, hb10.tape.trans HB1.out.tape, hb10.output.trans HB1.out.output⟩)
  have E0 : Env w x a W1.heap.size W2.heap.size W4.heap.size Wa.heap.size A1 c1 A2 c2' ys W0 := by
    refine ⟨by omega, by omega, by omega, by omega, by omega, by omega, (hb10.block _ (by omega)).trans M3.out, (hb10.block _ (by omega)).trans M4.out, ?_, (hb0.block _ (blk_lt M6.out)).trans M6.out, (hb20.block _ (blk_lt hq.blk)).trans hq.blk,
      hq.rdF hb20 (fun k h1 h2 => ⟨by omega, fun (e : k = W4.heap.size) => by omega⟩), ?_, HLAYS.out, fun k hk => (hb10.block k (by omega)).trans (HB1.out.block k hk), by omega, by omega⟩
    · rw [HL.out]; exact (hb20.block _ (blk_lt M5.out)).trans M5.out
    · rw [HL.out]
      exact Kd.F_mono (Kd.F_below (Kd.R_F (Kd.R_bound HROW.out)) hb10) (fun k hk => ⟨by have := hk.2.2.1; omega, fun (e : k = W4.heap.size) => by have := hk.2.2.1; omega⟩)
  obtain ⟨b5, hb5⟩ : ∃ b, W1.heap.size = b := ⟨_, rfl⟩
  obtain ⟨b6, hb6⟩ : ∃ b, W2.heap.size = b := ⟨_, rfl⟩
  obtain ⟨b7, hb7⟩ : ∃ b, W4.heap.size = b := ⟨_, rfl⟩
  obtain ⟨bn, hbn⟩ : ∃ b, Wa.heap.size = b := ⟨_, rfl⟩
  rw [hb5, hb6, hb7, hbn] at E0
  rw [hb7] at h7
  rw [hb5, hb6, hb7, hbn]
  have EE := hide E0
  have H7 := hide h7
  clear E0 h7 i1 i2 i3 i4 i5 i6 hq hb10 hb20 hb0 hs0 hW0 k6 M3 M4 M5 M6 HB24 HB12 HB1 HQ HSA HS1 HS2 HLAYS HROW
  refine (wpIn_wide (n := 12)).1 ?_
  refine range_tree (x := x) (A := A2) (c := c2') (bn := bn) (b7 := b7) (by omega) rfl HF.out (by rw [HL.out]; omega) EE.out.lt EE.out.hn EE.out.nn EE.out.kids 0 (fun _ _ h => wpIn_exit (by simpa [Exit.inBlock] using h)) (fun k => ¬ (1 ≤ a ∧ a ≤ (k : Int))) (fun k => (k : Int) = a) (by simp; omega) H7.out
    (fun t y b => ((((t.setIfInBounds 25 (.int .i64 y.i)).setIfInBounds 26 (.agg #[.int .i64 y.y.f0, .string y.y.f1, .int .i64 y.y.f2, .slice y.A y.y.f3.length y.c])).setIfInBounds 8 (.int .i64 y.i)).setIfInBounds 9 (.pointer (some ⟨b, 0, none⟩)))) ?as1 ?body1 ?cont1
  case as1 =>
    intro l y W K hK
    simp only [List.setIfInBounds_toArray, List.set_cons_zero, List.set_cons_succ] at hK ⊢
    gi_wp2
    refine hK _ _ (below_alloc (Below.refl _ _) _) (blk_new W _) (Nat.le_refl _)
  case body1 =>
    rintro l pre ⟨yi, y, yA, yc⟩ b W hl hlr hws hc hv hbx hble hne hlen
    obtain ⟨k, hk⟩ : ∃ k, pre.length = k := ⟨_, rfl⟩
    obtain ⟨e1, hy, hrow⟩ := hv
    simp only at e1
    rw [hk] at hws hc hlen hy e1
    have e1 := e1.symm
    subst e1
    simp only at hy hrow
    have hE := EE.out.move hws.agr
    obtain ⟨ad, A', c', rfl, hry, k0, k1, k2, k3⟩ := hE.elem hy
    rw [HL.out] at hlen
    have hfy : Fit y := flat_fit _ x (Nat.le_refl _) HF.out y (List.mem_of_getElem? hy)
    obtain ⟨-, hcy, hCy⟩ := R_C hrow
    have b0 : W.cell? ⟨b, 0, none⟩ = some (.int .i64 y.f0) := (blk_cell hbx 0).trans rfl
    have b1 : W.cell? ⟨b, 1, none⟩ = some (.string y.f1) := (blk_cell hbx 1).trans rfl
    have b2 : W.cell? ⟨b, 2, none⟩ = some (.int .i64 y.f2) := (blk_cell hbx 2).trans rfl
    have b3 : W.cell? ⟨b, 3, none⟩ = some (.slice yA y.f3.length yc) := (blk_cell hbx 3).trans rfl
    have a5 : W.cell? ⟨b5, 0, none⟩ = some (.slice (some ad) L c1) := by have := (blk_cell hE.h5 0).trans rfl; rw [HL.out] at this; exact this
    have a7 : W.cell? ⟨b7, 0, none⟩ = some (.int .i64 (k : Nat)) := (blk_cell hws.cnt 0).trans rfl
    have hsm : ∀ W', Below W.heap.size W W' → Calls Tryd.prog 8 #[.agg #[.int .i64 y.f0, .string y.f1, .int .i64 y.f2, .slice yA y.f3.length yc], .agg #[.int .i64 y.f0, .string y.f1, .int .i64 y.f2, .slice A' y.f3.length c']] W' fun e W2 => e = .returned (.bool true) ∧ Below W'.heap.size W' W2 := by
      intro W' hbd
      have hrd : Rd W y yA yc := ⟨hCy, hcy⟩
      refine (rsame_any hfy hfy (hrd.below hbd) (hry.below hbd)).mono ?_
      rintro e W2 ⟨rfl, h2⟩
      exact ⟨by rw [sm_true rfl], h2⟩
    have hSS : ∀ W', Below W.heap.size W W' → W'.cell? ⟨b, 0, none⟩ = some (.int .i64 y.f0) ∧ W'.cell? ⟨b, 1, none⟩ = some (.string y.f1) ∧ W'.cell? ⟨b, 2, none⟩ = some (.int .i64 y.f2) ∧ W'.cell? ⟨b, 3, none⟩ = some (.slice yA y.f3.length yc) ∧ W'.cell? ⟨b5, 0, none⟩ = some (.slice (some ad) L c1) ∧ W'.cell? ⟨b7, 0, none⟩ = some (.int .i64 (k : Nat)) ∧ W'.cell? (ad.add (k * 4)) = some (.int .i64 y.f0) ∧ W'.cell? ⟨(ad.add (k * 4)).block, (ad.add (k * 4)).off + 1, none⟩ = some (.string y.f1) ∧ W'.cell? ⟨(ad.add (k * 4)).block, (ad.add (k * 4)).off + 2, none⟩ = some (.int .i64 y.f2) ∧ W'.cell? ⟨(ad.add (k * 4)).block, (ad.add (k * 4)).off + 3, none⟩ = some (.slice A' y.f3.length c')
      := fun W' h => ⟨pw_cell_below h b0, pw_cell_below h b1, pw_cell_below h b2, pw_cell_below h b3, pw_cell_below h a5, pw_cell_below h a7, pw_cell_below h k0, pw_cell_below h k1, pw_cell_below h k2, pw_cell_below h k3⟩
    have HS := hide hSS
    have HSM := hide hsm
    have HK := hide hk
    have HC := hide hc
    have HZ := hide hws
    have hkL : (k : Int) < (L : Int) := by omega
    have hkd : decide (L ≤ k) = false := decide_eq_false (by omega)
    have hkb : k < 1048576 := by omega
    clear hsm hSS hk hc hlen hws hlr hbx hne hrow hy hry hE hfy hcy hCy b0 b1 b2 b3 a5 a7 k0 k1 k2 k3
    simp only [List.setIfInBounds_toArray, List.set_cons_zero, List.set_cons_succ]
    gi_wp2
    have hb0 : Below W.heap.size W W.drew := below_drew (Below.refl _ _)
    refine region_leaf (fun (v : Value) => [(27, .int .i64 (k : Nat)), (28, .int .i64 (k : Nat)), (29, .bool false), (30, .bool false), (31, .int .i64 (k : Nat)), (32, .slice (some ad) L c1), (33, .int .i64 (L : Nat)), (34, .bool false), (35, .bool false), (36, .bool false), (37, .agg #[.int .i64 y.f0, .string y.f1, .int .i64 y.f2, .slice yA y.f3.length yc]), (38, .slice (some ad) L c1), (39, .int .i64 (k : Nat)), (40, v), (41, .agg #[.int .i64 y.f0, .string y.f1, .int .i64 y.f2, .slice A' y.f3.length c']), (42, .bool true), (43, .bool false), (44, .bool false)]) (fun W2 => Below W.heap.size W W2) ?h ?k
    case h =>
      refine start_in (n := 18) (S := fun w' => w'.cell? ⟨b, 0, none⟩ = some (.int .i64 y.f0) ∧ w'.cell? ⟨b, 1, none⟩ = some (.string y.f1) ∧ w'.cell? ⟨b, 2, none⟩ = some (.int .i64 y.f2) ∧ w'.cell? ⟨b, 3, none⟩ = some (.slice yA y.f3.length yc) ∧ w'.cell? ⟨b5, 0, none⟩ = some (.slice (some ad) L c1) ∧ w'.cell? ⟨b7, 0, none⟩ = some (.int .i64 (k : Nat)) ∧ w'.cell? (ad.add (k * 4)) = some (.int .i64 y.f0) ∧ w'.cell? ⟨(ad.add (k * 4)).block, (ad.add (k * 4)).off + 1, none⟩ = some (.string y.f1) ∧ w'.cell? ⟨(ad.add (k * 4)).block, (ad.add (k * 4)).off + 2, none⟩ = some (.int .i64 y.f2) ∧ w'.cell? ⟨(ad.add (k * 4)).block, (ad.add (k * 4)).off + 3, none⟩ = some (.slice A' y.f3.length c')) (ds := []) #[false, false, false, false, false, false, false, false, false, false, false, false, false, false, false, false, false, false] (by kernel_rfl) rfl rfl (by kernel_rfl) no_out ⟨(HS.out _ hb0).1, (HS.out _ hb0).2.1, (HS.out _ hb0).2.2.1, (HS.out _ hb0).2.2.2.1, (HS.out _ hb0).2.2.2.2.1, (HS.out _ hb0).2.2.2.2.2.1, (HS.out _ hb0).2.2.2.2.2.2.1, (HS.out _ hb0).2.2.2.2.2.2.2.1, (HS.out _ hb0).2.2.2.2.2.2.2.2.1, (HS.out _ hb0).2.2.2.2.2.2.2.2.2⟩ (fun hHeld => ?_)
      obtain ⟨wd, hwd⟩ : ∃ wd, wd = W.drew := ⟨_, rfl⟩
      rw [← hwd] at hHeld ⊢
      have B0 := hide (show Below W.heap.size W wd by rw [hwd]; exact hb0)
      clear hwd hb0
      refine pure_ (i := 0) (N := some 27) (v := ?_) (a' := ?_) #[true, false, false, false, false, false, false, false, false, false, false, false, false, false, false, false, false, false] rfl rfl (by kernel_rfl) (fun _ _ _ h => nomatch h.1) (Or.inl ⟨by rfl, ?_⟩) ?_ ?_
      rotate_left
      · intro w'
        go_simp
        with_reducible rfl
      rotate_left
      · simp only [Act.put, List.setIfInBounds_toArray, List.set_cons_zero, List.set_cons_succ, i64_w, i32_w]
        rfl
      refine take_ (i := 1) (N := some 28) (v := ?_) (a' := ?_) #[true, true, false, false, false, false, false, false, false, false, false, false, false, false, false, false, false, false] rfl rfl (by kernel_rfl) (fun _ _ _ h => nomatch h.1) (Or.inl ⟨by rfl, ?_⟩) hHeld ?_ ?_
      rotate_left
      · rintro w' ⟨s0, s1, s2, s3, s4, s5, s6, s7, s8, s9⟩
        go_simp
        with_reducible rfl
      rotate_left
      · simp only [Act.put, List.setIfInBounds_toArray, List.set_cons_zero, List.set_cons_succ, i64_w, i32_w]
        rfl
      refine pure_ (i := 2) (N := some 29) (v := ?_) (a' := ?_) #[true, true, true, false, false, false, false, false, false, false, false, false, false, false, false, false, false, false] rfl rfl (by kernel_rfl) (fun _ _ _ h => nomatch h.1) (Or.inl ⟨by rfl, ?_⟩) ?_ ?_
      rotate_left
      · intro w'
        go_simp
        with_reducible rfl
      rotate_left
      · simp only [Act.put, List.setIfInBounds_toArray, List.set_cons_zero, List.set_cons_succ, i64_w, i32_w]
        rfl
      refine pure_ (i := 3) (N := some 30) (v := ?_) (a' := ?_) #[true, true, true, true, false, false, false, false, false, false, false, false, false, false, false, false, false, false] rfl rfl (by kernel_rfl) (fun _ _ _ h => nomatch h.1) (Or.inl ⟨by rfl, ?_⟩) ?_ ?_
      rotate_left
      · intro w'
        go_simp
        with_reducible rfl
      rotate_left
      · simp only [Act.put, List.setIfInBounds_toArray, List.set_cons_zero, List.set_cons_succ, i64_w, i32_w]
        rfl
      refine pure_ (i := 4) (N := some 31) (v := ?_) (a' := ?_) #[true, true, true, true, true, false, false, false, false, false, false, false, false, false, false, false, false, false] rfl rfl (by kernel_rfl) (fun _ _ _ h => nomatch h.1) (Or.inl ⟨by rfl, ?_⟩) ?_ ?_
      rotate_left
      · intro w'
        go_simp
        with_reducible rfl
      rotate_left
      · simp only [Act.put, List.setIfInBounds_toArray, List.set_cons_zero, List.set_cons_succ, i64_w, i32_w]
        rfl
      refine take_ (i := 5) (N := some 32) (v := ?_) (a' := ?_) #[true, true, true, true, true, true, false, false, false, false, false, false, false, false, false, false, false, false] rfl rfl (by kernel_rfl) (fun _ _ _ h => nomatch h.1) (Or.inl ⟨by rfl, ?_⟩) hHeld ?_ ?_
      rotate_left
      · rintro w' ⟨s0, s1, s2, s3, s4, s5, s6, s7, s8, s9⟩
        go_simp
        with_reducible rfl
      rotate_left
      · simp only [Act.put, List.setIfInBounds_toArray, List.set_cons_zero, List.set_cons_succ, i64_w, i32_w]
        rfl
      refine pure_ (i := 6) (N := some 33) (v := ?_) (a' := ?_) #[true, true, true, true, true, true, true, false, false, false, false, false, false, false, false, false, false, false] rfl rfl (by kernel_rfl) (fun _ _ _ h => nomatch h.1) (Or.inl ⟨by rfl, ?_⟩) ?_ ?_
      rotate_left
      · intro w'
        go_simp
        with_reducible rfl
      rotate_left
      · simp only [Act.put, List.setIfInBounds_toArray, List.set_cons_zero, List.set_cons_succ, i64_w, i32_w]
        rfl
      refine pure_ (i := 7) (N := some 34) (v := ?_) (a' := ?_) #[true, true, true, true, true, true, true, true, false, false, false, false, false, false, false, false, false, false] rfl rfl (by kernel_rfl) (fun _ _ _ h => nomatch h.1) (Or.inl ⟨by rfl, ?_⟩) ?_ ?_
      rotate_left
      · intro w'
        go_simp
        with_reducible rfl
      rotate_left
      · simp only [Act.put, List.setIfInBounds_toArray, List.set_cons_zero, List.set_cons_succ, i64_w, i32_w]
        rfl
      refine pure_ (i := 8) (N := some 35) (v := ?_) (a' := ?_) #[true, true, true, true, true, true, true, true, true, false, false, false, false, false, false, false, false, false] rfl rfl (by kernel_rfl) (fun _ _ _ h => nomatch h.1) (Or.inl ⟨by rfl, ?_⟩) ?_ ?_
      rotate_left
      · intro w'
        go_simp
        with_reducible rfl
      rotate_left
      · simp only [Act.put, List.setIfInBounds_toArray, List.set_cons_zero, List.set_cons_succ, i64_w, i32_w]
        rfl
      refine pure_ (i := 9) (N := some 36) (v := ?_) (a' := ?_) #[true, true, true, true, true, true, true, true, true, true, false, false, false, false, false, false, false, false] rfl rfl (by kernel_rfl) (fun _ _ _ h => nomatch h.1) (Or.inl ⟨by rfl, ?_⟩) ?_ ?_
      rotate_left
      · intro w'
        go_simp
        with_reducible rfl
      rotate_left
      · simp only [Act.put, List.setIfInBounds_toArray, List.set_cons_zero, List.set_cons_succ, i64_w, i32_w]
        rfl
      refine pure_ (i := 12) (N := some 39) (v := ?_) (a' := ?_) #[true, true, true, true, true, true, true, true, true, true, false, false, true, false, false, false, false, false] rfl rfl (by kernel_rfl) (fun _ _ _ h => nomatch h.1) (Or.inl ⟨by rfl, ?_⟩) ?_ ?_
      rotate_left
      · intro w'
        go_simp
        with_reducible rfl
      rotate_left
      · simp only [Act.put, List.setIfInBounds_toArray, List.set_cons_zero, List.set_cons_succ, i64_w, i32_w]
        rfl
      refine take_ (i := 10) (N := some 37) (v := ?_) (a' := ?_) #[true, true, true, true, true, true, true, true, true, true, true, false, true, false, false, false, false, false] rfl rfl (by kernel_rfl) (fun _ _ _ h => nomatch h.1) (Or.inl ⟨by rfl, ?_⟩) hHeld ?_ ?_
      rotate_left
      · rintro w' ⟨s0, s1, s2, s3, s4, s5, s6, s7, s8, s9⟩
        go_simp
        with_reducible rfl
      rotate_left
      · simp only [Act.put, List.setIfInBounds_toArray, List.set_cons_zero, List.set_cons_succ, i64_w, i32_w]
        rfl
      refine take_ (i := 11) (N := some 38) (v := ?_) (a' := ?_) #[true, true, true, true, true, true, true, true, true, true, true, true, true, false, false, false, false, false] rfl rfl (by kernel_rfl) (fun _ _ _ h => nomatch h.1) (Or.inl ⟨by rfl, ?_⟩) hHeld ?_ ?_
      rotate_left
      · rintro w' ⟨s0, s1, s2, s3, s4, s5, s6, s7, s8, s9⟩
        go_simp
        with_reducible rfl
      rotate_left
      · simp only [Act.put, List.setIfInBounds_toArray, List.set_cons_zero, List.set_cons_succ, i64_w, i32_w]
        rfl
      refine pure_ (i := 13) (N := some 40) (v := ?_) (a' := ?_) #[true, true, true, true, true, true, true, true, true, true, true, true, true, true, false, false, false, false] rfl rfl (by kernel_rfl) (fun _ _ _ h => nomatch h.1) (Or.inl ⟨by rfl, ?_⟩) ?_ ?_
      rotate_left
      · intro w'
        go_simp
        with_reducible rfl
      rotate_left
      · simp only [Act.put, List.setIfInBounds_toArray, List.set_cons_zero, List.set_cons_succ, i64_w, i32_w]
        rfl
      refine take_ (i := 14) (N := some 41) (v := ?_) (a' := ?_) #[true, true, true, true, true, true, true, true, true, true, true, true, true, true, true, false, false, false] rfl rfl (by kernel_rfl) (fun _ _ _ h => nomatch h.1) (Or.inl ⟨by rfl, ?_⟩) hHeld ?_ ?_
      rotate_left
      · rintro w' ⟨s0, s1, s2, s3, s4, s5, s6, s7, s8, s9⟩
        go_simp
        with_reducible rfl
      rotate_left
      · simp only [Act.put, List.setIfInBounds_toArray, List.set_cons_zero, List.set_cons_succ, i64_w, i32_w]
        rfl
      refine one_ (i := 15) (N := some 42) #[true, true, true, true, true, true, true, true, true, true, true, true, true, true, true, true, false, false] rfl rfl (by kernel_rfl) (by decide) (fun K hK => ?_)
      refine goes_ Tryd.func8 (by kernel_rfl) rfl #[.agg #[.int .i64 y.f0, .string y.f1, .int .i64 y.f2, .slice yA y.f3.length yc], .agg #[.int .i64 y.f0, .string y.f1, .int .i64 y.f2, .slice A' y.f3.length c']] (by rfl) rfl rfl (by simp only [List.map_toArray, List.map_cons, List.map_nil]; rfl) ?_
      with_reducible refine (HSM.out _ B0.out).mono ?_
      rintro e w3 ⟨rfl, hk⟩
      refine ⟨_, rfl, ?_⟩
      have B1 := hide (B0.out.trans (hk.mono B0.out.size))
      clear hk
      refine hK.out _ _ ⟨(HS.out _ B1.out).1, (HS.out _ B1.out).2.1, (HS.out _ B1.out).2.2.1, (HS.out _ B1.out).2.2.2.1, (HS.out _ B1.out).2.2.2.2.1, (HS.out _ B1.out).2.2.2.2.2.1, (HS.out _ B1.out).2.2.2.2.2.2.1, (HS.out _ B1.out).2.2.2.2.2.2.2.1, (HS.out _ B1.out).2.2.2.2.2.2.2.2.1, (HS.out _ B1.out).2.2.2.2.2.2.2.2.2⟩ (fun hHeld => ?_)
      clear hK K
      refine norm_ (a' := ?_) ?_ ?_
      rotate_left
      · show Act.put _ (some 42) _ = _
        simp only [Act.put, List.setIfInBounds_toArray, List.set_cons_zero, List.set_cons_succ, i64_w, i32_w]
        rfl
      refine pure_ (i := 16) (N := some 43) (v := ?_) (a' := ?_) #[true, true, true, true, true, true, true, true, true, true, true, true, true, true, true, true, true, false] rfl rfl (by kernel_rfl) (fun _ _ _ h => nomatch h.1) (Or.inl ⟨by rfl, ?_⟩) ?_ ?_
      rotate_left
      · intro w'
        go_simp
        with_reducible rfl
      rotate_left
      · simp only [Act.put, List.setIfInBounds_toArray, List.set_cons_zero, List.set_cons_succ, i64_w, i32_w]
        rfl
      refine pure_ (i := 17) (N := some 44) (v := ?_) (a' := ?_) #[true, true, true, true, true, true, true, true, true, true, true, true, true, true, true, true, true, true] rfl rfl (by kernel_rfl) (fun _ _ _ h => nomatch h.1) (Or.inl ⟨by rfl, ?_⟩) ?_ ?_
      rotate_left
      · intro w'
        go_simp
        with_reducible rfl
      rotate_left
      · simp only [Act.put, List.setIfInBounds_toArray, List.set_cons_zero, List.set_cons_succ, i64_w, i32_w]
        rfl
      refine done_ (by kernel_rfl) ?_

      refine ⟨rfl, ⟨.pointer (some (ad.add (k * 4))), ?_⟩, B1.out⟩
      simp only [putAll, List.foldl_cons, List.foldl_nil, List.setIfInBounds_toArray, List.set_cons_zero, List.set_cons_succ]
    case k =>
      intro v W2 hW2
      simp only [putAll, List.foldl_cons, List.foldl_nil, List.setIfInBounds_toArray, List.set_cons_zero, List.set_cons_succ]
      have hZ2 := HZ.out.below hW2 HZ.out.agr.size EE.out.lt
      have hE2 := EE.out.move hZ2.agr
      have a7 : W2.cell? ⟨b7, 0, none⟩ = some (.int .i64 (k : Nat)) := (blk_cell hZ2.cnt 0).trans rfl
      have f7 := blk_frozen hZ2.cnt 0
      have a3 : ∀ u, (W2.setCell ⟨b7, 0, none⟩ u).cell? ⟨w.heap.size + 1, 0, none⟩ = some (.int .i64 a) := fun u => (blk_cell (blk_far hE2.h3 hE2.n3 u) 0).trans rfl
      have HR3 := hide (show Fr (XX (fun j => j = b7) ⟨k, y, yA, yc⟩) W (W2.setCell ⟨b7, 0, none⟩ (.int .i64 ((k : Int) + 1))) ∧ WZ W0 b7 (pre ++ [(⟨k, y, yA, yc⟩ : El)]).length (W2.setCell ⟨b7, 0, none⟩ (.int .i64 ((k : Int) + 1))) from
        ⟨(Fr.of_below hW2).setCell (p := ⟨b7, 0, none⟩) (.inl (.inl rfl)) _, by rw [List.length_append, HK.out]; exact hZ2.bump⟩)
      have HLE := hide (show (((pre ++ [(⟨k, y, yA, yc⟩ : El)]).length : Nat) : Int) = (k : Int) + 1 by rw [List.length_append, HK.out]; simp)
      clear hW2 hZ2 hE2 HS HSM HZ
      by_cases hka : (k : Int) + 1 = a
      · have hkb2 : ((k : Int) + 1 == a) = true := by simpa using hka
        have HKA := hide hka
        clear hka
        gi_wp2
        refine ⟨HR3.out.1, rfl, HR3.out.2, ?_⟩
        exact HLE.out.trans HKA.out
      · have hkb2 : ((k : Int) + 1 == a) = false := by simpa using hka
        have HKA := hide hka
        clear hka
        gi_wp2
        refine ⟨HR3.out.1, HR3.out.2, ?_⟩
        have h1 := HC.out
        have h2 := HKA.out
        rw [HLE.out]
        omega
  case cont1 =>
    rintro D k W hD hws hck hDK
    rw [HL.out] at hck
    have hE := EE.out.move hws.agr
    have hD7 : D ≠ b7 := by have := EE.out.lt; omega
    have a3 : W.cell? ⟨w.heap.size + 1, 0, none⟩ = some (.int .i64 a) := (blk_cell hE.h3 0).trans rfl
    have a5 : W.cell? ⟨b5, 0, none⟩ = some (.slice A1 L c1) := by have := (blk_cell hE.h5 0).trans rfl; rw [HL.out] at this; exact this
    have a7 : W.cell? ⟨b7, 0, none⟩ = some (.int .i64 (k : Nat)) := (blk_cell hws.cnt 0).trans rfl
    have f7 := blk_frozen hws.cnt 0
    obtain ⟨W5, hW5⟩ : ∃ W5, W.setCell ⟨b7, 0, none⟩ (.int .i64 0) = W5 := ⟨_, rfl⟩
    have a6 : W5.cell? ⟨b6, 0, none⟩ = some (.func (.func 17) #[] #[.pointer (some ⟨bn, 0, none⟩)]) := by rw [← hW5]; exact (blk_cell (blk_far hE.h6 hE.n6 _) 0).trans rfl
    have hag : Agr W.heap.size (fun j => j = b7) W W5 := by rw [← hW5]; exact (Agr.mk (Nat.le_refl _) (fun _ _ _ => rfl)).fr (Fr.setCell (p := ⟨b7, 0, none⟩) (Fr.refl (fun j => j = b7) W) (.inl rfl) _) (fun k h => .inl h)
    have E5 := hide (hE.move hag)
    have H75 := hide (show W5.heap[b7]? = some (counter 0) by rw [← hW5]; exact blk_put (cs := #[.int .i64 (k : Nat)]) hws.cnt 0 _ rfl)
    have HD5 := hide (show W5.heap[D]? = some (.deferred (some [])) ∧ D ≠ b7 from ⟨by rw [← hW5]; exact (Below.heap_setCell _ _ _ _ hD7).trans hDK, hD7⟩)
    have HSM5 := hide (show W5.os = w.os ∧ W5.tape = w.tape ∧ W5.output = w.output from by rw [← hW5]; exact ⟨hws.same.1.trans HSM0.out.1, hws.same.2.1.trans HSM0.out.2.1, hws.same.2.2.trans HSM0.out.2.2⟩)
    have HDW := hide (show w.heap.size ≤ D by have := EE.out.lsz; omega)
    clear hws hE hD hDK hag EE H7 hD7
    by_cases h1 : 1 ≤ a
    · have d1 : decide (1 ≤ a) = true := by simpa using h1
      by_cases h2 : a ≤ (L : Int)
      · have h3 : (k : Int) = a := by rcases hck with ⟨h, e⟩ | ⟨h, -⟩ <;> omega
        subst h3
        have n1 : 1 ≤ k := by omega
        have n2 : k ≤ L := by omega
        have d2 : decide ((k : Int) ≤ (L : Int)) = true := by simpa using h2
        have d3 : decide (1 ≤ k) = true := by simpa using n1
        have d4 : decide (k ≤ L) = true := by simpa using n2
        clear hck h1 h2
        go_wp2
        clear a3 a5 a6 a7 f7 hW5
        (try clear d1); (try clear d2); (try clear d3); (try clear d4)
        refine (wpIn_wide (n := 12)).1 ?_
        refine range_tree (x := x) (A := A2) (c := c2') (bn := bn) (b7 := b7) (by omega) rfl HF.out (by rw [HL.out]; omega) E5.out.lt E5.out.hn E5.out.nn E5.out.kids 2 (fun _ _ h => wpIn_exit (by simpa [Exit.inBlock] using h)) (fun _ => True) (fun _ => False) trivial H75.out
          (fun t y b => ((((t.setIfInBounds 64 (.int .i64 y.i)).setIfInBounds 65 (.agg #[.int .i64 y.y.f0, .string y.y.f1, .int .i64 y.y.f2, .slice y.A y.y.f3.length y.c])).setIfInBounds 10 (.int .i64 y.i)).setIfInBounds 11 (.pointer (some ⟨b, 0, none⟩)))) ?as2 ?body2 ?cont2
        case as2 =>
          intro l y W K hK
          simp only [List.setIfInBounds_toArray, List.set_cons_zero, List.set_cons_succ] at hK ⊢
          gi_wp2
          refine hK _ _ (below_alloc (Below.refl _ _) _) (blk_new W _) (Nat.le_refl _)
        case body2 =>
          rintro l pre ⟨yi, y, yA, yc⟩ b W hl hlr hws hc hv hbx hble hne hlen
          obtain ⟨k, hk⟩ : ∃ k, pre.length = k := ⟨_, rfl⟩
          obtain ⟨e1, hy, hrow⟩ := hv
          simp only at e1
          rw [hk] at hws hlen hy e1
          have e1 := e1.symm
          subst e1
          simp only at hy hrow
          have hE := E5.out.move hws.agr
          obtain ⟨ad, A', c', rfl, hry, k0, k1, k2, k3⟩ := hE.elem hy
          rw [HL.out] at hlen
          have hfy : Fit y := flat_fit _ x (Nat.le_refl _) HF.out y (List.mem_of_getElem? hy)
          obtain ⟨-, hcy, hCy⟩ := R_C hrow
          have b0 : W.cell? ⟨b, 0, none⟩ = some (.int .i64 y.f0) := (blk_cell hbx 0).trans rfl
          have b1 : W.cell? ⟨b, 1, none⟩ = some (.string y.f1) := (blk_cell hbx 1).trans rfl
          have b2 : W.cell? ⟨b, 2, none⟩ = some (.int .i64 y.f2) := (blk_cell hbx 2).trans rfl
          have b3 : W.cell? ⟨b, 3, none⟩ = some (.slice yA y.f3.length yc) := (blk_cell hbx 3).trans rfl
          have a5 : W.cell? ⟨b5, 0, none⟩ = some (.slice (some ad) L c1) := by have := (blk_cell hE.h5 0).trans rfl; rw [HL.out] at this; exact this
          have a7 : W.cell? ⟨b7, 0, none⟩ = some (.int .i64 (k : Nat)) := (blk_cell hws.cnt 0).trans rfl
          have hsm : ∀ W', Below W.heap.size W W' → Calls Tryd.prog 8 #[.agg #[.int .i64 y.f0, .string y.f1, .int .i64 y.f2, .slice yA y.f3.length yc], .agg #[.int .i64 y.f0, .string y.f1, .int .i64 y.f2, .slice A' y.f3.length c']] W' fun e W2 => e = .returned (.bool true) ∧ Below W'.heap.size W' W2 := by
            intro W' hbd
            have hrd : Rd W y yA yc := ⟨hCy, hcy⟩
            refine (rsame_any hfy hfy (hrd.below hbd) (hry.below hbd)).mono ?_
            rintro e W2 ⟨rfl, h2⟩
            exact ⟨by rw [sm_true rfl], h2⟩
          have hSS : ∀ W', Below W.heap.size W W' → W'.cell? ⟨b, 0, none⟩ = some (.int .i64 y.f0) ∧ W'.cell? ⟨b, 1, none⟩ = some (.string y.f1) ∧ W'.cell? ⟨b, 2, none⟩ = some (.int .i64 y.f2) ∧ W'.cell? ⟨b, 3, none⟩ = some (.slice yA y.f3.length yc) ∧ W'.cell? ⟨b5, 0, none⟩ = some (.slice (some ad) L c1) ∧ W'.cell? ⟨b7, 0, none⟩ = some (.int .i64 (k : Nat)) ∧ W'.cell? (ad.add (k * 4)) = some (.int .i64 y.f0) ∧ W'.cell? ⟨(ad.add (k * 4)).block, (ad.add (k * 4)).off + 1, none⟩ = some (.string y.f1) ∧ W'.cell? ⟨(ad.add (k * 4)).block, (ad.add (k * 4)).off + 2, none⟩ = some (.int .i64 y.f2) ∧ W'.cell? ⟨(ad.add (k * 4)).block, (ad.add (k * 4)).off + 3, none⟩ = some (.slice A' y.f3.length c')
            := fun W' h => ⟨pw_cell_below h b0, pw_cell_below h b1, pw_cell_below h b2, pw_cell_below h b3, pw_cell_below h a5, pw_cell_below h a7, pw_cell_below h k0, pw_cell_below h k1, pw_cell_below h k2, pw_cell_below h k3⟩
          have HS := hide hSS
          have HSM := hide hsm
          have HK := hide hk
          have HROW := hide hrow
          have HFY := hide hfy
          have HNE := hide hne
          have HLR := hide hlr
          have HBX := hide hbx
          have HBL := hide hble
          have HZ := hide hws
          have hkL : (k : Int) < (L : Int) := by omega
          have hkd : decide (L ≤ k) = false := decide_eq_false (by omega)
          have hkb : k < 1048576 := by omega
          clear hsm hSS hk hc hlen hws hrow hne hlr hbx hble hy hry hE hfy hcy hCy b0 b1 b2 b3 a5 a7 k0 k1 k2 k3
          simp only [List.setIfInBounds_toArray, List.set_cons_zero, List.set_cons_succ]
          gi_wp2
          have hb0 : Below W.heap.size W W.drew := below_drew (Below.refl _ _)
          refine region_leaf (fun (v : Value) => [(66, .int .i64 (k : Nat)), (67, .int .i64 (k : Nat)), (68, .bool false), (69, .bool false), (70, .int .i64 (k : Nat)), (71, .slice (some ad) L c1), (72, .int .i64 (L : Nat)), (73, .bool false), (74, .bool false), (75, .bool false), (76, .agg #[.int .i64 y.f0, .string y.f1, .int .i64 y.f2, .slice yA y.f3.length yc]), (77, .slice (some ad) L c1), (78, .int .i64 (k : Nat)), (79, v), (80, .agg #[.int .i64 y.f0, .string y.f1, .int .i64 y.f2, .slice A' y.f3.length c']), (81, .bool true), (82, .bool false), (83, .bool false)]) (fun W2 => Below W.heap.size W W2) ?h ?k
          case h =>
            refine start_in (n := 18) (S := fun w' => w'.cell? ⟨b, 0, none⟩ = some (.int .i64 y.f0) ∧ w'.cell? ⟨b, 1, none⟩ = some (.string y.f1) ∧ w'.cell? ⟨b, 2, none⟩ = some (.int .i64 y.f2) ∧ w'.cell? ⟨b, 3, none⟩ = some (.slice yA y.f3.length yc) ∧ w'.cell? ⟨b5, 0, none⟩ = some (.slice (some ad) L c1) ∧ w'.cell? ⟨b7, 0, none⟩ = some (.int .i64 (k : Nat)) ∧ w'.cell? (ad.add (k * 4)) = some (.int .i64 y.f0) ∧ w'.cell? ⟨(ad.add (k * 4)).block, (ad.add (k * 4)).off + 1, none⟩ = some (.string y.f1) ∧ w'.cell? ⟨(ad.add (k * 4)).block, (ad.add (k * 4)).off + 2, none⟩ = some (.int .i64 y.f2) ∧ w'.cell? ⟨(ad.add (k * 4)).block, (ad.add (k * 4)).off + 3, none⟩ = some (.slice A' y.f3.length c')) (ds := []) #[false, false, false, false, false, false, false, false, false, false, false, false, false, false, false, false, false, false] (by kernel_rfl) rfl rfl (by kernel_rfl) no_out ⟨(HS.out _ hb0).1, (HS.out _ hb0).2.1, (HS.out _ hb0).2.2.1, (HS.out _ hb0).2.2.2.1, (HS.out _ hb0).2.2.2.2.1, (HS.out _ hb0).2.2.2.2.2.1, (HS.out _ hb0).2.2.2.2.2.2.1, (HS.out _ hb0).2.2.2.2.2.2.2.1, (HS.out _ hb0).2.2.2.2.2.2.2.2.1, (HS.out _ hb0).2.2.2.2.2.2.2.2.2⟩ (fun hHeld => ?_)
            obtain ⟨wd, hwd⟩ : ∃ wd, wd = W.drew := ⟨_, rfl⟩
            rw [← hwd] at hHeld ⊢
            have B0 := hide (show Below W.heap.size W wd by rw [hwd]; exact hb0)
            clear hwd hb0
            refine pure_ (i := 0) (N := some 66) (v := ?_) (a' := ?_) #[true, false, false, false, false, false, false, false, false, false, false, false, false, false, false, false, false, false] rfl rfl (by kernel_rfl) (fun _ _ _ h => nomatch h.1) (Or.inl ⟨by rfl, ?_⟩) ?_ ?_
            rotate_left
            · intro w'
              go_simp
              with_reducible rfl
            rotate_left
            · simp only [Act.put, List.setIfInBounds_toArray, List.set_cons_zero, List.set_cons_succ, i64_w, i32_w]
              rfl
            refine take_ (i := 1) (N := some 67) (v := ?_) (a' := ?_) #[true, true, false, false, false, false, false, false, false, false, false, false, false, false, false, false, false, false] rfl rfl (by kernel_rfl) (fun _ _ _ h => nomatch h.1) (Or.inl ⟨by rfl, ?_⟩) hHeld ?_ ?_
            rotate_left
            · rintro w' ⟨s0, s1, s2, s3, s4, s5, s6, s7, s8, s9⟩
              go_simp
              with_reducible rfl
            rotate_left
            · simp only [Act.put, List.setIfInBounds_toArray, List.set_cons_zero, List.set_cons_succ, i64_w, i32_w]
              rfl
            refine pure_ (i := 2) (N := some 68) (v := ?_) (a' := ?_) #[true, true, true, false, false, false, false, false, false, false, false, false, false, false, false, false, false, false] rfl rfl (by kernel_rfl) (fun _ _ _ h => nomatch h.1) (Or.inl ⟨by rfl, ?_⟩) ?_ ?_
            rotate_left
            · intro w'
              go_simp
              with_reducible rfl
            rotate_left
            · simp only [Act.put, List.setIfInBounds_toArray, List.set_cons_zero, List.set_cons_succ, i64_w, i32_w]
              rfl
            refine pure_ (i := 3) (N := some 69) (v := ?_) (a' := ?_) #[true, true, true, true, false, false, false, false, false, false, false, false, false, false, false, false, false, false] rfl rfl (by kernel_rfl) (fun _ _ _ h => nomatch h.1) (Or.inl ⟨by rfl, ?_⟩) ?_ ?_
            rotate_left
            · intro w'
              go_simp
              with_reducible rfl
            rotate_left
            · simp only [Act.put, List.setIfInBounds_toArray, List.set_cons_zero, List.set_cons_succ, i64_w, i32_w]
              rfl
            refine pure_ (i := 4) (N := some 70) (v := ?_) (a' := ?_) #[true, true, true, true, true, false, false, false, false, false, false, false, false, false, false, false, false, false] rfl rfl (by kernel_rfl) (fun _ _ _ h => nomatch h.1) (Or.inl ⟨by rfl, ?_⟩) ?_ ?_
            rotate_left
            · intro w'
              go_simp
              with_reducible rfl
            rotate_left
            · simp only [Act.put, List.setIfInBounds_toArray, List.set_cons_zero, List.set_cons_succ, i64_w, i32_w]
              rfl
            refine take_ (i := 5) (N := some 71) (v := ?_) (a' := ?_) #[true, true, true, true, true, true, false, false, false, false, false, false, false, false, false, false, false, false] rfl rfl (by kernel_rfl) (fun _ _ _ h => nomatch h.1) (Or.inl ⟨by rfl, ?_⟩) hHeld ?_ ?_
            rotate_left
            · rintro w' ⟨s0, s1, s2, s3, s4, s5, s6, s7, s8, s9⟩
              go_simp
              with_reducible rfl
            rotate_left
            · simp only [Act.put, List.setIfInBounds_toArray, List.set_cons_zero, List.set_cons_succ, i64_w, i32_w]
              rfl
            refine pure_ (i := 6) (N := some 72) (v := ?_) (a' := ?_) #[true, true, true, true, true, true, true, false, false, false, false, false, false, false, false, false, false, false] rfl rfl (by kernel_rfl) (fun _ _ _ h => nomatch h.1) (Or.inl ⟨by rfl, ?_⟩) ?_ ?_
            rotate_left
            · intro w'
              go_simp
              with_reducible rfl
            rotate_left
            · simp only [Act.put, List.setIfInBounds_toArray, List.set_cons_zero, List.set_cons_succ, i64_w, i32_w]
              rfl
            refine pure_ (i := 7) (N := some 73) (v := ?_) (a' := ?_) #[true, true, true, true, true, true, true, true, false, false, false, false, false, false, false, false, false, false] rfl rfl (by kernel_rfl) (fun _ _ _ h => nomatch h.1) (Or.inl ⟨by rfl, ?_⟩) ?_ ?_
            rotate_left
            · intro w'
              go_simp
              with_reducible rfl
            rotate_left
            · simp only [Act.put, List.setIfInBounds_toArray, List.set_cons_zero, List.set_cons_succ, i64_w, i32_w]
              rfl
            refine pure_ (i := 8) (N := some 74) (v := ?_) (a' := ?_) #[true, true, true, true, true, true, true, true, true, false, false, false, false, false, false, false, false, false] rfl rfl (by kernel_rfl) (fun _ _ _ h => nomatch h.1) (Or.inl ⟨by rfl, ?_⟩) ?_ ?_
            rotate_left
            · intro w'
              go_simp
              with_reducible rfl
            rotate_left
            · simp only [Act.put, List.setIfInBounds_toArray, List.set_cons_zero, List.set_cons_succ, i64_w, i32_w]
              rfl
            refine pure_ (i := 9) (N := some 75) (v := ?_) (a' := ?_) #[true, true, true, true, true, true, true, true, true, true, false, false, false, false, false, false, false, false] rfl rfl (by kernel_rfl) (fun _ _ _ h => nomatch h.1) (Or.inl ⟨by rfl, ?_⟩) ?_ ?_
            rotate_left
            · intro w'
              go_simp
              with_reducible rfl
            rotate_left
            · simp only [Act.put, List.setIfInBounds_toArray, List.set_cons_zero, List.set_cons_succ, i64_w, i32_w]
              rfl
            refine pure_ (i := 12) (N := some 78) (v := ?_) (a' := ?_) #[true, true, true, true, true, true, true, true, true, true, false, false, true, false, false, false, false, false] rfl rfl (by kernel_rfl) (fun _ _ _ h => nomatch h.1) (Or.inl ⟨by rfl, ?_⟩) ?_ ?_
            rotate_left
            · intro w'
              go_simp
              with_reducible rfl
            rotate_left
            · simp only [Act.put, List.setIfInBounds_toArray, List.set_cons_zero, List.set_cons_succ, i64_w, i32_w]
              rfl
            refine take_ (i := 10) (N := some 76) (v := ?_) (a' := ?_) #[true, true, true, true, true, true, true, true, true, true, true, false, true, false, false, false, false, false] rfl rfl (by kernel_rfl) (fun _ _ _ h => nomatch h.1) (Or.inl ⟨by rfl, ?_⟩) hHeld ?_ ?_
            rotate_left
            · rintro w' ⟨s0, s1, s2, s3, s4, s5, s6, s7, s8, s9⟩
              go_simp
              with_reducible rfl
            rotate_left
            · simp only [Act.put, List.setIfInBounds_toArray, List.set_cons_zero, List.set_cons_succ, i64_w, i32_w]
              rfl
            refine take_ (i := 11) (N := some 77) (v := ?_) (a' := ?_) #[true, true, true, true, true, true, true, true, true, true, true, true, true, false, false, false, false, false] rfl rfl (by kernel_rfl) (fun _ _ _ h => nomatch h.1) (Or.inl ⟨by rfl, ?_⟩) hHeld ?_ ?_
            rotate_left
            · rintro w' ⟨s0, s1, s2, s3, s4, s5, s6, s7, s8, s9⟩
              go_simp
              with_reducible rfl
            rotate_left
            · simp only [Act.put, List.setIfInBounds_toArray, List.set_cons_zero, List.set_cons_succ, i64_w, i32_w]
              rfl
            refine pure_ (i := 13) (N := some 79) (v := ?_) (a' := ?_) #[true, true, true, true, true, true, true, true, true, true, true, true, true, true, false, false, false, false] rfl rfl (by kernel_rfl) (fun _ _ _ h => nomatch h.1) (Or.inl ⟨by rfl, ?_⟩) ?_ ?_
            rotate_left
            · intro w'
              go_simp
              with_reducible rfl
            rotate_left
            · simp only [Act.put, List.setIfInBounds_toArray, List.set_cons_zero, List.set_cons_succ, i64_w, i32_w]
              rfl
            refine take_ (i := 14) (N := some 80) (v := ?_) (a' := ?_) #[true, true, true, true, true, true, true, true, true, true, true, true, true, true, true, false, false, false] rfl rfl (by kernel_rfl) (fun _ _ _ h => nomatch h.1) (Or.inl ⟨by rfl, ?_⟩) hHeld ?_ ?_
            rotate_left
            · rintro w' ⟨s0, s1, s2, s3, s4, s5, s6, s7, s8, s9⟩
              go_simp
              with_reducible rfl
            rotate_left
            · simp only [Act.put, List.setIfInBounds_toArray, List.set_cons_zero, List.set_cons_succ, i64_w, i32_w]
              rfl
            refine one_ (i := 15) (N := some 81) #[true, true, true, true, true, true, true, true, true, true, true, true, true, true, true, true, false, false] rfl rfl (by kernel_rfl) (by decide) (fun K hK => ?_)
            refine goes_ Tryd.func8 (by kernel_rfl) rfl #[.agg #[.int .i64 y.f0, .string y.f1, .int .i64 y.f2, .slice yA y.f3.length yc], .agg #[.int .i64 y.f0, .string y.f1, .int .i64 y.f2, .slice A' y.f3.length c']] (by rfl) rfl rfl (by simp only [List.map_toArray, List.map_cons, List.map_nil]; rfl) ?_
            with_reducible refine (HSM.out _ B0.out).mono ?_
            rintro e w3 ⟨rfl, hk⟩
            refine ⟨_, rfl, ?_⟩
            have B1 := hide (B0.out.trans (hk.mono B0.out.size))
            clear hk
            refine hK.out _ _ ⟨(HS.out _ B1.out).1, (HS.out _ B1.out).2.1, (HS.out _ B1.out).2.2.1, (HS.out _ B1.out).2.2.2.1, (HS.out _ B1.out).2.2.2.2.1, (HS.out _ B1.out).2.2.2.2.2.1, (HS.out _ B1.out).2.2.2.2.2.2.1, (HS.out _ B1.out).2.2.2.2.2.2.2.1, (HS.out _ B1.out).2.2.2.2.2.2.2.2.1, (HS.out _ B1.out).2.2.2.2.2.2.2.2.2⟩ (fun hHeld => ?_)
            clear hK K
            refine norm_ (a' := ?_) ?_ ?_
            rotate_left
            · show Act.put _ (some 81) _ = _
              simp only [Act.put, List.setIfInBounds_toArray, List.set_cons_zero, List.set_cons_succ, i64_w, i32_w]
              rfl
            refine pure_ (i := 16) (N := some 82) (v := ?_) (a' := ?_) #[true, true, true, true, true, true, true, true, true, true, true, true, true, true, true, true, true, false] rfl rfl (by kernel_rfl) (fun _ _ _ h => nomatch h.1) (Or.inl ⟨by rfl, ?_⟩) ?_ ?_
            rotate_left
            · intro w'
              go_simp
              with_reducible rfl
            rotate_left
            · simp only [Act.put, List.setIfInBounds_toArray, List.set_cons_zero, List.set_cons_succ, i64_w, i32_w]
              rfl
            refine pure_ (i := 17) (N := some 83) (v := ?_) (a' := ?_) #[true, true, true, true, true, true, true, true, true, true, true, true, true, true, true, true, true, true] rfl rfl (by kernel_rfl) (fun _ _ _ h => nomatch h.1) (Or.inl ⟨by rfl, ?_⟩) ?_ ?_
            rotate_left
            · intro w'
              go_simp
              with_reducible rfl
            rotate_left
            · simp only [Act.put, List.setIfInBounds_toArray, List.set_cons_zero, List.set_cons_succ, i64_w, i32_w]
              rfl
            refine done_ (by kernel_rfl) ?_

            refine ⟨rfl, ⟨.pointer (some (ad.add (k * 4))), ?_⟩, B1.out⟩
            simp only [putAll, List.foldl_cons, List.foldl_nil, List.setIfInBounds_toArray, List.set_cons_zero, List.set_cons_succ]
          case k =>
            intro v W2 hW2
            simp only [putAll, List.foldl_cons, List.foldl_nil, List.setIfInBounds_toArray, List.set_cons_zero, List.set_cons_succ]
            have hZ2 := HZ.out.below hW2 HZ.out.agr.size E5.out.lt
            have hE2 := E5.out.move hZ2.agr
            have a6 : ∀ o, (W2.alloc o).cell? ⟨b6, 0, none⟩ = some (.func (.func 17) #[] #[.pointer (some ⟨bn, 0, none⟩)]) := fun o => cell_al o ((blk_cell hE2.h6 0).trans rfl)
            have HW2 := hide hW2
            have HE2 := hide hE2
            have HZ2 := hide hZ2
            clear hW2 hZ2 hE2 HS HSM
            gi_wp2
            clear a6
            obtain ⟨W3, hW3⟩ : ∃ W3, W2.alloc (.cells #[.int .i64 0] 3) = W3 := ⟨_, rfl⟩
            have hb23 : Below W2.heap.size W2 W3 := by rw [← hW3]; exact below_alloc (Below.refl _ _) _
            have hs3 : W3.heap.size = W2.heap.size + 1 := by rw [← hW3]; simp
            have h12 : W3.heap[W2.heap.size]? = some (counter 0) := by rw [← hW3]; exact blk_new W2 _
            rw [hW3]
            have hE2 := HE2.out
            have hag3 : Agr W2.heap.size (fun j => j = b7) W2 W3 := ⟨hb23.size, fun j hj _ => hb23.block j hj⟩
            have hE3 := hE2.move hag3
            have hkd3 : RdF W3 (okF W3.heap.size (fun j => j = W2.heap.size)) x A2 c2' := ⟨Kd.F_mono (Kd.F_below hE2.kids.kids hb23) (fun j hj => ⟨by have := hj.1; omega, fun (e : j = W2.heap.size) => by have := hj.1; omega⟩), hE2.kids.cap⟩
            have hnn : ¬ bn = W2.heap.size := by have := blk_lt hE2.hn; omega
            obtain ⟨r0, hr0⟩ := HLR.out
            have hl3 : W3.heap[l]? = some (.loop r0) := (hb23.block l (by have := blk_lt hr0; have := HW2.out.size; omega)).trans ((HW2.out.block l (blk_lt hr0)).trans hr0)
            have HB23 := hide hb23
            have HE3 := hide hE3
            have HKD := hide hkd3
            have H12 := hide h12
            have HS3 := hide hs3
            have HL3 := hide hl3
            clear hE2 hb23 hs3 h12 hag3 hE3 hkd3 hr0 hl3 hW3
            refine range_two (x := x) (A := A2) (c := c2') (bn := bn) (b7 := W2.heap.size) HL3.out (by omega) rfl HF.out (by rw [HL.out]; omega) (by rw [HS3.out]; omega) HE3.out.hn hnn HKD.out 4 (fun _ _ h => wpIn_exit (by simpa [Exit.inBlock] using h)) H12.out ?b3 ?c3
            case b3 =>
              intro l2 pre2 y2 W4 hws4 hlt2
              obtain ⟨k3, hk3⟩ : ∃ k3, pre2.length = k3 := ⟨_, rfl⟩
              rw [hk3] at hws4 hlt2
              have a12 : W4.cell? ⟨W2.heap.size, 0, none⟩ = some (.int .i64 (k3 : Nat)) := (blk_cell hws4.cnt 0).trans rfl
              have f12 := blk_frozen hws4.cnt 0
              have HQ4 := hide (show Fr (XX (fun j => j = W2.heap.size) y2) W4 (W4.setCell ⟨W2.heap.size, 0, none⟩ (.int .i64 ((k3 : Int) + 1))) ∧ WZ W3 W2.heap.size (pre2 ++ [y2]).length (W4.setCell ⟨W2.heap.size, 0, none⟩ (.int .i64 ((k3 : Int) + 1))) from
                ⟨(Fr.refl _ _).setCell (p := ⟨W2.heap.size, 0, none⟩) (.inl (.inl rfl)) _, by rw [List.length_append, hk3]; exact hws4.bump⟩)
              have HL4 := hide (show (pre2 ++ [y2]).length = k3 + 1 by rw [List.length_append, hk3]; rfl)
              simp only [List.setIfInBounds_toArray, List.set_cons_zero, List.set_cons_succ]
              clear hws4 hk3
              by_cases h0 : k3 = 0
              · subst h0
                gi_wp2
                exact ⟨HQ4.out.1, HQ4.out.2, by rw [HL4.out]; decide⟩
              · obtain rfl : k3 = 1 := by omega
                gi_wp2
                exact ⟨HQ4.out.1, rfl, HQ4.out.2, by rw [HL4.out]⟩
            case c3 =>
              intro k3 W4 hws4 hk3
              rw [HL.out] at hk3
              have hz3 := HZ2.out.below HB23.out HZ2.out.agr.size E5.out.lt
              have g1 := HZ2.out.agr.size
              have g2 := HS3.out
              have g3 := hws4.agr.size
              have g4 := HW2.out.size
              have g5 := HZ.out.agr.size
              have g6 := E5.out.lt
              have hz4 : WZ W5 b7 k W4 := ⟨⟨by omega, fun j hj hn => (hws4.agr.keep j (by omega) (fun (e : j = W2.heap.size) => by omega)).trans (hz3.agr.keep j hj hn)⟩, (hws4.agr.keep b7 (by omega) (fun (e : b7 = W2.heap.size) => by omega)).trans hz3.cnt, hws4.same.1.trans hz3.same.1, hws4.same.2.1.trans hz3.same.2.1, hws4.same.2.2.trans hz3.same.2.2⟩
              have hkeep : ∀ j, j < W.heap.size → W4.heap[j]? = W.heap[j]? := fun j hj => (hws4.agr.keep j (by omega) (fun (e : j = W2.heap.size) => by omega)).trans ((HB23.out.block j (by omega)).trans (HW2.out.block j hj))
              have hE4 := E5.out.move hz4.agr
              have a5 : W4.cell? ⟨b5, 0, none⟩ = some (.slice (some ad) L c1) := by have := (blk_cell hE4.h5 0).trans rfl; rw [HL.out] at this; exact this
              have a12 : W4.cell? ⟨W2.heap.size, 0, none⟩ = some (.int .i64 (k3 : Nat)) := (blk_cell hws4.cnt 0).trans rfl
              have Q0 := hide (show KQ W5 W b7 k ⟨k, y, yA, yc⟩ b W4 from ⟨⟨y.f3, rfl, Kd.R_mono (Kd.R_move (Kd.R_bound HROW.out) (w1 := W4) (fun j hj => hkeep j hj.2.2.1)) (fun j hj => hj.1)⟩,
                ⟨hws4.same.1.trans (HB23.out.os.trans HW2.out.os), hws4.same.2.1.trans (HB23.out.tape.trans HW2.out.tape), hws4.same.2.2.trans (HB23.out.output.trans HW2.out.output), by omega, fun j hj _ => hkeep j hj⟩, (hkeep b (blk_lt HBX.out)).trans HBX.out, hz4⟩)
              have hmin : (if (L : Int) < 2 then (L : Int) else 2) = (k3 : Int) := by split <;> omega
              clear hk3
              obtain ⟨n, hn⟩ : ∃ n, y.f3.length = n := ⟨_, rfl⟩
              have HN := hide hn
              have hnb : n ≤ 2513169434843 := by rw [← hn]; exact HFY.out.len
              clear hn
              clear hz3 g1 g2 g3 g4 g5 g6 hz4 hkeep hE4 hws4
              gi_wp2
              gi_loopw [13] (fun v13 wr => ∃ i : Nat, i ≤ n ∧ v13 = .int .i64 i ∧ Aside0 (KQ W5 W b7 k ⟨k, y, yA, yc⟩ b wr)) (fun v13 _ => n - (intOf v13).toNat)
              case atStart => exact ⟨0, Nat.zero_le _, rfl, Q0⟩
              case round =>
                obtain ⟨i, hi, rfl, Q⟩ := hrel
                clear Q0
                have e3 : wr.cell? ⟨b, 3, none⟩ = some (.slice yA n yc) := by have := (blk_cell Q.out.box 3).trans rfl; rw [← HN.out]; exact this
                by_cases hlt : i < n
                · have hlti : (i : Int) < (n : Int) := by omega
                  obtain ⟨ks, hkl, hrw⟩ := Q.out.row
                  obtain ⟨ad9, e9⟩ : ∃ ad9, yA = some ad9 := by
                    obtain ⟨-, -, hC⟩ := R_C hrw
                    exact C_some hC (by have := HN.out; show 0 < y.f3.length; omega)
                  subst e9
                  obtain ⟨g, rfl⟩ := Kd.R_head hrw
                  clear hkl hrw
                  have HNUM := hide (fun (W' : World) (h : Below wr.heap.size wr W') => show Calls Tryd.prog 9 #[.int .i64 77] W' (fun e w2 => ∃ A9 c9, e = .returned (.agg #[.int .i64 1, .string mt, .int .i64 77, .slice A9 0 c9]) ∧ (∃ u, w2.cell? ⟨g, i * 4, none⟩ = some u) ∧ (∃ u, w2.cell? ⟨g, i * 4 + 1, none⟩ = some u) ∧ (∃ u, w2.cell? ⟨g, i * 4 + 2, none⟩ = some u) ∧ (∃ u, w2.cell? ⟨g, i * 4 + 3, none⟩ = some u) ∧
                      w2.frozen? ⟨g, i * 4, none⟩ = false ∧ w2.frozen? ⟨g, i * 4 + 1, none⟩ = false ∧ w2.frozen? ⟨g, i * 4 + 2, none⟩ = false ∧ w2.frozen? ⟨g, i * 4 + 3, none⟩ = false ∧ w2.cell? ⟨b, 3, none⟩ = some (.slice (some ⟨g, 0, none⟩) n yc) ∧
                      KQ W5 W b7 k ⟨k, y, some ⟨g, 0, none⟩, yc⟩ b ((((w2.setCell ⟨g, i * 4, none⟩ (.int .i64 1)).setCell ⟨g, i * 4 + 1, none⟩ (.string mt)).setCell ⟨g, i * 4 + 2, none⟩ (.int .i64 77)).setCell ⟨g, i * 4 + 3, none⟩ (.slice A9 0 c9))) from by
                    refine (gussetlaw05_num.calls 77 1 mt 77 [] W' rfl).mono ?_
                    rintro e w2 ⟨v3, rfl, hM, h2⟩
                    have hb := h.trans (h2.mono h.size)
                    obtain ⟨A9, c9, rfl, -, -⟩ := Kd.R_reads hM
                    obtain ⟨g', e', q⟩ := Q.out.put (n := 77) E5.out.lt HNE.out (by rw [HN.out]; exact hlt) hb (Kd.R_lower hM h.size)
                    cases e'
                    obtain ⟨q1, q2, q3, q4, q5, q6, q7, q8, q9⟩ := q
                    exact ⟨A9, c9, rfl, q1, q2, q3, q4, q5, q6, q7, q8, pw_cell_below hb e3, q9⟩)
                  gi_wp2
                  refine region_leaf (fun (v : Value × Value × Value) => [(103, v.1), (104, .slice (some ⟨g, 0, none⟩) n yc), (105, .int .i64 (i : Nat)), (106, v.2.1), (107, v.2.2)]) (fun W' => KQ W5 W b7 k ⟨k, y, some ⟨g, 0, none⟩, yc⟩ b W') ?h30 ?k30
                  case h30 =>
                    have hb0 : Below wr.heap.size wr wr.drew := below_drew (Below.refl _ _)
                    have e3d := pw_cell_below hb0 e3
                    refine start_in (n := 6) (S := fun w' => w'.cell? ⟨b, 3, none⟩ = some (.slice (some ⟨g, 0, none⟩) n yc)) (ds := [5]) #[false, false, false, false, false, false] (by kernel_rfl) rfl rfl (by kernel_rfl) no_out (e3d) (fun hHeld => ?_)
                    obtain ⟨wd, hwd⟩ : ∃ wd, wd = wr.drew := ⟨_, rfl⟩
                    rw [← hwd] at hHeld ⊢
                    have B0 := hide (show Below wr.heap.size wr wd by rw [hwd]; exact hb0)
                    clear hwd hb0
                    refine pure_ (i := 0) (N := some 103) (v := ?_) (a' := ?_) #[true, false, false, false, false, false] rfl rfl (by kernel_rfl) (fun _ _ _ h => nomatch h.1) (Or.inl ⟨by rfl, ?_⟩) ?_ ?_
                    rotate_left
                    · intro w'
                      go_simp
                      with_reducible rfl
                    rotate_left
                    · simp only [Act.put, List.setIfInBounds_toArray, List.set_cons_zero, List.set_cons_succ, i64_w, i32_w]
                      rfl
                    refine pure_ (i := 2) (N := some 105) (v := ?_) (a' := ?_) #[true, false, true, false, false, false] rfl rfl (by kernel_rfl) (fun _ _ _ h => nomatch h.1) (Or.inl ⟨by rfl, ?_⟩) ?_ ?_
                    rotate_left
                    · intro w'
                      go_simp
                      with_reducible rfl
                    rotate_left
                    · simp only [Act.put, List.setIfInBounds_toArray, List.set_cons_zero, List.set_cons_succ, i64_w, i32_w]
                      rfl
                    refine take_ (i := 1) (N := some 104) (v := ?_) (a' := ?_) #[true, true, true, false, false, false] rfl rfl (by kernel_rfl) (fun _ _ _ h => nomatch h.1) (Or.inl ⟨by rfl, ?_⟩) hHeld ?_ ?_
                    rotate_left
                    · intro w' s0
                      go_simp
                      with_reducible rfl
                    rotate_left
                    · simp only [Act.put, List.setIfInBounds_toArray, List.set_cons_zero, List.set_cons_succ, i64_w, i32_w]
                      rfl
                    refine one_ (i := 3) (N := some 106) #[true, true, true, true, false, false] rfl rfl (by kernel_rfl) (by decide) (fun K hK => ?_)
                    refine goes_ Tryd.func9 (by kernel_rfl) rfl #[.int .i64 77] (by rfl) rfl rfl (by simp only [List.map_toArray, List.map_cons, List.map_nil]; rfl) ?_
                    with_reducible refine (HNUM.out _ B0.out).mono ?_
                    rintro e w3 ⟨A9, c9, rfl, ⟨u0, q1⟩, ⟨u1, q2⟩, ⟨u2, q3⟩, ⟨u3, q4⟩, q5, q6, q7, q8, q10, q9⟩
                    refine ⟨_, rfl, ?_⟩
                    have Q9 := hide q9
                    clear q9
                    refine hK.out _ _ (q10) (fun hHeld => ?_)
                    clear hK K
                    refine norm_ (a' := ?_) ?_ ?_
                    rotate_left
                    · show Act.put _ (some 106) _ = _
                      simp only [Act.put, List.setIfInBounds_toArray, List.set_cons_zero, List.set_cons_succ, i64_w, i32_w]
                      rfl
                    refine pure_ (i := 4) (N := some 107) (v := ?_) (a' := ?_) #[true, true, true, true, true, false] rfl rfl (by kernel_rfl) (fun _ _ _ h => nomatch h.1) (Or.inl ⟨by rfl, ?_⟩) ?_ ?_
                    rotate_left
                    · intro w'
                      go_simp
                      with_reducible rfl
                    rotate_left
                    · simp only [Act.put, List.setIfInBounds_toArray, List.set_cons_zero, List.set_cons_succ, i64_w, i32_w]
                      rfl
                    refine last_ (i := 5) (N := none) #[true, true, true, true, true, true] rfl rfl (by kernel_rfl) (by decide) (fun K hK => ?_)
                    refine skip_ (w1 := ?_) (by rfl) rfl ?_ ?_
                    rotate_left
                    · go_simp
                      rfl
                    refine hK.out _ _ ?_
                    clear hK K
                    refine done_ (by kernel_rfl) ?_

                    refine ⟨rfl, ⟨(.pointer (some ⟨b, 3, none⟩), .agg #[.int .i64 1, .string mt, .int .i64 77, .slice A9 0 c9], .pointer (some ⟨g, i * 4, none⟩)), ?_⟩, Q9.out⟩
                    simp only [putAll, List.foldl_cons, List.foldl_nil, List.setIfInBounds_toArray, List.set_cons_zero, List.set_cons_succ]
                  case k30 =>
                    intro v9 w9 hw9
                    have Q2 := hide hw9
                    clear hw9
                    simp only [putAll, List.foldl_cons, List.foldl_nil, List.setIfInBounds_toArray, List.set_cons_zero, List.set_cons_succ]
                    gi_wp2
                    go_roundw
                    case rel => exact ⟨i + 1, by omega, by go_num, Q2⟩
                    case measure => simp [intOf]; omega
                · obtain rfl : i = n := by omega
                  have a7 : wr.cell? ⟨b7, 0, none⟩ = some (.int .i64 (k : Nat)) := (blk_cell Q.out.z.cnt 0).trans rfl
                  have f7 := blk_frozen Q.out.z.cnt 0
                  gi_wp2
                  refine ⟨Q.out.fr.setCell (p := ⟨b7, 0, none⟩) (.inl (.inl rfl)) _, ?_, trivial⟩
                  rw [List.length_append, HK.out]
                  exact Q.out.z.bump

        case cont2 =>
          rintro D2 k2 W6 hD2 hws hck hDK
          have hk2 : k2 = L := by rcases hck with ⟨-, e⟩ | ⟨h, -⟩; rw [e, HL.out]; exact h.elim
          subst hk2
          have hE6 := E5.out.move hws.agr
          have a4 : W6.cell? ⟨w.heap.size + 1 + 1, 0, none⟩ = some (.bool false) := (blk_cell hE6.h4 0).trans rfl
          have f4 : W6.frozen? ⟨w.heap.size + 1 + 1, 0, none⟩ = false := blk_frozen hE6.h4 0
          have a5 : W6.cell? ⟨b5, 0, none⟩ = some (.slice A1 k2 c1) := by have := (blk_cell hE6.h5 0).trans rfl; rw [HL.out] at this; exact this
          have a7 : W6.cell? ⟨b7, 0, none⟩ = some (.int .i64 (k2 : Nat)) := (blk_cell hws.cnt 0).trans rfl
          have hdk : ∀ D' u, W6.heap[D']? = some (Obj.deferred (some [])) → (W6.setCell ⟨w.heap.size + 1 + 1, 0, none⟩ u).heap[D']? = some (Obj.deferred (some [])) := fun D' u h => (Below.heap_setCell W6 _ _ _ (fun (e : D' = w.heap.size + 1 + 1) => by rw [e] at h; have := hE6.h4; rw [show w.heap.size + 1 + 1 = w.heap.size + 2 from rfl, this] at h; cases h)).trans h
          have HD2 := hide (hdk D2 (.bool true) hDK)
          have HD1 := hide (hdk D (.bool true) ((hws.agr.keep D (blk_lt HD5.out.1) HD5.out.2).trans HD5.out.1))
          have H4 := hide (blk_put (cs := #[.bool false]) hE6.h4 0 (.bool true) rfl)
          have HDD := hide (show D ≠ D2 by have := blk_lt HD5.out.1; omega)
          have HDB := hide (show w.heap.size + 2 ≠ D2 ∧ w.heap.size + 2 ≠ D from ⟨fun e => (by rw [← e, hE6.h4] at hDK; cases hDK), fun e => (by have h := (hws.agr.keep D (blk_lt HD5.out.1) HD5.out.2).trans HD5.out.1; rw [← e, hE6.h4] at h; cases h)⟩)
          have HBE := hide (show Below w.heap.size w W6 from ⟨hws.same.1.trans HSM5.out.1, hws.same.2.1.trans HSM5.out.2.1, hws.same.2.2.trans HSM5.out.2.2, hE6.lsz, hE6.low⟩)
          have HDW2 := hide (show w.heap.size ≤ D2 by have := E5.out.lsz; omega)
          clear hdk hDK hE6 hws hck hD2
          go_wp2
          refine ⟨by simp, .inl ⟨_, _, rfl, run_takeDeferred HD2.out, ?_⟩⟩
          refine ⟨by simp, .inl ⟨_, _, rfl, run_takeDeferred ((World.putObj_heap_other HDD.out).trans HD1.out), ?_⟩⟩
          obtain ⟨W9, hW9⟩ : ∃ W9, ((W6.setCell ⟨w.heap.size + 1 + 1, 0, none⟩ (.bool true)).putObj D2 (Obj.deferred none)).putObj D (Obj.deferred none) = W9 := ⟨_, rfl⟩
          have HB9 := hide (show Below w.heap.size w W9 from by rw [← hW9]; exact ((HBE.out.setCell (p := ⟨w.heap.size + 1 + 1, 0, none⟩) (Nat.le_add_right _ 2) _).trans (below_putObj HDW2.out _)).trans (below_putObj HDW.out _))
          have hc0 : W9.heap[w.heap.size + 2]? = some (Obj.cells #[.bool true] 4 (0, 0)) := by
            rw [← hW9]
            exact (World.putObj_heap_other HDB.out.2).trans ((World.putObj_heap_other HDB.out.1).trans H4.out)
          have hc : W9.cell? ⟨w.heap.size + 1 + 1, 0, none⟩ = some (.bool true) := (blk_cell hc0 0).trans rfl
          rw [hW9]
          exact ⟨.bool true, (by simp [results, Tryd.results3, go_sem, hc]), rfl, HB9.out⟩
      · have d2 : decide (a ≤ (L : Int)) = false := by simpa using h2
        clear hck h1 h2
        go_wp2
        clear a3 a5 a6 a7 f7 hW5
        (try clear d1); (try clear d2); (try clear d3); (try clear d4)
        refine (wpIn_wide (n := 12)).1 ?_
        refine range_tree (x := x) (A := A2) (c := c2') (bn := bn) (b7 := b7) (by omega) rfl HF.out (by rw [HL.out]; omega) E5.out.lt E5.out.hn E5.out.nn E5.out.kids 2 (fun _ _ h => wpIn_exit (by simpa [Exit.inBlock] using h)) (fun _ => True) (fun _ => False) trivial H75.out
          (fun t y b => ((((t.setIfInBounds 64 (.int .i64 y.i)).setIfInBounds 65 (.agg #[.int .i64 y.y.f0, .string y.y.f1, .int .i64 y.y.f2, .slice y.A y.y.f3.length y.c])).setIfInBounds 10 (.int .i64 y.i)).setIfInBounds 11 (.pointer (some ⟨b, 0, none⟩)))) ?as2 ?body2 ?cont2
        case as2 =>
          intro l y W K hK
          simp only [List.setIfInBounds_toArray, List.set_cons_zero, List.set_cons_succ] at hK ⊢
          gi_wp2
          refine hK _ _ (below_alloc (Below.refl _ _) _) (blk_new W _) (Nat.le_refl _)
        case body2 =>
          rintro l pre ⟨yi, y, yA, yc⟩ b W hl hlr hws hc hv hbx hble hne hlen
          obtain ⟨k, hk⟩ : ∃ k, pre.length = k := ⟨_, rfl⟩
          obtain ⟨e1, hy, hrow⟩ := hv
          simp only at e1
          rw [hk] at hws hlen hy e1
          have e1 := e1.symm
          subst e1
          simp only at hy hrow
          have hE := E5.out.move hws.agr
          obtain ⟨ad, A', c', rfl, hry, k0, k1, k2, k3⟩ := hE.elem hy
          rw [HL.out] at hlen
          have hfy : Fit y := flat_fit _ x (Nat.le_refl _) HF.out y (List.mem_of_getElem? hy)
          obtain ⟨-, hcy, hCy⟩ := R_C hrow
          have b0 : W.cell? ⟨b, 0, none⟩ = some (.int .i64 y.f0) := (blk_cell hbx 0).trans rfl
          have b1 : W.cell? ⟨b, 1, none⟩ = some (.string y.f1) := (blk_cell hbx 1).trans rfl
          have b2 : W.cell? ⟨b, 2, none⟩ = some (.int .i64 y.f2) := (blk_cell hbx 2).trans rfl
          have b3 : W.cell? ⟨b, 3, none⟩ = some (.slice yA y.f3.length yc) := (blk_cell hbx 3).trans rfl
          have a5 : W.cell? ⟨b5, 0, none⟩ = some (.slice (some ad) L c1) := by have := (blk_cell hE.h5 0).trans rfl; rw [HL.out] at this; exact this
          have a7 : W.cell? ⟨b7, 0, none⟩ = some (.int .i64 (k : Nat)) := (blk_cell hws.cnt 0).trans rfl
          have hsm : ∀ W', Below W.heap.size W W' → Calls Tryd.prog 8 #[.agg #[.int .i64 y.f0, .string y.f1, .int .i64 y.f2, .slice yA y.f3.length yc], .agg #[.int .i64 y.f0, .string y.f1, .int .i64 y.f2, .slice A' y.f3.length c']] W' fun e W2 => e = .returned (.bool true) ∧ Below W'.heap.size W' W2 := by
            intro W' hbd
            have hrd : Rd W y yA yc := ⟨hCy, hcy⟩
            refine (rsame_any hfy hfy (hrd.below hbd) (hry.below hbd)).mono ?_
            rintro e W2 ⟨rfl, h2⟩
            exact ⟨by rw [sm_true rfl], h2⟩
          have hSS : ∀ W', Below W.heap.size W W' → W'.cell? ⟨b, 0, none⟩ = some (.int .i64 y.f0) ∧ W'.cell? ⟨b, 1, none⟩ = some (.string y.f1) ∧ W'.cell? ⟨b, 2, none⟩ = some (.int .i64 y.f2) ∧ W'.cell? ⟨b, 3, none⟩ = some (.slice yA y.f3.length yc) ∧ W'.cell? ⟨b5, 0, none⟩ = some (.slice (some ad) L c1) ∧ W'.cell? ⟨b7, 0, none⟩ = some (.int .i64 (k : Nat)) ∧ W'.cell? (ad.add (k * 4)) = some (.int .i64 y.f0) ∧ W'.cell? ⟨(ad.add (k * 4)).block, (ad.add (k * 4)).off + 1, none⟩ = some (.string y.f1) ∧ W'.cell? ⟨(ad.add (k * 4)).block, (ad.add (k * 4)).off + 2, none⟩ = some (.int .i64 y.f2) ∧ W'.cell? ⟨(ad.add (k * 4)).block, (ad.add (k * 4)).off + 3, none⟩ = some (.slice A' y.f3.length c')
            := fun W' h => ⟨pw_cell_below h b0, pw_cell_below h b1, pw_cell_below h b2, pw_cell_below h b3, pw_cell_below h a5, pw_cell_below h a7, pw_cell_below h k0, pw_cell_below h k1, pw_cell_below h k2, pw_cell_below h k3⟩
          have HS := hide hSS
          have HSM := hide hsm
          have HK := hide hk
          have HROW := hide hrow
          have HFY := hide hfy
          have HNE := hide hne
          have HLR := hide hlr
          have HBX := hide hbx
          have HBL := hide hble
          have HZ := hide hws
          have hkL : (k : Int) < (L : Int) := by omega
          have hkd : decide (L ≤ k) = false := decide_eq_false (by omega)
          have hkb : k < 1048576 := by omega
          clear hsm hSS hk hc hlen hws hrow hne hlr hbx hble hy hry hE hfy hcy hCy b0 b1 b2 b3 a5 a7 k0 k1 k2 k3
          simp only [List.setIfInBounds_toArray, List.set_cons_zero, List.set_cons_succ]
          gi_wp2
          have hb0 : Below W.heap.size W W.drew := below_drew (Below.refl _ _)
          refine region_leaf (fun (v : Value) => [(66, .int .i64 (k : Nat)), (67, .int .i64 (k : Nat)), (68, .bool false), (69, .bool false), (70, .int .i64 (k : Nat)), (71, .slice (some ad) L c1), (72, .int .i64 (L : Nat)), (73, .bool false), (74, .bool false), (75, .bool false), (76, .agg #[.int .i64 y.f0, .string y.f1, .int .i64 y.f2, .slice yA y.f3.length yc]), (77, .slice (some ad) L c1), (78, .int .i64 (k : Nat)), (79, v), (80, .agg #[.int .i64 y.f0, .string y.f1, .int .i64 y.f2, .slice A' y.f3.length c']), (81, .bool true), (82, .bool false), (83, .bool false)]) (fun W2 => Below W.heap.size W W2) ?h ?k
          case h =>
            refine start_in (n := 18) (S := fun w' => w'.cell? ⟨b, 0, none⟩ = some (.int .i64 y.f0) ∧ w'.cell? ⟨b, 1, none⟩ = some (.string y.f1) ∧ w'.cell? ⟨b, 2, none⟩ = some (.int .i64 y.f2) ∧ w'.cell? ⟨b, 3, none⟩ = some (.slice yA y.f3.length yc) ∧ w'.cell? ⟨b5, 0, none⟩ = some (.slice (some ad) L c1) ∧ w'.cell? ⟨b7, 0, none⟩ = some (.int .i64 (k : Nat)) ∧ w'.cell? (ad.add (k * 4)) = some (.int .i64 y.f0) ∧ w'.cell? ⟨(ad.add (k * 4)).block, (ad.add (k * 4)).off + 1, none⟩ = some (.string y.f1) ∧ w'.cell? ⟨(ad.add (k * 4)).block, (ad.add (k * 4)).off + 2, none⟩ = some (.int .i64 y.f2) ∧ w'.cell? ⟨(ad.add (k * 4)).block, (ad.add (k * 4)).off + 3, none⟩ = some (.slice A' y.f3.length c')) (ds := []) #[false, false, false, false, false, false, false, false, false, false, false, false, false, false, false, false, false, false] (by kernel_rfl) rfl rfl (by kernel_rfl) no_out ⟨(HS.out _ hb0).1, (HS.out _ hb0).2.1, (HS.out _ hb0).2.2.1, (HS.out _ hb0).2.2.2.1, (HS.out _ hb0).2.2.2.2.1, (HS.out _ hb0).2.2.2.2.2.1, (HS.out _ hb0).2.2.2.2.2.2.1, (HS.out _ hb0).2.2.2.2.2.2.2.1, (HS.out _ hb0).2.2.2.2.2.2.2.2.1, (HS.out _ hb0).2.2.2.2.2.2.2.2.2⟩ (fun hHeld => ?_)
            obtain ⟨wd, hwd⟩ : ∃ wd, wd = W.drew := ⟨_, rfl⟩
            rw [← hwd] at hHeld ⊢
            have B0 := hide (show Below W.heap.size W wd by rw [hwd]; exact hb0)
            clear hwd hb0
            refine pure_ (i := 0) (N := some 66) (v := ?_) (a' := ?_) #[true, false, false, false, false, false, false, false, false, false, false, false, false, false, false, false, false, false] rfl rfl (by kernel_rfl) (fun _ _ _ h => nomatch h.1) (Or.inl ⟨by rfl, ?_⟩) ?_ ?_
            rotate_left
            · intro w'
              go_simp
              with_reducible rfl
            rotate_left
            · simp only [Act.put, List.setIfInBounds_toArray, List.set_cons_zero, List.set_cons_succ, i64_w, i32_w]
              rfl
            refine take_ (i := 1) (N := some 67) (v := ?_) (a' := ?_) #[true, true, false, false, false, false, false, false, false, false, false, false, false, false, false, false, false, false] rfl rfl (by kernel_rfl) (fun _ _ _ h => nomatch h.1) (Or.inl ⟨by rfl, ?_⟩) hHeld ?_ ?_
            rotate_left
            · rintro w' ⟨s0, s1, s2, s3, s4, s5, s6, s7, s8, s9⟩
              go_simp
              with_reducible rfl
            rotate_left
            · simp only [Act.put, List.setIfInBounds_toArray, List.set_cons_zero, List.set_cons_succ, i64_w, i32_w]
              rfl
            refine pure_ (i := 2) (N := some 68) (v := ?_) (a' := ?_) #[true, true, true, false, false, false, false, false, false, false, false, false, false, false, false, false, false, false] rfl rfl (by kernel_rfl) (fun _ _ _ h => nomatch h.1) (Or.inl ⟨by rfl, ?_⟩) ?_ ?_
            rotate_left
            · intro w'
              go_simp
              with_reducible rfl
            rotate_left
            · simp only [Act.put, List.setIfInBounds_toArray, List.set_cons_zero, List.set_cons_succ, i64_w, i32_w]
              rfl
            refine pure_ (i := 3) (N := some 69) (v := ?_) (a' := ?_) #[true, true, true, true, false, false, false, false, false, false, false, false, false, false, false, false, false, false] rfl rfl (by kernel_rfl) (fun _ _ _ h => nomatch h.1) (Or.inl ⟨by rfl, ?_⟩) ?_ ?_
            rotate_left
            · intro w'
              go_simp
              with_reducible rfl
            rotate_left
            · simp only [Act.put, List.setIfInBounds_toArray, List.set_cons_zero, List.set_cons_succ, i64_w, i32_w]
              rfl
            refine pure_ (i := 4) (N := some 70) (v := ?_) (a' := ?_) #[true, true, true, true, true, false, false, false, false, false, false, false, false, false, false, false, false, false] rfl rfl (by kernel_rfl) (fun _ _ _ h => nomatch h.1) (Or.inl ⟨by rfl, ?_⟩) ?_ ?_
            rotate_left
            · intro w'
              go_simp
              with_reducible rfl
            rotate_left
            · simp only [Act.put, List.setIfInBounds_toArray, List.set_cons_zero, List.set_cons_succ, i64_w, i32_w]
              rfl
            refine take_ (i := 5) (N := some 71) (v := ?_) (a' := ?_) #[true, true, true, true, true, true, false, false, false, false, false, false, false, false, false, false, false, false] rfl rfl (by kernel_rfl) (fun _ _ _ h => nomatch h.1) (Or.inl ⟨by rfl, ?_⟩) hHeld ?_ ?_
            rotate_left
            · rintro w' ⟨s0, s1, s2, s3, s4, s5, s6, s7, s8, s9⟩
              go_simp
              with_reducible rfl
            rotate_left
            · simp only [Act.put, List.setIfInBounds_toArray, List.set_cons_zero, List.set_cons_succ, i64_w, i32_w]
              rfl
            refine pure_ (i := 6) (N := some 72) (v := ?_) (a' := ?_) #[true, true, true, true, true, true, true, false, false, false, false, false, false, false, false, false, false, false] rfl rfl (by kernel_rfl) (fun _ _ _ h => nomatch h.1) (Or.inl ⟨by rfl, ?_⟩) ?_ ?_
            rotate_left
            · intro w'
              go_simp
              with_reducible rfl
            rotate_left
            · simp only [Act.put, List.setIfInBounds_toArray, List.set_cons_zero, List.set_cons_succ, i64_w, i32_w]
              rfl
            refine pure_ (i := 7) (N := some 73) (v := ?_) (a' := ?_) #[true, true, true, true, true, true, true, true, false, false, false, false, false, false, false, false, false, false] rfl rfl (by kernel_rfl) (fun _ _ _ h => nomatch h.1) (Or.inl ⟨by rfl, ?_⟩) ?_ ?_
            rotate_left
            · intro w'
              go_simp
              with_reducible rfl
            rotate_left
            · simp only [Act.put, List.setIfInBounds_toArray, List.set_cons_zero, List.set_cons_succ, i64_w, i32_w]
              rfl
            refine pure_ (i := 8) (N := some 74) (v := ?_) (a' := ?_) #[true, true, true, true, true, true, true, true, true, false, false, false, false, false, false, false, false, false] rfl rfl (by kernel_rfl) (fun _ _ _ h => nomatch h.1) (Or.inl ⟨by rfl, ?_⟩) ?_ ?_
            rotate_left
            · intro w'
              go_simp
              with_reducible rfl
            rotate_left
            · simp only [Act.put, List.setIfInBounds_toArray, List.set_cons_zero, List.set_cons_succ, i64_w, i32_w]
              rfl
            refine pure_ (i := 9) (N := some 75) (v := ?_) (a' := ?_) #[true, true, true, true, true, true, true, true, true, true, false, false, false, false, false, false, false, false] rfl rfl (by kernel_rfl) (fun _ _ _ h => nomatch h.1) (Or.inl ⟨by rfl, ?_⟩) ?_ ?_
            rotate_left
            · intro w'
              go_simp
              with_reducible rfl
            rotate_left
            · simp only [Act.put, List.setIfInBounds_toArray, List.set_cons_zero, List.set_cons_succ, i64_w, i32_w]
              rfl
            refine pure_ (i := 12) (N := some 78) (v := ?_) (a' := ?_) #[true, true, true, true, true, true, true, true, true, true, false, false, true, false, false, false, false, false] rfl rfl (by kernel_rfl) (fun _ _ _ h => nomatch h.1) (Or.inl ⟨by rfl, ?_⟩) ?_ ?_
            rotate_left
            · intro w'
              go_simp
              with_reducible rfl
            rotate_left
            · simp only [Act.put, List.setIfInBounds_toArray, List.set_cons_zero, List.set_cons_succ, i64_w, i32_w]
              rfl
            refine take_ (i := 10) (N := some 76) (v := ?_) (a' := ?_) #[true, true, true, true, true, true, true, true, true, true, true, false, true, false, false, false, false, false] rfl rfl (by kernel_rfl) (fun _ _ _ h => nomatch h.1) (Or.inl ⟨by rfl, ?_⟩) hHeld ?_ ?_
            rotate_left
            · rintro w' ⟨s0, s1, s2, s3, s4, s5, s6, s7, s8, s9⟩
              go_simp
              with_reducible rfl
            rotate_left
            · simp only [Act.put, List.setIfInBounds_toArray, List.set_cons_zero, List.set_cons_succ, i64_w, i32_w]
              rfl
            refine take_ (i := 11) (N := some 77) (v := ?_) (a' := ?_) #[true, true, true, true, true, true, true, true, true, true, true, true, true, false, false, false, false, false] rfl rfl (by kernel_rfl) (fun _ _ _ h => nomatch h.1) (Or.inl ⟨by rfl, ?_⟩) hHeld ?_ ?_
            rotate_left
            · rintro w' ⟨s0, s1, s2, s3, s4, s5, s6, s7, s8, s9⟩
              go_simp
              with_reducible rfl
            rotate_left
            · simp only [Act.put, List.setIfInBounds_toArray, List.set_cons_zero, List.set_cons_succ, i64_w, i32_w]
              rfl
            refine pure_ (i := 13) (N := some 79) (v := ?_) (a' := ?_) #[true, true, true, true, true, true, true, true, true, true, true, true, true, true, false, false, false, false] rfl rfl (by kernel_rfl) (fun _ _ _ h => nomatch h.1) (Or.inl ⟨by rfl, ?_⟩) ?_ ?_
            rotate_left
            · intro w'
              go_simp
              with_reducible rfl
            rotate_left
            · simp only [Act.put, List.setIfInBounds_toArray, List.set_cons_zero, List.set_cons_succ, i64_w, i32_w]
              rfl
            refine take_ (i := 14) (N := some 80) (v := ?_) (a' := ?_) #[true, true, true, true, true, true, true, true, true, true, true, true, true, true, true, false, false, false] rfl rfl (by kernel_rfl) (fun _ _ _ h => nomatch h.1) (Or.inl ⟨by rfl, ?_⟩) hHeld ?_ ?_
            rotate_left
            · rintro w' ⟨s0, s1, s2, s3, s4, s5, s6, s7, s8, s9⟩
              go_simp
              with_reducible rfl
            rotate_left
            · simp only [Act.put, List.setIfInBounds_toArray, List.set_cons_zero, List.set_cons_succ, i64_w, i32_w]
              rfl
            refine one_ (i := 15) (N := some 81) #[true, true, true, true, true, true, true, true, true, true, true, true, true, true, true, true, false, false] rfl rfl (by kernel_rfl) (by decide) (fun K hK => ?_)
            refine goes_ Tryd.func8 (by kernel_rfl) rfl #[.agg #[.int .i64 y.f0, .string y.f1, .int .i64 y.f2, .slice yA y.f3.length yc], .agg #[.int .i64 y.f0, .string y.f1, .int .i64 y.f2, .slice A' y.f3.length c']] (by rfl) rfl rfl (by simp only [List.map_toArray, List.map_cons, List.map_nil]; rfl) ?_
            with_reducible refine (HSM.out _ B0.out).mono ?_
            rintro e w3 ⟨rfl, hk⟩
            refine ⟨_, rfl, ?_⟩
            have B1 := hide (B0.out.trans (hk.mono B0.out.size))
            clear hk
            refine hK.out _ _ ⟨(HS.out _ B1.out).1, (HS.out _ B1.out).2.1, (HS.out _ B1.out).2.2.1, (HS.out _ B1.out).2.2.2.1, (HS.out _ B1.out).2.2.2.2.1, (HS.out _ B1.out).2.2.2.2.2.1, (HS.out _ B1.out).2.2.2.2.2.2.1, (HS.out _ B1.out).2.2.2.2.2.2.2.1, (HS.out _ B1.out).2.2.2.2.2.2.2.2.1, (HS.out _ B1.out).2.2.2.2.2.2.2.2.2⟩ (fun hHeld => ?_)
            clear hK K
            refine norm_ (a' := ?_) ?_ ?_
            rotate_left
            · show Act.put _ (some 81) _ = _
              simp only [Act.put, List.setIfInBounds_toArray, List.set_cons_zero, List.set_cons_succ, i64_w, i32_w]
              rfl
            refine pure_ (i := 16) (N := some 82) (v := ?_) (a' := ?_) #[true, true, true, true, true, true, true, true, true, true, true, true, true, true, true, true, true, false] rfl rfl (by kernel_rfl) (fun _ _ _ h => nomatch h.1) (Or.inl ⟨by rfl, ?_⟩) ?_ ?_
            rotate_left
            · intro w'
              go_simp
              with_reducible rfl
            rotate_left
            · simp only [Act.put, List.setIfInBounds_toArray, List.set_cons_zero, List.set_cons_succ, i64_w, i32_w]
              rfl
            refine pure_ (i := 17) (N := some 83) (v := ?_) (a' := ?_) #[true, true, true, true, true, true, true, true, true, true, true, true, true, true, true, true, true, true] rfl rfl (by kernel_rfl) (fun _ _ _ h => nomatch h.1) (Or.inl ⟨by rfl, ?_⟩) ?_ ?_
            rotate_left
            · intro w'
              go_simp
              with_reducible rfl
            rotate_left
            · simp only [Act.put, List.setIfInBounds_toArray, List.set_cons_zero, List.set_cons_succ, i64_w, i32_w]
              rfl
            refine done_ (by kernel_rfl) ?_

            refine ⟨rfl, ⟨.pointer (some (ad.add (k * 4))), ?_⟩, B1.out⟩
            simp only [putAll, List.foldl_cons, List.foldl_nil, List.setIfInBounds_toArray, List.set_cons_zero, List.set_cons_succ]
          case k =>
            intro v W2 hW2
            simp only [putAll, List.foldl_cons, List.foldl_nil, List.setIfInBounds_toArray, List.set_cons_zero, List.set_cons_succ]
            have hZ2 := HZ.out.below hW2 HZ.out.agr.size E5.out.lt
            have hE2 := E5.out.move hZ2.agr
            have a6 : ∀ o, (W2.alloc o).cell? ⟨b6, 0, none⟩ = some (.func (.func 17) #[] #[.pointer (some ⟨bn, 0, none⟩)]) := fun o => cell_al o ((blk_cell hE2.h6 0).trans rfl)
            have HW2 := hide hW2
            have HE2 := hide hE2
            have HZ2 := hide hZ2
            clear hW2 hZ2 hE2 HS HSM
            gi_wp2
            clear a6
            obtain ⟨W3, hW3⟩ : ∃ W3, W2.alloc (.cells #[.int .i64 0] 3) = W3 := ⟨_, rfl⟩
            have hb23 : Below W2.heap.size W2 W3 := by rw [← hW3]; exact below_alloc (Below.refl _ _) _
            have hs3 : W3.heap.size = W2.heap.size + 1 := by rw [← hW3]; simp
            have h12 : W3.heap[W2.heap.size]? = some (counter 0) := by rw [← hW3]; exact blk_new W2 _
            rw [hW3]
            have hE2 := HE2.out
            have hag3 : Agr W2.heap.size (fun j => j = b7) W2 W3 := ⟨hb23.size, fun j hj _ => hb23.block j hj⟩
            have hE3 := hE2.move hag3
            have hkd3 : RdF W3 (okF W3.heap.size (fun j => j = W2.heap.size)) x A2 c2' := ⟨Kd.F_mono (Kd.F_below hE2.kids.kids hb23) (fun j hj => ⟨by have := hj.1; omega, fun (e : j = W2.heap.size) => by have := hj.1; omega⟩), hE2.kids.cap⟩
            have hnn : ¬ bn = W2.heap.size := by have := blk_lt hE2.hn; omega
            obtain ⟨r0, hr0⟩ := HLR.out
            have hl3 : W3.heap[l]? = some (.loop r0) := (hb23.block l (by have := blk_lt hr0; have := HW2.out.size; omega)).trans ((HW2.out.block l (blk_lt hr0)).trans hr0)
            have HB23 := hide hb23
            have HE3 := hide hE3
            have HKD := hide hkd3
            have H12 := hide h12
            have HS3 := hide hs3
            have HL3 := hide hl3
            clear hE2 hb23 hs3 h12 hag3 hE3 hkd3 hr0 hl3 hW3
            refine range_two (x := x) (A := A2) (c := c2') (bn := bn) (b7 := W2.heap.size) HL3.out (by omega) rfl HF.out (by rw [HL.out]; omega) (by rw [HS3.out]; omega) HE3.out.hn hnn HKD.out 4 (fun _ _ h => wpIn_exit (by simpa [Exit.inBlock] using h)) H12.out ?b3 ?c3
            case b3 =>
              intro l2 pre2 y2 W4 hws4 hlt2
              obtain ⟨k3, hk3⟩ : ∃ k3, pre2.length = k3 := ⟨_, rfl⟩
              rw [hk3] at hws4 hlt2
              have a12 : W4.cell? ⟨W2.heap.size, 0, none⟩ = some (.int .i64 (k3 : Nat)) := (blk_cell hws4.cnt 0).trans rfl
              have f12 := blk_frozen hws4.cnt 0
              have HQ4 := hide (show Fr (XX (fun j => j = W2.heap.size) y2) W4 (W4.setCell ⟨W2.heap.size, 0, none⟩ (.int .i64 ((k3 : Int) + 1))) ∧ WZ W3 W2.heap.size (pre2 ++ [y2]).length (W4.setCell ⟨W2.heap.size, 0, none⟩ (.int .i64 ((k3 : Int) + 1))) from
                ⟨(Fr.refl _ _).setCell (p := ⟨W2.heap.size, 0, none⟩) (.inl (.inl rfl)) _, by rw [List.length_append, hk3]; exact hws4.bump⟩)
              have HL4 := hide (show (pre2 ++ [y2]).length = k3 + 1 by rw [List.length_append, hk3]; rfl)
              simp only [List.setIfInBounds_toArray, List.set_cons_zero, List.set_cons_succ]
              clear hws4 hk3
              by_cases h0 : k3 = 0
              · subst h0
                gi_wp2
                exact ⟨HQ4.out.1, HQ4.out.2, by rw [HL4.out]; decide⟩
              · obtain rfl : k3 = 1 := by omega
                gi_wp2
                exact ⟨HQ4.out.1, rfl, HQ4.out.2, by rw [HL4.out]⟩
            case c3 =>
              intro k3 W4 hws4 hk3
              rw [HL.out] at hk3
              have hz3 := HZ2.out.below HB23.out HZ2.out.agr.size E5.out.lt
              have g1 := HZ2.out.agr.size
              have g2 := HS3.out
              have g3 := hws4.agr.size
              have g4 := HW2.out.size
              have g5 := HZ.out.agr.size
              have g6 := E5.out.lt
              have hz4 : WZ W5 b7 k W4 := ⟨⟨by omega, fun j hj hn => (hws4.agr.keep j (by omega) (fun (e : j = W2.heap.size) => by omega)).trans (hz3.agr.keep j hj hn)⟩, (hws4.agr.keep b7 (by omega) (fun (e : b7 = W2.heap.size) => by omega)).trans hz3.cnt, hws4.same.1.trans hz3.same.1, hws4.same.2.1.trans hz3.same.2.1, hws4.same.2.2.trans hz3.same.2.2⟩
              have hkeep : ∀ j, j < W.heap.size → W4.heap[j]? = W.heap[j]? := fun j hj => (hws4.agr.keep j (by omega) (fun (e : j = W2.heap.size) => by omega)).trans ((HB23.out.block j (by omega)).trans (HW2.out.block j hj))
              have hE4 := E5.out.move hz4.agr
              have a5 : W4.cell? ⟨b5, 0, none⟩ = some (.slice (some ad) L c1) := by have := (blk_cell hE4.h5 0).trans rfl; rw [HL.out] at this; exact this
              have a12 : W4.cell? ⟨W2.heap.size, 0, none⟩ = some (.int .i64 (k3 : Nat)) := (blk_cell hws4.cnt 0).trans rfl
              have Q0 := hide (show KQ W5 W b7 k ⟨k, y, yA, yc⟩ b W4 from ⟨⟨y.f3, rfl, Kd.R_mono (Kd.R_move (Kd.R_bound HROW.out) (w1 := W4) (fun j hj => hkeep j hj.2.2.1)) (fun j hj => hj.1)⟩,
                ⟨hws4.same.1.trans (HB23.out.os.trans HW2.out.os), hws4.same.2.1.trans (HB23.out.tape.trans HW2.out.tape), hws4.same.2.2.trans (HB23.out.output.trans HW2.out.output), by omega, fun j hj _ => hkeep j hj⟩, (hkeep b (blk_lt HBX.out)).trans HBX.out, hz4⟩)
              have hmin : (if (L : Int) < 2 then (L : Int) else 2) = (k3 : Int) := by split <;> omega
              clear hk3
              obtain ⟨n, hn⟩ : ∃ n, y.f3.length = n := ⟨_, rfl⟩
              have HN := hide hn
              have hnb : n ≤ 2513169434843 := by rw [← hn]; exact HFY.out.len
              clear hn
              clear hz3 g1 g2 g3 g4 g5 g6 hz4 hkeep hE4 hws4
              gi_wp2
              gi_loopw [13] (fun v13 wr => ∃ i : Nat, i ≤ n ∧ v13 = .int .i64 i ∧ Aside0 (KQ W5 W b7 k ⟨k, y, yA, yc⟩ b wr)) (fun v13 _ => n - (intOf v13).toNat)
              case atStart => exact ⟨0, Nat.zero_le _, rfl, Q0⟩
              case round =>
                obtain ⟨i, hi, rfl, Q⟩ := hrel
                clear Q0
                have e3 : wr.cell? ⟨b, 3, none⟩ = some (.slice yA n yc) := by have := (blk_cell Q.out.box 3).trans rfl; rw [← HN.out]; exact this
                by_cases hlt : i < n
                · have hlti : (i : Int) < (n : Int) := by omega
                  obtain ⟨ks, hkl, hrw⟩ := Q.out.row
                  obtain ⟨ad9, e9⟩ : ∃ ad9, yA = some ad9 := by
                    obtain ⟨-, -, hC⟩ := R_C hrw
                    exact C_some hC (by have := HN.out; show 0 < y.f3.length; omega)
                  subst e9
                  obtain ⟨g, rfl⟩ := Kd.R_head hrw
                  clear hkl hrw
                  have HNUM := hide (fun (W' : World) (h : Below wr.heap.size wr W') => show Calls Tryd.prog 9 #[.int .i64 77] W' (fun e w2 => ∃ A9 c9, e = .returned (.agg #[.int .i64 1, .string mt, .int .i64 77, .slice A9 0 c9]) ∧ (∃ u, w2.cell? ⟨g, i * 4, none⟩ = some u) ∧ (∃ u, w2.cell? ⟨g, i * 4 + 1, none⟩ = some u) ∧ (∃ u, w2.cell? ⟨g, i * 4 + 2, none⟩ = some u) ∧ (∃ u, w2.cell? ⟨g, i * 4 + 3, none⟩ = some u) ∧
                      w2.frozen? ⟨g, i * 4, none⟩ = false ∧ w2.frozen? ⟨g, i * 4 + 1, none⟩ = false ∧ w2.frozen? ⟨g, i * 4 + 2, none⟩ = false ∧ w2.frozen? ⟨g, i * 4 + 3, none⟩ = false ∧ w2.cell? ⟨b, 3, none⟩ = some (.slice (some ⟨g, 0, none⟩) n yc) ∧
                      KQ W5 W b7 k ⟨k, y, some ⟨g, 0, none⟩, yc⟩ b ((((w2.setCell ⟨g, i * 4, none⟩ (.int .i64 1)).setCell ⟨g, i * 4 + 1, none⟩ (.string mt)).setCell ⟨g, i * 4 + 2, none⟩ (.int .i64 77)).setCell ⟨g, i * 4 + 3, none⟩ (.slice A9 0 c9))) from by
                    refine (gussetlaw05_num.calls 77 1 mt 77 [] W' rfl).mono ?_
                    rintro e w2 ⟨v3, rfl, hM, h2⟩
                    have hb := h.trans (h2.mono h.size)
                    obtain ⟨A9, c9, rfl, -, -⟩ := Kd.R_reads hM
                    obtain ⟨g', e', q⟩ := Q.out.put (n := 77) E5.out.lt HNE.out (by rw [HN.out]; exact hlt) hb (Kd.R_lower hM h.size)
                    cases e'
                    obtain ⟨q1, q2, q3, q4, q5, q6, q7, q8, q9⟩ := q
                    exact ⟨A9, c9, rfl, q1, q2, q3, q4, q5, q6, q7, q8, pw_cell_below hb e3, q9⟩)
                  gi_wp2
                  refine region_leaf (fun (v : Value × Value × Value) => [(103, v.1), (104, .slice (some ⟨g, 0, none⟩) n yc), (105, .int .i64 (i : Nat)), (106, v.2.1), (107, v.2.2)]) (fun W' => KQ W5 W b7 k ⟨k, y, some ⟨g, 0, none⟩, yc⟩ b W') ?h30 ?k30
                  case h30 =>
                    have hb0 : Below wr.heap.size wr wr.drew := below_drew (Below.refl _ _)
                    have e3d := pw_cell_below hb0 e3
                    refine start_in (n := 6) (S := fun w' => w'.cell? ⟨b, 3, none⟩ = some (.slice (some ⟨g, 0, none⟩) n yc)) (ds := [5]) #[false, false, false, false, false, false] (by kernel_rfl) rfl rfl (by kernel_rfl) no_out (e3d) (fun hHeld => ?_)
                    obtain ⟨wd, hwd⟩ : ∃ wd, wd = wr.drew := ⟨_, rfl⟩
                    rw [← hwd] at hHeld ⊢
                    have B0 := hide (show Below wr.heap.size wr wd by rw [hwd]; exact hb0)
                    clear hwd hb0
                    refine pure_ (i := 0) (N := some 103) (v := ?_) (a' := ?_) #[true, false, false, false, false, false] rfl rfl (by kernel_rfl) (fun _ _ _ h => nomatch h.1) (Or.inl ⟨by rfl, ?_⟩) ?_ ?_
                    rotate_left
                    · intro w'
                      go_simp
                      with_reducible rfl
                    rotate_left
                    · simp only [Act.put, List.setIfInBounds_toArray, List.set_cons_zero, List.set_cons_succ, i64_w, i32_w]
                      rfl
                    refine pure_ (i := 2) (N := some 105) (v := ?_) (a' := ?_) #[true, false, true, false, false, false] rfl rfl (by kernel_rfl) (fun _ _ _ h => nomatch h.1) (Or.inl ⟨by rfl, ?_⟩) ?_ ?_
                    rotate_left
                    · intro w'
                      go_simp
                      with_reducible rfl
                    rotate_left
                    · simp only [Act.put, List.setIfInBounds_toArray, List.set_cons_zero, List.set_cons_succ, i64_w, i32_w]
                      rfl
                    refine take_ (i := 1) (N := some 104) (v := ?_) (a' := ?_) #[true, true, true, false, false, false] rfl rfl (by kernel_rfl) (fun _ _ _ h => nomatch h.1) (Or.inl ⟨by rfl, ?_⟩) hHeld ?_ ?_
                    rotate_left
                    · intro w' s0
                      go_simp
                      with_reducible rfl
                    rotate_left
                    · simp only [Act.put, List.setIfInBounds_toArray, List.set_cons_zero, List.set_cons_succ, i64_w, i32_w]
                      rfl
                    refine one_ (i := 3) (N := some 106) #[true, true, true, true, false, false] rfl rfl (by kernel_rfl) (by decide) (fun K hK => ?_)
                    refine goes_ Tryd.func9 (by kernel_rfl) rfl #[.int .i64 77] (by rfl) rfl rfl (by simp only [List.map_toArray, List.map_cons, List.map_nil]; rfl) ?_
                    with_reducible refine (HNUM.out _ B0.out).mono ?_
                    rintro e w3 ⟨A9, c9, rfl, ⟨u0, q1⟩, ⟨u1, q2⟩, ⟨u2, q3⟩, ⟨u3, q4⟩, q5, q6, q7, q8, q10, q9⟩
                    refine ⟨_, rfl, ?_⟩
                    have Q9 := hide q9
                    clear q9
                    refine hK.out _ _ (q10) (fun hHeld => ?_)
                    clear hK K
                    refine norm_ (a' := ?_) ?_ ?_
                    rotate_left
                    · show Act.put _ (some 106) _ = _
                      simp only [Act.put, List.setIfInBounds_toArray, List.set_cons_zero, List.set_cons_succ, i64_w, i32_w]
                      rfl
                    refine pure_ (i := 4) (N := some 107) (v := ?_) (a' := ?_) #[true, true, true, true, true, false] rfl rfl (by kernel_rfl) (fun _ _ _ h => nomatch h.1) (Or.inl ⟨by rfl, ?_⟩) ?_ ?_
                    rotate_left
                    · intro w'
                      go_simp
                      with_reducible rfl
                    rotate_left
                    · simp only [Act.put, List.setIfInBounds_toArray, List.set_cons_zero, List.set_cons_succ, i64_w, i32_w]
                      rfl
                    refine last_ (i := 5) (N := none) #[true, true, true, true, true, true] rfl rfl (by kernel_rfl) (by decide) (fun K hK => ?_)
                    refine skip_ (w1 := ?_) (by rfl) rfl ?_ ?_
                    rotate_left
                    · go_simp
                      rfl
                    refine hK.out _ _ ?_
                    clear hK K
                    refine done_ (by kernel_rfl) ?_

                    refine ⟨rfl, ⟨(.pointer (some ⟨b, 3, none⟩), .agg #[.int .i64 1, .string mt, .int .i64 77, .slice A9 0 c9], .pointer (some ⟨g, i * 4, none⟩)), ?_⟩, Q9.out⟩
                    simp only [putAll, List.foldl_cons, List.foldl_nil, List.setIfInBounds_toArray, List.set_cons_zero, List.set_cons_succ]
                  case k30 =>
                    intro v9 w9 hw9
                    have Q2 := hide hw9
                    clear hw9
                    simp only [putAll, List.foldl_cons, List.foldl_nil, List.setIfInBounds_toArray, List.set_cons_zero, List.set_cons_succ]
                    gi_wp2
                    go_roundw
                    case rel => exact ⟨i + 1, by omega, by go_num, Q2⟩
                    case measure => simp [intOf]; omega
                · obtain rfl : i = n := by omega
                  have a7 : wr.cell? ⟨b7, 0, none⟩ = some (.int .i64 (k : Nat)) := (blk_cell Q.out.z.cnt 0).trans rfl
                  have f7 := blk_frozen Q.out.z.cnt 0
                  gi_wp2
                  refine ⟨Q.out.fr.setCell (p := ⟨b7, 0, none⟩) (.inl (.inl rfl)) _, ?_, trivial⟩
                  rw [List.length_append, HK.out]
                  exact Q.out.z.bump

        case cont2 =>
          rintro D2 k2 W6 hD2 hws hck hDK
          have hk2 : k2 = L := by rcases hck with ⟨-, e⟩ | ⟨h, -⟩; rw [e, HL.out]; exact h.elim
          subst hk2
          have hE6 := E5.out.move hws.agr
          have a4 : W6.cell? ⟨w.heap.size + 1 + 1, 0, none⟩ = some (.bool false) := (blk_cell hE6.h4 0).trans rfl
          have f4 : W6.frozen? ⟨w.heap.size + 1 + 1, 0, none⟩ = false := blk_frozen hE6.h4 0
          have a5 : W6.cell? ⟨b5, 0, none⟩ = some (.slice A1 k2 c1) := by have := (blk_cell hE6.h5 0).trans rfl; rw [HL.out] at this; exact this
          have a7 : W6.cell? ⟨b7, 0, none⟩ = some (.int .i64 (k2 : Nat)) := (blk_cell hws.cnt 0).trans rfl
          have hdk : ∀ D' u, W6.heap[D']? = some (Obj.deferred (some [])) → (W6.setCell ⟨w.heap.size + 1 + 1, 0, none⟩ u).heap[D']? = some (Obj.deferred (some [])) := fun D' u h => (Below.heap_setCell W6 _ _ _ (fun (e : D' = w.heap.size + 1 + 1) => by rw [e] at h; have := hE6.h4; rw [show w.heap.size + 1 + 1 = w.heap.size + 2 from rfl, this] at h; cases h)).trans h
          have HD2 := hide (hdk D2 (.bool true) hDK)
          have HD1 := hide (hdk D (.bool true) ((hws.agr.keep D (blk_lt HD5.out.1) HD5.out.2).trans HD5.out.1))
          have H4 := hide (blk_put (cs := #[.bool false]) hE6.h4 0 (.bool true) rfl)
          have HDD := hide (show D ≠ D2 by have := blk_lt HD5.out.1; omega)
          have HDB := hide (show w.heap.size + 2 ≠ D2 ∧ w.heap.size + 2 ≠ D from ⟨fun e => (by rw [← e, hE6.h4] at hDK; cases hDK), fun e => (by have h := (hws.agr.keep D (blk_lt HD5.out.1) HD5.out.2).trans HD5.out.1; rw [← e, hE6.h4] at h; cases h)⟩)
          have HBE := hide (show Below w.heap.size w W6 from ⟨hws.same.1.trans HSM5.out.1, hws.same.2.1.trans HSM5.out.2.1, hws.same.2.2.trans HSM5.out.2.2, hE6.lsz, hE6.low⟩)
          have HDW2 := hide (show w.heap.size ≤ D2 by have := E5.out.lsz; omega)
          clear hdk hDK hE6 hws hck hD2
          go_wp2
          refine ⟨by simp, .inl ⟨_, _, rfl, run_takeDeferred HD2.out, ?_⟩⟩
          refine ⟨by simp, .inl ⟨_, _, rfl, run_takeDeferred ((World.putObj_heap_other HDD.out).trans HD1.out), ?_⟩⟩
          obtain ⟨W9, hW9⟩ : ∃ W9, ((W6.setCell ⟨w.heap.size + 1 + 1, 0, none⟩ (.bool true)).putObj D2 (Obj.deferred none)).putObj D (Obj.deferred none) = W9 := ⟨_, rfl⟩
          have HB9 := hide (show Below w.heap.size w W9 from by rw [← hW9]; exact ((HBE.out.setCell (p := ⟨w.heap.size + 1 + 1, 0, none⟩) (Nat.le_add_right _ 2) _).trans (below_putObj HDW2.out _)).trans (below_putObj HDW.out _))
          have hc0 : W9.heap[w.heap.size + 2]? = some (Obj.cells #[.bool true] 4 (0, 0)) := by
            rw [← hW9]
            exact (World.putObj_heap_other HDB.out.2).trans ((World.putObj_heap_other HDB.out.1).trans H4.out)
          have hc : W9.cell? ⟨w.heap.size + 1 + 1, 0, none⟩ = some (.bool true) := (blk_cell hc0 0).trans rfl
          rw [hW9]
          exact ⟨.bool true, (by simp [results, Tryd.results3, go_sem, hc]), rfl, HB9.out⟩
    · have d1 : decide (1 ≤ a) = false := by simpa using h1
      clear hck h1
      go_wp2
      clear a3 a5 a6 a7 f7 hW5
      (try clear d1); (try clear d2); (try clear d3); (try clear d4)
      refine (wpIn_wide (n := 12)).1 ?_
      refine range_tree (x := x) (A := A2) (c := c2') (bn := bn) (b7 := b7) (by omega) rfl HF.out (by rw [HL.out]; omega) E5.out.lt E5.out.hn E5.out.nn E5.out.kids 2 (fun _ _ h => wpIn_exit (by simpa [Exit.inBlock] using h)) (fun _ => True) (fun _ => False) trivial H75.out
        (fun t y b => ((((t.setIfInBounds 64 (.int .i64 y.i)).setIfInBounds 65 (.agg #[.int .i64 y.y.f0, .string y.y.f1, .int .i64 y.y.f2, .slice y.A y.y.f3.length y.c])).setIfInBounds 10 (.int .i64 y.i)).setIfInBounds 11 (.pointer (some ⟨b, 0, none⟩)))) ?as2 ?body2 ?cont2
      case as2 =>
        intro l y W K hK
        simp only [List.setIfInBounds_toArray, List.set_cons_zero, List.set_cons_succ] at hK ⊢
        gi_wp2
        refine hK _ _ (below_alloc (Below.refl _ _) _) (blk_new W _) (Nat.le_refl _)
      case body2 =>
        rintro l pre ⟨yi, y, yA, yc⟩ b W hl hlr hws hc hv hbx hble hne hlen
        obtain ⟨k, hk⟩ : ∃ k, pre.length = k := ⟨_, rfl⟩
        obtain ⟨e1, hy, hrow⟩ := hv
        simp only at e1
        rw [hk] at hws hlen hy e1
        have e1 := e1.symm
        subst e1
        simp only at hy hrow
        have hE := E5.out.move hws.agr
        obtain ⟨ad, A', c', rfl, hry, k0, k1, k2, k3⟩ := hE.elem hy
        rw [HL.out] at hlen
        have hfy : Fit y := flat_fit _ x (Nat.le_refl _) HF.out y (List.mem_of_getElem? hy)
        obtain ⟨-, hcy, hCy⟩ := R_C hrow
        have b0 : W.cell? ⟨b, 0, none⟩ = some (.int .i64 y.f0) := (blk_cell hbx 0).trans rfl
        have b1 : W.cell? ⟨b, 1, none⟩ = some (.string y.f1) := (blk_cell hbx 1).trans rfl
        have b2 : W.cell? ⟨b, 2, none⟩ = some (.int .i64 y.f2) := (blk_cell hbx 2).trans rfl
        have b3 : W.cell? ⟨b, 3, none⟩ = some (.slice yA y.f3.length yc) := (blk_cell hbx 3).trans rfl
        have a5 : W.cell? ⟨b5, 0, none⟩ = some (.slice (some ad) L c1) := by have := (blk_cell hE.h5 0).trans rfl; rw [HL.out] at this; exact this
        have a7 : W.cell? ⟨b7, 0, none⟩ = some (.int .i64 (k : Nat)) := (blk_cell hws.cnt 0).trans rfl
        have hsm : ∀ W', Below W.heap.size W W' → Calls Tryd.prog 8 #[.agg #[.int .i64 y.f0, .string y.f1, .int .i64 y.f2, .slice yA y.f3.length yc], .agg #[.int .i64 y.f0, .string y.f1, .int .i64 y.f2, .slice A' y.f3.length c']] W' fun e W2 => e = .returned (.bool true) ∧ Below W'.heap.size W' W2 := by
          intro W' hbd
          have hrd : Rd W y yA yc := ⟨hCy, hcy⟩
          refine (rsame_any hfy hfy (hrd.below hbd) (hry.below hbd)).mono ?_
          rintro e W2 ⟨rfl, h2⟩
          exact ⟨by rw [sm_true rfl], h2⟩
        have hSS : ∀ W', Below W.heap.size W W' → W'.cell? ⟨b, 0, none⟩ = some (.int .i64 y.f0) ∧ W'.cell? ⟨b, 1, none⟩ = some (.string y.f1) ∧ W'.cell? ⟨b, 2, none⟩ = some (.int .i64 y.f2) ∧ W'.cell? ⟨b, 3, none⟩ = some (.slice yA y.f3.length yc) ∧ W'.cell? ⟨b5, 0, none⟩ = some (.slice (some ad) L c1) ∧ W'.cell? ⟨b7, 0, none⟩ = some (.int .i64 (k : Nat)) ∧ W'.cell? (ad.add (k * 4)) = some (.int .i64 y.f0) ∧ W'.cell? ⟨(ad.add (k * 4)).block, (ad.add (k * 4)).off + 1, none⟩ = some (.string y.f1) ∧ W'.cell? ⟨(ad.add (k * 4)).block, (ad.add (k * 4)).off + 2, none⟩ = some (.int .i64 y.f2) ∧ W'.cell? ⟨(ad.add (k * 4)).block, (ad.add (k * 4)).off + 3, none⟩ = some (.slice A' y.f3.length c')
          := fun W' h => ⟨pw_cell_below h b0, pw_cell_below h b1, pw_cell_below h b2, pw_cell_below h b3, pw_cell_below h a5, pw_cell_below h a7, pw_cell_below h k0, pw_cell_below h k1, pw_cell_below h k2, pw_cell_below h k3⟩
        have HS := hide hSS
        have HSM := hide hsm
        have HK := hide hk
        have HROW := hide hrow
        have HFY := hide hfy
        have HNE := hide hne
        have HLR := hide hlr
        have HBX := hide hbx
        have HBL := hide hble
        have HZ := hide hws
        have hkL : (k : Int) < (L : Int) := by omega
        have hkd : decide (L ≤ k) = false := decide_eq_false (by omega)
        have hkb : k < 1048576 := by omega
        clear hsm hSS hk hc hlen hws hrow hne hlr hbx hble hy hry hE hfy hcy hCy b0 b1 b2 b3 a5 a7 k0 k1 k2 k3
        simp only [List.setIfInBounds_toArray, List.set_cons_zero, List.set_cons_succ]
        gi_wp2
        have hb0 : Below W.heap.size W W.drew := below_drew (Below.refl _ _)
        refine region_leaf (fun (v : Value) => [(66, .int .i64 (k : Nat)), (67, .int .i64 (k : Nat)), (68, .bool false), (69, .bool false), (70, .int .i64 (k : Nat)), (71, .slice (some ad) L c1), (72, .int .i64 (L : Nat)), (73, .bool false), (74, .bool false), (75, .bool false), (76, .agg #[.int .i64 y.f0, .string y.f1, .int .i64 y.f2, .slice yA y.f3.length yc]), (77, .slice (some ad) L c1), (78, .int .i64 (k : Nat)), (79, v), (80, .agg #[.int .i64 y.f0, .string y.f1, .int .i64 y.f2, .slice A' y.f3.length c']), (81, .bool true), (82, .bool false), (83, .bool false)]) (fun W2 => Below W.heap.size W W2) ?h ?k
        case h =>
          refine start_in (n := 18) (S := fun w' => w'.cell? ⟨b, 0, none⟩ = some (.int .i64 y.f0) ∧ w'.cell? ⟨b, 1, none⟩ = some (.string y.f1) ∧ w'.cell? ⟨b, 2, none⟩ = some (.int .i64 y.f2) ∧ w'.cell? ⟨b, 3, none⟩ = some (.slice yA y.f3.length yc) ∧ w'.cell? ⟨b5, 0, none⟩ = some (.slice (some ad) L c1) ∧ w'.cell? ⟨b7, 0, none⟩ = some (.int .i64 (k : Nat)) ∧ w'.cell? (ad.add (k * 4)) = some (.int .i64 y.f0) ∧ w'.cell? ⟨(ad.add (k * 4)).block, (ad.add (k * 4)).off + 1, none⟩ = some (.string y.f1) ∧ w'.cell? ⟨(ad.add (k * 4)).block, (ad.add (k * 4)).off + 2, none⟩ = some (.int .i64 y.f2) ∧ w'.cell? ⟨(ad.add (k * 4)).block, (ad.add (k * 4)).off + 3, none⟩ = some (.slice A' y.f3.length c')) (ds := []) #[false, false, false, false, false, false, false, false, false, false, false, false, false, false, false, false, false, false] (by kernel_rfl) rfl rfl (by kernel_rfl) no_out ⟨(HS.out _ hb0).1, (HS.out _ hb0).2.1, (HS.out _ hb0).2.2.1, (HS.out _ hb0).2.2.2.1, (HS.out _ hb0).2.2.2.2.1, (HS.out _ hb0).2.2.2.2.2.1, (HS.out _ hb0).2.2.2.2.2.2.1, (HS.out _ hb0).2.2.2.2.2.2.2.1, (HS.out _ hb0).2.2.2.2.2.2.2.2.1, (HS.out _ hb0).2.2.2.2.2.2.2.2.2⟩ (fun hHeld => ?_)
          obtain ⟨wd, hwd⟩ : ∃ wd, wd = W.drew := ⟨_, rfl⟩
          rw [← hwd] at hHeld ⊢
          have B0 := hide (show Below W.heap.size W wd by rw [hwd]; exact hb0)
          clear hwd hb0
          refine pure_ (i := 0) (N := some 66) (v := ?_) (a' := ?_) #[true, false, false, false, false, false, false, false, false, false, false, false, false, false, false, false, false, false] rfl rfl (by kernel_rfl) (fun _ _ _ h => nomatch h.1) (Or.inl ⟨by rfl, ?_⟩) ?_ ?_
          rotate_left
          · intro w'
            go_simp
            with_reducible rfl
          rotate_left
          · simp only [Act.put, List.setIfInBounds_toArray, List.set_cons_zero, List.set_cons_succ, i64_w, i32_w]
            rfl
          refine take_ (i := 1) (N := some 67) (v := ?_) (a' := ?_) #[true, true, false, false, false, false, false, false, false, false, false, false, false, false, false, false, false, false] rfl rfl (by kernel_rfl) (fun _ _ _ h => nomatch h.1) (Or.inl ⟨by rfl, ?_⟩) hHeld ?_ ?_
          rotate_left
          · rintro w' ⟨s0, s1, s2, s3, s4, s5, s6, s7, s8, s9⟩
            go_simp
            with_reducible rfl
          rotate_left
          · simp only [Act.put, List.setIfInBounds_toArray, List.set_cons_zero, List.set_cons_succ, i64_w, i32_w]
            rfl
          refine pure_ (i := 2) (N := some 68) (v := ?_) (a' := ?_) #[true, true, true, false, false, false, false, false, false, false, false, false, false, false, false, false, false, false] rfl rfl (by kernel_rfl) (fun _ _ _ h => nomatch h.1) (Or.inl ⟨by rfl, ?_⟩) ?_ ?_
          rotate_left
          · intro w'
            go_simp
            with_reducible rfl
          rotate_left
          · simp only [Act.put, List.setIfInBounds_toArray, List.set_cons_zero, List.set_cons_succ, i64_w, i32_w]
            rfl
          refine pure_ (i := 3) (N := some 69) (v := ?_) (a' := ?_) #[true, true, true, true, false, false, false, false, false, false, false, false, false, false, false, false, false, false] rfl rfl (by kernel_rfl) (fun _ _ _ h => nomatch h.1) (Or.inl ⟨by rfl, ?_⟩) ?_ ?_
          rotate_left
          · intro w'
            go_simp
            with_reducible rfl
          rotate_left
          · simp only [Act.put, List.setIfInBounds_toArray, List.set_cons_zero, List.set_cons_succ, i64_w, i32_w]
            rfl
          refine pure_ (i := 4) (N := some 70) (v := ?_) (a' := ?_) #[true, true, true, true, true, false, false, false, false, false, false, false, false, false, false, false, false, false] rfl rfl (by kernel_rfl) (fun _ _ _ h => nomatch h.1) (Or.inl ⟨by rfl, ?_⟩) ?_ ?_
          rotate_left
          · intro w'
            go_simp
            with_reducible rfl
          rotate_left
          · simp only [Act.put, List.setIfInBounds_toArray, List.set_cons_zero, List.set_cons_succ, i64_w, i32_w]
            rfl
          refine take_ (i := 5) (N := some 71) (v := ?_) (a' := ?_) #[true, true, true, true, true, true, false, false, false, false, false, false, false, false, false, false, false, false] rfl rfl (by kernel_rfl) (fun _ _ _ h => nomatch h.1) (Or.inl ⟨by rfl, ?_⟩) hHeld ?_ ?_
          rotate_left
          · rintro w' ⟨s0, s1, s2, s3, s4, s5, s6, s7, s8, s9⟩
            go_simp
            with_reducible rfl
          rotate_left
          · simp only [Act.put, List.setIfInBounds_toArray, List.set_cons_zero, List.set_cons_succ, i64_w, i32_w]
            rfl
          refine pure_ (i := 6) (N := some 72) (v := ?_) (a' := ?_) #[true, true, true, true, true, true, true, false, false, false, false, false, false, false, false, false, false, false] rfl rfl (by kernel_rfl) (fun _ _ _ h => nomatch h.1) (Or.inl ⟨by rfl, ?_⟩) ?_ ?_
          rotate_left
          · intro w'
            go_simp
            with_reducible rfl
          rotate_left
          · simp only [Act.put, List.setIfInBounds_toArray, List.set_cons_zero, List.set_cons_succ, i64_w, i32_w]
            rfl
          refine pure_ (i := 7) (N := some 73) (v := ?_) (a' := ?_) #[true, true, true, true, true, true, true, true, false, false, false, false, false, false, false, false, false, false] rfl rfl (by kernel_rfl) (fun _ _ _ h => nomatch h.1) (Or.inl ⟨by rfl, ?_⟩) ?_ ?_
          rotate_left
          · intro w'
            go_simp
            with_reducible rfl
          rotate_left
          · simp only [Act.put, List.setIfInBounds_toArray, List.set_cons_zero, List.set_cons_succ, i64_w, i32_w]
            rfl
          refine pure_ (i := 8) (N := some 74) (v := ?_) (a' := ?_) #[true, true, true, true, true, true, true, true, true, false, false, false, false, false, false, false, false, false] rfl rfl (by kernel_rfl) (fun _ _ _ h => nomatch h.1) (Or.inl ⟨by rfl, ?_⟩) ?_ ?_
          rotate_left
          · intro w'
            go_simp
            with_reducible rfl
          rotate_left
          · simp only [Act.put, List.setIfInBounds_toArray, List.set_cons_zero, List.set_cons_succ, i64_w, i32_w]
            rfl
          refine pure_ (i := 9) (N := some 75) (v := ?_) (a' := ?_) #[true, true, true, true, true, true, true, true, true, true, false, false, false, false, false, false, false, false] rfl rfl (by kernel_rfl) (fun _ _ _ h => nomatch h.1) (Or.inl ⟨by rfl, ?_⟩) ?_ ?_
          rotate_left
          · intro w'
            go_simp
            with_reducible rfl
          rotate_left
          · simp only [Act.put, List.setIfInBounds_toArray, List.set_cons_zero, List.set_cons_succ, i64_w, i32_w]
            rfl
          refine pure_ (i := 12) (N := some 78) (v := ?_) (a' := ?_) #[true, true, true, true, true, true, true, true, true, true, false, false, true, false, false, false, false, false] rfl rfl (by kernel_rfl) (fun _ _ _ h => nomatch h.1) (Or.inl ⟨by rfl, ?_⟩) ?_ ?_
          rotate_left
          · intro w'
            go_simp
            with_reducible rfl
          rotate_left
          · simp only [Act.put, List.setIfInBounds_toArray, List.set_cons_zero, List.set_cons_succ, i64_w, i32_w]
            rfl
          refine take_ (i := 10) (N := some 76) (v := ?_) (a' := ?_) #[true, true, true, true, true, true, true, true, true, true, true, false, true, false, false, false, false, false] rfl rfl (by kernel_rfl) (fun _ _ _ h => nomatch h.1) (Or.inl ⟨by rfl, ?_⟩) hHeld ?_ ?_
          rotate_left
          · rintro w' ⟨s0, s1, s2, s3, s4, s5, s6, s7, s8, s9⟩
            go_simp
            with_reducible rfl
          rotate_left
          · simp only [Act.put, List.setIfInBounds_toArray, List.set_cons_zero, List.set_cons_succ, i64_w, i32_w]
            rfl
          refine take_ (i := 11) (N := some 77) (v := ?_) (a' := ?_) #[true, true, true, true, true, true, true, true, true, true, true, true, true, false, false, false, false, false] rfl rfl (by kernel_rfl) (fun _ _ _ h => nomatch h.1) (Or.inl ⟨by rfl, ?_⟩) hHeld ?_ ?_
          rotate_left
          · rintro w' ⟨s0, s1, s2, s3, s4, s5, s6, s7, s8, s9⟩
            go_simp
            with_reducible rfl
          rotate_left
          · simp only [Act.put, List.setIfInBounds_toArray, List.set_cons_zero, List.set_cons_succ, i64_w, i32_w]
            rfl
          refine pure_ (i := 13) (N := some 79) (v := ?_) (a' := ?_) #[true, true, true, true, true, true, true, true, true, true, true, true, true, true, false, false, false, false] rfl rfl (by kernel_rfl) (fun _ _ _ h => nomatch h.1) (Or.inl ⟨by rfl, ?_⟩) ?_ ?_
          rotate_left
          · intro w'
            go_simp
            with_reducible rfl
          rotate_left
          · simp only [Act.put, List.setIfInBounds_toArray, List.set_cons_zero, List.set_cons_succ, i64_w, i32_w]
            rfl
          refine take_ (i := 14) (N := some 80) (v := ?_) (a' := ?_) #[true, true, true, true, true, true, true, true, true, true, true, true, true, true, true, false, false, false] rfl rfl (by kernel_rfl) (fun _ _ _ h => nomatch h.1) (Or.inl ⟨by rfl, ?_⟩) hHeld ?_ ?_
          rotate_left
          · rintro w' ⟨s0, s1, s2, s3, s4, s5, s6, s7, s8, s9⟩
            go_simp
            with_reducible rfl
          rotate_left
          · simp only [Act.put, List.setIfInBounds_toArray, List.set_cons_zero, List.set_cons_succ, i64_w, i32_w]
            rfl
          refine one_ (i := 15) (N := some 81) #[true, true, true, true, true, true, true, true, true, true, true, true, true, true, true, true, false, false] rfl rfl (by kernel_rfl) (by decide) (fun K hK => ?_)
          refine goes_ Tryd.func8 (by kernel_rfl) rfl #[.agg #[.int .i64 y.f0, .string y.f1, .int .i64 y.f2, .slice yA y.f3.length yc], .agg #[.int .i64 y.f0, .string y.f1, .int .i64 y.f2, .slice A' y.f3.length c']] (by rfl) rfl rfl (by simp only [List.map_toArray, List.map_cons, List.map_nil]; rfl) ?_
          with_reducible refine (HSM.out _ B0.out).mono ?_
          rintro e w3 ⟨rfl, hk⟩
          refine ⟨_, rfl, ?_⟩
          have B1 := hide (B0.out.trans (hk.mono B0.out.size))
          clear hk
          refine hK.out _ _ ⟨(HS.out _ B1.out).1, (HS.out _ B1.out).2.1, (HS.out _ B1.out).2.2.1, (HS.out _ B1.out).2.2.2.1, (HS.out _ B1.out).2.2.2.2.1, (HS.out _ B1.out).2.2.2.2.2.1, (HS.out _ B1.out).2.2.2.2.2.2.1, (HS.out _ B1.out).2.2.2.2.2.2.2.1, (HS.out _ B1.out).2.2.2.2.2.2.2.2.1, (HS.out _ B1.out).2.2.2.2.2.2.2.2.2⟩ (fun hHeld => ?_)
          clear hK K
          refine norm_ (a' := ?_) ?_ ?_
          rotate_left
          · show Act.put _ (some 81) _ = _
            simp only [Act.put, List.setIfInBounds_toArray, List.set_cons_zero, List.set_cons_succ, i64_w, i32_w]
            rfl
          refine pure_ (i := 16) (N := some 82) (v := ?_) (a' := ?_) #[true, true, true, true, true, true, true, true, true, true, true, true, true, true, true, true, true, false] rfl rfl (by kernel_rfl) (fun _ _ _ h => nomatch h.1) (Or.inl ⟨by rfl, ?_⟩) ?_ ?_
          rotate_left
          · intro w'
            go_simp
            with_reducible rfl
          rotate_left
          · simp only [Act.put, List.setIfInBounds_toArray, List.set_cons_zero, List.set_cons_succ, i64_w, i32_w]
            rfl
          refine pure_ (i := 17) (N := some 83) (v := ?_) (a' := ?_) #[true, true, true, true, true, true, true, true, true, true, true, true, true, true, true, true, true, true] rfl rfl (by kernel_rfl) (fun _ _ _ h => nomatch h.1) (Or.inl ⟨by rfl, ?_⟩) ?_ ?_
          rotate_left
          · intro w'
            go_simp
            with_reducible rfl
          rotate_left
          · simp only [Act.put, List.setIfInBounds_toArray, List.set_cons_zero, List.set_cons_succ, i64_w, i32_w]
            rfl
          refine done_ (by kernel_rfl) ?_

          refine ⟨rfl, ⟨.pointer (some (ad.add (k * 4))), ?_⟩, B1.out⟩
          simp only [putAll, List.foldl_cons, List.foldl_nil, List.setIfInBounds_toArray, List.set_cons_zero, List.set_cons_succ]
        case k =>
          intro v W2 hW2
          simp only [putAll, List.foldl_cons, List.foldl_nil, List.setIfInBounds_toArray, List.set_cons_zero, List.set_cons_succ]
          have hZ2 := HZ.out.below hW2 HZ.out.agr.size E5.out.lt
          have hE2 := E5.out.move hZ2.agr
          have a6 : ∀ o, (W2.alloc o).cell? ⟨b6, 0, none⟩ = some (.func (.func 17) #[] #[.pointer (some ⟨bn, 0, none⟩)]) := fun o => cell_al o ((blk_cell hE2.h6 0).trans rfl)
          have HW2 := hide hW2
          have HE2 := hide hE2
          have HZ2 := hide hZ2
          clear hW2 hZ2 hE2 HS HSM
          gi_wp2
          clear a6
          obtain ⟨W3, hW3⟩ : ∃ W3, W2.alloc (.cells #[.int .i64 0] 3) = W3 := ⟨_, rfl⟩
          have hb23 : Below W2.heap.size W2 W3 := by rw [← hW3]; exact below_alloc (Below.refl _ _) _
          have hs3 : W3.heap.size = W2.heap.size + 1 := by rw [← hW3]; simp
          have h12 : W3.heap[W2.heap.size]? = some (counter 0) := by rw [← hW3]; exact blk_new W2 _
          rw [hW3]
          have hE2 := HE2.out
          have hag3 : Agr W2.heap.size (fun j => j = b7) W2 W3 := ⟨hb23.size, fun j hj _ => hb23.block j hj⟩
          have hE3 := hE2.move hag3
          have hkd3 : RdF W3 (okF W3.heap.size (fun j => j = W2.heap.size)) x A2 c2' := ⟨Kd.F_mono (Kd.F_below hE2.kids.kids hb23) (fun j hj => ⟨by have := hj.1; omega, fun (e : j = W2.heap.size) => by have := hj.1; omega⟩), hE2.kids.cap⟩
          have hnn : ¬ bn = W2.heap.size := by have := blk_lt hE2.hn; omega
          obtain ⟨r0, hr0⟩ := HLR.out
          have hl3 : W3.heap[l]? = some (.loop r0) := (hb23.block l (by have := blk_lt hr0; have := HW2.out.size; omega)).trans ((HW2.out.block l (blk_lt hr0)).trans hr0)
          have HB23 := hide hb23
          have HE3 := hide hE3
          have HKD := hide hkd3
          have H12 := hide h12
          have HS3 := hide hs3
          have HL3 := hide hl3
          clear hE2 hb23 hs3 h12 hag3 hE3 hkd3 hr0 hl3 hW3
          refine range_two (x := x) (A := A2) (c := c2') (bn := bn) (b7 := W2.heap.size) HL3.out (by omega) rfl HF.out (by rw [HL.out]; omega) (by rw [HS3.out]; omega) HE3.out.hn hnn HKD.out 4 (fun _ _ h => wpIn_exit (by simpa [Exit.inBlock] using h)) H12.out ?b3 ?c3
          case b3 =>
            intro l2 pre2 y2 W4 hws4 hlt2
            obtain ⟨k3, hk3⟩ : ∃ k3, pre2.length = k3 := ⟨_, rfl⟩
            rw [hk3] at hws4 hlt2
            have a12 : W4.cell? ⟨W2.heap.size, 0, none⟩ = some (.int .i64 (k3 : Nat)) := (blk_cell hws4.cnt 0).trans rfl
            have f12 := blk_frozen hws4.cnt 0
            have HQ4 := hide (show Fr (XX (fun j => j = W2.heap.size) y2) W4 (W4.setCell ⟨W2.heap.size, 0, none⟩ (.int .i64 ((k3 : Int) + 1))) ∧ WZ W3 W2.heap.size (pre2 ++ [y2]).length (W4.setCell ⟨W2.heap.size, 0, none⟩ (.int .i64 ((k3 : Int) + 1))) from
              ⟨(Fr.refl _ _).setCell (p := ⟨W2.heap.size, 0, none⟩) (.inl (.inl rfl)) _, by rw [List.length_append, hk3]; exact hws4.bump⟩)
            have HL4 := hide (show (pre2 ++ [y2]).length = k3 + 1 by rw [List.length_append, hk3]; rfl)
            simp only [List.setIfInBounds_toArray, List.set_cons_zero, List.set_cons_succ]
            clear hws4 hk3
            by_cases h0 : k3 = 0
            · subst h0
              gi_wp2
              exact ⟨HQ4.out.1, HQ4.out.2, by rw [HL4.out]; decide⟩
            · obtain rfl : k3 = 1 := by omega
              gi_wp2
              exact ⟨HQ4.out.1, rfl, HQ4.out.2, by rw [HL4.out]⟩
          case c3 =>
            intro k3 W4 hws4 hk3
            rw [HL.out] at hk3
            have hz3 := HZ2.out.below HB23.out HZ2.out.agr.size E5.out.lt
            have g1 := HZ2.out.agr.size
            have g2 := HS3.out
            have g3 := hws4.agr.size
            have g4 := HW2.out.size
            have g5 := HZ.out.agr.size
            have g6 := E5.out.lt
            have hz4 : WZ W5 b7 k W4 := ⟨⟨by omega, fun j hj hn => (hws4.agr.keep j (by omega) (fun (e : j = W2.heap.size) => by omega)).trans (hz3.agr.keep j hj hn)⟩, (hws4.agr.keep b7 (by omega) (fun (e : b7 = W2.heap.size) => by omega)).trans hz3.cnt, hws4.same.1.trans hz3.same.1, hws4.same.2.1.trans hz3.same.2.1, hws4.same.2.2.trans hz3.same.2.2⟩
            have hkeep : ∀ j, j < W.heap.size → W4.heap[j]? = W.heap[j]? := fun j hj => (hws4.agr.keep j (by omega) (fun (e : j = W2.heap.size) => by omega)).trans ((HB23.out.block j (by omega)).trans (HW2.out.block j hj))
            have hE4 := E5.out.move hz4.agr
            have a5 : W4.cell? ⟨b5, 0, none⟩ = some (.slice (some ad) L c1) := by have := (blk_cell hE4.h5 0).trans rfl; rw [HL.out] at this; exact this
            have a12 : W4.cell? ⟨W2.heap.size, 0, none⟩ = some (.int .i64 (k3 : Nat)) := (blk_cell hws4.cnt 0).trans rfl
            have Q0 := hide (show KQ W5 W b7 k ⟨k, y, yA, yc⟩ b W4 from ⟨⟨y.f3, rfl, Kd.R_mono (Kd.R_move (Kd.R_bound HROW.out) (w1 := W4) (fun j hj => hkeep j hj.2.2.1)) (fun j hj => hj.1)⟩,
              ⟨hws4.same.1.trans (HB23.out.os.trans HW2.out.os), hws4.same.2.1.trans (HB23.out.tape.trans HW2.out.tape), hws4.same.2.2.trans (HB23.out.output.trans HW2.out.output), by omega, fun j hj _ => hkeep j hj⟩, (hkeep b (blk_lt HBX.out)).trans HBX.out, hz4⟩)
            have hmin : (if (L : Int) < 2 then (L : Int) else 2) = (k3 : Int) := by split <;> omega
            clear hk3
            obtain ⟨n, hn⟩ : ∃ n, y.f3.length = n := ⟨_, rfl⟩
            have HN := hide hn
            have hnb : n ≤ 2513169434843 := by rw [← hn]; exact HFY.out.len
            clear hn
            clear hz3 g1 g2 g3 g4 g5 g6 hz4 hkeep hE4 hws4
            gi_wp2
            gi_loopw [13] (fun v13 wr => ∃ i : Nat, i ≤ n ∧ v13 = .int .i64 i ∧ Aside0 (KQ W5 W b7 k ⟨k, y, yA, yc⟩ b wr)) (fun v13 _ => n - (intOf v13).toNat)
            case atStart => exact ⟨0, Nat.zero_le _, rfl, Q0⟩
            case round =>
              obtain ⟨i, hi, rfl, Q⟩ := hrel
              clear Q0
              have e3 : wr.cell? ⟨b, 3, none⟩ = some (.slice yA n yc) := by have := (blk_cell Q.out.box 3).trans rfl; rw [← HN.out]; exact this
              by_cases hlt : i < n
              · have hlti : (i : Int) < (n : Int) := by omega
                obtain ⟨ks, hkl, hrw⟩ := Q.out.row
                obtain ⟨ad9, e9⟩ : ∃ ad9, yA = some ad9 := by
                  obtain ⟨-, -, hC⟩ := R_C hrw
                  exact C_some hC (by have := HN.out; show 0 < y.f3.length; omega)
                subst e9
                obtain ⟨g, rfl⟩ := Kd.R_head hrw
                clear hkl hrw
                have HNUM := hide (fun (W' : World) (h : Below wr.heap.size wr W') => show Calls Tryd.prog 9 #[.int .i64 77] W' (fun e w2 => ∃ A9 c9, e = .returned (.agg #[.int .i64 1, .string mt, .int .i64 77, .slice A9 0 c9]) ∧ (∃ u, w2.cell? ⟨g, i * 4, none⟩ = some u) ∧ (∃ u, w2.cell? ⟨g, i * 4 + 1, none⟩ = some u) ∧ (∃ u, w2.cell? ⟨g, i * 4 + 2, none⟩ = some u) ∧ (∃ u, w2.cell? ⟨g, i * 4 + 3, none⟩ = some u) ∧
                    w2.frozen? ⟨g, i * 4, none⟩ = false ∧ w2.frozen? ⟨g, i * 4 + 1, none⟩ = false ∧ w2.frozen? ⟨g, i * 4 + 2, none⟩ = false ∧ w2.frozen? ⟨g, i * 4 + 3, none⟩ = false ∧ w2.cell? ⟨b, 3, none⟩ = some (.slice (some ⟨g, 0, none⟩) n yc) ∧
                    KQ W5 W b7 k ⟨k, y, some ⟨g, 0, none⟩, yc⟩ b ((((w2.setCell ⟨g, i * 4, none⟩ (.int .i64 1)).setCell ⟨g, i * 4 + 1, none⟩ (.string mt)).setCell ⟨g, i * 4 + 2, none⟩ (.int .i64 77)).setCell ⟨g, i * 4 + 3, none⟩ (.slice A9 0 c9))) from by
                  refine (gussetlaw05_num.calls 77 1 mt 77 [] W' rfl).mono ?_
                  rintro e w2 ⟨v3, rfl, hM, h2⟩
                  have hb := h.trans (h2.mono h.size)
                  obtain ⟨A9, c9, rfl, -, -⟩ := Kd.R_reads hM
                  obtain ⟨g', e', q⟩ := Q.out.put (n := 77) E5.out.lt HNE.out (by rw [HN.out]; exact hlt) hb (Kd.R_lower hM h.size)
                  cases e'
                  obtain ⟨q1, q2, q3, q4, q5, q6, q7, q8, q9⟩ := q
                  exact ⟨A9, c9, rfl, q1, q2, q3, q4, q5, q6, q7, q8, pw_cell_below hb e3, q9⟩)
                gi_wp2
                refine region_leaf (fun (v : Value × Value × Value) => [(103, v.1), (104, .slice (some ⟨g, 0, none⟩) n yc), (105, .int .i64 (i : Nat)), (106, v.2.1), (107, v.2.2)]) (fun W' => KQ W5 W b7 k ⟨k, y, some ⟨g, 0, none⟩, yc⟩ b W') ?h30 ?k30
                case h30 =>
                  have hb0 : Below wr.heap.size wr wr.drew := below_drew (Below.refl _ _)
                  have e3d := pw_cell_below hb0 e3
                  refine start_in (n := 6) (S := fun w' => w'.cell? ⟨b, 3, none⟩ = some (.slice (some ⟨g, 0, none⟩) n yc)) (ds := [5]) #[false, false, false, false, false, false] (by kernel_rfl) rfl rfl (by kernel_rfl) no_out (e3d) (fun hHeld => ?_)
                  obtain ⟨wd, hwd⟩ : ∃ wd, wd = wr.drew := ⟨_, rfl⟩
                  rw [← hwd] at hHeld ⊢
                  have B0 := hide (show Below wr.heap.size wr wd by rw [hwd]; exact hb0)
                  clear hwd hb0
                  refine pure_ (i := 0) (N := some 103) (v := ?_) (a' := ?_) #[true, false, false, false, false, false] rfl rfl (by kernel_rfl) (fun _ _ _ h => nomatch h.1) (Or.inl ⟨by rfl, ?_⟩) ?_ ?_
                  rotate_left
                  · intro w'
                    go_simp
                    with_reducible rfl
                  rotate_left
                  · simp only [Act.put, List.setIfInBounds_toArray, List.set_cons_zero, List.set_cons_succ, i64_w, i32_w]
                    rfl
                  refine pure_ (i := 2) (N := some 105) (v := ?_) (a' := ?_) #[true, false, true, false, false, false] rfl rfl (by kernel_rfl) (fun _ _ _ h => nomatch h.1) (Or.inl ⟨by rfl, ?_⟩) ?_ ?_
                  rotate_left
                  · intro w'
                    go_simp
                    with_reducible rfl
                  rotate_left
                  · simp only [Act.put, List.setIfInBounds_toArray, List.set_cons_zero, List.set_cons_succ, i64_w, i32_w]
                    rfl
                  refine take_ (i := 1) (N := some 104) (v := ?_) (a' := ?_) #[true, true, true, false, false, false] rfl rfl (by kernel_rfl) (fun _ _ _ h => nomatch h.1) (Or.inl ⟨by rfl, ?_⟩) hHeld ?_ ?_
                  rotate_left
                  · intro w' s0
                    go_simp
                    with_reducible rfl
                  rotate_left
                  · simp only [Act.put, List.setIfInBounds_toArray, List.set_cons_zero, List.set_cons_succ, i64_w, i32_w]
                    rfl
                  refine one_ (i := 3) (N := some 106) #[true, true, true, true, false, false] rfl rfl (by kernel_rfl) (by decide) (fun K hK => ?_)
                  refine goes_ Tryd.func9 (by kernel_rfl) rfl #[.int .i64 77] (by rfl) rfl rfl (by simp only [List.map_toArray, List.map_cons, List.map_nil]; rfl) ?_
                  with_reducible refine (HNUM.out _ B0.out).mono ?_
                  rintro e w3 ⟨A9, c9, rfl, ⟨u0, q1⟩, ⟨u1, q2⟩, ⟨u2, q3⟩, ⟨u3, q4⟩, q5, q6, q7, q8, q10, q9⟩
                  refine ⟨_, rfl, ?_⟩
                  have Q9 := hide q9
                  clear q9
                  refine hK.out _ _ (q10) (fun hHeld => ?_)
                  clear hK K
                  refine norm_ (a' := ?_) ?_ ?_
                  rotate_left
                  · show Act.put _ (some 106) _ = _
                    simp only [Act.put, List.setIfInBounds_toArray, List.set_cons_zero, List.set_cons_succ, i64_w, i32_w]
                    rfl
                  refine pure_ (i := 4) (N := some 107) (v := ?_) (a' := ?_) #[true, true, true, true, true, false] rfl rfl (by kernel_rfl) (fun _ _ _ h => nomatch h.1) (Or.inl ⟨by rfl, ?_⟩) ?_ ?_
                  rotate_left
                  · intro w'
                    go_simp
                    with_reducible rfl
                  rotate_left
                  · simp only [Act.put, List.setIfInBounds_toArray, List.set_cons_zero, List.set_cons_succ, i64_w, i32_w]
                    rfl
                  refine last_ (i := 5) (N := none) #[true, true, true, true, true, true] rfl rfl (by kernel_rfl) (by decide) (fun K hK => ?_)
                  refine skip_ (w1 := ?_) (by rfl) rfl ?_ ?_
                  rotate_left
                  · go_simp
                    rfl
                  refine hK.out _ _ ?_
                  clear hK K
                  refine done_ (by kernel_rfl) ?_

                  refine ⟨rfl, ⟨(.pointer (some ⟨b, 3, none⟩), .agg #[.int .i64 1, .string mt, .int .i64 77, .slice A9 0 c9], .pointer (some ⟨g, i * 4, none⟩)), ?_⟩, Q9.out⟩
                  simp only [putAll, List.foldl_cons, List.foldl_nil, List.setIfInBounds_toArray, List.set_cons_zero, List.set_cons_succ]
                case k30 =>
                  intro v9 w9 hw9
                  have Q2 := hide hw9
                  clear hw9
                  simp only [putAll, List.foldl_cons, List.foldl_nil, List.setIfInBounds_toArray, List.set_cons_zero, List.set_cons_succ]
                  gi_wp2
                  go_roundw
                  case rel => exact ⟨i + 1, by omega, by go_num, Q2⟩
                  case measure => simp [intOf]; omega
              · obtain rfl : i = n := by omega
                have a7 : wr.cell? ⟨b7, 0, none⟩ = some (.int .i64 (k : Nat)) := (blk_cell Q.out.z.cnt 0).trans rfl
                have f7 := blk_frozen Q.out.z.cnt 0
                gi_wp2
                refine ⟨Q.out.fr.setCell (p := ⟨b7, 0, none⟩) (.inl (.inl rfl)) _, ?_, trivial⟩
                rw [List.length_append, HK.out]
                exact Q.out.z.bump

      case cont2 =>
        rintro D2 k2 W6 hD2 hws hck hDK
        have hk2 : k2 = L := by rcases hck with ⟨-, e⟩ | ⟨h, -⟩; rw [e, HL.out]; exact h.elim
        subst hk2
        have hE6 := E5.out.move hws.agr
        have a4 : W6.cell? ⟨w.heap.size + 1 + 1, 0, none⟩ = some (.bool false) := (blk_cell hE6.h4 0).trans rfl
        have f4 : W6.frozen? ⟨w.heap.size + 1 + 1, 0, none⟩ = false := blk_frozen hE6.h4 0
        have a5 : W6.cell? ⟨b5, 0, none⟩ = some (.slice A1 k2 c1) := by have := (blk_cell hE6.h5 0).trans rfl; rw [HL.out] at this; exact this
        have a7 : W6.cell? ⟨b7, 0, none⟩ = some (.int .i64 (k2 : Nat)) := (blk_cell hws.cnt 0).trans rfl
        have hdk : ∀ D' u, W6.heap[D']? = some (Obj.deferred (some [])) → (W6.setCell ⟨w.heap.size + 1 + 1, 0, none⟩ u).heap[D']? = some (Obj.deferred (some [])) := fun D' u h => (Below.heap_setCell W6 _ _ _ (fun (e : D' = w.heap.size + 1 + 1) => by rw [e] at h; have := hE6.h4; rw [show w.heap.size + 1 + 1 = w.heap.size + 2 from rfl, this] at h; cases h)).trans h
        have HD2 := hide (hdk D2 (.bool true) hDK)
        have HD1 := hide (hdk D (.bool true) ((hws.agr.keep D (blk_lt HD5.out.1) HD5.out.2).trans HD5.out.1))
        have H4 := hide (blk_put (cs := #[.bool false]) hE6.h4 0 (.bool true) rfl)
        have HDD := hide (show D ≠ D2 by have := blk_lt HD5.out.1; omega)
        have HDB := hide (show w.heap.size + 2 ≠ D2 ∧ w.heap.size + 2 ≠ D from ⟨fun e => (by rw [← e, hE6.h4] at hDK; cases hDK), fun e => (by have h := (hws.agr.keep D (blk_lt HD5.out.1) HD5.out.2).trans HD5.out.1; rw [← e, hE6.h4] at h; cases h)⟩)
        have HBE := hide (show Below w.heap.size w W6 from ⟨hws.same.1.trans HSM5.out.1, hws.same.2.1.trans HSM5.out.2.1, hws.same.2.2.trans HSM5.out.2.2, hE6.lsz, hE6.low⟩)
        have HDW2 := hide (show w.heap.size ≤ D2 by have := E5.out.lsz; omega)
        clear hdk hDK hE6 hws hck hD2
        go_wp2
        refine ⟨by simp, .inl ⟨_, _, rfl, run_takeDeferred HD2.out, ?_⟩⟩
        refine ⟨by simp, .inl ⟨_, _, rfl, run_takeDeferred ((World.putObj_heap_other HDD.out).trans HD1.out), ?_⟩⟩
        obtain ⟨W9, hW9⟩ : ∃ W9, ((W6.setCell ⟨w.heap.size + 1 + 1, 0, none⟩ (.bool true)).putObj D2 (Obj.deferred none)).putObj D (Obj.deferred none) = W9 := ⟨_, rfl⟩
        have HB9 := hide (show Below w.heap.size w W9 from by rw [← hW9]; exact ((HBE.out.setCell (p := ⟨w.heap.size + 1 + 1, 0, none⟩) (Nat.le_add_right _ 2) _).trans (below_putObj HDW2.out _)).trans (below_putObj HDW.out _))
        have hc0 : W9.heap[w.heap.size + 2]? = some (Obj.cells #[.bool true] 4 (0, 0)) := by
          rw [← hW9]
          exact (World.putObj_heap_other HDB.out.2).trans ((World.putObj_heap_other HDB.out.1).trans H4.out)
        have hc : W9.cell? ⟨w.heap.size + 1 + 1, 0, none⟩ = some (.bool true) := (blk_cell hc0 0).trans rfl
        rw [hW9]
        exact ⟨.bool true, (by simp [results, Tryd.results3, go_sem, hc]), rfl, HB9.out⟩
end Go.Proofs.YtldgmneijipbjaaDoor.H
