/- The examples of layer 5 hold. -/
import Derived.Test.YtldgmneijipbjaaDoorA3
namespace Go.Proofs.YtldgmneijipbjaaDoor.H
open Go.RowKit Go.Shelf Go.Proofs.YtldgmneijipbjaaDoorW.PrintWords Go.Proofs.YtldgmneijipbjaaDoorW.PrintLast Go.Proofs.YtldgmneijipbjaaDoorW.PrintMore
open PTreeSames Pu
set_option linter.unusedVariables false
set_option linter.unusedSimpArgs false

theorem num_any (n : Int) (w : World) : Calls Tryd.prog 9 #[.int .i64 n] w fun e w' => (∃ A c, e = .returned (.agg #[.int .i64 1, .string mt, .int .i64 n, .slice A 0 c])) ∧ Below w.heap.size w w' := by
  refine (gussetlaw05_num.calls n 1 mt n [] w rfl).mono ?_
  rintro e w' ⟨v, rfl, h1, h2⟩
  obtain ⟨A, c, rfl, -, -⟩ := Kd.R_reads h1
  exact ⟨⟨A, c, rfl⟩, h2⟩
theorem rd_nm (n : Int) (W : World) (A : Option Addr) (c : Nat) : Rd W (nm n) A c := ⟨⟨rfl, by simp, fun h => by simp at h⟩, by simp⟩
theorem rd_sum {W : World} {b : Nat} {A1 A2 : Option Addr} {c1 c2 : Nat} (h : W.heap[b]? = some (.cells #[.int .i64 1, .string mt, .int .i64 1, .slice A1 0 c1, .int .i64 1, .string mt, .int .i64 2, .slice A2 0 c2] 24 (0, 0))) : Rd W sumT (some ⟨b, 0, none⟩) 2 := by
  refine ⟨⟨rfl, by decide, fun _ => ⟨_, rfl, fun j p hp => ?_⟩⟩, by decide⟩
  match j with
  | 0 =>
    simp at hp
    subst hp
    refine ⟨cs4 (nm 1) A1 c1, rfl, k24_mk W (nm 1) (rd_nm 1 W A1 c1).cap (rd_nm 1 W A1 c1).kids, fun i u hu => ?_⟩
    show W.cell? ((⟨b, 0, none⟩ : Addr).add (0 * 4 + i)) = _
    rw [add_plain, blk_cell h]
    match i with
    | 0 | 1 | 2 | 3 => simpa using hu
    | i + 4 => simp at hu
  | 1 =>
    simp at hp
    subst hp
    refine ⟨cs4 (nm 2) A2 c2, rfl, k24_mk W (nm 2) (rd_nm 2 W A2 c2).cap (rd_nm 2 W A2 c2).kids, fun i u hu => ?_⟩
    show W.cell? ((⟨b, 0, none⟩ : Addr).add (1 * 4 + i)) = _
    rw [add_plain, blk_cell h]
    match i with
    | 0 | 1 | 2 | 3 => simpa using hu
    | i + 4 => simp at hu
  | j + 2 => simp at hp
theorem fit_sum : Fit sumT := .mk _ (by simp) (fun y hy => by
  simp only [List.mem_cons, List.not_mem_nil, or_false] at hy
  rcases hy with rfl | rfl <;> exact .mk _ (by simp) (fun z hz => by simp at hz))
theorem sz_sum : szW sumT = 3 := by simp [szW, szL, wrap64]
theorem dp_sum : dpW sumT = 2 := by simp [dpW, dpL, wrap64, mx]

set_option maxRecDepth 100000 in
set_option maxHeartbeats 4000000 in
theorem awake_any (w : World) : Calls Tryd.prog 7 #[] w (SameB w true) := by
  go_enter Tryd.func7, Tryd.ntmps7
  go_wp2_with (go_at_call 9; refine Aside0.out ?_)
  refine ⟨?_⟩
  refine (num_any 1 w).mono ?_
  rintro e w1 ⟨⟨A1, c1, rfl⟩, h1⟩
  go_wp2_with (go_at_call 9; refine Aside0.out ?_)
  refine ⟨?_⟩
  refine (num_any 2 w1).mono ?_
  rintro e w2 ⟨⟨A2, c2, rfl⟩, h2⟩
  have HB2 := hide (h1.trans (h2.mono h1.size))
  clear h1 h2
  go_wp2_with (go_at_call 20; refine Aside0.out ?_)
  refine ⟨?_⟩
  obtain ⟨W3, hW3⟩ : ∃ W3, ((w2.alloc (.cells #[.int .i64 1, .string mt, .int .i64 1, .slice A1 0 c1, .int .i64 1, .string mt, .int .i64 2, .slice A2 0 c2] 24)).alloc (.cells #[.int .i64 16, .string ⟨#[43]⟩, .int .i64 0, .slice (some ⟨w2.heap.size, 0, none⟩) 2 2] 24)) = W3 := ⟨_, rfl⟩
  have hb3 : Below w.heap.size w W3 := by rw [← hW3]; exact (HB2.out.alloc HB2.out.size _).alloc (by have := HB2.out.size; simp; omega) _
  have n0 : W3.heap[w2.heap.size]? = some (.cells #[.int .i64 1, .string mt, .int .i64 1, .slice A1 0 c1, .int .i64 1, .string mt, .int .i64 2, .slice A2 0 c2] 24 (0, 0)) := by rw [← hW3]; exact blk_alloc (blk_new w2 _) _
  have n1 : W3.heap[w2.heap.size + 1]? = some (.cells #[.int .i64 16, .string plus, .int .i64 0, .slice (some ⟨w2.heap.size, 0, none⟩) 2 2] 24 (0, 0)) := by rw [← hW3]; simpa using blk_new (w2.alloc (.cells #[.int .i64 1, .string mt, .int .i64 1, .slice A1 0 c1, .int .i64 1, .string mt, .int .i64 2, .slice A2 0 c2] 24)) (.cells #[.int .i64 16, .string plus, .int .i64 0, .slice (some ⟨w2.heap.size, 0, none⟩) 2 2] 24)
  rw [hW3]
  have HC := hide (show ∀ W, Below W3.heap.size W3 W → Rd W sumT (some ⟨w2.heap.size, 0, none⟩) 2 ∧ W.cell? ⟨w2.heap.size + 1, 0, none⟩ = some (.int .i64 16) ∧ W.cell? ⟨w2.heap.size + 1, 1, none⟩ = some (.string plus) ∧ W.cell? ⟨w2.heap.size + 1, 2, none⟩ = some (.int .i64 0) ∧ W.cell? ⟨w2.heap.size + 1, 3, none⟩ = some (.slice (some ⟨w2.heap.size, 0, none⟩) 2 2) from fun W hW => by
    have m0 := (hW.block _ (blk_lt n0)).trans n0
    have m1 := (hW.block _ (blk_lt n1)).trans n1
    exact ⟨rd_sum m0, (blk_cell m1 0).trans rfl, (blk_cell m1 1).trans rfl, (blk_cell m1 2).trans rfl, (blk_cell m1 3).trans rfl⟩)
  have HB3 := hide hb3
  clear hW3 hb3 n0 n1 HB2
  refine (at_sum W3 _ 2 (HC.out W3 (Below.refl _ _)).1).mono ?_
  rintro e w4 ⟨⟨A4, c4, rfl⟩, h4⟩
  have H4 := hide h4
  obtain ⟨-, q0, q1, q2, q3⟩ := HC.out w4 h4
  have x0 := fun o => cell_al o q0
  have x1 := fun o => cell_al o q1
  have x2 := fun o => cell_al o q2
  have x3 := fun o => cell_al o q3
  clear h4 q0 q1 q2 q3
  go_wp2_with (go_at_call 21; refine Aside0.out ?_)
  refine ⟨?_⟩
  have h5a := H4.out.trans ((below_alloc (Below.refl w4.heap.size w4) (.cells #[.int .i64 1, .string mt, .int .i64 2, .slice A4 0 c4] 24)).mono H4.out.size)
  have n5 := blk_new w4 (.cells #[.int .i64 1, .string mt, .int .i64 2, .slice A4 0 c4] 24)
  have HX := hide (show ∀ W, Below (w4.alloc (.cells #[.int .i64 1, .string mt, .int .i64 2, .slice A4 0 c4] 24)).heap.size (w4.alloc (.cells #[.int .i64 1, .string mt, .int .i64 2, .slice A4 0 c4] 24)) W → W.cell? ⟨w4.heap.size, 2, none⟩ = some (.int .i64 2) from fun W hW => (blk_cell ((hW.block _ (blk_lt n5)).trans n5) 2).trans rfl)
  refine (form_sum _ _ 2 (HC.out _ h5a).1).mono ?_
  rintro e w5 ⟨rfl, h5⟩
  have hz : (w4.alloc (.cells #[.int .i64 1, .string mt, .int .i64 2, .slice A4 0 c4] 24)).heap.size ≤ w5.heap.size := h5.size
  have H5X := hide h5
  have H5 := hide (h5a.trans (h5.mono h5a.size))
  obtain ⟨-, y0, y1, y2, y3⟩ := HC.out w5 H5.out
  clear h5a n5 h5 x0 x1 x2 x3 hz
  go_wp2_with (go_at_call 13; refine Aside0.out ?_)
  refine ⟨?_⟩
  refine (tsize_any (x := sumT) fit_sum (HC.out w5 H5.out).1).mono ?_
  rintro e w6 ⟨rfl, h6⟩
  rw [sz_sum]
  have H6X := hide (H5X.out.trans (h6.mono H5X.out.size))
  have H6 := hide (H5.out.trans (h6.mono H5.out.size))
  obtain ⟨-, x0, x1, x2, x3⟩ := HC.out w6 H6.out
  clear h6 y0 y1 y2 y3 H5 H5X
  go_wp2_with (go_at_call 15; refine Aside0.out ?_)
  refine ⟨?_⟩
  refine (tdepth_any (x := sumT) fit_sum (HC.out w6 H6.out).1).mono ?_
  rintro e w7 ⟨rfl, h7⟩
  rw [dp_sum]
  have H7X := hide (H6X.out.trans (h7.mono H6X.out.size))
  have H7 := hide (H6.out.trans (h7.mono H6.out.size))
  have z2 := HX.out w7 H7X.out
  clear h7 x0 x1 x2 x3 H6 H6X
  go_wp2_with (go_at_call 21; refine Aside0.out ?_)
  refine ⟨?_⟩
  refine (form_mod _).mono ?_
  rintro e w8 ⟨rfl, h8⟩
  go_wp2_with (go_at_call 9; refine Aside0.out ?_)
  refine ⟨?_⟩
  refine (num_any (-1) w8).mono ?_
  rintro e w9 ⟨⟨A9, c9, rfl⟩, h9⟩
  go_wp2_with (go_at_call 21; refine Aside0.out ?_)
  refine ⟨?_⟩
  refine (form_neg _ A9 c9).mono ?_
  rintro e w10 ⟨rfl, h10⟩
  have HE := hide (((HB3.out.trans (H7.out.mono HB3.out.size)).trans ((h8.trans ((h9.trans (h10.mono h9.size)).mono h8.size)).mono (HB3.out.trans (H7.out.mono HB3.out.size)).size)))
  clear h8 h9 h10
  go_wp2
  go_ret
  exact ⟨rfl, HE.out⟩
end Go.Proofs.YtldgmneijipbjaaDoor.H
