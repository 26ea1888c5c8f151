/- TreeSames: true at every two trees that lie in memory. -/
import Derived.Test.YtldgmneijipbjaaDoorA4
import Derived.Test.YtldgmneijipbjaaDoorT4
namespace Go.Proofs.YtldgmneijipbjaaDoor.H
open Go.RowKit Go.Shelf Go.Proofs.YtldgmneijipbjaaDoorW.PrintWords Go.Proofs.YtldgmneijipbjaaDoorW.PrintLast Go.Proofs.YtldgmneijipbjaaDoorW.PrintMore
open PTreeSames Pu
set_option linter.unusedVariables false
set_option linter.unusedSimpArgs false

theorem copy_rd {x : Tr} {A : Option Addr} {c : Nat} {w : World} (hf : Fit x) (h : Rd w x A c) : Calls Tryd.prog 12 #[nd x A c] w fun e w' => ∃ A' c', e = .returned (nd x A' c') ∧ Rd w' x A' c' ∧ Below w.heap.size w w' :=
  (copy_any x hf A c w h).mono fun e w' h => by
    obtain ⟨A', c', rfl, h1, -, h2⟩ := h.rd
    exact ⟨A', c', rfl, h1, h2⟩
/-- what the law's two boxes hold -/
structure BX (w : World) (a : Tr) (A : Option Addr) (c : Nat) (b : Tr) (B : Option Addr) (d : Nat) (W : World) : Prop where
  x0 : W.cell? ⟨w.heap.size, 0, none⟩ = some (.int .i64 a.f0)
  x1 : W.cell? ⟨w.heap.size, 1, none⟩ = some (.string a.f1)
  x2 : W.cell? ⟨w.heap.size, 2, none⟩ = some (.int .i64 a.f2)
  x3 : W.cell? ⟨w.heap.size, 3, none⟩ = some (.slice A a.f3.length c)
  y0 : W.cell? ⟨w.heap.size + 1, 0, none⟩ = some (.int .i64 b.f0)
  y1 : W.cell? ⟨w.heap.size + 1, 1, none⟩ = some (.string b.f1)
  y2 : W.cell? ⟨w.heap.size + 1, 2, none⟩ = some (.int .i64 b.f2)
  y3 : W.cell? ⟨w.heap.size + 1, 3, none⟩ = some (.slice B b.f3.length d)
  ra : Rd W a A c
  rb : Rd W b B d
theorem BX.mk' {w W : World} {a : Tr} {A : Option Addr} {c : Nat} {b : Tr} {B : Option Addr} {d : Nat} (ra : Rd w a A c) (rb : Rd w b B d)
    (h : Below ((w.alloc (.cells #[.int .i64 a.f0, .string a.f1, .int .i64 a.f2, .slice A a.f3.length c] 24)).alloc (.cells #[.int .i64 b.f0, .string b.f1, .int .i64 b.f2, .slice B b.f3.length d] 24)).heap.size ((w.alloc (.cells #[.int .i64 a.f0, .string a.f1, .int .i64 a.f2, .slice A a.f3.length c] 24)).alloc (.cells #[.int .i64 b.f0, .string b.f1, .int .i64 b.f2, .slice B b.f3.length d] 24)) W) : BX w a A c b B d W := by
  have hw : Below w.heap.size w W := (below_alloc (below_alloc (Below.refl _ _) _) _).trans (h.mono (by simp; omega))
  have n0 := blk_alloc (blk_new w (.cells #[.int .i64 a.f0, .string a.f1, .int .i64 a.f2, .slice A a.f3.length c] 24)) (.cells #[.int .i64 b.f0, .string b.f1, .int .i64 b.f2, .slice B b.f3.length d] 24)
  have n1 := blk_new (w.alloc (.cells #[.int .i64 a.f0, .string a.f1, .int .i64 a.f2, .slice A a.f3.length c] 24)) (.cells #[.int .i64 b.f0, .string b.f1, .int .i64 b.f2, .slice B b.f3.length d] 24)
  rw [World.size_alloc] at n1
  have m0 := (h.block _ (blk_lt n0)).trans n0
  have m1 := (h.block _ (blk_lt n1)).trans n1
  exact ⟨(blk_cell m0 0).trans rfl, (blk_cell m0 1).trans rfl, (blk_cell m0 2).trans rfl, (blk_cell m0 3).trans rfl, (blk_cell m1 0).trans rfl, (blk_cell m1 1).trans rfl, (blk_cell m1 2).trans rfl, (blk_cell m1 3).trans rfl, ra.below hw, rb.below hw⟩

set_option maxRecDepth 100000 in
set_option maxHeartbeats 4000000 in
theorem sames_true (a b : Tr) (hfa : Fit a) (hfb : Fit b) (A : Option Addr) (c : Nat) (B : Option Addr) (d : Nat) (w : World) (ha : Rd w a A c) (hb : Rd w b B d) :
    Calls Tryd.prog 4 #[nd a A c, nd b B d] w (SameB w true) := by
  have HFA := hide hfa
  have HFB := hide hfb
  have HC := hide (fun W h => BX.mk' (W := W) ha hb h)
  obtain ⟨s, hs⟩ : ∃ s, sm a b = s := ⟨_, rfl⟩
  have HS1 := hide (fun (W : World) (h1 : Rd W a A c) (h2 : Rd W b B d) => show Calls Tryd.prog 10 #[.agg #[.int .i64 a.f0, .string a.f1, .int .i64 a.f2, .slice A a.f3.length c], .agg #[.int .i64 b.f0, .string b.f1, .int .i64 b.f2, .slice B b.f3.length d]] W (SameB W s) from by rw [← hs]; exact tsame_any hfa hfb h1 h2)
  have HS2 := hide (fun (W : World) (h1 : Rd W a A c) (h2 : Rd W b B d) => show Calls Tryd.prog 8 #[.agg #[.int .i64 a.f0, .string a.f1, .int .i64 a.f2, .slice A a.f3.length c], .agg #[.int .i64 b.f0, .string b.f1, .int .i64 b.f2, .slice B b.f3.length d]] W (SameB W s) from by rw [← hs]; exact rsame_any hfa hfb h1 h2)
  have HS3 := hide (fun (W : World) {A1 : Option Addr} {c1 : Nat} (h1 : Rd W a A c) (h2 : Rd W a A1 c1) => show Calls Tryd.prog 10 #[.agg #[.int .i64 a.f0, .string a.f1, .int .i64 a.f2, .slice A a.f3.length c], .agg #[.int .i64 a.f0, .string a.f1, .int .i64 a.f2, .slice A1 a.f3.length c1]] W (SameB W true) from by rw [← sm_true (rfl : a = a)]; exact tsame_any hfa hfa h1 h2)
  have HS4 := hide (fun (W : World) {A1 : Option Addr} {c1 : Nat} (h1 : Rd W a A1 c1) (h2 : Rd W a A c) => show Calls Tryd.prog 8 #[.agg #[.int .i64 a.f0, .string a.f1, .int .i64 a.f2, .slice A1 a.f3.length c1], .agg #[.int .i64 a.f0, .string a.f1, .int .i64 a.f2, .slice A a.f3.length c]] W (SameB W true) from by rw [← sm_true (rfl : a = a)]; exact rsame_any hfa hfa h1 h2)
  have HS5 := hide (fun (W : World) (h1 : Rd W a A c) => show Calls Tryd.prog 11 #[.agg #[.int .i64 a.f0, .string a.f1, .int .i64 a.f2, .slice A a.f3.length c]] W (fun e w' => ∃ A' c', e = .returned (.agg #[.int .i64 a.f0, .string a.f1, .int .i64 a.f2, .slice A' a.f3.length c']) ∧ Rd w' a A' c' ∧ Below W.heap.size W w') from rcopy_any hfa h1)
  have HS6 := hide (fun (W : World) (h1 : Rd W a A c) => show Calls Tryd.prog 12 #[.agg #[.int .i64 a.f0, .string a.f1, .int .i64 a.f2, .slice A a.f3.length c]] W (fun e w' => ∃ A' c', e = .returned (.agg #[.int .i64 a.f0, .string a.f1, .int .i64 a.f2, .slice A' a.f3.length c']) ∧ Rd w' a A' c' ∧ Below W.heap.size W w') from copy_rd hfa h1)
  have HS7 := hide (fun (W : World) (h1 : Rd W a A c) => show Calls Tryd.prog 13 #[.agg #[.int .i64 a.f0, .string a.f1, .int .i64 a.f2, .slice A a.f3.length c]] W (fun e w' => e = .returned (.int .i64 (szW a)) ∧ Below W.heap.size W w') from tsize_any hfa h1)
  have HS8 := hide (fun (W : World) (h1 : Rd W a A c) => show Calls Tryd.prog 14 #[.agg #[.int .i64 a.f0, .string a.f1, .int .i64 a.f2, .slice A a.f3.length c]] W (fun e w' => e = .returned (.int .i64 (szW a)) ∧ Below W.heap.size W w') from rsize_any hfa h1)
  have HS9 := hide (fun (W : World) (h1 : Rd W b B d) => show Calls Tryd.prog 15 #[.agg #[.int .i64 b.f0, .string b.f1, .int .i64 b.f2, .slice B b.f3.length d]] W (fun e w' => e = .returned (.int .i64 (dpW b)) ∧ Below W.heap.size W w') from tdepth_any hfb h1)
  have HS10 := hide (fun (W : World) (h1 : Rd W b B d) => show Calls Tryd.prog 16 #[.agg #[.int .i64 b.f0, .string b.f1, .int .i64 b.f2, .slice B b.f3.length d]] W (fun e w' => e = .returned (.int .i64 (dpW b)) ∧ Below W.heap.size W w') from rdepth_any hfb h1)
  have hz : (szW a == szW a) = true := beq_self_eq_true _
  have hy : (dpW b == dpW b) = true := beq_self_eq_true _
  clear hfa hfb ha hb hs
  unfold nd
  cases s
  all_goals
    go_enter Tryd.func4, Tryd.ntmps4
    go_wp2
    obtain ⟨W2, hW2⟩ : ∃ W2, ((w.alloc (.cells #[.int .i64 a.f0, .string a.f1, .int .i64 a.f2, .slice A a.f3.length c] 24)).alloc (.cells #[.int .i64 b.f0, .string b.f1, .int .i64 b.f2, .slice B b.f3.length d] 24)) = W2 := ⟨_, rfl⟩
    have HBW := hide (show Below w.heap.size w W2 by rw [← hW2]; exact below_alloc (below_alloc (Below.refl _ _) _) _)
    rw [hW2] at HC ⊢
    clear hW2
    have hb0 : Below W2.heap.size W2 W2.drew := below_drew (Below.refl _ _)
    refine start_ (n := 37) (S := fun w' => w'.cell? ⟨w.heap.size, 0, none⟩ = some (.int .i64 a.f0) ∧ w'.cell? ⟨w.heap.size, 1, none⟩ = some (.string a.f1) ∧ w'.cell? ⟨w.heap.size, 2, none⟩ = some (.int .i64 a.f2) ∧ w'.cell? ⟨w.heap.size, 3, none⟩ = some (.slice A a.f3.length c) ∧ w'.cell? ⟨w.heap.size + 1, 0, none⟩ = some (.int .i64 b.f0) ∧ w'.cell? ⟨w.heap.size + 1, 1, none⟩ = some (.string b.f1) ∧ w'.cell? ⟨w.heap.size + 1, 2, none⟩ = some (.int .i64 b.f2) ∧ w'.cell? ⟨w.heap.size + 1, 3, none⟩ = some (.slice B b.f3.length d)) (ds := []) #[false, false, false, false, false, false, false, false, false, false, false, false, false, false, false, false, false, false, false, false, false, false, false, false, false, false, false, false, false, false, false, false, false, false, false, false, false] (by kernel_rfl) rfl rfl ⟨(HC.out _ hb0).x0, (HC.out _ hb0).x1, (HC.out _ hb0).x2, (HC.out _ hb0).x3, (HC.out _ hb0).y0, (HC.out _ hb0).y1, (HC.out _ hb0).y2, (HC.out _ hb0).y3⟩ (fun hHeld => ?_)
    obtain ⟨wd, hwd⟩ : ∃ wd, wd = W2.drew := ⟨_, rfl⟩
    rw [← hwd] at hHeld ⊢
    have B0 := hide (show Below W2.heap.size W2 wd by rw [hwd]; exact hb0)
    clear hwd hb0
    refine take_ (i := 0) (N := some 5) (v := ?_) (a' := ?_) #[true, false, false, false, false, false, false, false, false, false, false, false, false, false, false, false, false, false, false, false, false, false, false, false, false, false, false, false, false, false, false, false, false, false, false, false, false] rfl rfl (by kernel_rfl) (fun _ _ _ h => h) (Or.inl ⟨by rfl, ?_⟩) hHeld ?_ ?_
    rotate_left
    · rintro w' ⟨s0, s1, s2, s3, s4, s5, s6, s7⟩
      go_simp
      with_reducible rfl
    rotate_left
    · simp only [Act.put, List.setIfInBounds_toArray, List.set_cons_zero, List.set_cons_succ, i64_w, i32_w]
      rfl
    refine take_ (i := 1) (N := some 6) (v := ?_) (a' := ?_) #[true, true, false, false, false, false, false, false, false, false, false, false, false, false, false, false, false, false, false, false, false, false, false, false, false, false, false, false, false, false, false, false, false, false, false, false, false] rfl rfl (by kernel_rfl) (fun _ _ _ h => h) (Or.inl ⟨by rfl, ?_⟩) hHeld ?_ ?_
    rotate_left
    · rintro w' ⟨s0, s1, s2, s3, s4, s5, s6, s7⟩
      go_simp
      with_reducible rfl
    rotate_left
    · simp only [Act.put, List.setIfInBounds_toArray, List.set_cons_zero, List.set_cons_succ, i64_w, i32_w]
      rfl
    refine take_ (i := 3) (N := some 8) (v := ?_) (a' := ?_) #[true, true, false, true, false, false, false, false, false, false, false, false, false, false, false, false, false, false, false, false, false, false, false, false, false, false, false, false, false, false, false, false, false, false, false, false, false] rfl rfl (by kernel_rfl) (fun _ _ _ h => h) (Or.inl ⟨by rfl, ?_⟩) hHeld ?_ ?_
    rotate_left
    · rintro w' ⟨s0, s1, s2, s3, s4, s5, s6, s7⟩
      go_simp
      with_reducible rfl
    rotate_left
    · simp only [Act.put, List.setIfInBounds_toArray, List.set_cons_zero, List.set_cons_succ, i64_w, i32_w]
      rfl
    refine take_ (i := 4) (N := some 9) (v := ?_) (a' := ?_) #[true, true, false, true, true, false, false, false, false, false, false, false, false, false, false, false, false, false, false, false, false, false, false, false, false, false, false, false, false, false, false, false, false, false, false, false, false] rfl rfl (by kernel_rfl) (fun _ _ _ h => h) (Or.inl ⟨by rfl, ?_⟩) hHeld ?_ ?_
    rotate_left
    · rintro w' ⟨s0, s1, s2, s3, s4, s5, s6, s7⟩
      go_simp
      with_reducible rfl
    rotate_left
    · simp only [Act.put, List.setIfInBounds_toArray, List.set_cons_zero, List.set_cons_succ, i64_w, i32_w]
      rfl
    refine one_ (i := 2) (N := some 7) #[true, true, true, true, true, false, false, false, false, false, false, false, false, false, false, false, false, false, false, false, false, false, false, false, false, false, false, false, false, false, false, false, false, false, false, false, false] rfl rfl (by kernel_rfl) (by decide) (fun K hK => ?_)
    refine goes_ Tryd.func10 (by kernel_rfl) rfl #[.agg #[.int .i64 a.f0, .string a.f1, .int .i64 a.f2, .slice A a.f3.length c], .agg #[.int .i64 b.f0, .string b.f1, .int .i64 b.f2, .slice B b.f3.length d]] (by rfl) rfl rfl (by simp only [List.map_toArray, List.map_cons, List.map_nil]; rfl) ?_
    with_reducible refine (HS1.out _ (HC.out _ B0.out).ra (HC.out _ B0.out).rb).mono ?_
    rintro e w3 ⟨rfl, hk⟩
    refine ⟨_, rfl, ?_⟩
    have B1 := hide (B0.out.trans (hk.mono B0.out.size))
    clear hk
    refine hK.out _ _ ⟨(HC.out _ B1.out).x0, (HC.out _ B1.out).x1, (HC.out _ B1.out).x2, (HC.out _ B1.out).x3, (HC.out _ B1.out).y0, (HC.out _ B1.out).y1, (HC.out _ B1.out).y2, (HC.out _ B1.out).y3⟩ (fun hHeld => ?_)
    clear hK K
    refine norm_ (a' := ?_) ?_ ?_
    rotate_left
    · show Act.put _ (some 7) _ = _
      simp only [Act.put, List.setIfInBounds_toArray, List.set_cons_zero, List.set_cons_succ, i64_w, i32_w]
      rfl
    refine one_ (i := 5) (N := some 10) #[true, true, true, true, true, true, false, false, false, false, false, false, false, false, false, false, false, false, false, false, false, false, false, false, false, false, false, false, false, false, false, false, false, false, false, false, false] rfl rfl (by kernel_rfl) (by decide) (fun K hK => ?_)
    refine goes_ Tryd.func8 (by kernel_rfl) rfl #[.agg #[.int .i64 a.f0, .string a.f1, .int .i64 a.f2, .slice A a.f3.length c], .agg #[.int .i64 b.f0, .string b.f1, .int .i64 b.f2, .slice B b.f3.length d]] (by rfl) rfl rfl (by simp only [List.map_toArray, List.map_cons, List.map_nil]; rfl) ?_
    with_reducible refine (HS2.out _ (HC.out _ B1.out).ra (HC.out _ B1.out).rb).mono ?_
    rintro e w3 ⟨rfl, hk⟩
    refine ⟨_, rfl, ?_⟩
    have B2 := hide (B1.out.trans (hk.mono B1.out.size))
    clear hk
    refine hK.out _ _ ⟨(HC.out _ B2.out).x0, (HC.out _ B2.out).x1, (HC.out _ B2.out).x2, (HC.out _ B2.out).x3, (HC.out _ B2.out).y0, (HC.out _ B2.out).y1, (HC.out _ B2.out).y2, (HC.out _ B2.out).y3⟩ (fun hHeld => ?_)
    clear hK K
    refine norm_ (a' := ?_) ?_ ?_
    rotate_left
    · show Act.put _ (some 10) _ = _
      simp only [Act.put, List.setIfInBounds_toArray, List.set_cons_zero, List.set_cons_succ, i64_w, i32_w]
      rfl
    refine pure_ (i := 6) (N := some 11) (v := ?_) (a' := ?_) #[true, true, true, true, true, true, true, false, false, false, false, false, false, false, false, false, false, false, false, false, false, false, false, false, false, false, false, false, false, false, false, false, false, false, false, false, false] rfl rfl (by kernel_rfl) (fun _ _ _ h => h) (Or.inl ⟨by rfl, ?_⟩) ?_ ?_
    rotate_left
    · intro w'
      go_simp
      with_reducible rfl
    rotate_left
    · simp only [Act.put, List.setIfInBounds_toArray, List.set_cons_zero, List.set_cons_succ, i64_w, i32_w]
      rfl
    refine pure_ (i := 7) (N := some 12) (v := ?_) (a' := ?_) #[true, true, true, true, true, true, true, true, false, false, false, false, false, false, false, false, false, false, false, false, false, false, false, false, false, false, false, false, false, false, false, false, false, false, false, false, false] rfl rfl (by kernel_rfl) (fun _ _ _ h => h) (Or.inl ⟨by rfl, ?_⟩) ?_ ?_
    rotate_left
    · intro w'
      go_simp
      with_reducible rfl
    rotate_left
    · simp only [Act.put, List.setIfInBounds_toArray, List.set_cons_zero, List.set_cons_succ, i64_w, i32_w]
      rfl
    refine take_ (i := 8) (N := some 13) (v := ?_) (a' := ?_) #[true, true, true, true, true, true, true, true, true, false, false, false, false, false, false, false, false, false, false, false, false, false, false, false, false, false, false, false, false, false, false, false, false, false, false, false, false] rfl rfl (by kernel_rfl) (fun _ _ _ h => h) (Or.inl ⟨by rfl, ?_⟩) hHeld ?_ ?_
    rotate_left
    · rintro w' ⟨s0, s1, s2, s3, s4, s5, s6, s7⟩
      go_simp
      with_reducible rfl
    rotate_left
    · simp only [Act.put, List.setIfInBounds_toArray, List.set_cons_zero, List.set_cons_succ, i64_w, i32_w]
      rfl
    refine take_ (i := 9) (N := some 14) (v := ?_) (a' := ?_) #[true, true, true, true, true, true, true, true, true, true, false, false, false, false, false, false, false, false, false, false, false, false, false, false, false, false, false, false, false, false, false, false, false, false, false, false, false] rfl rfl (by kernel_rfl) (fun _ _ _ h => h) (Or.inl ⟨by rfl, ?_⟩) hHeld ?_ ?_
    rotate_left
    · rintro w' ⟨s0, s1, s2, s3, s4, s5, s6, s7⟩
      go_simp
      with_reducible rfl
    rotate_left
    · simp only [Act.put, List.setIfInBounds_toArray, List.set_cons_zero, List.set_cons_succ, i64_w, i32_w]
      rfl
    refine one_ (i := 10) (N := some 15) #[true, true, true, true, true, true, true, true, true, true, true, false, false, false, false, false, false, false, false, false, false, false, false, false, false, false, false, false, false, false, false, false, false, false, false, false, false] rfl rfl (by kernel_rfl) (by decide) (fun K hK => ?_)
    refine goes_ Tryd.func11 (by kernel_rfl) rfl #[.agg #[.int .i64 a.f0, .string a.f1, .int .i64 a.f2, .slice A a.f3.length c]] (by rfl) rfl rfl (by simp only [List.map_toArray, List.map_cons, List.map_nil]; rfl) ?_
    with_reducible refine (HS5.out _ (HC.out _ B2.out).ra).mono ?_
    rintro e w3 ⟨A1, c1, rfl, hr1, hk⟩
    refine ⟨_, rfl, ?_⟩
    have B3 := hide (B2.out.trans (hk.mono B2.out.size))
    have R1 := hide hr1
    clear hr1
    clear hk
    refine hK.out _ _ ⟨(HC.out _ B3.out).x0, (HC.out _ B3.out).x1, (HC.out _ B3.out).x2, (HC.out _ B3.out).x3, (HC.out _ B3.out).y0, (HC.out _ B3.out).y1, (HC.out _ B3.out).y2, (HC.out _ B3.out).y3⟩ (fun hHeld => ?_)
    clear hK K
    refine norm_ (a' := ?_) ?_ ?_
    rotate_left
    · show Act.put _ (some 15) _ = _
      simp only [Act.put, List.setIfInBounds_toArray, List.set_cons_zero, List.set_cons_succ, i64_w, i32_w]
      rfl
    refine one_ (i := 11) (N := some 16) #[true, true, true, true, true, true, true, true, true, true, true, true, false, false, false, false, false, false, false, false, false, false, false, false, false, false, false, false, false, false, false, false, false, false, false, false, false] rfl rfl (by kernel_rfl) (by decide) (fun K hK => ?_)
    refine goes_ Tryd.func10 (by kernel_rfl) rfl #[.agg #[.int .i64 a.f0, .string a.f1, .int .i64 a.f2, .slice A a.f3.length c], .agg #[.int .i64 a.f0, .string a.f1, .int .i64 a.f2, .slice A1 a.f3.length c1]] (by rfl) rfl rfl (by simp only [List.map_toArray, List.map_cons, List.map_nil]; rfl) ?_
    with_reducible refine (HS3.out _ (HC.out _ B3.out).ra R1.out).mono ?_
    rintro e w3 ⟨rfl, hk⟩
    refine ⟨_, rfl, ?_⟩
    have B4 := hide (B3.out.trans (hk.mono B3.out.size))
    clear hk
    refine hK.out _ _ ⟨(HC.out _ B4.out).x0, (HC.out _ B4.out).x1, (HC.out _ B4.out).x2, (HC.out _ B4.out).x3, (HC.out _ B4.out).y0, (HC.out _ B4.out).y1, (HC.out _ B4.out).y2, (HC.out _ B4.out).y3⟩ (fun hHeld => ?_)
    clear hK K
    refine norm_ (a' := ?_) ?_ ?_
    rotate_left
    · show Act.put _ (some 16) _ = _
      simp only [Act.put, List.setIfInBounds_toArray, List.set_cons_zero, List.set_cons_succ, i64_w, i32_w]
      rfl
    refine pure_ (i := 12) (N := some 17) (v := ?_) (a' := ?_) #[true, true, true, true, true, true, true, true, true, true, true, true, true, false, false, false, false, false, false, false, false, false, false, false, false, false, false, false, false, false, false, false, false, false, false, false, false] rfl rfl (by kernel_rfl) (fun _ _ _ h => h) (Or.inl ⟨by rfl, ?_⟩) ?_ ?_
    rotate_left
    · intro w'
      go_simp
      with_reducible rfl
    rotate_left
    · simp only [Act.put, List.setIfInBounds_toArray, List.set_cons_zero, List.set_cons_succ, i64_w, i32_w]
      rfl
    refine pure_ (i := 13) (N := some 18) (v := ?_) (a' := ?_) #[true, true, true, true, true, true, true, true, true, true, true, true, true, true, false, false, false, false, false, false, false, false, false, false, false, false, false, false, false, false, false, false, false, false, false, false, false] rfl rfl (by kernel_rfl) (fun _ _ _ h => h) (Or.inl ⟨by rfl, ?_⟩) ?_ ?_
    rotate_left
    · intro w'
      go_simp
      with_reducible rfl
    rotate_left
    · simp only [Act.put, List.setIfInBounds_toArray, List.set_cons_zero, List.set_cons_succ, i64_w, i32_w]
      rfl
    refine take_ (i := 14) (N := some 19) (v := ?_) (a' := ?_) #[true, true, true, true, true, true, true, true, true, true, true, true, true, true, true, false, false, false, false, false, false, false, false, false, false, false, false, false, false, false, false, false, false, false, false, false, false] rfl rfl (by kernel_rfl) (fun _ _ _ h => h) (Or.inl ⟨by rfl, ?_⟩) hHeld ?_ ?_
    rotate_left
    · rintro w' ⟨s0, s1, s2, s3, s4, s5, s6, s7⟩
      go_simp
      with_reducible rfl
    rotate_left
    · simp only [Act.put, List.setIfInBounds_toArray, List.set_cons_zero, List.set_cons_succ, i64_w, i32_w]
      rfl
    refine take_ (i := 16) (N := some 21) (v := ?_) (a' := ?_) #[true, true, true, true, true, true, true, true, true, true, true, true, true, true, true, false, true, false, false, false, false, false, false, false, false, false, false, false, false, false, false, false, false, false, false, false, false] rfl rfl (by kernel_rfl) (fun _ _ _ h => h) (Or.inl ⟨by rfl, ?_⟩) hHeld ?_ ?_
    rotate_left
    · rintro w' ⟨s0, s1, s2, s3, s4, s5, s6, s7⟩
      go_simp
      with_reducible rfl
    rotate_left
    · simp only [Act.put, List.setIfInBounds_toArray, List.set_cons_zero, List.set_cons_succ, i64_w, i32_w]
      rfl
    refine one_ (i := 15) (N := some 20) #[true, true, true, true, true, true, true, true, true, true, true, true, true, true, true, true, true, false, false, false, false, false, false, false, false, false, false, false, false, false, false, false, false, false, false, false, false] rfl rfl (by kernel_rfl) (by decide) (fun K hK => ?_)
    refine goes_ Tryd.func12 (by kernel_rfl) rfl #[.agg #[.int .i64 a.f0, .string a.f1, .int .i64 a.f2, .slice A a.f3.length c]] (by rfl) rfl rfl (by simp only [List.map_toArray, List.map_cons, List.map_nil]; rfl) ?_
    with_reducible refine (HS6.out _ (HC.out _ B4.out).ra).mono ?_
    rintro e w3 ⟨A2, c2, rfl, hr2, hk⟩
    refine ⟨_, rfl, ?_⟩
    have B5 := hide (B4.out.trans (hk.mono B4.out.size))
    have R2 := hide hr2
    clear hr2
    clear hk
    refine hK.out _ _ ⟨(HC.out _ B5.out).x0, (HC.out _ B5.out).x1, (HC.out _ B5.out).x2, (HC.out _ B5.out).x3, (HC.out _ B5.out).y0, (HC.out _ B5.out).y1, (HC.out _ B5.out).y2, (HC.out _ B5.out).y3⟩ (fun hHeld => ?_)
    clear hK K
    refine norm_ (a' := ?_) ?_ ?_
    rotate_left
    · show Act.put _ (some 20) _ = _
      simp only [Act.put, List.setIfInBounds_toArray, List.set_cons_zero, List.set_cons_succ, i64_w, i32_w]
      rfl
    refine one_ (i := 17) (N := some 22) #[true, true, true, true, true, true, true, true, true, true, true, true, true, true, true, true, true, true, false, false, false, false, false, false, false, false, false, false, false, false, false, false, false, false, false, false, false] rfl rfl (by kernel_rfl) (by decide) (fun K hK => ?_)
    refine goes_ Tryd.func8 (by kernel_rfl) rfl #[.agg #[.int .i64 a.f0, .string a.f1, .int .i64 a.f2, .slice A2 a.f3.length c2], .agg #[.int .i64 a.f0, .string a.f1, .int .i64 a.f2, .slice A a.f3.length c]] (by rfl) rfl rfl (by simp only [List.map_toArray, List.map_cons, List.map_nil]; rfl) ?_
    with_reducible refine (HS4.out _ R2.out (HC.out _ B5.out).ra).mono ?_
    rintro e w3 ⟨rfl, hk⟩
    refine ⟨_, rfl, ?_⟩
    have B6 := hide (B5.out.trans (hk.mono B5.out.size))
    clear hk
    refine hK.out _ _ ⟨(HC.out _ B6.out).x0, (HC.out _ B6.out).x1, (HC.out _ B6.out).x2, (HC.out _ B6.out).x3, (HC.out _ B6.out).y0, (HC.out _ B6.out).y1, (HC.out _ B6.out).y2, (HC.out _ B6.out).y3⟩ (fun hHeld => ?_)
    clear hK K
    refine norm_ (a' := ?_) ?_ ?_
    rotate_left
    · show Act.put _ (some 22) _ = _
      simp only [Act.put, List.setIfInBounds_toArray, List.set_cons_zero, List.set_cons_succ, i64_w, i32_w]
      rfl
    refine pure_ (i := 18) (N := some 23) (v := ?_) (a' := ?_) #[true, true, true, true, true, true, true, true, true, true, true, true, true, true, true, true, true, true, true, false, false, false, false, false, false, false, false, false, false, false, false, false, false, false, false, false, false] rfl rfl (by kernel_rfl) (fun _ _ _ h => h) (Or.inl ⟨by rfl, ?_⟩) ?_ ?_
    rotate_left
    · intro w'
      go_simp
      with_reducible rfl
    rotate_left
    · simp only [Act.put, List.setIfInBounds_toArray, List.set_cons_zero, List.set_cons_succ, i64_w, i32_w]
      rfl
    refine pure_ (i := 19) (N := some 24) (v := ?_) (a' := ?_) #[true, true, true, true, true, true, true, true, true, true, true, true, true, true, true, true, true, true, true, true, false, false, false, false, false, false, false, false, false, false, false, false, false, false, false, false, false] rfl rfl (by kernel_rfl) (fun _ _ _ h => h) (Or.inl ⟨by rfl, ?_⟩) ?_ ?_
    rotate_left
    · intro w'
      go_simp
      with_reducible rfl
    rotate_left
    · simp only [Act.put, List.setIfInBounds_toArray, List.set_cons_zero, List.set_cons_succ, i64_w, i32_w]
      rfl
    refine take_ (i := 20) (N := some 25) (v := ?_) (a' := ?_) #[true, true, true, true, true, true, true, true, true, true, true, true, true, true, true, true, true, true, true, true, true, false, false, false, false, false, false, false, false, false, false, false, false, false, false, false, false] rfl rfl (by kernel_rfl) (fun _ _ _ h => h) (Or.inl ⟨by rfl, ?_⟩) hHeld ?_ ?_
    rotate_left
    · rintro w' ⟨s0, s1, s2, s3, s4, s5, s6, s7⟩
      go_simp
      with_reducible rfl
    rotate_left
    · simp only [Act.put, List.setIfInBounds_toArray, List.set_cons_zero, List.set_cons_succ, i64_w, i32_w]
      rfl
    refine take_ (i := 22) (N := some 27) (v := ?_) (a' := ?_) #[true, true, true, true, true, true, true, true, true, true, true, true, true, true, true, true, true, true, true, true, true, false, true, false, false, false, false, false, false, false, false, false, false, false, false, false, false] rfl rfl (by kernel_rfl) (fun _ _ _ h => h) (Or.inl ⟨by rfl, ?_⟩) hHeld ?_ ?_
    rotate_left
    · rintro w' ⟨s0, s1, s2, s3, s4, s5, s6, s7⟩
      go_simp
      with_reducible rfl
    rotate_left
    · simp only [Act.put, List.setIfInBounds_toArray, List.set_cons_zero, List.set_cons_succ, i64_w, i32_w]
      rfl
    refine one_ (i := 21) (N := some 26) #[true, true, true, true, true, true, true, true, true, true, true, true, true, true, true, true, true, true, true, true, true, true, true, false, false, false, false, false, false, false, false, false, false, false, false, false, false] rfl rfl (by kernel_rfl) (by decide) (fun K hK => ?_)
    refine goes_ Tryd.func13 (by kernel_rfl) rfl #[.agg #[.int .i64 a.f0, .string a.f1, .int .i64 a.f2, .slice A a.f3.length c]] (by rfl) rfl rfl (by simp only [List.map_toArray, List.map_cons, List.map_nil]; rfl) ?_
    with_reducible refine (HS7.out _ (HC.out _ B6.out).ra).mono ?_
    rintro e w3 ⟨rfl, hk⟩
    refine ⟨_, rfl, ?_⟩
    have B7 := hide (B6.out.trans (hk.mono B6.out.size))
    clear hk
    refine hK.out _ _ ⟨(HC.out _ B7.out).x0, (HC.out _ B7.out).x1, (HC.out _ B7.out).x2, (HC.out _ B7.out).x3, (HC.out _ B7.out).y0, (HC.out _ B7.out).y1, (HC.out _ B7.out).y2, (HC.out _ B7.out).y3⟩ (fun hHeld => ?_)
    clear hK K
    refine norm_ (a' := ?_) ?_ ?_
    rotate_left
    · show Act.put _ (some 26) _ = _
      simp only [Act.put, List.setIfInBounds_toArray, List.set_cons_zero, List.set_cons_succ, i64_w, i32_w]
      rfl
    refine one_ (i := 23) (N := some 28) #[true, true, true, true, true, true, true, true, true, true, true, true, true, true, true, true, true, true, true, true, true, true, true, true, false, false, false, false, false, false, false, false, false, false, false, false, false] rfl rfl (by kernel_rfl) (by decide) (fun K hK => ?_)
    refine goes_ Tryd.func14 (by kernel_rfl) rfl #[.agg #[.int .i64 a.f0, .string a.f1, .int .i64 a.f2, .slice A a.f3.length c]] (by rfl) rfl rfl (by simp only [List.map_toArray, List.map_cons, List.map_nil]; rfl) ?_
    with_reducible refine (HS8.out _ (HC.out _ B7.out).ra).mono ?_
    rintro e w3 ⟨rfl, hk⟩
    refine ⟨_, rfl, ?_⟩
    have B8 := hide (B7.out.trans (hk.mono B7.out.size))
    clear hk
    refine hK.out _ _ ⟨(HC.out _ B8.out).x0, (HC.out _ B8.out).x1, (HC.out _ B8.out).x2, (HC.out _ B8.out).x3, (HC.out _ B8.out).y0, (HC.out _ B8.out).y1, (HC.out _ B8.out).y2, (HC.out _ B8.out).y3⟩ (fun hHeld => ?_)
    clear hK K
    refine norm_ (a' := ?_) ?_ ?_
    rotate_left
    · show Act.put _ (some 28) _ = _
      simp only [Act.put, List.setIfInBounds_toArray, List.set_cons_zero, List.set_cons_succ, i64_w, i32_w]
      rfl
    refine pure_ (i := 24) (N := some 29) (v := ?_) (a' := ?_) #[true, true, true, true, true, true, true, true, true, true, true, true, true, true, true, true, true, true, true, true, true, true, true, true, true, false, false, false, false, false, false, false, false, false, false, false, false] rfl rfl (by kernel_rfl) (fun _ _ _ h => h) (Or.inl ⟨by rfl, ?_⟩) ?_ ?_
    rotate_left
    · intro w'
      go_simp
      with_reducible rfl
    rotate_left
    · simp only [Act.put, List.setIfInBounds_toArray, List.set_cons_zero, List.set_cons_succ, i64_w, i32_w]
      rfl
    refine pure_ (i := 25) (N := some 30) (v := ?_) (a' := ?_) #[true, true, true, true, true, true, true, true, true, true, true, true, true, true, true, true, true, true, true, true, true, true, true, true, true, true, false, false, false, false, false, false, false, false, false, false, false] rfl rfl (by kernel_rfl) (fun _ _ _ h => h) (Or.inl ⟨by rfl, ?_⟩) ?_ ?_
    rotate_left
    · intro w'
      go_simp
      with_reducible rfl
    rotate_left
    · simp only [Act.put, List.setIfInBounds_toArray, List.set_cons_zero, List.set_cons_succ, i64_w, i32_w]
      rfl
    refine pure_ (i := 26) (N := some 31) (v := ?_) (a' := ?_) #[true, true, true, true, true, true, true, true, true, true, true, true, true, true, true, true, true, true, true, true, true, true, true, true, true, true, true, false, false, false, false, false, false, false, false, false, false] rfl rfl (by kernel_rfl) (fun _ _ _ h => h) (Or.inl ⟨by rfl, ?_⟩) ?_ ?_
    rotate_left
    · intro w'
      go_simp
      with_reducible rfl
    rotate_left
    · simp only [Act.put, List.setIfInBounds_toArray, List.set_cons_zero, List.set_cons_succ, i64_w, i32_w]
      rfl
    refine take_ (i := 27) (N := some 32) (v := ?_) (a' := ?_) #[true, true, true, true, true, true, true, true, true, true, true, true, true, true, true, true, true, true, true, true, true, true, true, true, true, true, true, true, false, false, false, false, false, false, false, false, false] rfl rfl (by kernel_rfl) (fun _ _ _ h => h) (Or.inl ⟨by rfl, ?_⟩) hHeld ?_ ?_
    rotate_left
    · rintro w' ⟨s0, s1, s2, s3, s4, s5, s6, s7⟩
      go_simp
      with_reducible rfl
    rotate_left
    · simp only [Act.put, List.setIfInBounds_toArray, List.set_cons_zero, List.set_cons_succ, i64_w, i32_w]
      rfl
    refine take_ (i := 29) (N := some 34) (v := ?_) (a' := ?_) #[true, true, true, true, true, true, true, true, true, true, true, true, true, true, true, true, true, true, true, true, true, true, true, true, true, true, true, true, false, true, false, false, false, false, false, false, false] rfl rfl (by kernel_rfl) (fun _ _ _ h => h) (Or.inl ⟨by rfl, ?_⟩) hHeld ?_ ?_
    rotate_left
    · rintro w' ⟨s0, s1, s2, s3, s4, s5, s6, s7⟩
      go_simp
      with_reducible rfl
    rotate_left
    · simp only [Act.put, List.setIfInBounds_toArray, List.set_cons_zero, List.set_cons_succ, i64_w, i32_w]
      rfl
    refine one_ (i := 28) (N := some 33) #[true, true, true, true, true, true, true, true, true, true, true, true, true, true, true, true, true, true, true, true, true, true, true, true, true, true, true, true, true, true, false, false, false, false, false, false, false] rfl rfl (by kernel_rfl) (by decide) (fun K hK => ?_)
    refine goes_ Tryd.func15 (by kernel_rfl) rfl #[.agg #[.int .i64 b.f0, .string b.f1, .int .i64 b.f2, .slice B b.f3.length d]] (by rfl) rfl rfl (by simp only [List.map_toArray, List.map_cons, List.map_nil]; rfl) ?_
    with_reducible refine (HS9.out _ (HC.out _ B8.out).rb).mono ?_
    rintro e w3 ⟨rfl, hk⟩
    refine ⟨_, rfl, ?_⟩
    have B9 := hide (B8.out.trans (hk.mono B8.out.size))
    clear hk
    refine hK.out _ _ ⟨(HC.out _ B9.out).x0, (HC.out _ B9.out).x1, (HC.out _ B9.out).x2, (HC.out _ B9.out).x3, (HC.out _ B9.out).y0, (HC.out _ B9.out).y1, (HC.out _ B9.out).y2, (HC.out _ B9.out).y3⟩ (fun hHeld => ?_)
    clear hK K
    refine norm_ (a' := ?_) ?_ ?_
    rotate_left
    · show Act.put _ (some 33) _ = _
      simp only [Act.put, List.setIfInBounds_toArray, List.set_cons_zero, List.set_cons_succ, i64_w, i32_w]
      rfl
    refine one_ (i := 30) (N := some 35) #[true, true, true, true, true, true, true, true, true, true, true, true, true, true, true, true, true, true, true, true, true, true, true, true, true, true, true, true, true, true, true, false, false, false, false, false, false] rfl rfl (by kernel_rfl) (by decide) (fun K hK => ?_)
    refine goes_ Tryd.func16 (by kernel_rfl) rfl #[.agg #[.int .i64 b.f0, .string b.f1, .int .i64 b.f2, .slice B b.f3.length d]] (by rfl) rfl rfl (by simp only [List.map_toArray, List.map_cons, List.map_nil]; rfl) ?_
    with_reducible refine (HS10.out _ (HC.out _ B9.out).rb).mono ?_
    rintro e w3 ⟨rfl, hk⟩
    refine ⟨_, rfl, ?_⟩
    have B10 := hide (B9.out.trans (hk.mono B9.out.size))
    clear hk
    refine hK.out _ _ ⟨(HC.out _ B10.out).x0, (HC.out _ B10.out).x1, (HC.out _ B10.out).x2, (HC.out _ B10.out).x3, (HC.out _ B10.out).y0, (HC.out _ B10.out).y1, (HC.out _ B10.out).y2, (HC.out _ B10.out).y3⟩ (fun hHeld => ?_)
    clear hK K
    refine norm_ (a' := ?_) ?_ ?_
    rotate_left
    · show Act.put _ (some 35) _ = _
      simp only [Act.put, List.setIfInBounds_toArray, List.set_cons_zero, List.set_cons_succ, i64_w, i32_w]
      rfl
    refine pure_ (i := 31) (N := some 36) (v := ?_) (a' := ?_) #[true, true, true, true, true, true, true, true, true, true, true, true, true, true, true, true, true, true, true, true, true, true, true, true, true, true, true, true, true, true, true, true, false, false, false, false, false] rfl rfl (by kernel_rfl) (fun _ _ _ h => h) (Or.inl ⟨by rfl, ?_⟩) ?_ ?_
    rotate_left
    · intro w'
      go_simp
      with_reducible rfl
    rotate_left
    · simp only [Act.put, List.setIfInBounds_toArray, List.set_cons_zero, List.set_cons_succ, i64_w, i32_w]
      rfl
    refine pure_ (i := 32) (N := some 37) (v := ?_) (a' := ?_) #[true, true, true, true, true, true, true, true, true, true, true, true, true, true, true, true, true, true, true, true, true, true, true, true, true, true, true, true, true, true, true, true, true, false, false, false, false] rfl rfl (by kernel_rfl) (fun _ _ _ h => h) (Or.inl ⟨by rfl, ?_⟩) ?_ ?_
    rotate_left
    · intro w'
      go_simp
      with_reducible rfl
    rotate_left
    · simp only [Act.put, List.setIfInBounds_toArray, List.set_cons_zero, List.set_cons_succ, i64_w, i32_w]
      rfl
    refine pure_ (i := 33) (N := some 38) (v := ?_) (a' := ?_) #[true, true, true, true, true, true, true, true, true, true, true, true, true, true, true, true, true, true, true, true, true, true, true, true, true, true, true, true, true, true, true, true, true, true, false, false, false] rfl rfl (by kernel_rfl) (fun _ _ _ h => h) (Or.inl ⟨by rfl, ?_⟩) ?_ ?_
    rotate_left
    · intro w'
      go_simp
      with_reducible rfl
    rotate_left
    · simp only [Act.put, List.setIfInBounds_toArray, List.set_cons_zero, List.set_cons_succ, i64_w, i32_w]
      rfl
    refine one_ (i := 34) (N := some 39) #[true, true, true, true, true, true, true, true, true, true, true, true, true, true, true, true, true, true, true, true, true, true, true, true, true, true, true, true, true, true, true, true, true, true, true, false, false] rfl rfl (by kernel_rfl) (by decide) (fun K hK => ?_)
    refine goes_ Tryd.func7 (by kernel_rfl) rfl #[] (by rfl) rfl rfl (by simp only [List.map_toArray, List.map_cons, List.map_nil]) ?_
    with_reducible refine (awake_any _).mono ?_
    rintro e w3 ⟨rfl, hk⟩
    refine ⟨_, rfl, ?_⟩
    have B11 := hide (B10.out.trans (hk.mono B10.out.size))
    clear hk
    refine hK.out _ _ ⟨(HC.out _ B11.out).x0, (HC.out _ B11.out).x1, (HC.out _ B11.out).x2, (HC.out _ B11.out).x3, (HC.out _ B11.out).y0, (HC.out _ B11.out).y1, (HC.out _ B11.out).y2, (HC.out _ B11.out).y3⟩ (fun hHeld => ?_)
    clear hK K
    refine norm_ (a' := ?_) ?_ ?_
    rotate_left
    · show Act.put _ (some 39) _ = _
      simp only [Act.put, List.setIfInBounds_toArray, List.set_cons_zero, List.set_cons_succ, i64_w, i32_w]
      rfl
    refine pure_ (i := 35) (N := some 40) (v := ?_) (a' := ?_) #[true, true, true, true, true, true, true, true, true, true, true, true, true, true, true, true, true, true, true, true, true, true, true, true, true, true, true, true, true, true, true, true, true, true, true, true, false] rfl rfl (by kernel_rfl) (fun _ _ _ h => h) (Or.inl ⟨by rfl, ?_⟩) ?_ ?_
    rotate_left
    · intro w'
      go_simp
      with_reducible rfl
    rotate_left
    · simp only [Act.put, List.setIfInBounds_toArray, List.set_cons_zero, List.set_cons_succ, i64_w, i32_w]
      rfl
    refine pure_ (i := 36) (N := some 4) (v := ?_) (a' := ?_) #[true, true, true, true, true, true, true, true, true, true, true, true, true, true, true, true, true, true, true, true, true, true, true, true, true, true, true, true, true, true, true, true, true, true, true, true, true] rfl rfl (by kernel_rfl) (fun _ _ _ h => h) (Or.inl ⟨by rfl, ?_⟩) ?_ ?_
    rotate_left
    · intro w'
      go_simp
      with_reducible rfl
    rotate_left
    · simp only [Act.put, List.setIfInBounds_toArray, List.set_cons_zero, List.set_cons_succ, i64_w, i32_w]
      rfl
    refine done_ (by kernel_rfl) ?_

    go_wp2
    go_ret
    exact ⟨rfl, HBW.out.trans (B11.out.mono HBW.out.size)⟩
theorem sames_law {W : World} (a : Tr) (la : Low a) (A : Option Addr) (c : Nat) (ha : Rd W a A c) (b : Tr) (lb : Low b) (B : Option Addr) (d : Nat) (hb : Rd W b B d) (w : World) (hw : w = W) :
    Calls Tryd.prog 4 #[nd a A c, nd b B d] w fun e w' => e = .returned (.bool true) ∧ Below w.heap.size w w' := by
  subst hw
  exact sames_true a b la.fit lb.fit A c B d w ha hb
end Go.Proofs.YtldgmneijipbjaaDoor.H
