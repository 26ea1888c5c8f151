/- The place 2 of the example's sum. -/
import Derived.Test.YtldgmneijipbjaaDoorA2
import Derived.Test.YtldgmneijipbjaaDoorT1
namespace Go.Proofs.YtldgmneijipbjaaDoor.H
open Go.RowKit Go.Shelf Go.Proofs.YtldgmneijipbjaaDoorW.PrintWords Go.Proofs.YtldgmneijipbjaaDoorW.PrintLast Go.Proofs.YtldgmneijipbjaaDoorW.PrintMore
open PTreeSames Pu
set_option linter.unusedVariables false
set_option linter.unusedSimpArgs false

/-- the variables of At -/
structure AS (W : World) (bi bo bf bc : Nat) (k : Int) : Prop where
  i : W.heap[bi]? = some (.cells #[.int .i64 2] 3 (0, 0))
  o : W.heap[bo]? = some (.cells #[.int .i64 0, .string mt, .int .i64 0, .slice none 0 0] 24 (0, 0))
  f : W.heap[bf]? = some (.cells #[.bool false] 4 (0, 0))
  c : W.heap[bc]? = some (.cells #[.int .i64 k] 3 (0, 0))
  ic : bi ≠ bc
section
variable {W W' : World} {bi bo bf bc : Nat} {k : Int}
theorem AS.below (h : AS W bi bo bf bc k) (hb : Below W.heap.size W W') : AS W' bi bo bf bc k :=
  ⟨(hb.block _ (blk_lt h.i)).trans h.i, (hb.block _ (blk_lt h.o)).trans h.o, (hb.block _ (blk_lt h.f)).trans h.f, (hb.block _ (blk_lt h.c)).trans h.c, h.ic⟩
theorem AS.oc (h : AS W bi bo bf bc k) : bo ≠ bc := fun e => by have := h.o; rw [e, h.c] at this; simp at this
theorem AS.fc (h : AS W bi bo bf bc k) : bf ≠ bc := fun e => by have := h.f; rw [e, h.c] at this; simp at this
theorem AS.fo (h : AS W bi bo bf bc k) : bf ≠ bo := fun e => by have := h.f; rw [e, h.o] at this; simp at this
theorem AS.bump (h : AS W bi bo bf bc k) (k' : Int) : AS (W.setCell ⟨bc, 0, none⟩ (.int .i64 k')) bi bo bf bc k' :=
  ⟨blk_far h.i h.ic _, blk_far h.o h.oc _, blk_far h.f h.fc _, blk_put h.c 0 _ rfl, h.ic⟩
end
section
variable (w : World) (bi bo bf bc : Nat)
set_option maxHeartbeats 2000000 in
theorem vis_go (k : Int) (hk : k ≠ 2) (h : AS w bi bo bf bc (k + 1)) (y : Tr) (A : Option Addr) (c : Nat) :
    Calls Tryd.prog 23 #[.int .i64 k, .agg #[.int .i64 y.f0, .string y.f1, .int .i64 y.f2, .slice A y.f3.length c], .pointer (some ⟨bi, 0, none⟩), .pointer (some ⟨bo, 0, none⟩), .pointer (some ⟨bf, 0, none⟩)] w (SameB w true) := by
  have hk2 : (k == 2) = false := by simpa using hk
  have c0 : w.cell? ⟨bi, 0, none⟩ = some (.int .i64 2) := (blk_cell h.i 0).trans rfl
  have c1 : w.cell? ⟨bf, 0, none⟩ = some (.bool false) := (blk_cell h.f 0).trans rfl
  have d0 := fun o => cell_al o c0
  have d1 := fun o => cell_al o c1
  clear h hk c0 c1
  go_enter Tryd.func23, Tryd.ntmps23
  go_wp2
  go_ret
  exact ⟨rfl, below_alloc (Below.refl _ _) _⟩
/-- found: what stands there is a tree of one's own -/
def Found (w : World) (bo bf : Nat) (y : Tr) (e : Ending) (w' : World) : Prop := e = .returned (.bool false) ∧ Fr (fun k => k = bo ∨ k = bf) w w' ∧ w'.heap[bf]? = some (.cells #[.bool true] 4 (0, 0)) ∧ ∃ A c, Rd w' y A c ∧ w'.heap[bo]? = some (.cells #[.int .i64 y.f0, .string y.f1, .int .i64 y.f2, .slice A y.f3.length c] 24 (0, 0))
set_option maxHeartbeats 4000000 in
theorem vis_stop (k : Int) (h : AS w bi bo bf bc k) (y : Tr) (hf : Fit y) (A : Option Addr) (c : Nat) (hr : Rd w y A c) :
    Calls Tryd.prog 23 #[.int .i64 2, .agg #[.int .i64 y.f0, .string y.f1, .int .i64 y.f2, .slice A y.f3.length c], .pointer (some ⟨bi, 0, none⟩), .pointer (some ⟨bo, 0, none⟩), .pointer (some ⟨bf, 0, none⟩)] w (Found w bo bf y) := by
  have c0 : w.cell? ⟨bi, 0, none⟩ = some (.int .i64 2) := (blk_cell h.i 0).trans rfl
  have d0 := fun o => cell_al o c0
  have H := hide h
  have HF := hide hf
  have HR := hide hr
  clear h hf hr c0
  go_enter Tryd.func23, Tryd.ntmps23
  go_wp2_with (go_at_call 12; refine Aside0.out ?_)
  refine ⟨?_⟩
  refine (copy_any y HF.out A c _ (HR.out.below (below_alloc (Below.refl _ _) _))).mono ?_
  intro e w2 ho
  obtain ⟨A2, c2, rfl, hr2, hR2, hb2⟩ := ho.rd
  unfold nd
  have HB := hide ((below_alloc (Below.refl w.heap.size w) (.cells #[.int .i64 y.f0, .string y.f1, .int .i64 y.f2, .slice A y.f3.length c] 24)).trans (hb2.mono (by simp)))
  have HR2 := hide hr2
  have HRR := hide hR2
  have H2 := hide (H.out.below HB.out)
  have o0 : w2.cell? ⟨bo, 0, none⟩ = some (.int .i64 0) := (blk_cell H2.out.o 0).trans rfl
  have o1 : w2.cell? ⟨bo, 1, none⟩ = some (.string mt) := (blk_cell H2.out.o 1).trans rfl
  have o2 : w2.cell? ⟨bo, 2, none⟩ = some (.int .i64 0) := (blk_cell H2.out.o 2).trans rfl
  have o3 : w2.cell? ⟨bo, 3, none⟩ = some (.slice none 0 0) := (blk_cell H2.out.o 3).trans rfl
  have g0 := blk_frozen H2.out.o 0
  have g1 := blk_frozen H2.out.o 1
  have g2 := blk_frozen H2.out.o 2
  have g3 := blk_frozen H2.out.o 3
  have o4 : w2.cell? ⟨bf, 0, none⟩ = some (.bool false) := (blk_cell H2.out.f 0).trans rfl
  have g4 := blk_frozen H2.out.f 0
  have hne := H2.out.fo
  have hne2 := hne.symm
  clear ho hr2 hR2 hb2
  go_wp2
  go_ret
  have hF1 : Fr (fun k => k = bo ∨ k = bf) w w2 := Fr.of_below HB.out
  refine ⟨rfl, (((((hF1.setCell (.inl (.inl rfl)) _).setCell (.inl (.inl rfl)) _).setCell (.inl (.inl rfl)) _).setCell (.inl (.inl rfl)) _).setCell (.inl (.inr rfl)) _), ?_, ?_⟩
  · refine blk_put (cs := #[.bool false]) ?_ 0 _ rfl
    exact blk_far (blk_far (blk_far (blk_far H2.out.f hne _) hne _) hne _) hne _
  · refine ⟨A2, c2, ?_, ?_⟩
    · have l1 := blk_lt H.out.o
      have l2 := blk_lt H.out.f
      have hF2 : ∀ u0 u1 u2 u3 u4, Fr (fun k => k = bo ∨ k = bf) w2 (((((w2.setCell ⟨bo, 0, none⟩ u0).setCell ⟨bo, 1, none⟩ u1).setCell ⟨bo, 2, none⟩ u2).setCell ⟨bo, 3, none⟩ u3).setCell ⟨bf, 0, none⟩ u4) := fun u0 u1 u2 u3 u4 => ((((((Fr.refl _ w2).setCell (.inl (.inl rfl)) _).setCell (.inl (.inl rfl)) _).setCell (.inl (.inl rfl)) _).setCell (.inl (.inl rfl)) _).setCell (.inl (.inr rfl)) _)
      have q := fr_R HRR.out (hF2 (.int .i64 y.f0) (.string y.f1) (.int .i64 y.f2) (.slice A2 y.f3.length c2) (.bool true)) (by rintro k hk (rfl | rfl) <;> (simp at hk; omega))
      obtain ⟨-, hc2, hC2⟩ := R_C q
      exact ⟨hC2, hc2⟩
    · refine blk_far ?_ hne2 _
      refine blk_put (cs := #[.int .i64 y.f0, .string y.f1, .int .i64 y.f2, .slice none 0 0]) ?_ 3 _ rfl
      refine blk_put (cs := #[.int .i64 y.f0, .string y.f1, .int .i64 0, .slice none 0 0]) ?_ 2 _ rfl
      refine blk_put (cs := #[.int .i64 y.f0, .string mt, .int .i64 0, .slice none 0 0]) ?_ 1 _ rfl
      exact blk_put (cs := #[.int .i64 0, .string mt, .int .i64 0, .slice none 0 0]) H2.out.o 0 _ rfl
set_option maxHeartbeats 4000000 in
theorem walk_go (k : Int) (hk : 0 ≤ k ∧ k < 2) (h : AS w bi bo bf bc k) (n : Int) (A : Option Addr) (c : Nat) :
    Calls Tryd.prog 18 #[.agg #[.int .i64 1, .string mt, .int .i64 n, .slice A 0 c], .pointer (some ⟨bc, 0, none⟩), .func (.func 23) #[] #[.pointer (some ⟨bi, 0, none⟩), .pointer (some ⟨bo, 0, none⟩), .pointer (some ⟨bf, 0, none⟩)]] w fun e w' => e = .returned (.bool true) ∧ Fr (fun j => j = bc) w w' ∧ AS w' bi bo bf bc (k + 1) := by
  have c0 : w.cell? ⟨bc, 0, none⟩ = some (.int .i64 k) := (blk_cell h.c 0).trans rfl
  have d0 := fun o => cell_al o c0
  have f0 : ∀ o, (w.alloc o).frozen? ⟨bc, 0, none⟩ = false := fun o => blk_frozen (blk_alloc h.c o) 0
  have hlt : bc < w.heap.size := blk_lt h.c
  have hw : wrap64 (k + 1) = k + 1 := by unfold wrap64; omega
  have HK := hide hk
  have H := hide h
  have HW := hide hw
  have HLT := hide hlt
  have hne1 : bc ≠ w.heap.size := by omega
  have hne2 : w.heap.size ≠ bc := by omega
  obtain ⟨hk0, hk2⟩ := hk
  clear h hw hlt c0
  go_enter Tryd.func18, Tryd.ntmps18
  go_wp2_with (go_at_call 23; refine Aside0.out ?_)
  refine ⟨?_⟩
  have h1 := (H.out.below (below_alloc (Below.refl w.heap.size w) (.cells #[.int .i64 1, .string mt, .int .i64 n, .slice A 0 c] 24))).bump (k + 1)
  have hF1 : Fr (fun j => j = bc) w ((w.alloc (.cells #[.int .i64 1, .string mt, .int .i64 n, .slice A 0 c] 24)).setCell ⟨bc, 0, none⟩ (.int .i64 (k + 1))) := Fr.setCell (p := ⟨bc, 0, none⟩) ((Fr.refl (fun j => j = bc) w).alloc _) (.inl rfl) _
  refine (vis_go _ bi bo bf bc k (by omega) h1 (nm n) A c).mono ?_
  rintro e w2 ⟨rfl, h2⟩
  have hb := (h2.block w.heap.size (by simp [World.setCell])).trans (blk_far (blk_new w _) hne2 _)
  have c3 : w2.cell? ⟨w.heap.size, 3, none⟩ = some (.slice A 0 c) := (blk_cell hb 3).trans rfl
  have HA := hide (h1.below h2)
  have HF := hide (hF1.trans (Fr.of_below (S := fun _ => False) h2) (fun _ q => q.elim))
  clear h1 hF1 h2 hb d0 f0
  go_wp2
  go_loopg [26] 1 (fun gk v26 wr => wr = w2 ∧ 0 < gk ∧ v26 = .int .i64 0)
  case atStart => exact ⟨rfl, by omega, rfl⟩
  case round =>
    obtain ⟨rfl, hgk, rfl⟩ := hrel
    go_wp2
    go_ret
    exact ⟨rfl, HF.out, HA.out⟩
set_option maxHeartbeats 4000000 in
theorem walk_stop (h : AS w bi bo bf bc 2) (n : Int) (A : Option Addr) (c : Nat) (hr : Rd w (nm n) A c) :
    Calls Tryd.prog 18 #[.agg #[.int .i64 1, .string mt, .int .i64 n, .slice A 0 c], .pointer (some ⟨bc, 0, none⟩), .func (.func 23) #[] #[.pointer (some ⟨bi, 0, none⟩), .pointer (some ⟨bo, 0, none⟩), .pointer (some ⟨bf, 0, none⟩)]] w fun e w' => e = .returned (.bool false) ∧ Fr (fun j => j = bc ∨ j = bo ∨ j = bf) w w' ∧ w'.heap[bf]? = some (.cells #[.bool true] 4 (0, 0)) ∧ ∃ A c, w'.heap[bo]? = some (.cells #[.int .i64 1, .string mt, .int .i64 n, .slice A 0 c] 24 (0, 0)) := by
  have c0 : w.cell? ⟨bc, 0, none⟩ = some (.int .i64 2) := (blk_cell h.c 0).trans rfl
  have d0 := fun o => cell_al o c0
  have f0 : ∀ o, (w.alloc o).frozen? ⟨bc, 0, none⟩ = false := fun o => blk_frozen (blk_alloc h.c o) 0
  have hlt : bc < w.heap.size := blk_lt h.c
  have H := hide h
  have HLT := hide hlt
  have HR := hide hr
  have hne1 : bc ≠ w.heap.size := by omega
  have hne2 : w.heap.size ≠ bc := by omega
  clear h hlt c0 hr
  go_enter Tryd.func18, Tryd.ntmps18
  go_wp2_with (go_at_call 23; refine Aside0.out ?_)
  refine ⟨?_⟩
  have h1 := (H.out.below (below_alloc (Below.refl w.heap.size w) (.cells #[.int .i64 1, .string mt, .int .i64 n, .slice A 0 c] 24))).bump 3
  have hF1 : Fr (fun j => j = bc) w ((w.alloc (.cells #[.int .i64 1, .string mt, .int .i64 n, .slice A 0 c] 24)).setCell ⟨bc, 0, none⟩ (.int .i64 3)) := Fr.setCell (p := ⟨bc, 0, none⟩) ((Fr.refl (fun j => j = bc) w).alloc _) (.inl rfl) _
  refine (vis_stop _ bi bo bf bc 3 h1 (nm n) (.mk _ (by simp) (fun y hy => by simp at hy)) A c ⟨⟨rfl, by simp, fun h => by simp at h⟩, by simp⟩).mono ?_
  rintro e w2 ⟨rfl, hF2, hb, A2, c2, hr2, ho⟩
  have HB := hide hb
  have HO := hide (show ∃ A c, w2.heap[bo]? = some (.cells #[.int .i64 1, .string mt, .int .i64 n, .slice A 0 c] 24 (0, 0)) from ⟨A2, c2, ho⟩)
  have HF := hide ((hF1.mono (S' := fun j => j = bc ∨ j = bo ∨ j = bf) (fun _ q => .inl q)).trans hF2 (fun _ q => .inl (.inr q)))
  clear h1 hF1 hF2 hb hr2 ho d0 f0
  go_wp2
  go_ret
  exact ⟨rfl, HF.out, HB.out, HO.out⟩
structure WS (w : World) (bi bo bf bc : Nat) (A : Option Addr) (c i : Nat) (wr : World) : Prop where
  as_ : AS wr bi bo bf bc ((i : Int) + 1)
  rd : Rd wr sumT A c
  fr : Fr (fun j => j = bc) w wr
set_option maxHeartbeats 4000000 in
theorem walk_sum (h : AS w bi bo bf bc 0) (A : Option Addr) (c : Nat) (hr : Rd w sumT A c) (hok : ∀ W, Fr (fun j => j = bc) w W → Rd W sumT A c) :
    Calls Tryd.prog 18 #[.agg #[.int .i64 16, .string plus, .int .i64 0, .slice A 2 c], .pointer (some ⟨bc, 0, none⟩), .func (.func 23) #[] #[.pointer (some ⟨bi, 0, none⟩), .pointer (some ⟨bo, 0, none⟩), .pointer (some ⟨bf, 0, none⟩)]] w fun e w' => e = .returned (.bool false) ∧ Fr (fun j => j = bc ∨ j = bo ∨ j = bf) w w' ∧ w'.heap[bf]? = some (.cells #[.bool true] 4 (0, 0)) ∧ ∃ A c, w'.heap[bo]? = some (.cells #[.int .i64 1, .string mt, .int .i64 2, .slice A 0 c] 24 (0, 0)) := by
  obtain ⟨ad, rfl⟩ := C_some hr.kids (by decide)
  have c0 : w.cell? ⟨bc, 0, none⟩ = some (.int .i64 0) := (blk_cell h.c 0).trans rfl
  have d0 := fun o => cell_al o c0
  have f0 : ∀ o, (w.alloc o).frozen? ⟨bc, 0, none⟩ = false := fun o => blk_frozen (blk_alloc h.c o) 0
  have hlt : bc < w.heap.size := blk_lt h.c
  have H := hide h
  have HLT := hide hlt
  have HR := hide hr
  have HOK := hide hok
  have hne1 : bc ≠ w.heap.size := by omega
  have hne2 : w.heap.size ≠ bc := by omega
  clear h hlt c0 hr hok
  go_enter Tryd.func18, Tryd.ntmps18
  go_wp2_with (go_at_call 23; refine Aside0.out ?_)
  refine ⟨?_⟩
  have h1 := (H.out.below (below_alloc (Below.refl w.heap.size w) (.cells #[.int .i64 16, .string plus, .int .i64 0, .slice (some ad) 2 c] 24))).bump 1
  have hF1 : Fr (fun j => j = bc) w ((w.alloc (.cells #[.int .i64 16, .string plus, .int .i64 0, .slice (some ad) 2 c] 24)).setCell ⟨bc, 0, none⟩ (.int .i64 1)) := Fr.setCell (p := ⟨bc, 0, none⟩) ((Fr.refl (fun j => j = bc) w).alloc _) (.inl rfl) _
  refine (vis_go _ bi bo bf bc 0 (by decide) h1 sumT (some ad) c).mono ?_
  rintro e w2 ⟨rfl, h2⟩
  have hb := (h2.block w.heap.size (by simp [World.setCell])).trans (blk_far (blk_new w _) hne2 _)
  have c3 : w2.cell? ⟨w.heap.size, 3, none⟩ = some (.slice (some ad) 2 c) := (blk_cell hb 3).trans rfl
  have hF2 := hF1.trans (Fr.of_below (S := fun _ => False) h2) (fun _ q => q.elim)
  have Q0 := hide (show WS w bi bo bf bc (some ad) c 0 w2 from ⟨h1.below h2, HOK.out _ hF2, hF2⟩)
  clear h1 hF1 h2 hb d0 f0 hF2
  go_wp2
  clear c3
  go_loopg [26] 2 (fun gk v26 wr => ∃ i : Nat, i ≤ 1 ∧ 1 - i < gk ∧ v26 = .int .i64 i ∧ Aside0 (WS w bi bo bf bc (some ad) c i wr))
  case atStart => exact ⟨0, by omega, by omega, rfl, Q0⟩
  case round =>
    obtain ⟨i, hi, hgk, rfl, Q⟩ := hrel
    clear Q0
    match i, hi with
    | 0, _ =>
      obtain ⟨ad', A', c', e, hry, k0, k1, k2, k3⟩ := Q.out.rd.kid (i := 0) (y := nm 1) rfl
      cases e
      simp only [Nat.zero_mul, add_zero'] at k0 k1 k2 k3
      clear hry
      go_wp2_with (go_at_call 18; refine Aside0.out ?_)
      refine ⟨?_⟩
      refine (walk_go _ bi bo bf bc 1 (by omega) (Q.out.as_.below (below_alloc (Below.refl _ _) _)) 1 A' c').mono ?_
      rintro e w3 ⟨rfl, hF3, hA3⟩
      have hF4 := (Q.out.fr.alloc (.cells #[.int .i64 1, .string mt, .int .i64 1, .slice A' 0 c'] 24)).trans hF3 (fun _ q => .inl q)
      have Q1 := hide (show WS w bi bo bf bc (some ad) c 1 w3 from ⟨hA3, HOK.out _ hF4, hF4⟩)
      clear hF3 hA3 hF4
      go_wp2
      go_roundg 1
      case measure => omega
      case rel => exact ⟨1, by omega, by omega, rfl, Q1⟩
    | 1, _ =>
      obtain ⟨ad', A', c', e, hry, k0, k1, k2, k3⟩ := Q.out.rd.kid (i := 1) (y := nm 2) rfl
      cases e
      have e4 : ad.add 4 = ⟨ad.block, ad.off + 4, none⟩ := by simp [Addr.add]
      simp only [Nat.one_mul, e4] at k0 k1 k2 k3
      clear e4
      have HRY := hide hry
      clear hry
      go_wp2_with (go_at_call 18; refine Aside0.out ?_)
      refine ⟨?_⟩
      refine (walk_stop _ bi bo bf bc (Q.out.as_.below (below_alloc (Below.refl _ _) _)) 2 A' c' (HRY.out.below (below_alloc (Below.refl _ _) _))).mono ?_
      rintro e w3 ⟨rfl, hF3, hb3, ho3⟩
      have HF4 := hide (((Q.out.fr.alloc (.cells #[.int .i64 1, .string mt, .int .i64 2, .slice A' 0 c'] 24)).mono (S' := fun j => j = bc ∨ j = bo ∨ j = bf) (fun _ q => .inl q)).trans hF3 (fun _ q => .inl q))
      have HB3 := hide hb3
      have HO3 := hide ho3
      clear hF3 hb3 ho3
      go_wp2
      go_ret
      exact ⟨rfl, HF4.out, HB3.out, HO3.out⟩
set_option maxHeartbeats 4000000 in
theorem at_sum (A : Option Addr) (c : Nat) (hr : Rd w sumT A c) : Calls Tryd.prog 20 #[.agg #[.int .i64 16, .string plus, .int .i64 0, .slice A 2 c], .int .i64 2] w fun e w' => (∃ A2 c2, e = .returned (.tuple #[.agg #[.int .i64 1, .string mt, .int .i64 2, .slice A2 0 c2], .bool true])) ∧ Below w.heap.size w w' := by
  have HR := hide hr
  clear hr
  go_enter Tryd.func20, Tryd.ntmps20
  go_wp2_with (go_at_call 18; refine Aside0.out ?_)
  refine ⟨?_⟩
  obtain ⟨W5, hW5⟩ : ∃ W5, ((((((w.alloc (.cells #[.int .i64 16, .string plus, .int .i64 0, .slice A 2 c] 24)).alloc (.cells #[.int .i64 2] 3)).alloc (.cells #[.int .i64 0, .string ⟨#[]⟩, .int .i64 0, .slice none 0 0] 24)).alloc (.cells #[.int .i64 0, .string ⟨#[]⟩, .int .i64 0, .slice none 0 0] 24)).alloc (.cells #[.bool false] 4)).alloc (.cells #[.int .i64 0] 3)) = W5 := ⟨_, rfl⟩
  have hb5 : Below w.heap.size w W5 := by rw [← hW5]; exact ((((((Below.refl _ w).alloc (Nat.le_refl _) _).alloc (by simp) _).alloc (by simp; omega) _).alloc (by simp; omega) _).alloc (by simp; omega) _).alloc (by simp; omega) _
  have n1 : W5.heap[w.heap.size + 1]? = some (.cells #[.int .i64 2] 3 (0, 0)) := by rw [← hW5]; refine blk_alloc (blk_alloc (blk_alloc (blk_alloc ?_ _) _) _) _; simpa using blk_new (w.alloc (.cells #[.int .i64 16, .string plus, .int .i64 0, .slice A 2 c] 24)) (.cells #[.int .i64 2] 3)
  have n2 : W5.heap[w.heap.size + 1 + 1]? = some (.cells #[.int .i64 0, .string mt, .int .i64 0, .slice none 0 0] 24 (0, 0)) := by rw [← hW5]; refine blk_alloc (blk_alloc (blk_alloc ?_ _) _) _; simpa using blk_new ((w.alloc (.cells #[.int .i64 16, .string plus, .int .i64 0, .slice A 2 c] 24)).alloc (.cells #[.int .i64 2] 3)) (.cells #[.int .i64 0, .string mt, .int .i64 0, .slice none 0 0] 24)
  have n3 : W5.heap[w.heap.size + 1 + 1 + 1]? = some (.cells #[.int .i64 0, .string mt, .int .i64 0, .slice none 0 0] 24 (0, 0)) := by rw [← hW5]; refine blk_alloc (blk_alloc ?_ _) _; simpa using blk_new (((w.alloc (.cells #[.int .i64 16, .string plus, .int .i64 0, .slice A 2 c] 24)).alloc (.cells #[.int .i64 2] 3)).alloc (.cells #[.int .i64 0, .string mt, .int .i64 0, .slice none 0 0] 24)) (.cells #[.int .i64 0, .string mt, .int .i64 0, .slice none 0 0] 24)
  have n4 : W5.heap[w.heap.size + 1 + 1 + 1 + 1]? = some (.cells #[.bool false] 4 (0, 0)) := by rw [← hW5]; refine blk_alloc ?_ _; simpa using blk_new ((((w.alloc (.cells #[.int .i64 16, .string plus, .int .i64 0, .slice A 2 c] 24)).alloc (.cells #[.int .i64 2] 3)).alloc (.cells #[.int .i64 0, .string mt, .int .i64 0, .slice none 0 0] 24)).alloc (.cells #[.int .i64 0, .string mt, .int .i64 0, .slice none 0 0] 24)) (.cells #[.bool false] 4)
  have n5 : W5.heap[w.heap.size + 1 + 1 + 1 + 1 + 1]? = some (.cells #[.int .i64 0] 3 (0, 0)) := by rw [← hW5]; simpa using blk_new (((((w.alloc (.cells #[.int .i64 16, .string plus, .int .i64 0, .slice A 2 c] 24)).alloc (.cells #[.int .i64 2] 3)).alloc (.cells #[.int .i64 0, .string mt, .int .i64 0, .slice none 0 0] 24)).alloc (.cells #[.int .i64 0, .string mt, .int .i64 0, .slice none 0 0] 24)).alloc (.cells #[.bool false] 4)) (.cells #[.int .i64 0] 3)
  rw [hW5]
  have hs5 : w.heap.size ≤ W5.heap.size := hb5.size
  refine (walk_sum W5 _ _ _ _ ⟨n1, n3, n4, n5, by omega⟩ A c (HR.out.below hb5) (fun W hW => HR.out.below (hb5.trans (hW.below hs5 (by rintro k rfl; omega))))).mono ?_
  rintro e w2 ⟨rfl, hF, hb, A2, c2, ho⟩
  have hB2 := hb5.trans (hF.below hs5 (by rintro k (rfl | rfl | rfl) <;> omega))
  have m4 := (hF.block (w.heap.size + 1 + 1) (blk_lt n2) (by rintro (h | h | h) <;> omega)).trans n2
  have o0 : w2.cell? ⟨w.heap.size + 1 + 1 + 1, 0, none⟩ = some (.int .i64 1) := (blk_cell ho 0).trans rfl
  have o1 : w2.cell? ⟨w.heap.size + 1 + 1 + 1, 1, none⟩ = some (.string mt) := (blk_cell ho 1).trans rfl
  have o2 : w2.cell? ⟨w.heap.size + 1 + 1 + 1, 2, none⟩ = some (.int .i64 2) := (blk_cell ho 2).trans rfl
  have o3 : w2.cell? ⟨w.heap.size + 1 + 1 + 1, 3, none⟩ = some (.slice A2 0 c2) := (blk_cell ho 3).trans rfl
  have o4 : w2.cell? ⟨w.heap.size + 1 + 1 + 1 + 1, 0, none⟩ = some (.bool true) := (blk_cell hb 0).trans rfl
  have p0 : w2.cell? ⟨w.heap.size + 1 + 1, 0, none⟩ = some (.int .i64 0) := (blk_cell m4 0).trans rfl
  have p1 : w2.cell? ⟨w.heap.size + 1 + 1, 1, none⟩ = some (.string mt) := (blk_cell m4 1).trans rfl
  have p2 : w2.cell? ⟨w.heap.size + 1 + 1, 2, none⟩ = some (.int .i64 0) := (blk_cell m4 2).trans rfl
  have p3 : w2.cell? ⟨w.heap.size + 1 + 1, 3, none⟩ = some (.slice none 0 0) := (blk_cell m4 3).trans rfl
  have g0 := blk_frozen m4 0
  have g1 := blk_frozen m4 1
  have g2 := blk_frozen m4 2
  have g3 := blk_frozen m4 3
  have HB2 := hide hB2
  have M4 := hide m4
  clear hW5 hb5 n1 n2 n3 n4 n5 hs5 hF hb ho hB2 m4
  go_wp2
  go_region
  go_wp2
  refine bodyPost_ret (v := .tuple #[.agg #[.int .i64 1, .string mt, .int .i64 2, .slice A2 0 c2], .bool true]) (by simp [results, Tryd.results20, go_sem, p0, p1, p2, p3]) rfl ?_
  refine ⟨⟨_, _, rfl⟩, HB2.out.trans ?_⟩
  refine Fr.below (S := fun j => j = w.heap.size + 1 + 1) ?_ HB2.out.size (by rintro k rfl; omega)
  exact Fr.drew <| Fr.setCell (p := ⟨w.heap.size + 1 + 1, 3, none⟩) (Fr.setCell (p := ⟨w.heap.size + 1 + 1, 2, none⟩) (Fr.setCell (p := ⟨w.heap.size + 1 + 1, 1, none⟩) (Fr.setCell (p := ⟨w.heap.size + 1 + 1, 0, none⟩) (Fr.refl (fun j => j = w.heap.size + 1 + 1) _) (.inl rfl) _) (.inl rfl) _) (.inl rfl) _) (.inl rfl) _
end
end Go.Proofs.YtldgmneijipbjaaDoor.H
