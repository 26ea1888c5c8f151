/- The contract of tree.Same, and of slices.EqualFunc where it calls it. -/
import Derived.Test.YtldgmneijipbjaaDoorT2
namespace Go.Proofs.YtldgmneijipbjaaDoor.H
open Go.RowKit Go.Proofs.YtldgmneijipbjaaDoorW.PrintWords Go.Proofs.YtldgmneijipbjaaDoorW.PrintLast Go.Proofs.YtldgmneijipbjaaDoorW.PrintMore
open PTreeSames Pu
set_option linter.unusedVariables false
set_option linter.unusedSimpArgs false

def SameB (w : World) (b : Bool) (e : Ending) (w' : World) : Prop := e = .returned (.bool b) ∧ Below w.heap.size w w'
/-- the cells of two rows of trees -/
structure EQ (w : World) (l1 l2 : List Tr) (A B : Option Addr) (n : Nat) (wr : World) : Prop where
  r1 : Kd.C KT wr A l1.length l1
  r2 : Kd.C KT wr B l2.length l2
  below : Below w.heap.size w wr
theorem C_kid {w : World} {l : List Tr} {A : Option Addr} (h : Kd.C KT w A l.length l) {i : Nat} {y : Tr} (hy : l[i]? = some y) :
    ∃ ad A' c', A = some ad ∧ Rd w y A' c' ∧ w.cell? (ad.add (i * 4)) = some (.int .i64 y.f0) ∧ w.cell? ⟨(ad.add (i * 4)).block, (ad.add (i * 4)).off + 1, none⟩ = some (.string y.f1) ∧ w.cell? ⟨(ad.add (i * 4)).block, (ad.add (i * 4)).off + 2, none⟩ = some (.int .i64 y.f2) ∧ w.cell? ⟨(ad.add (i * 4)).block, (ad.add (i * 4)).off + 3, none⟩ = some (.slice A' y.f3.length c') :=
  Rd.kid (x := ⟨0, ⟨#[]⟩, 0, l⟩) (c := l.length) ⟨h, Nat.le_refl _⟩ hy

set_option maxRecDepth 100000 in
set_option maxHeartbeats 4000000 in
theorem equalFunc_any (l1 l2 : List Tr) (hl1 : l1.length ≤ 2513169434843) (hl2 : l2.length ≤ 2513169434843)
    (ih : ∀ x y, x ∈ l1 → y ∈ l2 → ∀ A c B d w, Rd w x A c → Rd w y B d → Calls Tryd.prog 10 #[nd x A c, nd y B d] w (SameB w (sm x y)))
    (A B : Option Addr) (c d : Nat) (w : World) (h1 : Kd.C KT w A l1.length l1) (h2 : Kd.C KT w B l2.length l2) :
    Calls Tryd.prog 22 #[.slice A l1.length c, .slice B l2.length d, .func (.func 10) #[] #[]] w (SameB w (sm l1 l2)) := by
  have IH := hide ih
  have Q0 := hide (show EQ w l1 l2 A B l1.length w from ⟨h1, h2, Below.refl _ _⟩)
  obtain ⟨n, hn⟩ : ∃ n, l1.length = n := ⟨_, rfl⟩
  obtain ⟨m, hm⟩ : ∃ m, l2.length = m := ⟨_, rfl⟩
  have HN := hide hn
  have HM := hide hm
  rw [hn] at hl1 Q0 ⊢
  rw [hm] at hl2 ⊢
  clear ih h1 h2 hn hm
  by_cases hne : n = m
  · subst hne
    go_enter Tryd.func22, Tryd.ntmps22
    go_wp2
    go_loopg [17] (n + 1) (fun gk v17 wr => ∃ i : Nat, i ≤ n ∧ n - i < gk ∧ v17 = .int .i64 i ∧ Aside0 (EQ w l1 l2 A B n wr ∧ sm l1 l2 = sm (l1.drop i) (l2.drop i)))
    case atStart => exact ⟨0, Nat.zero_le _, by omega, rfl, ⟨Q0.out, by simp⟩⟩
    case round =>
      obtain ⟨i, hi, hgk, rfl, Q⟩ := hrel
      clear Q0
      by_cases hlt : i < n
      · have hlti : (i : Int) < (n : Int) := by omega
        obtain ⟨x, hx⟩ := get_of (l := l1) (i := i) (by rw [HN.out]; exact hlt)
        obtain ⟨y, hy⟩ := get_of (l := l2) (i := i) (by rw [HM.out]; exact hlt)
        obtain ⟨ad, A', c', rfl, hrx, k0, k1, k2, k3⟩ := C_kid Q.out.1.r1 hx
        obtain ⟨ae, B', d', rfl, hry, j0, j1, j2, j3⟩ := C_kid Q.out.1.r2 hy
        have HX := hide hx
        have HY := hide hy
        have HRX := hide hrx
        have HRY := hide hry
        have j0' := fun o => cell_al o j0
        have j1' := fun o => cell_al o j1
        have j2' := fun o => cell_al o j2
        have j3' := fun o => cell_al o j3
        clear hx hy hrx hry j0 j1 j2 j3
        by_cases hxy : x = y
        · have hsm := sm_true hxy
          have HXY := hide hxy
          have HSM := hide hsm
          clear hxy hsm
          go_wp2_with (go_at_call 10; refine (IH.out x y (List.mem_of_getElem? HX.out) (List.mem_of_getElem? HY.out) A' c' B' d' _ (HRX.out.below ((below_alloc (below_alloc (Below.refl _ _) _) _))) (HRY.out.below ((below_alloc (below_alloc (Below.refl _ _) _) _)))).mono ?_; rintro e w2 ⟨rfl, h2⟩; rw [HSM.out]; have HB2 := hide (Below.trans ((below_alloc (below_alloc (Below.refl wr.heap.size wr) _) _)) (h2.mono (by simp; omega))); clear h2)
          go_roundg (n - i)
          case measure => omega
          case rel => exact ⟨i + 1, by omega, by omega, by go_num, ⟨⟨C_le Q.out.1.r1 HB2.out, C_le Q.out.1.r2 HB2.out, Q.out.1.below.trans (HB2.out.mono Q.out.1.below.size)⟩, by
            rw [Q.out.2, drop_at HX.out, drop_at HY.out]
            exact sm_congr (by rw [HXY.out]; simp)⟩⟩
        · have hsm := sm_false hxy
          have HXY := hide hxy
          have HSM := hide hsm
          clear hxy hsm
          go_wp2_with (go_at_call 10; refine (IH.out x y (List.mem_of_getElem? HX.out) (List.mem_of_getElem? HY.out) A' c' B' d' _ (HRX.out.below ((below_alloc (below_alloc (Below.refl _ _) _) _))) (HRY.out.below ((below_alloc (below_alloc (Below.refl _ _) _) _)))).mono ?_; rintro e w2 ⟨rfl, h2⟩; rw [HSM.out]; have HB2 := hide (Below.trans ((below_alloc (below_alloc (Below.refl wr.heap.size wr) _) _)) (h2.mono (by simp; omega))); clear h2)
          go_ret
          refine ⟨ret_bool ?_, Q.out.1.below.trans (HB2.out.mono Q.out.1.below.size)⟩
          rw [Q.out.2, drop_at HX.out, drop_at HY.out, sm_false (fun q => HXY.out (List.cons.inj q).1)]
      · obtain rfl : i = n := by omega
        go_wp2
        go_ret
        refine ⟨ret_bool ?_, Q.out.1.below⟩
        rw [Q.out.2, List.drop_eq_nil_of_le (by rw [HN.out]; exact Nat.le_refl _), List.drop_eq_nil_of_le (by rw [HM.out]; exact Nat.le_refl _), sm_true rfl]
  · have hni : ((n : Int) == (m : Int)) = false := by simp; omega
    have hni2 : ((n : Int) != (m : Int)) = true := by simp; omega
    have hni3 : ¬ (n : Int) = (m : Int) := by omega
    go_enter Tryd.func22, Tryd.ntmps22
    go_wp2
    go_ret
    refine ⟨ret_bool ?_, Q0.out.below⟩
    rw [sm_false (fun q => hne (by rw [← HN.out, ← HM.out, q]))]

set_option maxRecDepth 100000 in
set_option maxHeartbeats 4000000 in
theorem tsame_up (m : Nat) : ∀ (x y : Tr), SizeOf.sizeOf x ≤ m → Fit x → Fit y → ∀ (A : Option Addr) (c : Nat) (B : Option Addr) (d : Nat) (w : World), Rd w x A c → Rd w y B d → Calls Tryd.prog 10 #[nd x A c, nd y B d] w (SameB w (sm x y)) := by
  induction m with
  | zero => intro x y hx; obtain ⟨a, b, c, d⟩ := x; simp [S24.mk.sizeOf_spec] at hx
  | succ m ih =>
    intro x y hx hf hg A c B d w hr hs
    have hef := fun W (h1 : Kd.C KT W A x.f3.length x.f3) (h2 : Kd.C KT W B y.f3.length y.f3) => equalFunc_any x.f3 y.f3 hf.len hg.len (fun a b ha hb A c B d w r s => ih a b (by have := kid_lt ha; omega) (hf.kid ha) (hg.kid hb) A c B d w r s) A B c d W h1 h2
    obtain ⟨x0, x1, x2, xl⟩ := x
    obtain ⟨y0, y1, y2, yl⟩ := y
    simp only at *
    have HEF := hide hef
    have HR := hide hr
    have HS := hide hs
    have e0 : ∀ {p q : Prop}, (p ↔ q) → (p = q) := propext
    clear ih hx hf hg hef hr hs e0
    unfold nd
    simp only
    by_cases h0 : x0 = y0
    · have h0b : (x0 == y0) = true := beq_iff_eq.mpr h0
      by_cases h1 : x1.toList = y1.toList
      · have h1b : (x1.toList == y1.toList) = true := beq_iff_eq.mpr h1
        by_cases h2 : x2 = y2
        · have h2b : (x2 == y2) = true := beq_iff_eq.mpr h2
          have hsm : sm (⟨x0, x1, x2, xl⟩ : Tr) ⟨y0, y1, y2, yl⟩ = sm xl yl := sm_congr (by rw [str_eq] at h1; rw [h0, h1, h2]; simp)
          rw [hsm]
          clear h0 h1 h2 hsm
          go_enter Tryd.func10, Tryd.ntmps10
          go_wp2_with (go_at_call 22; refine (HEF.out _ (C_le HR.out.kids (below_alloc (below_alloc (Below.refl _ _) _) _)) (C_le HS.out.kids (below_alloc (below_alloc (Below.refl _ _) _) _))).mono ?_; rintro e w2 ⟨rfl, h2⟩; have HB2 := hide (Below.trans ((below_alloc (below_alloc (Below.refl w.heap.size w) _) _)) (h2.mono (by simp; omega))); clear h2)
          go_ret
          exact ⟨rfl, HB2.out⟩
        · have h2b : (x2 == y2) = false := by simpa using h2
          have hsm : sm (⟨x0, x1, x2, xl⟩ : Tr) ⟨y0, y1, y2, yl⟩ = false := sm_false (fun q => h2 (by injection q))
          rw [hsm]
          clear h0 h1 h2 hsm
          go_enter Tryd.func10, Tryd.ntmps10
          go_wp2
          go_ret
          exact ⟨rfl, below_alloc (below_alloc (Below.refl _ _) _) _⟩
      · have h1b : (x1.toList == y1.toList) = false := by simpa using h1
        have hsm : sm (⟨x0, x1, x2, xl⟩ : Tr) ⟨y0, y1, y2, yl⟩ = false := sm_false (fun q => h1 (str_eq.2 (by injection q)))
        rw [hsm]
        clear h0 h1 hsm
        go_enter Tryd.func10, Tryd.ntmps10
        go_wp2
        go_ret
        exact ⟨rfl, below_alloc (below_alloc (Below.refl _ _) _) _⟩
    · have h0b : (x0 == y0) = false := by simpa using h0
      have hsm : sm (⟨x0, x1, x2, xl⟩ : Tr) ⟨y0, y1, y2, yl⟩ = false := sm_false (fun q => h0 (by injection q))
      rw [hsm]
      clear h0 hsm
      go_enter Tryd.func10, Tryd.ntmps10
      go_wp2
      go_ret
      exact ⟨rfl, below_alloc (below_alloc (Below.refl _ _) _) _⟩
theorem tsame_any {x y : Tr} {A B : Option Addr} {c d : Nat} {w : World} (hf : Fit x) (hg : Fit y) (h : Rd w x A c) (k : Rd w y B d) : Calls Tryd.prog 10 #[nd x A c, nd y B d] w (SameB w (sm x y)) :=
  tsame_up _ x y (Nat.le_refl _) hf hg A c B d w h k
end Go.Proofs.YtldgmneijipbjaaDoor.H
