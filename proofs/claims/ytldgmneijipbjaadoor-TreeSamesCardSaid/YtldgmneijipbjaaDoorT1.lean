/- The contract of tree.Copy: the same tree in memory of the call's own. -/
import Derived.Test.YtldgmneijipbjaaDoorT0
namespace Go.Proofs.YtldgmneijipbjaaDoor.H
open Go.RowKit Go.Proofs.YtldgmneijipbjaaDoorW.PrintWords Go.Proofs.YtldgmneijipbjaaDoorW.PrintLast Go.Proofs.YtldgmneijipbjaaDoorW.PrintMore
open PTreeSames
set_option linter.unusedVariables false
set_option linter.unusedSimpArgs false

theorem R_blk {α : Type} {d : Kd α} {e base b : Nat} {ok : Nat → Prop} {v : Value} {xs : List α} {w : World} (h : d.R e w base ok v xs) (hb : v.ownBlock = some b) : ∃ cap, v = .slice (some ⟨b, 0, none⟩) xs.length cap := by
  obtain ⟨_, inner, ⟨_, h2⟩, _⟩ := h
  rcases h2 with ⟨rfl, _⟩ | ⟨g, cap, cur, rfl, _⟩
  · simp [Value.ownBlock] at hb
  · simp [Value.ownBlock] at hb
    subst hb
    exact ⟨cap, rfl⟩
/-- a tree of the call's own -/
def OwnNode (w : World) (x : Tr) (e : Ending) (w' : World) : Prop := ∃ v3, e = .returned (.agg #[.int .i64 x.f0, .string x.f1, .int .i64 x.f2, v3]) ∧ KT.R 24 w' w.heap.size (fun k => w.heap.size ≤ k) v3 x.f3 ∧ Below w.heap.size w w'
/-- element i of a row of trees of one's own is written -/
theorem R_putM {W : World} {base g n cap i : Nat} {ok okp : Nat → Prop} {xs : List Tr} {y : Tr} {v3 : Value} (h : KT.R 24 W base ok (.slice (some ⟨g, 0, none⟩) n cap) xs) (hi : i < n) (hM : KT.R 24 W base okp v3 y.f3) (hokp : ∀ k, okp k → ok k ∧ k ≠ g) :
    (∃ u, W.cell? ⟨g, i * 4, none⟩ = some u) ∧ (∃ u, W.cell? ⟨g, i * 4 + 1, none⟩ = some u) ∧ (∃ u, W.cell? ⟨g, i * 4 + 2, none⟩ = some u) ∧ (∃ u, W.cell? ⟨g, i * 4 + 3, none⟩ = some u) ∧
      W.frozen? ⟨g, i * 4, none⟩ = false ∧ W.frozen? ⟨g, i * 4 + 1, none⟩ = false ∧ W.frozen? ⟨g, i * 4 + 2, none⟩ = false ∧ W.frozen? ⟨g, i * 4 + 3, none⟩ = false ∧
      KT.R 24 ((((W.setCell ⟨g, i * 4, none⟩ (.int .i64 y.f0)).setCell ⟨g, i * 4 + 1, none⟩ (.string y.f1)).setCell ⟨g, i * 4 + 2, none⟩ (.int .i64 y.f2)).setCell ⟨g, i * 4 + 3, none⟩ v3) base ok (.slice (some ⟨g, 0, none⟩) n cap) (xs.set i y) := by
  obtain ⟨c, hcl, hM0, hcc, hff⟩ := Kd.R_elem h z24 (i : Int) (by omega) (by omega)
  have hs : KT.sz = 4 := rfl
  rw [hs] at hcl hcc hff
  rw [Int.toNat_natCast] at hcc hff
  obtain ⟨w3, rfl, -⟩ := k24_openM hM0
  have hMy := k24_mkM W base okp y hM
  have hp := (Kd.R_seg h (i : Int) (by omega) (by omega) (j := 0) (seg := [.int .i64 y.f0, .string y.f1, .int .i64 y.f2, v3]) (x' := y) (okp := okp) hcl (by rw [Int.toNat_natCast, hs]; exact hcc) (by rw [hs]; simp) (by simpa using hMy) hokp).1
  rw [Int.toNat_natCast, hs] at hp
  exact ⟨⟨_, hcc 0 _ rfl⟩, ⟨_, hcc 1 _ rfl⟩, ⟨_, hcc 2 _ rfl⟩, ⟨_, hcc 3 _ rfl⟩, hff 0, hff 1, hff 2, hff 3, hp⟩

/-- the loop of Copy -/
structure CQ (w : World) (x : Tr) (A : Option Addr) (c gr cr n i : Nat) (wr : World) : Prop where
  blk1 : wr.heap[w.heap.size]? = some (.cells #[.int .i64 x.f0, .string x.f1, .int .i64 x.f2, .slice A n c] 24 (0, 0))
  blk2 : wr.heap[w.heap.size + 1]? = some (.cells #[.int .i64 0, .string ⟨#[]⟩, .int .i64 0, .slice none 0 0] 24 (0, 0))
  row : KT.R 24 wr w.heap.size (fun k => w.heap.size + 2 ≤ k) (.slice (some ⟨gr, 0, none⟩) n cr) (x.f3.take i ++ List.replicate (n - i) z24)
  below : Below w.heap.size w wr
theorem CQ.start {w w4 : World} {x : Tr} {A : Option Addr} {c gr cr n : Nat} (h1 : KT.R 24 w4 w.heap.size (fun k => w.heap.size + 2 ≤ k) (.slice (some ⟨gr, 0, none⟩) (List.replicate (n : Int).toNat (z24 : Tr)).length cr) (List.replicate (n : Int).toNat z24)) (hb : Below w.heap.size w w4)
    (hg : ((w.alloc (.cells #[.int .i64 x.f0, .string x.f1, .int .i64 x.f2, .slice A n c] 24)).alloc (.cells #[.int .i64 0, .string ⟨#[]⟩, .int .i64 0, .slice none 0 0] 24)).grownBy w4 none) : CQ w x A c gr cr n 0 w4 := by
  refine ⟨?_, ?_, by simpa using h1, hb⟩
  · rw [hg.block _ (by simp; omega) (by simp)]
    exact blk_alloc (blk_new w _) _
  · rw [hg.block _ (by simp) (by simp)]
    have := blk_new (w.alloc (.cells #[.int .i64 x.f0, .string x.f1, .int .i64 x.f2, .slice A n c] 24)) (.cells #[.int .i64 0, .string ⟨#[]⟩, .int .i64 0, .slice none 0 0] 24)
    rwa [World.size_alloc] at this
theorem CQ.cells {w wr : World} {x : Tr} {A : Option Addr} {c gr cr n i : Nat} (q : CQ w x A c gr cr n i wr) :
    wr.cell? ⟨w.heap.size, 0, none⟩ = some (.int .i64 x.f0) ∧ wr.cell? ⟨w.heap.size, 1, none⟩ = some (.string x.f1) ∧ wr.cell? ⟨w.heap.size, 2, none⟩ = some (.int .i64 x.f2) ∧ wr.cell? ⟨w.heap.size, 3, none⟩ = some (.slice A n c) ∧
    wr.cell? ⟨w.heap.size + 1, 0, none⟩ = some (.int .i64 0) ∧ wr.cell? ⟨w.heap.size + 1, 1, none⟩ = some (.string ⟨#[]⟩) ∧ wr.cell? ⟨w.heap.size + 1, 2, none⟩ = some (.int .i64 0) ∧ wr.cell? ⟨w.heap.size + 1, 3, none⟩ = some (.slice none 0 0) ∧
    wr.frozen? ⟨w.heap.size, 3, none⟩ = false ∧ wr.frozen? ⟨w.heap.size + 1, 0, none⟩ = false ∧ wr.frozen? ⟨w.heap.size + 1, 1, none⟩ = false ∧ wr.frozen? ⟨w.heap.size + 1, 2, none⟩ = false ∧ wr.frozen? ⟨w.heap.size + 1, 3, none⟩ = false :=
  ⟨(blk_cell q.blk1 0).trans rfl, (blk_cell q.blk1 1).trans rfl, (blk_cell q.blk1 2).trans rfl, (blk_cell q.blk1 3).trans rfl, (blk_cell q.blk2 0).trans rfl, (blk_cell q.blk2 1).trans rfl, (blk_cell q.blk2 2).trans rfl, (blk_cell q.blk2 3).trans rfl,
    blk_frozen q.blk1 3, blk_frozen q.blk2 0, blk_frozen q.blk2 1, blk_frozen q.blk2 2, blk_frozen q.blk2 3⟩
theorem take_rep_set {α : Type} (l : List α) (z y : α) (n i : Nat) (hn : l.length = n) (hy : l[i]? = some y) : (l.take i ++ List.replicate (n - i) z).set i y = l.take (i + 1) ++ List.replicate (n - (i + 1)) z := by
  have hi : i < l.length := (List.getElem?_eq_some_iff.1 hy).1
  have e : n - i = (n - (i + 1)) + 1 := by omega
  rw [e, List.replicate_succ, List.set_append_right _ _ (by rw [List.length_take]; omega), List.length_take, Nat.min_eq_left (by omega), Nat.sub_self, List.set_cons_zero, List.take_succ_eq_append_getElem hi, (List.getElem?_eq_some_iff.1 hy).2, List.append_assoc]
  rfl
theorem CQ.next {w wr w2 : World} {x y : Tr} {A : Option Addr} {c gr cr n i : Nat} {o : Obj} {v3 : Value} (q : CQ w x A c gr cr n i wr) (hn : x.f3.length = n) (hy : x.f3[i]? = some y)
    (hb : Below (wr.alloc o).heap.size (wr.alloc o) w2) (hM : KT.R 24 w2 (wr.alloc o).heap.size (fun k => (wr.alloc o).heap.size ≤ k) v3 y.f3) :
    (∃ u, w2.cell? ⟨gr, i * 4, none⟩ = some u) ∧ (∃ u, w2.cell? ⟨gr, i * 4 + 1, none⟩ = some u) ∧ (∃ u, w2.cell? ⟨gr, i * 4 + 2, none⟩ = some u) ∧ (∃ u, w2.cell? ⟨gr, i * 4 + 3, none⟩ = some u) ∧
      w2.frozen? ⟨gr, i * 4, none⟩ = false ∧ w2.frozen? ⟨gr, i * 4 + 1, none⟩ = false ∧ w2.frozen? ⟨gr, i * 4 + 2, none⟩ = false ∧ w2.frozen? ⟨gr, i * 4 + 3, none⟩ = false ∧
      CQ w x A c gr cr n (i + 1) ((((w2.setCell ⟨gr, i * 4, none⟩ (.int .i64 y.f0)).setCell ⟨gr, i * 4 + 1, none⟩ (.string y.f1)).setCell ⟨gr, i * 4 + 2, none⟩ (.int .i64 y.f2)).setCell ⟨gr, i * 4 + 3, none⟩ v3) := by
  have hi : i < x.f3.length := (List.getElem?_eq_some_iff.1 hy).1
  have hb1 := Below.trans (below_alloc (Below.refl wr.heap.size wr) o) (hb.mono (by simp))
  have hws := q.below.size
  have hgr : w.heap.size + 2 ≤ gr := q.row.1 gr rfl
  have hlt := blk_lt q.blk2
  have hrow2 : KT.R 24 w2 w.heap.size (fun k => w.heap.size + 2 ≤ k) (.slice (some ⟨gr, 0, none⟩) n cr) (x.f3.take i ++ List.replicate (n - i) z24) := Kd.R_below q.row hb1
  have hgl := Kd.R_lt q.row gr rfl
  obtain ⟨a0, a1, a2, a3, b0, b1, b2, b3, hp⟩ := R_putM hrow2 (i := i) (by omega) (Kd.R_lower hM (by simp; omega)) (fun k hk => ⟨by simp at hk; omega, by simp at hk; omega⟩)
  rw [take_rep_set _ _ _ _ _ hn hy] at hp
  have e1 : ∀ (j : Nat) u (W : World), w.heap.size ≠ gr → (W.setCell ⟨gr, j, none⟩ u).heap[w.heap.size]? = W.heap[w.heap.size]? := fun j u W h => Below.heap_setCell _ _ _ _ h
  have e2 : ∀ (j : Nat) u (W : World), w.heap.size + 1 ≠ gr → (W.setCell ⟨gr, j, none⟩ u).heap[w.heap.size + 1]? = W.heap[w.heap.size + 1]? := fun j u W h => Below.heap_setCell _ _ _ _ h
  refine ⟨a0, a1, a2, a3, b0, b1, b2, b3, ?_, ?_, hp, ?_⟩
  · rw [e1 _ _ _ (by omega), e1 _ _ _ (by omega), e1 _ _ _ (by omega), e1 _ _ _ (by omega), hb1.block _ (by omega)]
    exact q.blk1
  · rw [e2 _ _ _ (by omega), e2 _ _ _ (by omega), e2 _ _ _ (by omega), e2 _ _ _ (by omega), hb1.block _ (by omega)]
    exact q.blk2
  · exact (((((q.below.trans (hb1.mono hws)).setCell (p := ⟨gr, i * 4, none⟩) (by show w.heap.size ≤ gr; omega) _).setCell (p := ⟨gr, i * 4 + 1, none⟩) (by show w.heap.size ≤ gr; omega) _).setCell (p := ⟨gr, i * 4 + 2, none⟩) (by show w.heap.size ≤ gr; omega) _).setCell (p := ⟨gr, i * 4 + 3, none⟩) (by show w.heap.size ≤ gr; omega) _)

set_option maxRecDepth 100000 in
set_option maxHeartbeats 4000000 in
theorem copy_up (m : Nat) : ∀ (x : Tr), SizeOf.sizeOf x ≤ m → Fit x → ∀ (A : Option Addr) (c : Nat) (w : World), Rd w x A c → Calls Tryd.prog 12 #[nd x A c] w (OwnNode w x) := by
  induction m with
  | zero => intro x hx; obtain ⟨a, b, c, d⟩ := x; simp [S24.mk.sizeOf_spec] at hx
  | succ m ih =>
    intro x hx hf A c w hr
    have IH := hide (fun (y : Tr) (hy : y ∈ x.f3) => ih y (by have := kid_lt hy; omega) (hf.kid hy))
    have HR := hide hr
    obtain ⟨n, hn⟩ : ∃ n, x.f3.length = n := ⟨_, rfl⟩
    have hnb : n ≤ 2513169434843 := by rw [← hn]; exact hf.len
    have HN := hide hn
    clear ih hx hf hr
    unfold nd
    rw [hn]
    clear hn
    by_cases h0 : n = 0
    · subst h0
      go_enter Tryd.func12, Tryd.ntmps12
      go_wp2
      refine bodyPost_ret (v := .agg #[.int .i64 x.f0, .string x.f1, .int .i64 x.f2, .slice none 0 0]) (by simp [results, Tryd.results12, go_sem]) rfl ?_
      refine ⟨_, rfl, ?_, ?_⟩
      · rw [List.eq_nil_of_length_eq_zero HN.out]
        exact Kd.R_nil _ _ _ _ _
      · exact Fr.below (S := fun k => k = w.heap.size ∨ k = w.heap.size + 1) (by repeat (first | exact Fr.refl _ _ | refine Fr.alloc ?_ _ | refine Fr.setCell ?_ (.inl (by simp)) _ | refine Fr.setCell ?_ (.inl (by simp)) _)) (Nat.le_refl _) (by rintro k (rfl | rfl) <;> omega)
    · have hpos : 0 < n := by omega
      obtain ⟨ad, rfl⟩ := C_some HR.out.kids (by rw [HN.out]; exact hpos)
      go_enter Tryd.func12, Tryd.ntmps12
      go_wp2_with ((with_reducible refine gate_dst (N := 15) rfl ?_); refine Kd.R_make KT (w0 := w) w.heap.size 24 rfl (N := 15) rfl 22 _ _ rfl (n : Int) rfl rfl Tryd.underlying22 (.agg #[.int .i64 0, .string ⟨#[]⟩, .int .i64 0, .slice none 0 0]) 56 info24 rfl (by decide) (by omega) (z24 : Tr) (ok := fun k => w.heap.size + 2 ≤ k) (okp := fun _ => False) ?m1 (fun _ hk => hk.elim) (by simp) (by omega) (by omega) ?m2 ?m3 ?_; (case m1 => exact k24_mkM _ _ _ z24 (Kd.R_nil _ _ _ _ _)); (case m2 => exact ((Below.refl _ w).alloc (Nat.le_refl _) _).alloc (by simp) _); (case m3 => simp; omega); intro v4 w4 h1 h2 h3 h4; obtain ⟨gr, h4, h5⟩ := h4; obtain ⟨cr, rfl⟩ := R_blk h1 h4; have Q0 := hide (CQ.start h1 h2 h3); obtain ⟨-, -, -, c13, -⟩ := Q0.out.cells; clear h1 h2 h3 h4 h5)
      clear c13
      go_loopg [19] (n + 1) (fun gk v19 wr => ∃ i : Nat, i ≤ n ∧ n - i < gk ∧ v19 = .int .i64 i ∧ Aside0 (CQ w x (some ad) c gr cr n i wr))
      case atStart => exact ⟨0, Nat.zero_le _, by omega, rfl, Q0⟩
      case round =>
        obtain ⟨i, hi, hgk, rfl, Q⟩ := hrel
        clear Q0
        by_cases hlt : i < n
        · have hlti : (i : Int) < (n : Int) := by omega
          obtain ⟨y, hy⟩ : ∃ y, x.f3[i]? = some y := ⟨_, List.getElem?_eq_getElem (by rw [HN.out]; exact hlt)⟩
          obtain ⟨ad', A', c', e, hry, k0, k1, k2, k3⟩ := (HR.out.below Q.out.below).kid hy
          cases e
          have HY := hide hy
          have HRY := hide hry
          clear hy hry
          go_wp2_with (go_at_call 12; refine (IH.out y (kid_mem HY.out) A' c' _ (HRY.out.below (below_alloc (Below.refl _ _) _))).mono ?_; rintro e w2 ⟨v3, rfl, h1, h2⟩; obtain ⟨⟨u0, a0⟩, ⟨u1, a1⟩, ⟨u2, a2⟩, ⟨u3, a3⟩, b0, b1, b2, b3, q2⟩ := Q.out.next HN.out HY.out h2 h1; have Q2 := hide q2; obtain ⟨v3', e3⟩ : ∃ v : Value, v = v3 := ⟨_, rfl⟩; obtain ⟨A3, c3, rfl, -, -⟩ := Kd.R_reads h1; clear h1 h2 q2 e3 v3')
          go_roundg (n - i)
          case measure => omega
          case rel => exact ⟨i + 1, by omega, by omega, by go_num, Q2⟩
        · obtain rfl : i = n := by omega
          obtain ⟨a0, a1, a2, a3, d0, d1, d2, d3, e0, f0, f1, f2, f3⟩ := Q.out.cells
          go_wp2
          refine bodyPost_ret (v := .agg #[.int .i64 x.f0, .string x.f1, .int .i64 x.f2, .slice (some ⟨gr, 0, none⟩) i cr]) (by simp [results, Tryd.results12, go_sem, a0, a1, a2, a3, d0, d1, d2, d3]) rfl ?_
          have hrow := Q.out.row
          rw [Nat.sub_self, List.replicate_zero, List.append_nil, List.take_of_length_le (by rw [HN.out]; exact Nat.le_refl _)] at hrow
          have hws := Q.out.below.size
          have hFr : ∀ u0 u1 u2 u3 u4, Fr (fun k => k = w.heap.size ∨ k = w.heap.size + 1) wr (((((wr.setCell ⟨w.heap.size, 3, none⟩ u0).setCell ⟨w.heap.size + 1, 0, none⟩ u1).setCell ⟨w.heap.size + 1, 1, none⟩ u2).setCell ⟨w.heap.size + 1, 2, none⟩ u3).setCell ⟨w.heap.size + 1, 3, none⟩ u4) := fun u0 u1 u2 u3 u4 =>
            (((((Fr.refl _ wr).setCell (.inl (.inl rfl)) _).setCell (.inl (.inr rfl)) _).setCell (.inl (.inr rfl)) _).setCell (.inl (.inr rfl)) _).setCell (.inl (.inr rfl)) _
          exact ⟨_, rfl, Kd.R_mono (fr_R hrow (hFr _ _ _ _ _) (by rintro k hk (rfl | rfl) <;> omega)) (fun k hk => by omega), Q.out.below.trans ((hFr _ _ _ _ _).below hws (by rintro k (rfl | rfl) <;> omega))⟩
/-- Copy, at every tree that lies in memory -/
theorem copy_any (x : Tr) (hf : Fit x) (A : Option Addr) (c : Nat) (w : World) (h : Rd w x A c) : Calls Tryd.prog 12 #[nd x A c] w (OwnNode w x) := copy_up _ x (Nat.le_refl _) hf A c w h
/-- what a tree of one's own reads as -/
theorem OwnNode.rd {w w' : World} {x : Tr} {e : Ending} (h : OwnNode w x e w') : ∃ A c, e = .returned (nd x A c) ∧ Rd w' x A c ∧ KT.R 24 w' w.heap.size (fun k => w.heap.size ≤ k) (.slice A x.f3.length c) x.f3 ∧ Below w.heap.size w w' := by
  obtain ⟨v3, rfl, h1, h2⟩ := h
  obtain ⟨A, c, rfl, hc, hC⟩ := Kd.R_reads h1
  exact ⟨A, c, rfl, ⟨hC, hc⟩, h1, h2⟩
end Go.Proofs.YtldgmneijipbjaaDoor.H
