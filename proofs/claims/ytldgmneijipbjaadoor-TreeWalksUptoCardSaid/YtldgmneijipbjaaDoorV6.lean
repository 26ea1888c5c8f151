/- The reference's Flat: the cells of all trees, appended to a row of the call's own. -/
import Derived.Test.YtldgmneijipbjaaDoorV5
namespace Go.Proofs.YtldgmneijipbjaaDoor.H
open Go.RowKit Go.Shelf Go.Proofs.YtldgmneijipbjaaDoorW.PrintWords Go.Proofs.YtldgmneijipbjaaDoorW.PrintLast Go.Proofs.YtldgmneijipbjaaDoorW.PrintMore
open PTreeSames Pu
set_option linter.unusedVariables false
set_option linter.unusedSimpArgs false
attribute [local go_sem] Oper.semAt_some

abbrev KV : Kd (List Value) := Kd.raw 4
/-- the cells of the trees L -/
structure Lays (w0 : World) (D : Nat) (L : List Tr) (ys : List (List Value)) : Prop where
  len : ys.length = L.length
  get : ∀ (j : Nat) (y : Tr), L[j]? = some y → ∃ A c, ys[j]? = some (cs4 y A c) ∧ RdF w0 (fun k => k < D) y A c
theorem Lays.nil (w0 : World) (D : Nat) : Lays w0 D [] [] := ⟨rfl, fun j y h => by simp at h⟩
theorem Lays.append {w0 : World} {D : Nat} {L L' : List Tr} {ys ys' : List (List Value)} (h : Lays w0 D L ys) (h' : Lays w0 D L' ys') : Lays w0 D (L ++ L') (ys ++ ys') := by
  refine ⟨by rw [List.length_append, List.length_append, h.len, h'.len], fun j y hj => ?_⟩
  by_cases hlt : j < L.length
  · rw [List.getElem?_append_left hlt] at hj
    rw [List.getElem?_append_left (by rw [h.len]; exact hlt)]
    exact h.get j y hj
  · rw [List.getElem?_append_right (by omega)] at hj
    rw [List.getElem?_append_right (by rw [h.len]; omega), h.len]
    exact h'.get _ y hj
theorem Lays.one {w0 : World} {D : Nat} {y : Tr} {A : Option Addr} {c : Nat} (h : RdF w0 (fun k => k < D) y A c) : Lays w0 D [y] [cs4 y A c] := by
  refine ⟨rfl, fun j z hj => ?_⟩
  cases j with
  | zero => simp at hj; subst hj; exact ⟨A, c, rfl, h⟩
  | succ j => simp at hj
def OwnB (v : Value) (k : Nat) : Prop := v.ownBlock = some k
def OwnAt (W : World) (v v1 : Value) : Prop := v1.ownBlock = v.ownBlock ∨ ∃ b, v1.ownBlock = some b ∧ W.heap.size ≤ b
theorem OwnAt.own {W : World} {v v1 : Value} (h : OwnAt W v v1) (k : Nat) (hk : OwnB v1 k) : OwnB v k ∨ W.heap.size ≤ k := by
  unfold OwnB at *
  rcases h with h | ⟨b, h, hb⟩
  · exact .inl (h ▸ hk)
  · rw [h] at hk; cases hk; exact .inr hb
theorem OwnAt.trans {W W1 : World} {v v1 v2 : Value} (h : OwnAt W v v1) (h2 : OwnAt W1 v1 v2) (hs : W.heap.size ≤ W1.heap.size) : OwnAt W v v2 := by
  rcases h2 with h2 | ⟨b, h2, hb⟩
  · rcases h with h | ⟨b, h, hb⟩
    · exact .inl (h2.trans h)
    · exact .inr ⟨b, h2.trans h, hb⟩
  · exact .inr ⟨b, h2, by omega⟩
/-- what Flat leaves -/
structure Flt (w0 : World) (D : Nat) (v : Value) (xs : List (List Value)) (L : List Tr) (W : World) (v1 : Value) (W' : World) : Prop where
  row : ∃ ys, KV.R 24 W' D (fun k => D ≤ k) v1 (xs ++ ys) ∧ Lays w0 D L ys
  fr : Fr (OwnB v) W W'
  own : OwnAt W v v1
theorem Flt.below {w0 W W' : World} {D : Nat} {v v1 : Value} {xs : List (List Value)} {L : List Tr} (q : Flt w0 D v xs L W v1 W') (hb : Below D w0 W) (hD : D ≤ W.heap.size) (hv : ∀ k, OwnB v k → D ≤ k) : Below D w0 W' := hb.trans (q.fr.below hD hv)
theorem Flt.next {w0 w wr w2 : World} {D : Nat} {v v1 v2 : Value} {xs : List (List Value)} {L L2 : List Tr} (q : Flt w0 D v xs L w v1 wr) {ys : List (List Value)} (hl : Lays w0 D L ys) (h : Flt w0 D v1 (xs ++ ys) L2 wr v2 w2) : Flt w0 D v xs (L ++ L2) w v2 w2 := by
  obtain ⟨zs, h1, h2⟩ := h.row
  exact ⟨⟨ys ++ zs, by rw [← List.append_assoc]; exact h1, hl.append h2⟩, q.fr.trans h.fr (fun k hk => q.own.own k hk), q.own.trans h.own q.fr.size⟩
structure FQ (w0 : World) (D : Nat) (v : Value) (xs : List (List Value)) (x : Tr) (A : Option Addr) (c n : Nat) (w : World) (i : Nat) (v1 : Value) (wr : World) : Prop where
  q : Flt w0 D v xs (x :: flatL (x.f3.take i)) w v1 wr
  box : wr.heap[w.heap.size]? = some (.cells #[.int .i64 x.f0, .string x.f1, .int .i64 x.f2, .slice A n c] 24 (0, 0))
  ne : ¬ OwnB v1 w.heap.size
theorem heap_KT : Kd.Heap KT := Kd.heap_fix (fun d hd => Kd.heap_iso _ (Kd.heap_pair (Kd.heap_int .i64) (Kd.heap_pair Kd.heap_string (Kd.heap_pair (Kd.heap_int .i64) (Kd.heap_slice 24 hd)))))
set_option maxRecDepth 100000 in
set_option maxHeartbeats 2000000 in
theorem flat_up (w0 : World) (D : Nat) (m : Nat) : ∀ (x : Tr), SizeOf.sizeOf x ≤ m → Fit x → ∀ (A : Option Addr) (c : Nat) (v : Value) (xs : List (List Value)) (w : World), Below D w0 w → D ≤ w.heap.size → RdF w0 (fun k => k < D) x A c → KV.R 24 w D (fun k => D ≤ k) v xs → (xs.length + (flat x).length) * 56 ≤ 140737488355328 →
    Calls Tryd.prog 5 #[nd x A c, v] w fun e w' => ∃ v1, e = .returned v1 ∧ Flt w0 D v xs (flat x) w v1 w' := by
  induction m with
  | zero => intro x hx; obtain ⟨a, b, c, d⟩ := x; simp [S24.mk.sizeOf_spec] at hx
  | succ m ih =>
    intro x hx hf A c v xs w hb hD hr hrow hbig
    have IH := hide (fun (y : Tr) (hy : y ∈ x.f3) => ih y (by have := kid_lt hy; omega) (hf.kid hy))
    obtain ⟨n, hn⟩ : ∃ n, x.f3.length = n := ⟨_, rfl⟩
    have hnb : n ≤ 2513169434843 := by rw [← hn]; exact hf.len
    have hpos := flat_pos x
    have HB := hide hb
    have HD := hide hD
    have HR := hide hr
    have HROW := hide hrow
    have HBIG := hide hbig
    have HN := hide hn
    have HL := hide (show (xs.length + 1) * 56 ≤ 140737488355328 by omega)
    unfold nd
    rw [hn]
    clear ih hx hf hb hD hr hrow hbig hn hpos
    go_enter Tryd.func5, Tryd.ntmps5
    go_wp2_with ((with_reducible refine gate_builtin (b := .append) (xs := #[.tmp 6, .tmp 8]) rfl ?_); at_builtin; refine Aside0.out ?_)
    refine ⟨?_⟩
    refine Kd.R_append KV (w0 := w0) D rfl (.tmp 6) (.tmp 8) 22 24 (.agg #[.int .i64 0, .string ⟨#[]⟩, .int .i64 0, .slice none 0 0]) 56 rfl Tryd.underlying22 info24 rfl (by decide) (by omega) v xs (cs4 x A c) [.int .i64 x.f0, .string x.f1, .int .i64 x.f2, .slice A n c] (fun k => D ≤ k) (fun _ => False) rfl ?aX ?aP (fun _ hk => hk.elim) ?aF ?aO ?aB ?aS ?aL ?_
    case aX => rw [World.size_alloc]; rfl
    case aP => exact ⟨by rw [← HN.out], rfl, by simp [Value.oneCell']⟩
    case aF => exact fun k hk => Nat.le_trans HD.out (Nat.le_trans (by simp) hk)
    case aO => exact Kd.R_alloc HROW.out _
    case aB => exact HB.out.alloc HD.out _
    case aS => exact Nat.le_trans HD.out (by simp)
    case aL => exact HL.out
    intro v1 w1 h1 h2 h3 h4
    have A1 := hide h1
    have A3 := hide h3
    have A4 := hide h4
    clear h1 h2 h3 h4
    have hv : ∀ k, OwnB v k → D ≤ k := fun k hk => HROW.out.1 k hk
    have hvl : ∀ k, OwnB v k → k < w.heap.size := fun k hk => Kd.R_lt HROW.out k hk
    have hbx : w1.heap[w.heap.size]? = some (.cells #[.int .i64 x.f0, .string x.f1, .int .i64 x.f2, .slice A n c] 24 (0, 0)) :=
      (A3.out.block _ (by simp) (fun e => by have := hvl _ e.symm; omega)).trans (blk_new w _)
    have hk : ∀ j, j < 4 → w1.cell? ⟨w.heap.size, j, none⟩ = (#[.int .i64 x.f0, .string x.f1, .int .i64 x.f2, .slice A n c] : Array Value)[j]? := fun j _ => blk_cell hbx j
    have c3 : w1.cell? ⟨w.heap.size, 3, none⟩ = some (.slice A n c) := (blk_cell hbx 3).trans rfl
    have Q0 := hide (show FQ w0 D v xs x A c n w 0 v1 w1 from ⟨⟨⟨[cs4 x A c], A1.out, by simpa [flatL] using Lays.one HR.out⟩, (Fr.alloc (Fr.refl _ w) _).grown A3.out (fun k e => .inl e), A4.out.imp_right (fun ⟨b, h1, h2⟩ => ⟨b, h1, by simp at h2; omega⟩)⟩, hbx, fun h => by
      unfold OwnB at h
      rcases A4.out with e | ⟨b, e, hb⟩
      · rw [e] at h; have := hvl _ h; omega
      · rw [e] at h; cases h; simp at hb; omega⟩)
    have HV := hide hv
    have HVL := hide hvl
    clear A1 A3 A4 hbx hk HL hv hvl
    go_wp2
    clear c3
    go_loopg [5, 1] (n + 1) (fun gk v5 v1 wr => ∃ i : Nat, i ≤ n ∧ n - i < gk ∧ v5 = .int .i64 i ∧ Aside0 (FQ w0 D v xs x A c n w i v1 wr))
    case atStart => exact ⟨0, Nat.zero_le _, by omega, rfl, Q0⟩
    case round =>
      obtain ⟨i, hi, hgk, rfl, Q⟩ := hrel
      clear Q0
      have hbw := Q.out.q.below HB.out HD.out HV.out
      have c3 : wr.cell? ⟨w.heap.size, 3, none⟩ = some (.slice A n c) := (blk_cell Q.out.box 3).trans rfl
      by_cases hlt : i < n
      · have hlti : (i : Int) < (n : Int) := by omega
        obtain ⟨y, hy⟩ := get_of (l := x.f3) (i := i) (by rw [HN.out]; exact hlt)
        obtain ⟨ad, A', c', rfl, hry, hcells⟩ := HR.out.kid hy
        have hDw : D ≤ w0.heap.size ∨ True := .inr trivial
        obtain ⟨k0, k1, k2, k3⟩ := hcells wr (fun k hk => hbw.block k hk)
        have HRY := hide hry
        have HYK := hide hy
        have HBW := hide hbw
        clear hy hry hcells hbw hDw
        go_wp2_with (go_at_call 5; refine Aside0.out ?_)
        refine ⟨?_⟩
        obtain ⟨ys, hro, hla⟩ := Q.out.q.row
        have hbig : ((xs ++ ys).length + (flat y).length) * 56 ≤ 140737488355328 := by
          have h1 := congrArg List.length (flat_kid HYK.out)
          have h2 := HBIG.out
          have h3 := hla.len
          simp only [List.length_append, List.length_cons] at h1 h3 ⊢
          omega
        refine (IH.out y (kid_mem HYK.out) A' c' u1 (xs ++ ys) _ HBW.out (Nat.le_trans HD.out Q.out.q.fr.size) HRY.out hro hbig).mono ?_
        rintro e w2 ⟨v2, rfl, h2⟩
        have hlb := blk_lt Q.out.box
        have Q2 := hide (show FQ w0 D v xs x (some ad) c n w (i + 1) v2 w2 from ⟨by rw [flatL_take HYK.out, ← List.cons_append]; exact Q.out.q.next hla h2, (h2.fr.block _ hlb Q.out.ne).trans Q.out.box, fun h => (h2.own.own _ h).elim Q.out.ne (fun h => by omega)⟩)
        clear hlb
        clear hro hla hbig h2 k0 k1 k2 k3 c3
        go_wp2
        go_roundg (n - i)
        case measure => omega
        case rel => exact ⟨i + 1, by omega, by omega, by go_num, Q2⟩
      · obtain rfl : i = n := by omega
        go_wp2
        go_ret
        refine ⟨_, rfl, ?_⟩
        have e2 : flat x = x :: flatL (x.f3.take i) := by rw [flat_eq, List.take_of_length_le (by rw [HN.out]; exact Nat.le_refl _)]
        rw [e2]
        exact Q.out.q
/-- Flat, into no row -/
theorem flat_any (x : Tr) (hf : Fit x) (A : Option Addr) (c : Nat) (w : World) (h : Rd w x A c) (hb : (flat x).length ≤ 1048576) :
    Calls Tryd.prog 5 #[nd x A c, .slice none 0 0] w fun e w' => ∃ A2 c2 ys, e = .returned (.slice A2 (flat x).length c2) ∧ KV.R 24 w' w.heap.size (fun k => w.heap.size ≤ k) (.slice A2 (flat x).length c2) ys ∧ Lays w w.heap.size (flat x) ys ∧ Below w.heap.size w w' := by
  refine (flat_up w w.heap.size _ x (Nat.le_refl _) hf A c (.slice none 0 0) [] w (Below.refl _ _) (Nat.le_refl _) ⟨Kd.C_F heap_KT h.kids, h.cap⟩ (Kd.R_nil _ _ _ _ _) (by simp; omega)).mono ?_
  rintro e w' ⟨v1, rfl, q⟩
  obtain ⟨ys, h1, h2⟩ := q.row
  rw [List.nil_append] at h1
  obtain ⟨A2, c2, rfl, -, -⟩ := Kd.R_reads h1
  rw [h2.len]
  rw [h2.len] at h1 q
  exact ⟨A2, c2, ys, rfl, h1, h2, q.fr.below (Nat.le_refl _) (fun k hk => by simp [OwnB, Value.ownBlock] at hk)⟩
end Go.Proofs.YtldgmneijipbjaaDoor.H
