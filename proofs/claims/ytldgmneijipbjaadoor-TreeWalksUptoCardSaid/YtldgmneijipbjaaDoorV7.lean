/- The law's world between its ranges, and a range over tree.All. -/
import Derived.Test.YtldgmneijipbjaaDoorV6
namespace Go.Proofs.YtldgmneijipbjaaDoor.H
open Go.RowKit Go.Shelf Go.Proofs.YtldgmneijipbjaaDoorW.PrintWords Go.Proofs.YtldgmneijipbjaaDoorW.PrintLast Go.Proofs.YtldgmneijipbjaaDoorW.PrintMore
open PTreeSames Pu
set_option linter.unusedVariables false
set_option linter.unusedSimpArgs false
attribute [local go_sem] Oper.semAt_some

theorem VV.own {D0 : Nat} {L : List Tr} {pre : List El} {x : El} {W : World} (h : VV D0 L pre x W) {ad : Addr} (e : x.A = some ad) : D0 ≤ ad.block ∧ ad.block < W.heap.size ∧ ∃ q cells, W.heap[ad.block]? = some (.cells cells q (0, 0)) := by
  obtain ⟨-, -, h3⟩ := h
  rw [e] at h3
  obtain ⟨g, rfl⟩ := Kd.R_head h3
  obtain ⟨h1, -⟩ := Kd.R_bound h3
  obtain ⟨a1, a2, a3, q, -, cells, a4⟩ := h1 g rfl
  exact ⟨a2, a3, q, cells, a4⟩
theorem VV.cells (D0 : Nat) (L : List Tr) (pre : List El) (x : El) : OfCells (VV D0 L pre x) := by
  intro A B h hs hc
  obtain ⟨h1, h2, h3⟩ := h
  refine ⟨h1, h2, Kd.R_mono (Kd.R_move (Kd.R_bound h3) (w1 := B) (fun k hk => ?_)) (fun k hk => hk.1)⟩
  obtain ⟨-, -, -, q, -, cells, h4⟩ := hk
  exact (hc k _ h4 rfl).trans h4.symm
theorem VV.far {D0 b7 l D : Nat} {L : List Tr} {pre : List El} {x : El} {W : World} (h : VV D0 L pre x W) (hb : b7 < D) (hl : D ≤ l) (ho : ∃ o, W.heap[l]? = some o ∧ o.isCells = false) : ¬ XX (fun k => k = b7) x l := by
  obtain ⟨o, h1, h2⟩ := ho
  rintro (e | ⟨ad, e, rfl⟩)
  · omega
  · obtain ⟨-, -, q, cells, h3⟩ := h.own e
    rw [h3] at h1
    cases h1
    cases h2
/-- between two rounds: the count stands in b7, all else is as it was -/
structure WZ (W0 : World) (b7 k : Nat) (W : World) : Prop where
  agr : Agr W0.heap.size (fun j => j = b7) W0 W
  cnt : W.heap[b7]? = some (counter k)
  same : W.os = W0.os ∧ W.tape = W0.tape ∧ W.output = W0.output
theorem WZ.below {W0 W W' : World} {b7 k D : Nat} (h : WZ W0 b7 k W) (hb : Below D W W') (hD : W0.heap.size ≤ D) (h7 : b7 < W0.heap.size) : WZ W0 b7 k W' := ⟨h.agr.below hb hD, (hb.block _ (by omega)).trans h.cnt, hb.os.trans h.same.1, hb.tape.trans h.same.2.1, hb.output.trans h.same.2.2⟩
theorem WZ.bump {W0 W : World} {b7 k : Nat} (h : WZ W0 b7 k W) : WZ W0 b7 (k + 1) (W.setCell ⟨b7, 0, none⟩ (.int .i64 ((k : Int) + 1))) := by
  refine ⟨h.agr.fr (Fr.setCell (p := ⟨b7, 0, none⟩) (Fr.refl (fun j => j = b7) W) (.inl rfl) _) (fun k h => .inl h), blk_put (cs := #[.int .i64 (k : Nat)]) h.cnt 0 _ ?_, h.same⟩
  have e : (((k + 1 : Nat) : Int)) = (k : Int) + 1 := by omega
  simp only [e]
  rfl
def node4 (x : Tr) (A : Option Addr) (c : Nat) : Obj := .cells #[.int .i64 x.f0, .string x.f1, .int .i64 x.f2, .slice A x.f3.length c] 24 (0, 0)
def bx (x : El) : Obj := .cells #[.int .i64 x.y.f0, .string x.y.f1, .int .i64 x.y.f2, .slice x.A x.y.f3.length x.c] 24 (0, 0)

theorem range_tree {n p q : Nat} {g : Operand} {assign body : Code} {Q : Exit → Act → World → Prop} {a : Act} {w : World} (h1 : 1 ≤ n) {bn b7 : Nat} (hg : a.eval g = .func (.func 17) #[] #[.pointer (some ⟨bn, 0, none⟩)])
    {x : Tr} {A : Option Addr} {c : Nat} (hf : Fit x) (hL : (flat x).length ≤ 1099511627776) (hb7 : b7 < w.heap.size) (hbn : w.heap[bn]? = some (.cells #[.int .i64 x.f0, .string x.f1, .int .i64 x.f2, .slice A x.f3.length c] 24 (0, 0))) (hnb : ¬ bn = b7) (hrd : RdF w (okF w.heap.size (fun k => k = b7)) x A c)
    (ide : Nat) (hQ : ∀ a w, Q .normal a w → (Code.exit ide).wpIn Fence.wide n Tryd.prog Q a w) (Cont Stop : Nat → Prop) (hc0 : Cont 0) (h0 : w.heap[b7]? = some (counter 0))
    (upd : Array Value → El → Nat → Array Value)
    (hassign : ∀ (l : Nat) (y : El) (W : World) (K : Act → World → Prop), (∀ b W', Below W.heap.size W W' → W'.heap[b]? = some (bx y) → W.heap.size ≤ b → K { tmps := upd a.tmps y b, defers := [] } W') →
      assign.wpIn (Fence.wide.inRound l) (n - 1 - 1) Tryd.prog (Exit.then K (fun _ _ _ => False)) { tmps := (a.tmps.setIfInBounds p (.int .i64 y.i)).setIfInBounds q (.agg #[.int .i64 y.y.f0, .string y.y.f1, .int .i64 y.y.f2, .slice y.A y.y.f3.length y.c]), defers := [] } W)
    (hbody : ∀ (l : Nat) (pre : List El) (y : El) (b : Nat) (W : World), w.heap.size ≤ l → (∃ r, W.heap[l]? = some (.loop r)) → WZ w b7 pre.length W → Cont pre.length → VV w.heap.size (flat x) pre y W → W.heap[b]? = some (bx y) → w.heap.size ≤ b → (∀ ad, y.A = some ad → ad.block ≠ b) → pre.length < (flat x).length →
      body.wpIn (Fence.wide.inRound l) (n - 1 - 1) Tryd.prog (LeftBy (XX (fun k => k = b7)) (fun pre W => WZ w b7 pre.length W ∧ Cont pre.length) (fun id pre W => id = ide ∧ WZ w b7 pre.length W ∧ Stop pre.length) pre y W) { tmps := upd a.tmps y b, defers := [] } W)
    (hcont : ∀ (D k : Nat) (W : World), w.heap.size ≤ D → WZ w b7 k W → ((Cont k ∧ k = (flat x).length) ∨ (Stop k ∧ 0 < k ∧ k ≤ (flat x).length)) → W.heap[D]? = some (.deferred (some [])) → Q .normal { a with defers := { target := .collected D, args := #[] } :: a.defers } W) :
    (Code.rangeFunc g #[p, q] assign body).wpIn Fence.wide n Tryd.prog Q a w := by
  refine range_out (encs := El.args) rfl h1 hg trivial (enters_of Tryd.func17 (by kernel_rfl) rfl) (all_hands (n - 1) bn (fun k => k = b7) w x hf A c (by rintro k rfl; exact hb7) hL hbn hnb hrd) (Below.refl _ _) (fun _ => rfl)
    (fun pre W => WZ w b7 pre.length W ∧ Cont pre.length) (fun id pre W => id = ide ∧ WZ w b7 pre.length W ∧ Stop pre.length) (fun s X Y h hb => ⟨h.1.below hb (Nat.le_refl _) hb7, h.2⟩) (fun id s X Y h hb => ⟨h.1, h.2.1.below hb (Nat.le_refl _) hb7, h.2.2⟩) ⟨⟨⟨Nat.le_refl _, fun _ _ _ => rfl⟩, h0, rfl, rfl, rfl⟩, hc0⟩
    (fun pre y a' W => ∃ b, a' = { tmps := upd a.tmps y b, defers := [] } ∧ W.heap[b]? = some (bx y) ∧ w.heap.size ≤ b ∧ ∀ ad, y.A = some ad → ad.block ≠ b) ?_ (VV.cells _ _) (fun pre y W l hv hl ho => hv.far hb7 hl ho) ?_ ?_ ?_ ?_
  · rintro pre y a' X Y ⟨b, q1, q2, q3⟩ hs hc
    exact ⟨b, q1, hc _ _ q2 rfl, q3⟩
  · intro l pre y W K hs hi hv hK
    have := hassign l y W K (fun b W' hb hbox hle => hK _ _ hb ⟨b, rfl, hbox, by omega, fun ad e => by have := (hv.own e).2.1; omega⟩)
    simpa [El.args] using this
  · rintro l pre y a' W hl hs hr ⟨hi, hc⟩ hv ⟨b, rfl, q2, q3, q4⟩ hlen
    exact hbody l pre y b W hl hr hi hc hv q2 q3 q4 hlen
  · rintro D xs W hD hS ⟨hi, hc⟩ hK
    exact hcont D xs.length W hD hi (.inl ⟨hc, hS⟩) hK
  · rintro D id pre W hD ⟨hne, hle⟩ ⟨rfl, hi, hst⟩ hK
    exact hQ _ _ (hcont D pre.length W hD hi (.inr ⟨hst, List.length_pos_iff.2 hne, hle⟩) hK)

/-- a range over tree.All within a round, that counts up to two -/
theorem range_two {n p q l₀ : Nat} {r₀ : Loop} {g : Operand} {body : Code} {Q : Exit → Act → World → Prop} {a : Act} {w : World} (hl₀ : w.heap[l₀]? = some (.loop r₀)) (h1 : 1 ≤ n) {bn b7 : Nat} (hg : a.eval g = .func (.func 17) #[] #[.pointer (some ⟨bn, 0, none⟩)])
    {x : Tr} {A : Option Addr} {c : Nat} (hf : Fit x) (hL : (flat x).length ≤ 1099511627776) (hb7 : b7 < w.heap.size) (hbn : w.heap[bn]? = some (.cells #[.int .i64 x.f0, .string x.f1, .int .i64 x.f2, .slice A x.f3.length c] 24 (0, 0))) (hnb : ¬ bn = b7) (hrd : RdF w (okF w.heap.size (fun k => k = b7)) x A c)
    (ide : Nat) (hQ : ∀ a w, Q .normal a w → (Code.exit ide).wpIn (Fence.wide.inRound l₀) n Tryd.prog Q a w) (h0 : w.heap[b7]? = some (counter 0))
    (hbody : ∀ (l : Nat) (pre : List El) (y : El) (W : World), WZ w b7 pre.length W → pre.length < 2 →
      body.wpIn ((Fence.wide.inRound l₀).inRound l) (n - 1 - 1) Tryd.prog (LeftBy (XX (fun k => k = b7)) (fun pre W => WZ w b7 pre.length W ∧ pre.length < 2) (fun id pre W => id = ide ∧ WZ w b7 pre.length W ∧ pre.length = 2) pre y W) { tmps := (a.tmps.setIfInBounds p (.int .i64 y.i)).setIfInBounds q (.agg #[.int .i64 y.y.f0, .string y.y.f1, .int .i64 y.y.f2, .slice y.A y.y.f3.length y.c]), defers := [] } W)
    (hcont : ∀ (k : Nat) (W : World), WZ w b7 k W → k = min 2 (flat x).length → Q .normal a W) :
    (Code.rangeFunc g #[p, q] Code.skip body).wpIn (Fence.wide.inRound l₀) n Tryd.prog Q a w := by
  refine range_in (F := Fence.wide.inRound l₀) (encs := El.args) rfl hl₀ h1 hg trivial (enters_of Tryd.func17 (by kernel_rfl) rfl) (all_hands (n - 1) bn (fun k => k = b7) w x hf A c (by rintro k rfl; exact hb7) hL hbn hnb hrd) (Below.refl _ _) (fun _ => rfl)
    (fun pre W => WZ w b7 pre.length W ∧ pre.length < 2) (fun id pre W => id = ide ∧ WZ w b7 pre.length W ∧ pre.length = 2) (fun s X Y h hb => ⟨h.1.below hb (Nat.le_refl _) hb7, h.2⟩) (fun id s X Y h hb => ⟨h.1, h.2.1.below hb (Nat.le_refl _) hb7, h.2.2⟩) ⟨⟨⟨Nat.le_refl _, fun _ _ _ => rfl⟩, h0, rfl, rfl, rfl⟩, by simp⟩
    (fun pre y a' W => a' = { tmps := (a.tmps.setIfInBounds p (.int .i64 y.i)).setIfInBounds q (.agg #[.int .i64 y.y.f0, .string y.y.f1, .int .i64 y.y.f2, .slice y.A y.y.f3.length y.c]), defers := [] }) ?_ (VV.cells _ _) (fun pre y W l hv hl ho => hv.far hb7 hl ho) ?_ ?_ ?_ ?_
  · rintro pre y a' X Y h hs hc
    exact h
  · intro l pre y W K hs hi hv hK
    exact wpIn_skip (hK _ _ (Below.refl _ _) (by simp [El.args]))
  · rintro l pre y a' W hl hs hr ⟨hi, hc⟩ hv rfl hlen
    exact hbody l pre y W hi hc
  · rintro xs W hS ⟨hi, hc⟩
    exact hcont xs.length W hi (by rw [hS] at hc ⊢; omega)
  · rintro id pre W ⟨hne, hle⟩ ⟨rfl, hi, hst⟩
    exact hQ _ _ (hcont pre.length W hi (by omega))

/-- what the law has at hand -/
structure Env (w : World) (x : Tr) (a : Int) (b5 b6 b7 bn : Nat) (A1 : Option Addr) (c1 : Nat) (A2 : Option Addr) (c2 : Nat) (ys : List (List Value)) (W : World) : Prop where
  lt : b7 < W.heap.size
  n3 : w.heap.size + 1 ≠ b7
  n4 : w.heap.size + 2 ≠ b7
  n5 : b5 ≠ b7
  n6 : b6 ≠ b7
  nn : bn ≠ b7
  h3 : W.heap[w.heap.size + 1]? = some (.cells #[.int .i64 a] 3 (0, 0))
  h4 : W.heap[w.heap.size + 2]? = some (.cells #[.bool false] 4 (0, 0))
  h5 : W.heap[b5]? = some (.cells #[.slice A1 (flat x).length c1] 22 (0, 0))
  h6 : W.heap[b6]? = some (.cells #[.func (.func 17) #[] #[.pointer (some ⟨bn, 0, none⟩)]] 27 (0, 0))
  hn : W.heap[bn]? = some (.cells #[.int .i64 x.f0, .string x.f1, .int .i64 x.f2, .slice A2 x.f3.length c2] 24 (0, 0))
  kids : RdF W (okF W.heap.size (fun k => k = b7)) x A2 c2
  row : Kd.F KV W (okF W.heap.size (fun k => k = b7)) A1 (flat x).length ys
  lays : Lays w w.heap.size (flat x) ys
  low : ∀ k, k < w.heap.size → W.heap[k]? = w.heap[k]?
  lsz : w.heap.size ≤ W.heap.size
  ge : w.heap.size ≤ b7
section
variable {w W W' : World} {x : Tr} {a : Int} {b5 b6 b7 bn : Nat} {A1 A2 : Option Addr} {c1 c2 : Nat} {ys : List (List Value)}
theorem Env.move (h : Env w x a b5 b6 b7 bn A1 c1 A2 c2 ys W) (g : Agr W.heap.size (fun j => j = b7) W W') : Env w x a b5 b6 b7 bn A1 c1 A2 c2 ys W' := by
  have hs := g.size
  have hok : ∀ k, okF W.heap.size (fun k => k = b7) k → okF W'.heap.size (fun k => k = b7) k := fun k hk => ⟨by have := hk.1; omega, hk.2⟩
  have hb : ∀ {k o}, W.heap[k]? = some o → k ≠ b7 → W'.heap[k]? = some o := fun h1 h2 => (g.keep _ (blk_lt h1) h2).trans h1
  exact ⟨by have := h.lt; omega, h.n3, h.n4, h.n5, h.n6, h.nn, hb h.h3 h.n3, hb h.h4 h.n4, hb h.h5 h.n5, hb h.h6 h.n6, hb h.hn h.nn,
    ⟨Kd.F_mono (Kd.F_step h.kids.kids (fun k hk _ => g.keep k hk.1 hk.2)) hok, h.kids.cap⟩, Kd.F_mono (Kd.F_step h.row (fun k hk _ => g.keep k hk.1 hk.2)) hok, h.lays,
    fun k hk => (g.keep k (by have := h.lsz; omega) (by have := h.ge; omega)).trans (h.low k hk), by have := h.lsz; omega, h.ge⟩
theorem Env.elem (h : Env w x a b5 b6 b7 bn A1 c1 A2 c2 ys W) {i : Nat} {y : Tr} (hy : (flat x)[i]? = some y) :
    ∃ ad A c, A1 = some ad ∧ Rd W y A c ∧ W.cell? (ad.add (i * 4)) = some (.int .i64 y.f0) ∧ W.cell? ⟨(ad.add (i * 4)).block, (ad.add (i * 4)).off + 1, none⟩ = some (.string y.f1) ∧ W.cell? ⟨(ad.add (i * 4)).block, (ad.add (i * 4)).off + 2, none⟩ = some (.int .i64 y.f2) ∧ W.cell? ⟨(ad.add (i * 4)).block, (ad.add (i * 4)).off + 3, none⟩ = some (.slice A y.f3.length c) := by
  have hi : i < (flat x).length := (List.getElem?_eq_some_iff.1 hy).1
  obtain ⟨A, c, hyy, hrd⟩ := h.lays.get i y hy
  obtain ⟨ad, cs, rfl, hcl, hF, hcc, hok⟩ := Kd.F_get h.row [] (i : Int) (by omega) (by omega)
  have e1 : ys.getD (i : Int).toNat [] = cs4 y A c := by rw [Int.toNat_natCast, List.getD_eq_getElem?_getD, hyy]; rfl
  rw [e1] at hF
  have hcs : cs = cs4 y A c := (Kd.FK_now hF).1
  subst hcs
  have hs : KV.sz = 4 := rfl
  rw [hs, Int.toNat_natCast] at hcc
  exact ⟨ad, A, c, rfl, hrd.rd (fun k hk => h.low k hk), hcc 0 _ rfl, by rw [← add_field _ _ 1 (by omega)]; exact hcc 1 _ rfl, by rw [← add_field _ _ 2 (by omega)]; exact hcc 2 _ rfl, by rw [← add_field _ _ 3 (by omega)]; exact hcc 3 _ rfl⟩
end
end Go.Proofs.YtldgmneijipbjaaDoor.H
