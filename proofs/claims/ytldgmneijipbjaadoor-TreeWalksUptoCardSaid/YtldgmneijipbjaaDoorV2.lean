/- The statement: an outermost range over a function, and one within a round of another. -/
import Derived.Test.YtldgmneijipbjaaDoorV1
namespace Go.Proofs.YtldgmneijipbjaaDoor.H
open Go.RowKit
set_option linter.unusedVariables false
section
variable {α : Type} {F : Fence} {n : Nat} {P : Program}

/-- an outermost range over a function -/
theorem range_out {g : Operand} {ps : Array Tmp} {assign body : Code} {Q : Exit → Act → World → Prop} {a : Act} {w w0 : World}
    (hro : F.round = none) (h1 : 1 ≤ n) {gf : Nat} {lb : Array Value} (hg : a.eval g = .func (.func gf) #[] lb) (hFg : F.fn gf) (eg : ∀ args w, (callFunc gf args).run P w = .ok (.enter gf args) w)
    {encs : α → Array Value} {V : List α → α → World → Prop} {X : α → Nat → Prop} {S Sp : List α → Prop} {N : Nat} (hseq : Hands F (n - 1) P gf lb encs V X S Sp N w0) (hb0 : Below w0.heap.size w0 w) (hps : ∀ x, (encs x).size = ps.size)
    (I : List α → World → Prop) (Ix : Nat → List α → World → Prop) (hI : StaysAt w.heap.size I) (hIx : ∀ id, StaysAt w.heap.size (Ix id)) (h0 : I [] w)
    (Ax : List α → α → Act → World → Prop) (hAx : ∀ pre x a', OfCells (Ax pre x a')) (hV : ∀ pre x, OfCells (V pre x))
    (hX : ∀ pre x W l, V pre x W → w.heap.size ≤ l → (∃ o, W.heap[l]? = some o ∧ o.isCells = false) → ¬ X x l)
    (hassign : ∀ (l : Nat) (pre : List α) (x : α) (W : World) (K : Act → World → Prop), w.heap.size ≤ W.heap.size → I pre W → V pre x W → (∀ a' W', Below W.heap.size W W' → Ax pre x a' W' → K a' W') →
      assign.wpIn (F.inRound l) (n - 1 - 1) P (Exit.then K (fun _ _ _ => False)) { tmps := (ps.zip (encs x)).foldl (fun t (p, v) => t.setIfInBounds p v) a.tmps, defers := [] } W)
    (hbody : ∀ (l : Nat) (pre : List α) (x : α) (a' : Act) (W : World), w.heap.size ≤ l → w.heap.size ≤ W.heap.size → (∃ r, W.heap[l]? = some (.loop r)) → I pre W → V pre x W → Ax pre x a' W → pre.length < N → body.wpIn (F.inRound l) (n - 1 - 1) P (LeftBy X I Ix pre x W) a' W)
    (hdone : ∀ (D : Nat) (xs : List α) (W : World), w.heap.size ≤ D → S xs → I xs W → W.heap[D]? = some (.deferred (some [])) → Q .normal { a with defers := { target := .collected D, args := #[] } :: a.defers } W)
    (hstop : ∀ (D : Nat) (id : Nat) (pre : List α) (W : World), w.heap.size ≤ D → Sp pre → Ix id pre W → W.heap[D]? = some (.deferred (some [])) → (Code.exit id).wpIn F n P Q { a with defers := { target := .collected D, args := #[] } :: a.defers } W) :
    (Code.rangeFunc g ps assign body).wpIn F n P Q a w := by
  refine wpIn_rangeFunc fun fn hfn => ?_
  rw [hro]
  obtain ⟨rec, hrec⟩ : ∃ rec : LoopState → Option Code → Loop, rec = fun st pe => { state := st, pending := pe, fn, tmps := a.tmps, params := ps, assign, body, defers := w.heap.size } := ⟨_, rfl⟩
  obtain ⟨W1, hW1⟩ : ∃ W1, (w.alloc (.deferred (some []))).alloc (.loop (rec .ready none)) = W1 := ⟨_, rfl⟩
  have hs1 : W1.heap.size = w.heap.size + 2 := by rw [← hW1]; simp
  have hL : W1.heap[w.heap.size + 1]? = some (.loop (rec .ready none)) := by
    rw [← hW1]; have := World.alloc_heap_new (w.alloc (.deferred (some []))) (.loop (rec .ready none)); rwa [World.size_alloc] at this
  have hK : W1.heap[w.heap.size]? = some (.deferred (some [])) := by
    rw [← hW1]; exact (Below.heap_alloc _ _ _ (by simp)).trans (World.alloc_heap_new w _)
  have hbw : Below w.heap.size w W1 := by rw [← hW1]; exact ((Below.refl _ w).alloc (Nat.le_refl _) _).alloc (by simp) _
  refine ⟨w.heap.size + 1, [{ target := .collected w.heap.size, args := #[] }], W1, { target := .fn (.func gf) lb, args := #[.func (.yield (w.heap.size + 1)) #[] #[]] }, W1, gf,
    #[.func (.yield (w.heap.size + 1)) #[] #[]] ++ lb, W1, ?_, ?_, ?_, ?_, fun _ => h1, ?_⟩
  · rw [← hW1, hrec]; exact run_enterLoop_outer _ _ _ _ _
  · simp only [resolve, hg]
    simp [go_sem]
  · intro f' hf'; simp [Target.leads] at hf'; subst hf'; exact hFg
  · simp [invoke, go_sem, eg]
  · refine (hseq (w.heap.size + 1)
      (fun pre W => I pre W ∧ W.heap[w.heap.size + 1]? = some (.loop (rec .ready none)) ∧ W.heap[w.heap.size]? = some (.deferred (some [])))
      (fun pre W => ∃ id, Ix id pre W ∧ W.heap[w.heap.size + 1]? = some (.loop (rec .done (some (.exit id)))) ∧ W.heap[w.heap.size]? = some (.deferred (some [])))
      W1 (hb0.trans (hbw.mono hb0.size)) ?_ ?_ ?_ ⟨hI _ _ _ h0 hbw, hL, hK⟩).mono ?_
    · rintro s A B ⟨q1, q2, q3⟩ hb
      rw [hs1] at hb
      exact ⟨hI _ _ _ q1 (hb.mono (by omega)), (hb.block _ (by omega)).trans q2, (hb.block _ (by omega)).trans q3⟩
    · rintro s A B ⟨id, q1, q2, q3⟩ hb
      rw [hs1] at hb
      exact ⟨id, hIx _ _ _ _ q1 (hb.mono (by omega)), (hb.block _ (by omega)).trans q2, (hb.block _ (by omega)).trans q3⟩
    · rintro pre x W ⟨q1, q2, q3⟩ hsz hv hlen
      have hdef : ∀ W', V pre x W' → W'.heap[w.heap.size]? = some (.deferred (some [])) → ¬ X x w.heap.size := fun W' h1 h2 => hX pre x W' _ h1 (Nat.le_refl _) ⟨_, h2, rfl⟩
      refine (round_of hrec hfn hI hIx (by omega) (hV pre x) (hAx pre x) (hps x) q2 q1 hv (fun W' h1 ⟨r, h2⟩ => hX pre x W' _ h1 (by omega) ⟨_, h2, rfl⟩)
        (fun K hK => hassign _ pre x W K (by omega) q1 hv hK) (fun a' Wb hle hr hi hvv hax => hbody _ pre x a' Wb (by omega) (by omega) hr hi hvv hax hlen)).mono ?_
      rintro e W' (⟨rfl, r1, r2, r3⟩ | ⟨rfl, id, r1, r2, r3⟩)
      · exact .inl ⟨rfl, ⟨r1, r3, (r2.block _ (Array.getElem?_eq_some_iff.1 q3).1 (hdef W hv q3)).trans q3⟩, r2⟩
      · exact .inr ⟨rfl, id, r1, r3, (r2.block _ (Array.getElem?_eq_some_iff.1 q3).1 (fun q => q.elim (hdef W hv q3) (fun e => by omega))).trans q3⟩
    · rintro e W2 ⟨⟨v, rfl⟩, (⟨xs, hS, q1, q2, q3⟩ | ⟨pre, hSp, id, q1, q2, q3⟩)⟩
      · exact ⟨none, _, by have := run_endLoop (P := P) q2 (by rw [hrec]; simp); rw [hrec] at this; exact this, hdone _ xs _ (Nat.le_refl _) hS (hI _ _ _ q1 (below_putObj (by omega) _)) ((World.putObj_heap_other (by omega)).trans q3)⟩
      · exact ⟨some (.exit id), _, by have := run_endLoop (P := P) q2 (by rw [hrec]; simp); rw [hrec] at this; exact this, hstop _ id pre _ (Nat.le_refl _) hSp (hIx _ _ _ _ q1 (below_putObj (by omega) _)) ((World.putObj_heap_other (by omega)).trans q3)⟩

/-- a range over a function within a round of the loop l₀ -/
theorem range_in {g : Operand} {ps : Array Tmp} {assign body : Code} {Q : Exit → Act → World → Prop} {a : Act} {w w0 : World}
    {l₀ : Nat} {r₀ : Loop} (hro : F.round = some l₀) (hl₀ : w.heap[l₀]? = some (.loop r₀)) (h1 : 1 ≤ n) {gf : Nat} {lb : Array Value} (hg : a.eval g = .func (.func gf) #[] lb) (hFg : F.fn gf) (eg : ∀ args w, (callFunc gf args).run P w = .ok (.enter gf args) w)
    {encs : α → Array Value} {V : List α → α → World → Prop} {X : α → Nat → Prop} {S Sp : List α → Prop} {N : Nat} (hseq : Hands F (n - 1) P gf lb encs V X S Sp N w0) (hb0 : Below w0.heap.size w0 w) (hps : ∀ x, (encs x).size = ps.size)
    (I : List α → World → Prop) (Ix : Nat → List α → World → Prop) (hI : StaysAt w.heap.size I) (hIx : ∀ id, StaysAt w.heap.size (Ix id)) (h0 : I [] w)
    (Ax : List α → α → Act → World → Prop) (hAx : ∀ pre x a', OfCells (Ax pre x a')) (hV : ∀ pre x, OfCells (V pre x))
    (hX : ∀ pre x W l, V pre x W → w.heap.size ≤ l → (∃ o, W.heap[l]? = some o ∧ o.isCells = false) → ¬ X x l)
    (hassign : ∀ (l : Nat) (pre : List α) (x : α) (W : World) (K : Act → World → Prop), w.heap.size ≤ W.heap.size → I pre W → V pre x W → (∀ a' W', Below W.heap.size W W' → Ax pre x a' W' → K a' W') →
      assign.wpIn (F.inRound l) (n - 1 - 1) P (Exit.then K (fun _ _ _ => False)) { tmps := (ps.zip (encs x)).foldl (fun t (p, v) => t.setIfInBounds p v) a.tmps, defers := [] } W)
    (hbody : ∀ (l : Nat) (pre : List α) (x : α) (a' : Act) (W : World), w.heap.size ≤ l → w.heap.size ≤ W.heap.size → (∃ r, W.heap[l]? = some (.loop r)) → I pre W → V pre x W → Ax pre x a' W → pre.length < N → body.wpIn (F.inRound l) (n - 1 - 1) P (LeftBy X I Ix pre x W) a' W)
    (hdone : ∀ (xs : List α) (W : World), S xs → I xs W → Q .normal a W)
    (hstop : ∀ (id : Nat) (pre : List α) (W : World), Sp pre → Ix id pre W → (Code.exit id).wpIn F n P Q a W) :
    (Code.rangeFunc g ps assign body).wpIn F n P Q a w := by
  refine wpIn_rangeFunc fun fn hfn => ?_
  rw [hro]
  obtain ⟨rec, hrec⟩ : ∃ rec : LoopState → Option Code → Loop, rec = fun st pe => { state := st, pending := pe, fn, tmps := a.tmps, params := ps, assign, body, defers := r₀.defers } := ⟨_, rfl⟩
  obtain ⟨W1, hW1⟩ : ∃ W1, w.alloc (.loop (rec .ready none)) = W1 := ⟨_, rfl⟩
  have hs1 : W1.heap.size = w.heap.size + 1 := by rw [← hW1]; simp
  have hL : W1.heap[w.heap.size]? = some (.loop (rec .ready none)) := by rw [← hW1]; exact World.alloc_heap_new w _
  have hbw : Below w.heap.size w W1 := by rw [← hW1]; exact (Below.refl _ w).alloc (Nat.le_refl _) _
  refine ⟨w.heap.size, [], W1, { target := .fn (.func gf) lb, args := #[.func (.yield w.heap.size) #[] #[]] }, W1, gf,
    #[.func (.yield w.heap.size) #[] #[]] ++ lb, W1, ?_, ?_, ?_, ?_, fun _ => h1, ?_⟩
  · rw [← hW1, hrec]; exact run_enterLoop_inner hl₀ _ _ _ _ _
  · simp only [resolve, hg]
    simp [go_sem]
  · intro f' hf'; simp [Target.leads] at hf'; subst hf'; exact hFg
  · simp [invoke, go_sem, eg]
  · refine (hseq w.heap.size (fun pre W => I pre W ∧ W.heap[w.heap.size]? = some (.loop (rec .ready none)))
      (fun pre W => ∃ id, Ix id pre W ∧ W.heap[w.heap.size]? = some (.loop (rec .done (some (.exit id)))))
      W1 (hb0.trans (hbw.mono hb0.size)) ?_ ?_ ?_ ⟨hI _ _ _ h0 hbw, hL⟩).mono ?_
    · rintro s A B ⟨q1, q2⟩ hb
      rw [hs1] at hb
      exact ⟨hI _ _ _ q1 (hb.mono (by omega)), (hb.block _ (by omega)).trans q2⟩
    · rintro s A B ⟨id, q1, q2⟩ hb
      rw [hs1] at hb
      exact ⟨id, hIx _ _ _ _ q1 (hb.mono (by omega)), (hb.block _ (by omega)).trans q2⟩
    · rintro pre x W ⟨q1, q2⟩ hsz hv hlen
      refine (round_of (F := F) hrec hfn hI hIx (Nat.le_refl _) (hV pre x) (hAx pre x) (hps x) q2 q1 hv (fun W' h1 ⟨r, h2⟩ => hX pre x W' _ h1 (Nat.le_refl _) ⟨_, h2, rfl⟩)
        (fun K hK => hassign _ pre x W K (by omega) q1 hv hK) (fun a' Wb hle hr hi hvv hax => hbody _ pre x a' Wb (Nat.le_refl _) (by omega) hr hi hvv hax hlen)).mono ?_
      rintro e W' (⟨rfl, r1, r2, r3⟩ | ⟨rfl, id, r1, r2, r3⟩)
      · exact .inl ⟨rfl, ⟨r1, r3⟩, r2⟩
      · exact .inr ⟨rfl, id, r1, r3⟩
    · rintro e W2 ⟨⟨v, rfl⟩, (⟨xs, hS, q1, q2⟩ | ⟨pre, hSp, id, q1, q2⟩)⟩
      · exact ⟨none, _, by have := run_endLoop (P := P) q2 (by rw [hrec]; simp); rw [hrec] at this; exact this, hdone xs _ hS (hI _ _ _ q1 (below_putObj (Nat.le_refl _) _))⟩
      · exact ⟨some (.exit id), _, by have := run_endLoop (P := P) q2 (by rw [hrec]; simp); rw [hrec] at this; exact this, hstop id pre _ hSp (hIx _ _ _ _ q1 (below_putObj (Nat.le_refl _) _))⟩
end
end Go.Proofs.YtldgmneijipbjaaDoor.H
