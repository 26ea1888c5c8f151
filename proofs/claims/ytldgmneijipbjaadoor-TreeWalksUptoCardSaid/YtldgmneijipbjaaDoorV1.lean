/- A range over a function whose iterator has cells of its own, and whose rounds may read and write what they are handed. -/
import Derived.Test.YtldgmneijipbjaaDoorT0
import Derived.RangeFuncNested
import Derived.RangeFuncBound
namespace Go.Proofs.YtldgmneijipbjaaDoor.H
open Go.RowKit
set_option linter.unusedVariables false

/-- J stays where nothing ahead of D turns -/
def StaysAt {β : Type} (D : Nat) (J : β → World → Prop) : Prop := ∀ s A B, J s A → Below D A B → J s B
/-- V speaks of cells that are there -/
def OfCells (V : World → Prop) : Prop := ∀ A B : World, V A → A.heap.size ≤ B.heap.size → (∀ (k : Nat) (o : Obj), A.heap[k]? = some o → o.isCells = true → B.heap[k]? = some o) → V B
theorem OfCells.below {V : World → Prop} (hV : OfCells V) {A B : World} (h : V A) (hb : Below A.heap.size A B) : V B := hV A B h hb.size (fun k o ho _ => (hb.block k (Array.getElem?_eq_some_iff.1 ho).1).trans ho)
theorem OfCells.putObj {V : World → Prop} (hV : OfCells V) {A : World} (h : V A) {l : Nat} {o o' : Obj} (hl : A.heap[l]? = some o) (hn : o.isCells = false) : V (A.putObj l o') :=
  hV A _ h (by simp) (fun k o2 h2 hc => by
    by_cases e : k = l
    · subst e
      rw [hl] at h2
      cases h2
      rw [hn] at hc
      cases hc
    · rw [World.putObj_heap_other e]; exact h2)
theorem below_putObj {D : Nat} {A : World} {l : Nat} (h : D ≤ l) (o : Obj) : Below D A (A.putObj l o) := ⟨rfl, rfl, rfl, by simp, fun k hk => World.putObj_heap_other (by omega)⟩

/-- the iterator gf (it has caught lb): at each round it says V of what it hands over; X: what the round may write -/
def Hands {α : Type} (F : Fence) (n : Nat) (P : Program) (gf : Nat) (lb : Array Value) (encs : α → Array Value) (V : List α → α → World → Prop) (X : α → Nat → Prop) (S Sp : List α → Prop) (N : Nat) (w : World) : Prop :=
  ∀ (l : Nat) (J Jx : List α → World → Prop) (W : World), Below w.heap.size w W → StaysAt W.heap.size J → StaysAt W.heap.size Jx →
    (∀ pre x W1, J pre W1 → W.heap.size ≤ W1.heap.size → V pre x W1 → pre.length < N → YieldAt F (n - 1) P l (encs x) W1 fun e W' =>
      (e = .returned (.bool true) ∧ J (pre ++ [x]) W' ∧ Fr (X x) W1 W') ∨ (e = .returned (.bool false) ∧ Jx (pre ++ [x]) W')) →
    J [] W →
    CallsIn F n P gf (#[.func (.yield l) #[] #[]] ++ lb) W fun e W' => (∃ v, e = .returned v) ∧ ((∃ xs, S xs ∧ J xs W') ∨ (∃ pre, Sp pre ∧ Jx pre W'))

/-- how a round's body is left -/
def LeftBy {α : Type} (X : α → Nat → Prop) (I : List α → World → Prop) (Ix : Nat → List α → World → Prop) (pre : List α) (x : α) (W : World) : Exit → Act → World → Prop
  | .normal, _, W' => Fr (X x) W W' ∧ I (pre ++ [x]) W'
  | .exit id, _, W' => Fr (X x) W W' ∧ Ix id (pre ++ [x]) W'
  | _, _, _ => False

section
variable {α : Type} {F : Fence} {n : Nat} {P : Program}
/-- one round, out of the walk of its assignments and of its body -/
theorem round_of {l : Nat} {rec : LoopState → Option Code → Loop} {fn : FuncId} {ps : Array Tmp} {tmps : Array Value} {assign body : Code} {d : Nat}
    (hrec : rec = fun st pe => { state := st, pending := pe, fn, tmps, params := ps, assign, body, defers := d }) (hfn : F.fn fn)
    {X : α → Nat → Prop} {I : List α → World → Prop} {Ix : Nat → List α → World → Prop} {D : Nat} (hI : StaysAt D I) (hIx : ∀ id, StaysAt D (Ix id)) (hDl : D ≤ l)
    {V : World → Prop} (hV : OfCells V) {Ax : Act → World → Prop} (hAx : ∀ a', OfCells (Ax a')) {args : Array Value} (hs : args.size = ps.size) {pre : List α} {x : α} {W : World} (hl : W.heap[l]? = some (.loop (rec .ready none))) (hi : I pre W) (hv : V W)
    (hX : ∀ W', V W' → (∃ r, W'.heap[l]? = some (.loop r)) → ¬ X x l)
    (hassign : ∀ K : Act → World → Prop, (∀ a' W', Below W.heap.size W W' → Ax a' W' → K a' W') →
      assign.wpIn (F.inRound l) n P (Exit.then K (fun _ _ _ => False)) { tmps := (ps.zip args).foldl (fun t (p, v) => t.setIfInBounds p v) tmps, defers := [] } W)
    (hbody : ∀ a' W1, W.heap.size ≤ W1.heap.size → (∃ r, W1.heap[l]? = some (.loop r)) → I pre W1 → V W1 → Ax a' W1 → body.wpIn (F.inRound l) n P (LeftBy X I Ix pre x W1) a' W1) :
    YieldAt F n P l args W fun e W' =>
      (e = .returned (.bool true) ∧ I (pre ++ [x]) W' ∧ Fr (X x) W W' ∧ W'.heap[l]? = some (.loop (rec .ready none))) ∨
      (e = .returned (.bool false) ∧ ∃ id, Ix id (pre ++ [x]) W' ∧ Fr (fun k => X x k ∨ k = l) W W' ∧ W'.heap[l]? = some (.loop (rec .done (some (.exit id))))) := by
  have hy := run_yield (P := P) (args := args) hl (by rw [hrec]; exact hs)
  rw [hrec] at hy
  refine ⟨fn, _, assign, body, hy, roundIn_of_wpIn hfn (hassign _ ?_)⟩
  intro a' W1 hb1 hax
  have hl1 : W1.heap[l]? = some (.loop (rec .ready none)) := (hb1.block l (Array.getElem?_eq_some_iff.1 hl).1).trans hl
  have hlt := (Array.getElem?_eq_some_iff.1 hl).1
  have hlt1 := (Array.getElem?_eq_some_iff.1 hl1).1
  have hi1 : I pre W1 := hI _ _ _ hi (hb1.mono (by omega))
  have hv1 : V W1 := hV.below hv hb1
  refine ⟨_, run_beginRound hl1 (by rw [hrec]), ?_⟩
  obtain ⟨busy, hbusy⟩ : ∃ busy, ({ rec .ready none with state := .busy } : Loop) = busy := ⟨_, rfl⟩
  rw [hbusy]
  have hl2 : (W1.putObj l (.loop busy)).heap[l]? = some (.loop busy) := World.putObj_heap_same hlt1
  have hv2 : V (W1.putObj l (.loop busy)) := hV.putObj hv1 hl1 rfl
  refine wpIn_mono (hbody a' (W1.putObj l (.loop busy)) (by have := hb1.size; simpa using this) ⟨_, hl2⟩ (hI _ _ _ hi1 (below_putObj hDl _)) hv2 ((hAx a').putObj hax hl1 rfl)) ?_
  have hnX : ¬ X x l := hX _ hv2 ⟨_, hl2⟩
  have fin : ∀ (jump : Option Code) (W3 : World), Fr (X x) (W1.putObj l (.loop busy)) W3 →
      ∃ W4, (Instr.endRound l jump).run P W3 = .ok (.bool jump.isNone) W4 ∧ W4 = W3.putObj l (.loop (rec (if jump.isNone then .ready else .done) jump)) ∧ l < W3.heap.size := fun jump W3 hF => by
    have hl3 := (hF.block l (Array.getElem?_eq_some_iff.1 hl2).1 hnX).trans hl2
    have hr := run_endRound (P := P) jump hl3
    refine ⟨_, hr, ?_, (Array.getElem?_eq_some_iff.1 hl3).1⟩
    rw [← hbusy, hrec]
  have hfr : ∀ (W3 : World) (o : Obj), Fr (X x) (W1.putObj l (.loop busy)) W3 → Fr (fun k => X x k ∨ k = l) W (W3.putObj l o) := fun W3 o hF => by
    refine ⟨hF.os.trans hb1.os, hF.tape.trans hb1.tape, hF.output.trans hb1.output, ?_, fun k hk hn => ?_⟩
    · have := hF.size
      have := hb1.size
      simp at *
      omega
    · have hkl : k ≠ l := fun e => hn (.inr e)
      rw [World.putObj_heap_other hkl, hF.block k (by have := hb1.size; simp; omega) (fun e => hn (.inl e)), World.putObj_heap_other hkl]
      exact hb1.block k hk
  rintro e a3 W3 hp
  cases e with
  | normal =>
    obtain ⟨hF, hi3⟩ := hp
    obtain ⟨W4, hr, rfl, hlt3⟩ := fin none W3 hF
    refine ⟨_, _, hr, .inl ⟨rfl, hI _ _ _ hi3 (below_putObj hDl _), ?_, World.putObj_heap_same hlt3⟩⟩
    have hq := hfr W3 (.loop (rec .ready none)) hF
    refine ⟨hq.os, hq.tape, hq.output, hq.size, fun k hk hn => ?_⟩
    by_cases e : k = l
    · subst e
      exact (World.putObj_heap_same hlt3).trans hl.symm
    · exact hq.block k hk (fun q => q.elim hn e)
  | exit id =>
    obtain ⟨hF, hi3⟩ := hp
    obtain ⟨W4, hr, rfl, hlt3⟩ := fin (some (.exit id)) W3 hF
    exact ⟨_, _, hr, .inr ⟨rfl, id, hIx _ _ _ _ hi3 (below_putObj hDl _), hfr W3 _ hF, World.putObj_heap_same hlt3⟩⟩
  | ret => exact hp.elim
  | goto t => exact hp.elim
  | panic ch => exact hp.elim
  | outgrown => exact hp.elim
end
end Go.Proofs.YtldgmneijipbjaaDoor.H
