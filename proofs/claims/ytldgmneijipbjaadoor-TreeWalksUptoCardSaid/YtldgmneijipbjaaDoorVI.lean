/- A region that draws, within a round: by the plain laws of an order's steps. -/
import Derived.Test.YtldgmneijipbjaaDoorV3
namespace Go.Proofs.YtldgmneijipbjaaDoor.H
open Go.RowKit Go.Shelf Go.Proofs.YtldgmneijipbjaaDoorW.PrintWords Go.Proofs.YtldgmneijipbjaaDoorW.PrintLast Go.Proofs.YtldgmneijipbjaaDoorW.PrintMore
set_option linter.unusedVariables false
section
variable {P : Program} {ops : Array Oper} {Q : Exit → Act → World → Prop} {md : Region.Mode} {l m : Nat}
theorem upon_in {o : Oper} {a : Act} {K : Act → World → Prop} (r : Result Next) (h : Oper.upon P o a K Q r) : Oper.uponIn (Fence.wide.inRound l) m P o a K Q r := by
  have hd : (Fence.wide.inRound l).depth.isSome = true → 1 ≤ m := fun h => by cases h
  cases r with
  | ok x w' =>
    cases x with
    | value v => exact h
    | skip => exact h
    | defer d => exact h
    | enter f args => exact ⟨hd, CallsIn.inRound l (callsIn_wide.2 h)⟩
    | row row args =>
      refine ⟨hd, fun c cs _ => ?_⟩
      obtain ⟨v, w2, h1, h2⟩ := h c cs
      exact ⟨v, w2, h1, stepsIn_wide.2 h2⟩
    | round => exact False.elim h
    | _ => exact h
  | halt x w' => cases x <;> first | exact h | exact False.elim h
def noDefer (ops : Array Oper) : Bool := ops.all fun o => match o.op with | .defer _ => false | _ => true
theorem noDefer_spec (h : noDefer ops = true) {i : Nat} {o : Oper} (ho : ops[i]? = some o) : ∀ c, o.op ≠ .defer c := by
  intro c e
  have := Array.all_eq_true_iff_forall_mem.1 h o (Array.mem_of_getElem? ho)
  rw [e] at this
  cases this
theorem wpOp_in (hnl : ¬ LetsOut Q) (hd : noDefer ops = true) {i : Nat} {K : Act → World → Prop} {a : Act} {w : World} (h : wpOp P ops Q i K a w) : wpOpIn (Fence.wide.inRound l) m P ops Q i K a w := by
  unfold wpOp at h
  unfold wpOpIn
  cases ho : ops[i]? with
  | none => rw [ho] at h; exact h
  | some o =>
    rw [ho] at h
    simp only at h ⊢
    split at h
    · rename_i hw
      rw [if_pos hw]
      rcases h with h | ⟨_, h⟩
      · refine ⟨fun _ _ => trivial, ?_⟩
        rw [Oper.semAt_eq _ _ _ (noDefer_spec hd ho)]
        exact upon_in _ h
      · exact absurd h hnl
    · rename_i hw
      rw [if_neg hw]
      exact ⟨fun _ _ => trivial, h⟩
theorem wpAny_in (hnl : ¬ LetsOut Q) (hd : noDefer ops = true) : ∀ (fuel : Nat) (listed : Array Bool) (a : Act) (w : World), wpAny P md ops Q fuel listed a w → wpAnyIn (Fence.wide.inRound l) m P md ops Q fuel listed a w
  | 0, _, _, _, h => h
  | fuel + 1, _, _, _, h => ⟨h.1, fun i hi => wpOp_in hnl hd (wpOp_mono (fun a' w' h' => wpAny_in hnl hd fuel _ a' w' h') (h.2 i hi))⟩
theorem start_in {id n : Nat} {a : Act} {w : World} {S : World → Prop} {ds : List Nat} (l' : Array Bool) (hm : P.follows .mixedOrders = true) (hn : ops.size = n) (hl : Array.replicate n false = l') (hd : noDefer ops = true) (hnl : ¬ LetsOut Q) (hS : S w.drew)
    (h : S w.drew → wpAnyLast P .any ops Q S ds n l' a w.drew) : (Code.region id ops true).wpIn (Fence.wide.inRound l) m P Q a w := by
  subst hn
  subst hl
  exact wpIn_region_any hm (wpAny_in hnl hd _ _ _ _ (wpAny_of_last _ _ _ _ (h hS)))
def putAll (a : Act) (vs : List (Nat × Value)) : Act := { a with tmps := vs.foldl (fun t p => t.setIfInBounds p.1 p.2) a.tmps }
/-- a region whose tmps end the same, whatever the order -/
theorem region_leaf {β : Type} {F : Fence} {n : Nat} {c : Code} {a : Act} {W : World} (vs : β → List (Nat × Value)) (R : World → Prop) (h : c.wpIn F n P (fun e a' W2 => e = .normal ∧ (∃ v, a' = putAll a (vs v)) ∧ R W2) a W) (k : ∀ v W2, R W2 → Q .normal (putAll a (vs v)) W2) : c.wpIn F n P Q a W :=
  wpIn_mono h (by rintro e a' W2 ⟨rfl, ⟨v, rfl⟩, hR⟩; exact k v _ hR)
theorem no_out {A : Act → Prop} {R : World → Prop} : ¬ LetsOut (fun e a' W2 => e = .normal ∧ A a' ∧ R W2) := by
  rintro ⟨a, w, h, -⟩
  cases h
end
end Go.Proofs.YtldgmneijipbjaaDoor.H
