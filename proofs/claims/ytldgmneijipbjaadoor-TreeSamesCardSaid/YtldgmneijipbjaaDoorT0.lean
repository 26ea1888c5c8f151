/- What a call leaves alone: all blocks that were there but for those of a set. -/
import Derived.Test.YtldgmneijipbjaaDoorWMore
import Derived.Test.YtldgmneijipbjaaDoorWKept
import Derived.Test.YtldgmneijipbjaaDoorWZeros
import Derived.KernelRfl
import Derived.Test.YtldgmneijipbjaaDoorPrA
namespace Go.Proofs.YtldgmneijipbjaaDoor.H
open Go.RowKit Go.Proofs.YtldgmneijipbjaaDoorW.PrintWords Go.Proofs.YtldgmneijipbjaaDoorW.PrintLast Go.Proofs.YtldgmneijipbjaaDoorW.PrintMore

structure Fr (S : Nat → Prop) (w w' : World) : Prop where
  os : w'.os = w.os
  tape : w'.tape = w.tape
  output : w'.output = w.output
  size : w.heap.size ≤ w'.heap.size
  block : ∀ k, k < w.heap.size → ¬ S k → w'.heap[k]? = w.heap[k]?
/-- what is new since w, or in the set -/
abbrev Gw (S : Nat → Prop) (w : World) : Nat → Prop := fun k => S k ∨ w.heap.size ≤ k
section
variable {S S' : Nat → Prop} {a b c w w' : World}
theorem Fr.refl (S : Nat → Prop) (w : World) : Fr S w w := ⟨rfl, rfl, rfl, Nat.le_refl _, fun _ _ _ => rfl⟩
theorem Fr.trans (h : Fr S a b) (k : Fr S' b c) (hs : ∀ i, S' i → S i ∨ a.heap.size ≤ i) : Fr S a c :=
  ⟨k.os.trans h.os, k.tape.trans h.tape, k.output.trans h.output, Nat.le_trans h.size k.size, fun i hi hn =>
    (k.block i (Nat.lt_of_lt_of_le hi h.size) (fun hk => by rcases hs i hk with q | q; exact hn q; omega)).trans (h.block i hi hn)⟩
theorem Fr.mono (h : Fr S a b) (hs : ∀ k, S k → S' k) : Fr S' a b := ⟨h.os, h.tape, h.output, h.size, fun k hk hn => h.block k hk (fun q => hn (hs k q))⟩
theorem Fr.drew (h : Fr S a b) : Fr S a b.drew := ⟨h.os, h.tape, h.output, h.size, h.block⟩
theorem Fr.drewN (h : Fr S a b) (n : Nat) : Fr S a (b.drewN n) := ⟨h.os, h.tape, h.output, h.size, h.block⟩
theorem Fr.of_below (h : Below a.heap.size a b) : Fr S a b := ⟨h.os, h.tape, h.output, h.size, fun k hk _ => h.block k hk⟩
theorem Fr.below (h : Fr S a b) {B : Nat} (hB : B ≤ a.heap.size) (hs : ∀ k, S k → B ≤ k) : Below B a b := ⟨h.os, h.tape, h.output, h.size, fun k hk => h.block k (by omega) (fun q => by have := hs k q; omega)⟩
theorem Fr.more (h : Fr S a b) (k : Below b.heap.size b c) : Fr S a c := h.trans (Fr.of_below (S := fun _ => False) k) (fun _ q => q.elim)
theorem Fr.alloc (h : Fr S a b) (o : Obj) : Fr S a (b.alloc o) := h.more (below_alloc (Below.refl _ _) o)
theorem Fr.grown {row : Option Nat} (h : Fr S a b) (hg : b.grownBy c row) (hr : ∀ k, row = some k → S k ∨ a.heap.size ≤ k) : Fr S a c :=
  h.trans (S' := fun k => row = some k) ⟨hg.os, hg.tape, hg.output, hg.size, fun k hk hn => hg.block k hk (fun e => hn e.symm)⟩ (fun i e => hr i e)
theorem Fr.setCell (h : Fr S a b) {p : Addr} (hp : S p.block ∨ a.heap.size ≤ p.block) (u : Value) : Fr S a (b.setCell p u) :=
  h.trans (S' := fun k => k = p.block) ⟨rfl, rfl, rfl, by simp [World.setCell], fun k _ hn => Below.heap_setCell b p u k hn⟩ (fun i e => by rw [e]; exact hp)
theorem Fr.kept (h : Fr S a b) : Kept a b S := ⟨h.size, h.block⟩
theorem Fr.blk (h : Fr S a b) {g : Nat} {o : Obj} (hb : a.heap[g]? = some o) (hn : ¬ S g) : b.heap[g]? = some o := blk_kept hb h.kept hn
end
theorem fr_R {α : Type} {d : Kd α} {e base : Nat} {ok S : Nat → Prop} {v : Value} {xs : List α} {w w' : World} (h : d.R e w base ok v xs) (hk : Fr S w w') (hn : ∀ k, ok k → ¬ S k) : d.R e w' base ok v xs := Kd.R_kept h hk.kept hn
theorem fr_M {α : Type} {d : Kd α} {base : Nat} {ok S : Nat → Prop} {x : α} {cs : List Value} {w w' : World} (h : d.M w base ok x cs) (hk : Fr S w w') (hn : ∀ k, ok k → ¬ S k) : d.M w' base ok x cs := Kd.M_kept h hk.kept hn
theorem hide {p : Prop} (h : p) : Aside0 p := Aside0.mk h
theorem C_le {α : Type} {d : Kd α} {w w1 : World} {A : Option Addr} {n : Nat} {xs : List α} (h : d.C w A n xs) (hb : Below w.heap.size w w1) : d.C w1 A n xs := Kd.C_below h hb
theorem R_C {α : Type} {d : Kd α} {e base n c : Nat} {ok : Nat → Prop} {w : World} {A : Option Addr} {xs : List α} (h : d.R e w base ok (.slice A n c) xs) : n = xs.length ∧ n ≤ c ∧ d.C w A n xs := by
  obtain ⟨A', c', e1, h1, hC⟩ := Kd.R_reads h
  injection e1 with e1 e2 e3
  subst e1 e2 e3
  exact ⟨rfl, h1, hC⟩
theorem DR (w : World) (q : Nat) : Below w.heap.size w (w.drewN q) := pw_below_drewN (Below.refl w.heap.size w) q
theorem C_some {α : Type} {d : Kd α} {w : World} {A : Option Addr} {n : Nat} {xs : List α} (h : d.C w A n xs) (hn : 0 < n) : ∃ ad, A = some ad := by
  obtain ⟨ad, e, _⟩ := h.2.2 hn
  exact ⟨ad, e⟩
theorem cell_al {w : World} {p : Addr} {v : Value} (o : Obj) (h : w.cell? p = some v) : (w.alloc o).cell? p = some v := pw_cell_below (below_alloc (Below.refl w.heap.size w) o) h
theorem ret_bool {a b : Bool} (h : a = b) : Ending.returned (.bool a) = Ending.returned (.bool b) := by rw [h]
theorem add_zero' (ad : Addr) : ad.add 0 = ad := by simp [Addr.add]

/-! trees -/
open PTreeSames
abbrev Tr := S24
abbrev KT : Kd Tr := k24
/-- the tree's value, its kids' slice at A -/
def nd (x : Tr) (A : Option Addr) (c : Nat) : Value := .agg #[.int .i64 x.f0, .string x.f1, .int .i64 x.f2, .slice A x.f3.length c]
abbrev cs4 (x : Tr) (A : Option Addr) (c : Nat) : List Value := [.int .i64 x.f0, .string x.f1, .int .i64 x.f2, .slice A x.f3.length c]
/-- a tree's value whose kids read as they should -/
structure Rd (w : World) (x : Tr) (A : Option Addr) (c : Nat) : Prop where
  kids : Kd.C KT w A x.f3.length x.f3
  cap : x.f3.length ≤ c
theorem Rd.below {w w' : World} {x : Tr} {A : Option Addr} {c : Nat} (h : Rd w x A c) (hb : Below w.heap.size w w') : Rd w' x A c := ⟨C_le h.kids hb, h.cap⟩
theorem Rd.nil {w : World} {x : Tr} (h : x.f3 = []) : Rd w x none 0 := ⟨by rw [h]; exact ⟨rfl, by simp, fun h => by simp at h⟩, by rw [h]; simp⟩
/-- no list of kids is too long for memory -/
inductive Fit : Tr → Prop
  | mk (x : Tr) : x.f3.length ≤ 2513169434843 → (∀ y, y ∈ x.f3 → Fit y) → Fit x
theorem Fit.len {x : Tr} (h : Fit x) : x.f3.length ≤ 2513169434843 := by cases h; assumption
theorem Fit.kid {x y : Tr} (h : Fit x) (hy : y ∈ x.f3) : Fit y := by cases h with | mk _ _ h2 => exact h2 y hy
theorem kid_lt {x y : Tr} (hy : y ∈ x.f3) : SizeOf.sizeOf y < SizeOf.sizeOf x := by
  obtain ⟨a, b, c, l⟩ := x
  have := List.sizeOf_lt_of_mem hy
  simp only [S24.mk.sizeOf_spec]
  simp only at this
  omega
theorem kid_mem {x : Tr} {i : Nat} {y : Tr} (h : x.f3[i]? = some y) : y ∈ x.f3 := List.mem_of_getElem? h
/-- the cells of kid i -/
theorem Rd.kid {w : World} {x : Tr} {A : Option Addr} {c : Nat} (h : Rd w x A c) {i : Nat} {y : Tr} (hy : x.f3[i]? = some y) :
    ∃ ad A' c', A = some ad ∧ Rd w y A' c' ∧ w.cell? (ad.add (i * 4)) = some (.int .i64 y.f0) ∧ w.cell? ⟨(ad.add (i * 4)).block, (ad.add (i * 4)).off + 1, none⟩ = some (.string y.f1) ∧ w.cell? ⟨(ad.add (i * 4)).block, (ad.add (i * 4)).off + 2, none⟩ = some (.int .i64 y.f2) ∧ w.cell? ⟨(ad.add (i * 4)).block, (ad.add (i * 4)).off + 3, none⟩ = some (.slice A' y.f3.length c') := by
  have hi : i < x.f3.length := (List.getElem?_eq_some_iff.1 hy).1
  obtain ⟨ad, A', c', e, h0, h1, h2, h3, h4, h5⟩ := at_T24 h.kids (i : Int) (by omega) (by omega)
  have er : rd_T24 x.f3 (i : Int) = y := by unfold rd_T24; rw [Int.toNat_natCast, List.getD_eq_getElem?_getD, hy]; rfl
  rw [Int.toNat_natCast] at h0 h1 h2 h3
  rw [er] at h0 h1 h2 h3 h4 h5
  exact ⟨ad, A', c', e, ⟨h5, h4⟩, h0, h1, h2, h3⟩
end Go.Proofs.YtldgmneijipbjaaDoor.H
