/- tree.All, and what its closure hands over. -/
import Derived.Test.YtldgmneijipbjaaDoorV4
namespace Go.Proofs.YtldgmneijipbjaaDoor.H
open Go.RowKit Go.Shelf Go.Proofs.YtldgmneijipbjaaDoorW.PrintWords Go.Proofs.YtldgmneijipbjaaDoorW.PrintLast Go.Proofs.YtldgmneijipbjaaDoorW.PrintMore
open PTreeSames Pu
set_option linter.unusedVariables false
set_option linter.unusedSimpArgs false
attribute [local go_sem] Oper.semAt_some

set_option maxRecDepth 100000 in
set_option maxHeartbeats 4000000 in
theorem all_hands (n bn : Nat) (Xs : Nat → Prop) (w0 : World) (x : Tr) (hf : Fit x) (A : Option Addr) (c : Nat) (hXs : ∀ k, Xs k → k < w0.heap.size) (hL : (flat x).length ≤ 1099511627776)
    (hbn : w0.heap[bn]? = some (.cells #[.int .i64 x.f0, .string x.f1, .int .i64 x.f2, .slice A x.f3.length c] 24 (0, 0))) (hnb : ¬ Xs bn) (hrd : RdF w0 (okF w0.heap.size Xs) x A c) :
    Hands Fence.wide n Tryd.prog 17 #[.pointer (some ⟨bn, 0, none⟩)] El.args (VV w0.heap.size (flat x)) (XX Xs) (fun es => es.length = (flat x).length) (fun es => es ≠ [] ∧ es.length ≤ (flat x).length) (flat x).length w0 := by
  intro l J Jx W hW hJ hJx hY h0
  have hbl := blk_lt hbn
  have hbw := (hW.block bn hbl).trans hbn
  have hws := hW.size
  have hag : Agr w0.heap.size Xs w0 W := ⟨hws, fun k hk _ => hW.block k hk⟩
  have HR : Rounds Fence.wide l W.heap.size w0.heap.size Xs (flat x) J Jx := fun pre y W1 h1 h2 h3 h4 => yield_any rfl 0 (hY pre y W1 h1 h2 h3 h4)
  have c0 : ∀ o1 o2, ((W.alloc o1).alloc o2).cell? ⟨bn, 0, none⟩ = some (.int .i64 x.f0) := fun o1 o2 => cell_al o2 (cell_al o1 ((blk_cell hbw 0).trans rfl))
  have c1 : ∀ o1 o2, ((W.alloc o1).alloc o2).cell? ⟨bn, 1, none⟩ = some (.string x.f1) := fun o1 o2 => cell_al o2 (cell_al o1 ((blk_cell hbw 1).trans rfl))
  have c2 : ∀ o1 o2, ((W.alloc o1).alloc o2).cell? ⟨bn, 2, none⟩ = some (.int .i64 x.f2) := fun o1 o2 => cell_al o2 (cell_al o1 ((blk_cell hbw 2).trans rfl))
  have c3 : ∀ o1 o2, ((W.alloc o1).alloc o2).cell? ⟨bn, 3, none⟩ = some (.slice A x.f3.length c) := fun o1 o2 => cell_al o2 (cell_al o1 ((blk_cell hbw 3).trans rfl))
  have hb2 : Below W.heap.size W ((W.alloc (.cells #[.func (.yield l) #[] #[]] 35)).alloc (.cells #[.int .i64 0] 3)) := below_alloc (below_alloc (Below.refl _ _) _) _
  have hcall := walk_in l W.heap.size (W.heap.size + 1) W.heap.size w0.heap.size Xs w0 (flat x) J Jx hws hJ HR hXs (Nat.le_refl _) (by omega) (by omega) hL _ x (Nat.le_refl _) hf (n - 1) [] A c
    ((W.alloc (.cells #[.func (.yield l) #[] #[]] 35)).alloc (.cells #[.int .i64 0] 3)) (hJ _ _ _ h0 hb2) (blk_alloc (blk_new W _) _)
    (by have := blk_new (W.alloc (.cells #[.func (.yield l) #[] #[]] 35)) (.cells #[.int .i64 0] 3); rwa [World.size_alloc] at this)
    (hag.below hb2 hws) hrd ⟨by simp, fun j y h => by simpa using h⟩
  have HC := hide hcall
  clear hcall hb2 HR hag hws hbw hbl hrd hnb hbn hL hXs hf h0 hY hJx hJ hW
  refine callsIn_of_wp Tryd.func17 rfl trivial ?_ rfl
  simp only [Tryd.ntmps17, List.size_toArray, List.length_cons, List.length_nil, Nat.reduceAdd, Nat.reduceSub, Array.replicate_succ, Array.replicate_zero, List.push_toArray, List.append_toArray, List.nil_append, List.cons_append]
  gi_wp2_with ((try refine ⟨trivial, (fun h => by cases h), ?_⟩); gi_at_call 18; refine HC.out.mono ?_; rintro e W' ⟨b, rfl, hp⟩; have HP := hide hp; clear hp)
  refine bodyPost_end (results_none rfl _ _ _) rfl ?_
  rcases HP.out with ⟨_, es, h1, h2, _, _⟩ | ⟨_, es, h1, h2, h3⟩
  · exact ⟨⟨_, rfl⟩, .inl ⟨es, h1, by simpa using h2⟩⟩
  · exact ⟨⟨_, rfl⟩, .inr ⟨es, ⟨h1, h2⟩, by simpa using h3⟩⟩
/-- what All hands back: its closure, over a tree of its own -/
structure AllQ (w : World) (x : Tr) (A : Option Addr) (c : Nat) (w' : World) : Prop where
  blk : w'.heap[w.heap.size]? = some (.cells #[.int .i64 x.f0, .string x.f1, .int .i64 x.f2, .slice A x.f3.length c] 24 (0, 0))
  row : KT.R 24 w' w.heap.size (fun k => w.heap.size + 1 ≤ k) (.slice A x.f3.length c) x.f3
  below : Below w.heap.size w w'
set_option maxHeartbeats 4000000 in
theorem all_any (x : Tr) (hf : Fit x) (A : Option Addr) (c : Nat) (w : World) (h : Rd w x A c) :
    Calls Tryd.prog 6 #[nd x A c] w fun e w' => e = .returned (.func (.func 17) #[] #[.pointer (some ⟨w.heap.size, 0, none⟩)]) ∧ ∃ A2 c2, AllQ w x A2 c2 w' := by
  have HF := hide hf
  have HR := hide h
  clear hf h
  unfold nd
  go_enter Tryd.func6, Tryd.ntmps6
  go_wp2_with (go_at_call 12; refine Aside0.out ?_)
  refine ⟨?_⟩
  have hb0 := below_alloc (Below.refl w.heap.size w) (.cells #[.int .i64 x.f0, .string x.f1, .int .i64 x.f2, .slice A x.f3.length c] 24)
  refine (copy_any x HF.out A c _ (HR.out.below hb0)).mono ?_
  intro e W2 ho
  obtain ⟨A2, c2, rfl, hr2, hR2, hb2⟩ := ho.rd
  have n0 := (hb2.block _ (blk_lt (blk_new w _))).trans (blk_new w (.cells #[.int .i64 x.f0, .string x.f1, .int .i64 x.f2, .slice A x.f3.length c] 24))
  have c0 : W2.cell? ⟨w.heap.size, 0, none⟩ = some (.int .i64 x.f0) := (blk_cell n0 0).trans rfl
  have c1 : W2.cell? ⟨w.heap.size, 1, none⟩ = some (.string x.f1) := (blk_cell n0 1).trans rfl
  have c2' : W2.cell? ⟨w.heap.size, 2, none⟩ = some (.int .i64 x.f2) := (blk_cell n0 2).trans rfl
  have c3 : W2.cell? ⟨w.heap.size, 3, none⟩ = some (.slice A x.f3.length c) := (blk_cell n0 3).trans rfl
  have f0 := blk_frozen n0 0
  have f1 := blk_frozen n0 1
  have f2 := blk_frozen n0 2
  have f3 := blk_frozen n0 3
  have N0 := hide n0
  have HB := hide (hb0.trans (hb2.mono hb0.size))
  have HRR := hide hR2
  clear hb0 ho hr2 hR2 hb2 n0
  unfold nd
  go_wp2
  go_ret
  refine ⟨rfl, A2, c2, ?_, ?_, ?_⟩
  · refine blk_put (cs := #[.int .i64 x.f0, .string x.f1, .int .i64 x.f2, .slice A x.f3.length c]) ?_ 3 _ rfl
    refine blk_put (cs := #[.int .i64 x.f0, .string x.f1, .int .i64 x.f2, .slice A x.f3.length c]) ?_ 2 _ rfl
    refine blk_put (cs := #[.int .i64 x.f0, .string x.f1, .int .i64 x.f2, .slice A x.f3.length c]) ?_ 1 _ rfl
    exact blk_put (cs := #[.int .i64 x.f0, .string x.f1, .int .i64 x.f2, .slice A x.f3.length c]) N0.out 0 _ rfl
  · have hF : ∀ u0 u1 u2 u3, Fr (fun k => k = w.heap.size) W2 ((((W2.setCell ⟨w.heap.size, 0, none⟩ u0).setCell ⟨w.heap.size, 1, none⟩ u1).setCell ⟨w.heap.size, 2, none⟩ u2).setCell ⟨w.heap.size, 3, none⟩ u3) := fun u0 u1 u2 u3 =>
      Fr.setCell (p := ⟨w.heap.size, 3, none⟩) (Fr.setCell (p := ⟨w.heap.size, 2, none⟩) (Fr.setCell (p := ⟨w.heap.size, 1, none⟩) (Fr.setCell (p := ⟨w.heap.size, 0, none⟩) (Fr.refl (fun k => k = w.heap.size) W2) (.inl rfl) _) (.inl rfl) _) (.inl rfl) _) (.inl rfl) _
    refine Kd.R_lower (Kd.R_mono (fr_R HRR.out (hF (.int .i64 x.f0) (.string x.f1) (.int .i64 x.f2) (.slice A2 x.f3.length c2)) (by rintro k hk rfl; simp at hk; omega)) (fun k hk => by simpa using hk)) (by simp)
  · exact ((((HB.out.setCell (p := ⟨w.heap.size, 0, none⟩) (Nat.le_refl _) _).setCell (p := ⟨w.heap.size, 1, none⟩) (Nat.le_refl _) _).setCell (p := ⟨w.heap.size, 2, none⟩) (Nat.le_refl _) _).setCell (p := ⟨w.heap.size, 3, none⟩) (Nat.le_refl _) _)
/-- the closure's tree lies in memory of its own -/
theorem AllQ.rdF {w w' W : World} {x : Tr} {A : Option Addr} {c : Nat} {ok : Nat → Prop} (q : AllQ w x A c w') (hW : Below w'.heap.size w' W) (hok : ∀ k, w.heap.size + 1 ≤ k → k < w'.heap.size → ok k) : RdF W ok x A c := by
  obtain ⟨-, hc, -⟩ := R_C q.row
  exact ⟨Kd.F_mono (Kd.F_below (Kd.R_F (Kd.R_bound q.row)) hW) (fun k hk => hok k hk.1 hk.2.2.1), hc⟩
end Go.Proofs.YtldgmneijipbjaaDoor.H
