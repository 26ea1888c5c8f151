/- Texts of this proof, put together: YtldgmneijipbjaaHAwake, YtldgmneijipbjaaPu3, YtldgmneijipbjaaHRP, YtldgmneijipbjaaHRParts, YtldgmneijipbjaaHLaw4, YtldgmneijipbjaaHSt, YtldgmneijipbjaaHLaw5, YtldgmneijipbjaaHRow. -/
import Derived.Test.YtldgmneijipbjaaRows
import Derived.Deep.Matrix
import Derived.Test.YtldgmneijipbjaaMs1
/- YtldgmneijipbjaaHAwake -/
section
/- awake of the laws of layer 11: true in every world. -/
namespace Go.Proofs.Ytldgmneijipbjaa.H
open Go.RowKit Go.Shelf Go.Proofs.YtldgmneijipbjaaW.PrintWords Go.Proofs.YtldgmneijipbjaaW.PrintLast Go.Proofs.YtldgmneijipbjaaW.PrintMore
set_option linter.unusedVariables false
set_option linter.unusedSimpArgs false

theorem same_any (A B : Option Addr) (n c d : Nat) (l : List Int) (w : World) (hn : l.length = n) (h1 : (Kd.int .i64).C w A n l) (hc : n ≤ c) (h2 : (Kd.int .i64).C w B n l) (hd : n ≤ d) (hl : n ≤ 4611686018427387904) :
    Calls Try.prog 14 #[.slice A n c, .slice B n d] w fun e w' => e = .returned (.bool true) ∧ ∃ q, w' = w.drewN q := by
  subst hn
  obtain ⟨k, hk⟩ := Pu.same_some l hl
  refine (PSameAll.gussetref11_Same.calls k A c l B d l true w h1 hc h2 hd hk).mono ?_
  rintro e w1 ⟨rfl, ⟨nd, rfl⟩⟩
  exact ⟨rfl, nd, rfl⟩
theorem sameAll_any (A B : Option Addr) (n c d : Nat) (l : List (List Int)) (w : World) (hn : l.length = n) (h1 : KE.C w A n l) (hc : n ≤ c) (h2 : KE.C w B n l) (hd : n ≤ d) (hl : n ≤ 4611686018427387904) (hr : ∀ r, r ∈ l → r.length ≤ 4611686018427387904) :
    Calls Try.prog 10 #[.slice A n c, .slice B n d] w fun e w' => e = .returned (.bool true) ∧ ∃ q, w' = w.drewN q := by
  subst hn
  obtain ⟨k, hk⟩ := Pu.sameAll_ev l hl hr
  refine (PSameAll.gussetref11_SameAll.calls k A c l B d l true w h1 hc h2 hd hk).mono ?_
  rintro e w1 ⟨rfl, ⟨nd, rfl⟩⟩
  exact ⟨rfl, nd, rfl⟩

def gA : Gr.G := [[1, 2], [2], [1], []]
theorem gA_good : Gr.Good gA := by
  intro x y hy
  have hx : x < 4 := Gr.out_lt hy
  match x, hx with
  | 0, _ => simp [Gr.out, gA] at hy; rcases hy with rfl | rfl <;> decide
  | 1, _ => simp [Gr.out, gA] at hy; subst hy; decide
  | 2, _ => simp [Gr.out, gA] at hy; subst hy; decide
  | 3, _ => simp [Gr.out, gA] at hy
theorem gA_order : Gr.orderOf gA 0 = [2, 1, 0] := by decide
theorem gA_canon : Gr.canon gA = [[0], [1, 2], [3]] := by
  have hb := Gr.back_is gA_good
  have e : Gr.rawParts gA (Gr.backE gA.length (Gr.esU gA gA.length)) = [[3], [0], [2, 1]] := by decide
  refine (Gr.parts_canon gA_good hb (ps := [[3], [0], [1, 2]]) ?_ ?_ ?_).symm
  · rw [e]
    exact .cons ⟨.refl _, by decide⟩ (.cons ⟨.refl _, by decide⟩ (.cons ⟨by decide, by decide⟩ .nil))
  · decide
  · decide
theorem gA_ans : partsAns [[1, 2], [2], [1], []] = [[0], [1, 2], [3]] ∧ orderAns [[1, 2], [2], [1], []] 0 = [2, 1, 0] := by
  have e : gOf [[1, 2], [2], [1], []] = gA := by decide
  have h : Pu.okE [[1, 2], [2], [1], []] = true := by decide
  refine ⟨?_, ?_⟩
  · unfold partsAns
    rw [if_pos h, e, gA_canon]
    decide
  · unfold orderAns
    rw [if_pos ⟨h, by decide, by decide⟩, e]
    show castL (Gr.orderOf gA 0) = _
    rw [gA_order]
    decide
theorem row_C {α : Type} {d : Kd α} (hsz : d.sz = 1) {W : World} {b : Nat} {t : TypeId} {vs : List Value} {xs : List α} (h : W.heap[b]? = some (.cells vs.toArray t (0, 0))) (hl : vs.length = xs.length) (hm : xs.length ≤ maxLen)
    (hv : ∀ (j : Nat) (v : Value) (x : α), vs[j]? = some v → xs[j]? = some x → d.K W x [v]) : d.C W (some ⟨b, 0, none⟩) xs.length xs := by
  refine ⟨rfl, hm, fun _ => ⟨_, rfl, fun j p hp => ?_⟩⟩
  have hj : j < vs.length := by rw [hl]; exact (List.getElem?_eq_some_iff.1 hp).1
  refine ⟨[vs[j]], by rw [hsz]; rfl, hv j _ p (List.getElem?_eq_getElem hj) hp, fun i u hu => ?_⟩
  match i, hu with
  | 0, hu =>
    have : vs[j] = u := by simpa using hu
    subst this
    have e : (⟨b, 0, none⟩ : Addr).add (j * d.sz + 0) = ⟨b, j, none⟩ := by simp [Addr.add, hsz]; exact fun e => e.symm
    rw [e, blk_cell h j]
    simp [hj]
theorem ints_C {W : World} {b : Nat} {t : TypeId} (xs : List Int) (h : W.heap[b]? = some (.cells (xs.map (Value.int .i64)).toArray t (0, 0))) (hm : xs.length ≤ maxLen) : (Kd.int .i64).C W (some ⟨b, 0, none⟩) xs.length xs := by
  refine row_C rfl h (by simp) hm (fun j v x hv hx => ?_)
  simp only [List.getElem?_map, hx, Option.map_some, Option.some.injEq] at hv
  subst hv
  rfl
theorem rows_C {W : World} {b : Nat} {t : TypeId} (bs : List Nat) (xs : List (List Int)) (hl : bs.length = xs.length) (h : W.heap[b]? = some (.cells ((bs.zip xs).map (fun p => Value.slice (some ⟨p.1, 0, none⟩) p.2.length p.2.length)).toArray t (0, 0))) (hm : xs.length ≤ maxLen)
    (hr : ∀ (j : Nat) (c : Nat) (x : List Int), bs[j]? = some c → xs[j]? = some x → (Kd.int .i64).C W (some ⟨c, 0, none⟩) x.length x) : KE.C W (some ⟨b, 0, none⟩) xs.length xs := by
  refine row_C rfl h (by simp [hl]) hm (fun j v x hv hx => ?_)
  obtain ⟨c, hc⟩ : ∃ c, bs[j]? = some c := ⟨_, List.getElem?_eq_getElem (by rw [hl]; exact (List.getElem?_eq_some_iff.1 hx).1)⟩
  have : (bs.zip xs)[j]? = some (c, x) := by simp [List.getElem?_zip_eq_some, hc, hx]
  simp only [List.getElem?_map, this, Option.map_some, Option.some.injEq] at hv
  subst hv
  exact ⟨_, _, rfl, Nat.le_refl _, hr j c x hc hx⟩
theorem litE (w : World) : KE.C (((((w.alloc (.cells #[.int .i64 1, .int .i64 2] 3)).alloc (.cells #[.int .i64 2] 3)).alloc (.cells #[.int .i64 1] 3)).alloc (.cells #[] 3)).alloc (.cells #[.slice (some ⟨w.heap.size, 0, none⟩) 2 2, .slice (some ⟨w.heap.size + 1, 0, none⟩) 1 1, .slice (some ⟨w.heap.size + 1 + 1, 0, none⟩) 1 1, .slice (some ⟨w.heap.size + 1 + 1 + 1, 0, none⟩) 0 0] 31)) (some ⟨w.heap.size + 1 + 1 + 1 + 1, 0, none⟩) 4 [[1, 2], [2], [1], []] := by
  have n0 := World.alloc_heap_new w (.cells #[.int .i64 1, .int .i64 2] 3)
  have n1 := World.alloc_heap_new (w.alloc (.cells #[.int .i64 1, .int .i64 2] 3)) (.cells #[.int .i64 2] 3)
  have n2 := World.alloc_heap_new ((w.alloc (.cells #[.int .i64 1, .int .i64 2] 3)).alloc (.cells #[.int .i64 2] 3)) (.cells #[.int .i64 1] 3)
  have n3 := World.alloc_heap_new (((w.alloc (.cells #[.int .i64 1, .int .i64 2] 3)).alloc (.cells #[.int .i64 2] 3)).alloc (.cells #[.int .i64 1] 3)) (.cells #[] 3)
  simp only [World.size_alloc] at n0 n1 n2 n3
  refine rows_C (t := 31) [w.heap.size, w.heap.size + 1, w.heap.size + 1 + 1, w.heap.size + 1 + 1 + 1] [[1, 2], [2], [1], []] rfl ?_ (by decide) ?_
  · have := World.alloc_heap_new ((((w.alloc (.cells #[.int .i64 1, .int .i64 2] 3)).alloc (.cells #[.int .i64 2] 3)).alloc (.cells #[.int .i64 1] 3)).alloc (.cells #[] 3)) (.cells #[.slice (some ⟨w.heap.size, 0, none⟩) 2 2, .slice (some ⟨w.heap.size + 1, 0, none⟩) 1 1, .slice (some ⟨w.heap.size + 1 + 1, 0, none⟩) 1 1, .slice (some ⟨w.heap.size + 1 + 1 + 1, 0, none⟩) 0 0] 31)
    simp only [World.size_alloc] at this
    exact this
  · intro j c x hc hx
    match j, hc, hx with
    | 0, hc, hx => cases hc; cases hx; exact ints_C [1, 2] (blk_alloc (blk_alloc (blk_alloc (blk_alloc n0 _) _) _) _) (by decide)
    | 1, hc, hx => cases hc; cases hx; exact ints_C [2] (blk_alloc (blk_alloc (blk_alloc n1 _) _) _) (by decide)
    | 2, hc, hx => cases hc; cases hx; exact ints_C [1] (blk_alloc (blk_alloc n2 _) _) (by decide)
    | 3, hc, hx => cases hc; cases hx; exact ints_C [] (blk_alloc n3 _) (by decide)
theorem litP (w : World) : KE.C ((((w.alloc (.cells #[.int .i64 0] 3)).alloc (.cells #[.int .i64 1, .int .i64 2] 3)).alloc (.cells #[.int .i64 3] 3)).alloc (.cells #[.slice (some ⟨w.heap.size, 0, none⟩) 1 1, .slice (some ⟨w.heap.size + 1, 0, none⟩) 2 2, .slice (some ⟨w.heap.size + 1 + 1, 0, none⟩) 1 1] 31)) (some ⟨w.heap.size + 1 + 1 + 1, 0, none⟩) 3 [[0], [1, 2], [3]] := by
  have n0 := World.alloc_heap_new w (.cells #[.int .i64 0] 3)
  have n1 := World.alloc_heap_new (w.alloc (.cells #[.int .i64 0] 3)) (.cells #[.int .i64 1, .int .i64 2] 3)
  have n2 := World.alloc_heap_new ((w.alloc (.cells #[.int .i64 0] 3)).alloc (.cells #[.int .i64 1, .int .i64 2] 3)) (.cells #[.int .i64 3] 3)
  simp only [World.size_alloc] at n0 n1 n2
  refine rows_C (t := 31) [w.heap.size, w.heap.size + 1, w.heap.size + 1 + 1] [[0], [1, 2], [3]] rfl ?_ (by decide) ?_
  · have := World.alloc_heap_new (((w.alloc (.cells #[.int .i64 0] 3)).alloc (.cells #[.int .i64 1, .int .i64 2] 3)).alloc (.cells #[.int .i64 3] 3)) (.cells #[.slice (some ⟨w.heap.size, 0, none⟩) 1 1, .slice (some ⟨w.heap.size + 1, 0, none⟩) 2 2, .slice (some ⟨w.heap.size + 1 + 1, 0, none⟩) 1 1] 31)
    simp only [World.size_alloc] at this
    exact this
  · intro j c x hc hx
    match j, hc, hx with
    | 0, hc, hx => cases hc; cases hx; exact ints_C [0] (blk_alloc (blk_alloc (blk_alloc n0 _) _) _) (by decide)
    | 1, hc, hx => cases hc; cases hx; exact ints_C [1, 2] (blk_alloc (blk_alloc n1 _) _) (by decide)
    | 2, hc, hx => cases hc; cases hx; exact ints_C [3] (blk_alloc n2 _) (by decide)
theorem small_E : Small [[1, 2], [2], [1], []] := ⟨by decide, fun r hr => by
  simp only [List.mem_cons, List.not_mem_nil, or_false] at hr
  rcases hr with rfl | rfl | rfl | rfl <;> decide⟩
theorem C_le {α : Type} {d : Kd α} {w w1 : World} {A : Option Addr} {n : Nat} {xs : List α} (h : d.C w A n xs) (hb : Below w.heap.size w w1) : d.C w1 A n xs := Kd.C_below h hb
theorem check_any (A : Option Addr) (n c : Nat) (el : List (List Int)) (w : World) (hn : el.length = n) (hE : KE.C w A n el) (hc : n ≤ c) (hs : Small el) :
    Calls Try.prog 8 #[.slice A n c] w fun e w' => e = .returned (.int .i64 (if Pu.okE el then 0 else 110)) ∧ ∃ q, w' = w.drewN q := by
  subst hn
  obtain ⟨k, hk⟩ := Pu.check_ev el (by have := hs.len; omega) (fun r hr => by have := hs.row r hr; omega)
  refine (PCheck.order_Check.calls k A c el _ w hE hc hk).mono ?_
  rintro e w1 ⟨rfl, ⟨nd, rfl⟩⟩
  exact ⟨rfl, nd, rfl⟩

set_option maxRecDepth 100000 in
set_option maxHeartbeats 4000000 in
theorem awake_any (w : World) : Calls Try.prog 13 #[] w fun e w' => e = .returned (.bool true) ∧ Below w.heap.size w w' := by
  go_enter Try.func13, Try.ntmps13
  go_wp2_with (go_at_call 11; refine Aside0.out ?_)
  have hE := litE w
  obtain ⟨W5, hW5⟩ : ∃ W, (((((w.alloc (.cells #[.int .i64 1, .int .i64 2] 3)).alloc (.cells #[.int .i64 2] 3)).alloc (.cells #[.int .i64 1] 3)).alloc (.cells #[] 3)).alloc (.cells #[.slice (some ⟨w.heap.size, 0, none⟩) 2 2, .slice (some ⟨w.heap.size + 1, 0, none⟩) 1 1, .slice (some ⟨w.heap.size + 1 + 1, 0, none⟩) 1 1, .slice (some ⟨w.heap.size + 1 + 1 + 1, 0, none⟩) 0 0] 31)) = W := ⟨_, rfl⟩
  have hB5 : Below w.heap.size w W5 := by
    rw [← hW5]
    exact below_alloc (below_alloc (below_alloc (below_alloc (below_alloc (Below.refl _ w) _) _) _) _) _
  rw [hW5] at hE ⊢
  clear hW5
  refine ⟨?_⟩
  obtain ⟨A, hA⟩ : ∃ A, (some (⟨w.heap.size + 1 + 1 + 1 + 1, 0, none⟩ : Addr)) = A := ⟨_, rfl⟩
  rw [hA] at hE ⊢
  clear hA
  refine (parts_any A 4 [[1, 2], [2], [1], []] W5 hE (by decide) small_E (by decide)).mono ?_
  rintro e w1 ⟨v, rfl, hR, hb⟩
  rw [gA_ans.1] at hR
  obtain ⟨A1, c1, rfl, hc1, hC1⟩ := Kd.R_reads hR
  have HB5 := hide hB5
  have HE := hide (C_le hE hb)
  have HB := hide hb
  have HC1 := hide (show KE.C w1 A1 3 [[0], [1, 2], [3]] from hC1)
  have hc1' : 3 ≤ c1 := hc1
  clear hE hB5 hR hb hC1 hc1
  go_wp2_with (go_at_call 10; refine Aside0.out ?_)
  refine ⟨?_⟩
  have hP := litP w1
  obtain ⟨W9, hW9⟩ : ∃ W, ((((w1.alloc (.cells #[.int .i64 0] 3)).alloc (.cells #[.int .i64 1, .int .i64 2] 3)).alloc (.cells #[.int .i64 3] 3)).alloc (.cells #[.slice (some ⟨w1.heap.size, 0, none⟩) 1 1, .slice (some ⟨w1.heap.size + 1, 0, none⟩) 2 2, .slice (some ⟨w1.heap.size + 1 + 1, 0, none⟩) 1 1] 31)) = W := ⟨_, rfl⟩
  have hB9 : Below w1.heap.size w1 W9 := by
    rw [← hW9]
    exact below_alloc (below_alloc (below_alloc (below_alloc (Below.refl _ w1) _) _) _) _
  rw [hW9] at hP ⊢
  clear hW9
  refine (sameAll_any A1 _ 3 c1 3 [[0], [1, 2], [3]] W9 rfl (C_le HC1.out hB9) hc1' hP (by decide) (by decide) (by decide)).mono ?_
  rintro e w2 ⟨rfl, q, rfl⟩
  have HE2 := hide (C_le (C_le HE.out hB9) (pw_below_drewN (Below.refl _ _) q))
  have HB2 := hide (pw_below_drewN (((HB5.out.trans (HB.out.mono HB5.out.size))).trans (hB9.mono (by have := HB5.out.size; have := HB.out.size; omega))) q : Below w.heap.size w (W9.drewN q))
  clear hP hB9 HE
  go_wp2_with (first | (go_at_call 15; refine (order_any A 4 [[1, 2], [2], [1], []] 0 (W9.drewN q) HE2.out (by decide) small_E).mono ?_; rintro e w3 ⟨v3, rfl, hR3, hb3⟩; rw [gA_ans.2] at hR3; obtain ⟨A3, c3, rfl, hc3, hC3⟩ := Kd.R_reads hR3; have hc3' : 3 ≤ c3 := hc3; have HC3 := hide (show (Kd.int .i64).C w3 A3 3 [2, 1, 0] from hC3); have HE3 := hide (C_le HE2.out hb3); have HB3 := hide (HB2.out.trans (hb3.mono HB2.out.size)); clear hR3 hb3 hC3 hc3) | (go_at_call 14; refine (same_any A3 _ 3 c3 3 [2, 1, 0] (w3.alloc (.cells #[.int .i64 2, .int .i64 1, .int .i64 0] 3)) rfl (C_le HC3.out (below_alloc (Below.refl _ w3) _)) hc3' (ints_C [2, 1, 0] (blk_new _ _) (by decide)) (by decide) (by decide)).mono ?_; rintro e w4 ⟨rfl, q2, rfl⟩) | (go_at_call 8; refine (check_any A 4 4 [[1, 2], [2], [1], []] _ rfl (C_le HE3.out (pw_below_drewN (below_alloc (Below.refl _ w3) _) q2)) (by decide) small_E).mono ?_; rintro e w4 ⟨rfl, q3, rfl⟩; have e0 : (if Pu.okE [[1, 2], [2], [1], []] then (0 : Int) else 110) = 0 := (by decide); rw [e0]; clear e0))
  go_ret
  exact ⟨rfl, pw_below_drewN (below_alloc HB3.out _) (q2 + q3)⟩
end Go.Proofs.Ytldgmneijipbjaa.H
end
/- YtldgmneijipbjaaPu3 -/
section
/- What the reference's reach answers: the places that can be reached. -/
namespace Go.Proofs.Ytldgmneijipbjaa.Pu
open Go.RowKit Go.Proofs.YtldgmneijipbjaaW.PrintWords H
open Gr (out sn unseen visit scan)
open PParts
set_option linter.unusedVariables false

structure RI (g : Gr.G) (root : Nat) (s : List Bool) (st : List Nat) (ex : Nat → Prop) : Prop where
  len : s.length = g.length
  mem : ∀ x, x ∈ st → x < g.length ∧ Gr.Reach g root x
  sound : ∀ y, y < g.length → sn s y = true → Gr.Reach g root y
  root : root < g.length ∧ sn s root = true
  closed : ∀ x, x < g.length → sn s x = true → x ∉ st → ¬ ex x → ∀ y, y ∈ out g x → sn s y = true
  small : st.length + unseen s ≤ g.length
def RG (g : Gr.G) (root : Nat) (r : List Bool) : Prop := r.length = g.length ∧ ∀ y, y < g.length → (sn r y = true ↔ Gr.Reach g root y)

theorem RI.done {g : Gr.G} (hg : Gr.Good g) {root : Nat} {s : List Bool} (h : RI g root s [] (fun _ => False)) : RG g root s := by
  refine ⟨h.len, fun y hy => ⟨h.sound y hy, fun r => ?_⟩⟩
  have : ∀ x, Gr.Reach g root x → sn s x = true := by
    intro x r
    induction r with
    | refl => exact h.root.2
    | tail r1 r2 ih => exact h.closed _ (Gr.Reach.lt hg r1 h.root.1) ih (by simp) id _ r2
  exact this y r

theorem rdrow2 (g : Gr.G) (x : Nat) : PParts.rd_L1 (castG g) (x : Int) = castL (out g x) := by
  rw [PParts.rd_L1, Int.toNat_natCast]; exact castG_getD g x
theorem reach_row (g : Gr.G) (hg : Gr.Good g) (root : Nat) (hn : g.length ≤ 1099511627776) (hr : ∀ x, (out g x).length ≤ 4611686018427387904) (M : Nat)
    (ih : ∀ s st, RI g root s st (fun _ => False) → 2 * unseen s + st.length ≤ M → ∃ r, Ev (fun k => gussetref11_reach.l0 k (castG g) s (castL st)) r ∧ RG g root r) (x : Nat) (hx : x < g.length) (hrx : Gr.Reach g root x) (dd : Nat) :
    ∀ (j : Nat) (s : List Bool) (st : List Nat), (out g x).length - j = dd → j ≤ (out g x).length → RI g root s st (fun z => z = x) → (∀ (i : Nat) (y : Nat), i < j → (out g x)[i]? = some y → sn s y = true) → 2 * unseen s + st.length ≤ M →
      ∃ r, Ev (fun k => gussetref11_reach.l1 k (castG g) s (castL st) (x : Int) (j : Int)) r ∧ RG g root r := by
  have hlen := castG_length g
  have hrow := rdrow2 g x
  have hrl := len_row g x
  have hrx2 := hr x
  induction dd with
  | zero =>
    intro j s st hj hle hI hd hm
    obtain ⟨r, h1, h2⟩ := ih s st ⟨hI.len, hI.mem, hI.sound, hI.root, fun z hz hs hn _ y hy => by
      by_cases e : z = x
      · subst e
        obtain ⟨i, hi⟩ := List.mem_iff_getElem?.1 hy
        exact hd i y (by have := (List.getElem?_eq_some_iff.1 hi).1; omega) hi
      · exact hI.closed z hz hs hn e y hy, hI.small⟩ hm
    refine ⟨r, Ev.step (f := fun k => gussetref11_reach.l0 k (castG g) s (castL st)) (fun k => ?_) h1, h2⟩
    simp only [gussetref11_reach.l1]
    rw [hrow, if_pos (by omega), if_pos (by omega), if_neg (by omega)]
  | succ dd ihd =>
    intro j s st hj hle hI hd hm
    have hlt : j < (out g x).length := by omega
    have hy : (out g x)[j] < g.length := hg x _ (List.getElem_mem hlt)
    have hrd := rd_castL (out g x) j hlt
    have hro := sn_rdOf s (out g x)[j] (by have := hI.len; omega)
    have hsl := hI.len
    have hsm := hI.small
    cases hsn : sn s (out g x)[j] with
    | true =>
      obtain ⟨r, h1, h2⟩ := ihd (j + 1) s st (by omega) (by omega) hI (fun i y hi hy2 => by
        by_cases e : i = j
        · subst e
          rw [List.getElem?_eq_getElem hlt] at hy2
          cases hy2
          exact hsn
        · exact hd i y (by omega) hy2) hm
      refine ⟨r, Ev.step (f := fun k => gussetref11_reach.l1 k (castG g) s (castL st) (x : Int) ((j + 1 : Nat) : Int)) (fun k => ?_) h1, h2⟩
      simp only [gussetref11_reach.l1]
      rw [hrow, if_pos (by omega), if_pos (by omega), if_pos (by omega), if_pos (by omega), hrd, if_pos (by omega), if_pos (by omega), hro, hsn, if_pos rfl, wrap_small (by omega) (by omega)]; rfl
    | false =>
      have hus := Gr.unseen_set hsn
      have hset : ∀ z, sn s z = true → sn (s.set (out g x)[j] true) z = true := fun z hz => by rw [Gr.sn_set]; split <;> simp_all
      have hnew : sn (s.set (out g x)[j] true) (out g x)[j] = true := by rw [Gr.sn_set]; simp
      have hI2 : RI g root (s.set (out g x)[j] true) (st ++ [(out g x)[j]]) (fun z => z = x) := by
        refine ⟨by simp [hsl], fun z hz => ?_, fun z hz hs => ?_, ⟨hI.root.1, hset _ hI.root.2⟩, fun z hz hs hn hex y hy2 => ?_, by simp only [List.length_append, List.length_singleton]; omega⟩
        · rcases List.mem_append.1 hz with hz | hz
          · exact hI.mem z hz
          · rw [List.mem_singleton.1 hz]
            exact ⟨hy, hrx.tail (List.getElem_mem hlt)⟩
        · by_cases e : z = (out g x)[j]
          · rw [e]; exact hrx.tail (List.getElem_mem hlt)
          · refine hI.sound z hz ?_
            rw [Gr.sn_set] at hs
            split at hs
            · rename_i h; exact absurd h.symm e
            · exact hs
        · have e : z ≠ (out g x)[j] := fun e => hn (by rw [e]; simp)
          refine hset y (hI.closed z hz ?_ (fun h => hn (by simp [h])) hex y hy2)
          rw [Gr.sn_set] at hs
          split at hs
          · rename_i h; exact absurd h.symm e
          · exact hs
      obtain ⟨r, h1, h2⟩ := ihd (j + 1) (s.set (out g x)[j] true) (st ++ [(out g x)[j]]) (by omega) (by omega) hI2 (fun i y hi hy2 => by
        by_cases e : i = j
        · subst e
          rw [List.getElem?_eq_getElem hlt] at hy2
          cases hy2
          exact hnew
        · exact hset y (hd i y (by omega) hy2)) (by simp only [List.length_append, List.length_singleton]; omega)
      refine ⟨r, Ev.step (f := fun k => gussetref11_reach.l1 k (castG g) (s.set (out g x)[j] true) (castL (st ++ [(out g x)[j]])) (x : Int) ((j + 1 : Nat) : Int)) (fun k => ?_) h1, h2⟩
      simp only [gussetref11_reach.l1]
      have hcs := castL_length st
      have hsnoc : castL st ++ [((out g x)[j] : Int)] = castL (st ++ [(out g x)[j]]) := by simp [castL]
      rw [hrow, if_pos (by omega), if_pos (by omega), if_pos (by omega), if_pos (by omega), hrd, if_pos (by omega), if_pos (by omega), hro, hsn, if_neg (by simp), if_pos (by omega), wrap_small (by omega) (by omega), hsnoc, Int.toNat_natCast]; rfl

theorem reach_l0 (g : Gr.G) (hg : Gr.Good g) (root : Nat) (hn : g.length ≤ 1099511627776) (hr : ∀ x, (out g x).length ≤ 4611686018427387904) (M : Nat) :
    ∀ s st, RI g root s st (fun _ => False) → 2 * unseen s + st.length ≤ M → ∃ r, Ev (fun k => gussetref11_reach.l0 k (castG g) s (castL st)) r ∧ RG g root r := by
  induction M with
  | zero =>
    intro s st hI hm
    obtain rfl : st = [] := List.eq_nil_of_length_eq_zero (by omega)
    refine ⟨s, Ev.step (f := fun _ => some s) (fun k => ?_) (Ev.now _), hI.done hg⟩
    simp only [gussetref11_reach.l0]
    rw [if_neg (by simp [castL])]
  | succ M ih =>
    intro s st hI hm
    rcases List.eq_nil_or_concat st with rfl | ⟨st, x, e⟩
    · refine ⟨s, Ev.step (f := fun _ => some s) (fun k => ?_) (Ev.now _), hI.done hg⟩
      simp only [gussetref11_reach.l0]
      rw [if_neg (by simp [castL])]
    · rw [List.concat_eq_append] at e
      subst e
      have hx := hI.mem x (by simp)
      have hsm := hI.small
      simp only [List.length_append, List.length_singleton] at hm hsm
      obtain ⟨r, h1, h2⟩ := reach_row g hg root hn hr M ih x hx.1 hx.2 _ 0 s st rfl (Nat.zero_le _) ⟨hI.len, fun z hz => hI.mem z (by simp [hz]), hI.sound, hI.root, fun z hz hs hn hex => hI.closed z hz hs (by simp [hn]; exact hex) id, by omega⟩ (fun i y hi => by omega) (by omega)
      have hcl : (castL (st ++ [x])).length = st.length + 1 := by rw [castL_length]; simp
      have hw : wrap64 (((castL (st ++ [x])).length : Int) - 1) = (st.length : Int) := by rw [hcl]; unfold wrap64; omega
      have ht : (castL (st ++ [x])).take ((st.length : Int)).toNat = castL st := by
        rw [Int.toNat_natCast]
        have e : castL (st ++ [x]) = castL st ++ [(x : Int)] := by simp [castL]
        rw [e, List.take_append_of_le_length (by rw [castL_length]; omega), List.take_of_length_le (by rw [castL_length]; omega)]
      have hrd : rd (castL (st ++ [x])) (st.length : Int) = (x : Int) := by
        rw [rd_castL (st ++ [x]) st.length (by simp)]
        simp
      refine ⟨r, Ev.step (f := fun k => gussetref11_reach.l1 k (castG g) s (castL st) (x : Int) 0) (fun k => ?_) h1, h2⟩
      simp only [gussetref11_reach.l0]
      rw [hw, ht, hrd, if_pos (by omega), if_pos (by omega), if_pos (by omega), if_pos (by omega)]

theorem reach_ev (g : Gr.G) (hg : Gr.Good g) (root : Nat) (hroot : root < g.length) (hn : g.length ≤ 1099511627776) (hr : ∀ x, (out g x).length ≤ 4611686018427387904) :
    ∃ k r, gussetref11_reach.f k (castG g) (root : Int) = some r ∧ RG g root r := by
  have hlen := castG_length g
  have h0 : sn (List.replicate g.length false) root = false := by simp [sn, hroot]
  have hus := Gr.unseen_set h0
  rw [Gr.unseen_start] at hus
  obtain ⟨r, h1, h2⟩ := reach_l0 g hg root hn hr _ ((List.replicate g.length false).set root true) [root] ⟨by simp, fun x hx => by rw [List.mem_singleton.1 hx]; exact ⟨hroot, .refl _⟩, fun y hy hs => by
      rw [Gr.sn_set] at hs
      split at hs
      · rename_i h; rw [← h]; exact .refl _
      · simp [sn, hy] at hs, ⟨hroot, by rw [Gr.sn_set]; simp⟩, fun x hx hs hn _ => by
      rw [Gr.sn_set] at hs
      split at hs
      · rename_i h; exact absurd (by rw [← h]; simp) hn
      · simp [sn, hx] at hs, by simp only [List.length_singleton]; omega⟩ (Nat.le_refl _)
  obtain ⟨k, hk⟩ := h1.rounds
  refine ⟨k, r, ?_, h2⟩
  simp only [gussetref11_reach.f]
  rw [if_pos (by omega), if_pos (by omega), hlen, Int.toNat_natCast, Option.bind_some, if_pos (by omega), if_pos (by simp; omega), Int.toNat_natCast]
  exact hk
end Go.Proofs.Ytldgmneijipbjaa.Pu
end
/- YtldgmneijipbjaaHRP -/
section
/- The reference's Parts: words. -/
namespace Go.Proofs.Ytldgmneijipbjaa.H
open Go.RowKit Go.Shelf Go.Proofs.YtldgmneijipbjaaW.PrintWords Go.Proofs.YtldgmneijipbjaaW.PrintLast Go.Proofs.YtldgmneijipbjaaW.PrintMore
open Gr (out sn)
open Pu (RG okE)
set_option linter.unusedVariables false
set_option linter.unusedSimpArgs false

abbrev KB : Kd (List Bool) := Kd.slice 4 Kd.bool

theorem R_putrow {α : Type} {d : Kd α} {e e2 base g n cap : Nat} {ok : Nat → Prop} {W : World} {xs : List (List α)} {v : Value} {x : List α} (h : (Kd.slice e2 d).R e W base ok (.slice (some ⟨g, 0, none⟩) n cap) xs) (i : Nat) (hi : i < n) (hv : d.R e2 W base (fun k => ok k ∧ k ≠ g) v x) :
    (Kd.slice e2 d).R e (W.setCell ⟨g, i, none⟩ v) base ok (.slice (some ⟨g, 0, none⟩) n cap) (xs.set i x) := by
  obtain ⟨h0, inner, ⟨hil, ho⟩, hr⟩ := h
  have hsz : (Kd.slice e2 d).sz = 1 := rfl
  rw [hsz, Nat.mul_one] at hil
  rcases ho with ⟨e, _⟩ | ⟨g', cap', cur, e, hbase, hb, h1, h2, h3, h4⟩
  · cases e
  · injection e with e1 e2 e3
    injection e1 with e1
    injection e1 with e1
    subst e1 e2 e3
    rw [hsz, Nat.mul_one] at h3 h4
    have hmove : ∀ {q : List α} {c : List Value}, (Kd.slice e2 d).M W base (fun k => ok k ∧ some k ≠ (Value.slice (some ⟨g, 0, none⟩) xs.length cap).ownBlock) q c → (Kd.slice e2 d).M (W.setCell ⟨g, i, none⟩ v) base (fun k => ok k ∧ some k ≠ (Value.slice (some ⟨g, 0, none⟩) xs.length cap).ownBlock) q c := by
      intro q c hq
      exact (Kd.slice e2 d).M_move (fun k hk => Below.heap_setCell W ⟨g, i, none⟩ v k (fun e => hk.2 (by rw [e]; rfl))) hq
    have hvM : (Kd.slice e2 d).M (W.setCell ⟨g, i, none⟩ v) base (fun k => ok k ∧ some k ≠ (Value.slice (some ⟨g, 0, none⟩) xs.length cap).ownBlock) x [v] :=
      hmove ⟨v, rfl, Kd.R_mono hv (fun k hk => ⟨hk.1, fun e => hk.2 (by injection e)⟩)⟩
    refine ⟨h0, inner.set i v, ⟨by rw [hsz, Nat.mul_one, List.length_set, List.length_set]; exact hil, .inr ⟨g, cap, _, by rw [List.length_set], hbase, YtldgmneijipbjaaW.PrintWords.blk_put hb i v rfl, by rw [List.length_set]; exact h1, h2, by rw [hsz, Nat.mul_one]; simpa using h3, ?_⟩⟩, ?_⟩
    · rw [hsz, Nat.mul_one, List.length_set, Array.toList_setIfInBounds, List.take_set, h4]
    · refine ⟨by rw [hsz, Nat.mul_one, List.length_set, List.length_set]; exact hil, fun j p hp => ?_⟩
      rw [hsz, Nat.mul_one]
      have hjl : j < xs.length := by have := (List.getElem?_eq_some_iff.1 hp).1; simpa using this
      have hseg : ((inner.set i v).drop j).take 1 = [(inner.set i v)[j]'(by rw [List.length_set]; omega)] := by
        rw [List.drop_eq_getElem_cons (by rw [List.length_set]; omega)]
        rfl
      rw [hseg]
      by_cases e : i = j
      · subst e
        rw [List.getElem?_set_self hjl] at hp
        cases hp
        rw [List.getElem_set_self]
        exact hvM
      · rw [List.getElem?_set_ne e] at hp
        have h5 := hr.2 j p hp
        rw [hsz, Nat.mul_one, List.drop_eq_getElem_cons (by omega)] at h5
        rw [List.getElem_set_ne e]
        exact hmove h5
theorem R_cell_any {α : Type} {d : Kd α} {e base g n cap : Nat} {ok : Nat → Prop} {W : World} {xs : List α} (hsz : d.sz = 1) (h : d.R e W base ok (.slice (some ⟨g, 0, none⟩) n cap) xs) (i : Nat) (hi : i < n) :
    (∃ u, W.cell? ⟨g, i, none⟩ = some u) ∧ W.frozen? ⟨g, i, none⟩ = false := by
  obtain ⟨h0, inner, ⟨hil, ho⟩, hr⟩ := h
  rcases ho with ⟨e, _⟩ | ⟨g', cap', cur, e, hbase, hb, h1, h2, h3, h4⟩
  · cases e
  · injection e with e1 e2 e3
    injection e1 with e1
    injection e1 with e1
    subst e1 e2 e3
    rw [hsz, Nat.mul_one] at h3
    refine ⟨⟨cur[i]'(by omega), ?_⟩, blk_frozen hb i⟩
    rw [blk_cell hb i]
    exact Array.getElem?_eq_getElem (by omega)
/-- an element of a row of a row that is read -/
theorem all_at {w : World} {A : Option Addr} {n : Nat} {rows : List (List Bool)} (h : KB.C w A n rows) (i k : Nat) (hi : i < n) (r : List Bool) (hr : rows[i]? = some r) (hl : r.length = n) (hk : k < n) :
    ∃ ad A0 c0, A = some ad ∧ w.cell? (ad.add i) = some (.slice (some A0) n c0) ∧ w.cell? (A0.add k) = some (.bool (sn r k)) := by
  obtain ⟨ad, e, hc⟩ := h.2.2 (by omega)
  obtain ⟨cs, h1, ⟨A0, c0, rfl, h3, h4⟩, h5⟩ := hc i r hr
  have := h5 0 _ rfl
  obtain ⟨a0, e0, hcell⟩ := Kd.at_bool h4 (k : Int) (by omega) (by omega)
  subst e0
  refine ⟨ad, a0, c0, e, ?_, ?_⟩
  · have e1 : ad.add (i * KB.sz + 0) = ad.add i := by show ad.add (i * 1 + 0) = _; rw [Nat.mul_one, Nat.add_zero]
    rw [e1] at this
    rw [this, hl]
  · rw [Int.toNat_natCast] at hcell
    rw [hcell]
    have hkl : k < r.length := by omega
    simp [rdOf, sn, List.getD_eq_getElem?_getD, List.getElem?_eq_getElem hkl]

theorem rreach_any (A : Option Addr) (c : Nat) (g : Gr.G) (n root : Nat) (w : World) (hn : g.length = n) (hg : Gr.Good g) (hE : KE.C w A n (castG g)) (hc : n ≤ c) (hsm : n ≤ 1099511627776) (hr : ∀ x, (out g x).length ≤ 1099511627776) (hroot : root < n) :
    Calls Try.prog 25 #[.slice A n c, .int .i64 root] w fun e w' => ∃ v r, e = .returned v ∧ Kd.R Kd.bool 4 w' w.heap.size (fun _ => True) v r ∧ RG g root r ∧ Below w.heap.size w w' := by
  subst hn
  obtain ⟨k, r, hk, hrg⟩ := Pu.reach_ev g hg root hroot hsm (fun x => by have := hr x; omega)
  have hl : (castG g).length = g.length := by simp [castG]
  have := PParts.gussetref11_reach.calls k A c (castG g) (root : Int) r w (by rw [hl]; exact hE) (by rw [hl]; exact hc) hk
  rw [hl] at this
  refine this.mono ?_
  rintro e w1 ⟨v, rfl, h1, h2⟩
  exact ⟨v, r, rfl, h1, hrg, h2⟩

/-- what holds in the first loop -/
structure Q1 (g : Gr.G) (w : World) (ga ca x : Nat) (wr : World) (rows : List (List Bool)) : Prop where
  all : KB.R 41 wr w.heap.size (fun _ => True) (.slice (some ⟨ga, 0, none⟩) g.length ca) rows
  len : rows.length = g.length
  rg : ∀ i, i < x → ∃ r, rows[i]? = some r ∧ RG g i r
  below : Below w.heap.size w wr
theorem Q1.put {g : Gr.G} {w wr w3 : World} {ga ca x : Nat} {rows : List (List Bool)} {v : Value} {r : List Bool} (h : Q1 g w ga ca x wr rows) (hx : x < g.length) (hr : Kd.R Kd.bool 4 w3 wr.heap.size (fun _ => True) v r) (hrg : RG g x r) (hb : Below wr.heap.size wr w3) :
    Q1 g w ga ca (x + 1) (w3.setCell ⟨ga, x, none⟩ v) (rows.set x r) := by
  have hga : ga < wr.heap.size := by
    obtain ⟨c, e⟩ := Kd.R_typed h.all ga rfl
    exact blk_lt e
  have hge : w.heap.size ≤ ga := Kd.R_base h.all ga rfl
  refine ⟨R_putrow (fr_R h.all (Fr.of_below (S := fun _ => False) hb) (fun _ _ q => q)) x hx ?_, by rw [List.length_set]; exact h.len, fun i hi => ?_, ?_⟩
  · exact Kd.R_lower (Kd.R_mono (Kd.R_bound hr) (fun k hk => ⟨trivial, fun e => by have := hk.2.1; omega⟩)) h.below.size
  · by_cases e : x = i
    · subst e
      exact ⟨r, List.getElem?_set_self (by rw [h.len]; exact hx), hrg⟩
    · rw [List.getElem?_set_ne e]
      exact h.rg i (by omega)
  · exact (h.below.trans (hb.mono h.below.size)).trans ((Fr.setCell (S := fun k => k = ga) (Fr.refl _ w3) (p := ⟨ga, x, none⟩) (.inl rfl) v).below (by have := h.below.size; have := hb.size; omega) (by rintro k rfl; exact hge))
open Classical in
noncomputable def psOf (g : Gr.G) (i : Nat) : List (List Nat) := ((List.range i).filter fun v => decide (Gr.Least g v)).map (Gr.scc g)
open Classical in
noncomputable def partOf (g : Gr.G) (i k : Nat) : List Nat := (List.range k).filter fun u => decide (Gr.Scc g i u)
theorem psOf_all (g : Gr.G) : psOf g g.length = Gr.canon g := rfl
theorem psOf_yes {g : Gr.G} {i : Nat} (h : Gr.Least g i) : psOf g (i + 1) = psOf g i ++ [Gr.scc g i] := by
  unfold psOf
  rw [List.range_succ, List.filter_append, List.map_append]
  simp [h]
theorem psOf_no {g : Gr.G} {i : Nat} (h : ¬ Gr.Least g i) : psOf g (i + 1) = psOf g i := by
  unfold psOf
  rw [List.range_succ, List.filter_append, List.map_append]
  simp [h]
theorem psOf_length (g : Gr.G) (i : Nat) : (psOf g i).length ≤ i := by
  unfold psOf
  rw [List.length_map]
  exact Nat.le_trans (List.length_filter_le _ _) (by simp)
theorem partOf_all (g : Gr.G) (i : Nat) : partOf g i g.length = Gr.scc g i := rfl
theorem partOf_yes {g : Gr.G} {i k : Nat} (h : Gr.Scc g i k) : partOf g i (k + 1) = partOf g i k ++ [k] := by
  unfold partOf
  rw [List.range_succ, List.filter_append]
  simp [h]
theorem partOf_no {g : Gr.G} {i k : Nat} (h : ¬ Gr.Scc g i k) : partOf g i (k + 1) = partOf g i k := by
  unfold partOf
  rw [List.range_succ, List.filter_append]
  simp [h]
theorem partOf_start {g : Gr.G} {i : Nat} (h : Gr.Least g i) : partOf g i i = [] := by
  unfold partOf
  rw [List.filter_eq_nil_iff]
  intro u hu
  have := h u (by simpa using hu)
  simp only [decide_eq_true_eq]
  exact fun q => this q.symm
theorem partOf_length (g : Gr.G) (i k : Nat) : (partOf g i k).length ≤ k := by
  unfold partOf
  exact Nat.le_trans (List.length_filter_le _ _) (by simp)

section
variable {g : Gr.G} {B : Nat} {W1 wr w5 : World} {gt ct i k : Nat} {tl : List Bool} {O P : Nat → Prop} {ov pv ov5 pv5 : Value}
structure Q2 (g : Gr.G) (B : Nat) (W1 : World) (gt ct i : Nat) (wr : World) (tl : List Bool) (O : Nat → Prop) (ov : Value) : Prop where
  told : Kd.R Kd.bool 4 wr B (fun k => k = gt) (.slice (some ⟨gt, 0, none⟩) g.length ct) tl
  tlen : tl.length = g.length
  rt : ∀ y, y < g.length → (sn tl y = true ↔ ∃ v, v < i ∧ Gr.Scc g v y)
  out : KE.R 31 wr B O ov ((psOf g i).map castL)
  Oc : ∀ k, O k → W1.heap.size ≤ k ∧ k ≠ gt ∧ k < wr.heap.size
  below : Below W1.heap.size W1 wr
  gt_ : W1.heap.size ≤ gt ∧ gt < wr.heap.size
structure Q3 (g : Gr.G) (B : Nat) (W1 : World) (gt ct i k : Nat) (wr : World) (tl : List Bool) (O : Nat → Prop) (ov : Value) (P : Nat → Prop) (pv : Value) : Prop where
  told : Kd.R Kd.bool 4 wr B (fun k => k = gt) (.slice (some ⟨gt, 0, none⟩) g.length ct) tl
  tlen : tl.length = g.length
  rt : ∀ y, y < g.length → (sn tl y = true ↔ (∃ v, v < i ∧ Gr.Scc g v y) ∨ (y < k ∧ Gr.Scc g i y))
  out : KE.R 31 wr B O ov ((psOf g i).map castL)
  part : (Kd.int .i64).R 3 wr B P pv (castL (partOf g i k))
  Oc : ∀ k, O k → W1.heap.size ≤ k ∧ k ≠ gt ∧ k < wr.heap.size
  Pc : ∀ k, P k → W1.heap.size ≤ k ∧ k ≠ gt ∧ ¬ O k ∧ k < wr.heap.size
  below : Below W1.heap.size W1 wr
  gt_ : W1.heap.size ≤ gt ∧ gt < wr.heap.size
theorem Q2.skip (h : Q2 g B W1 gt ct i wr tl O ov) (hi : i < g.length) (hs : sn tl i = true) : Q2 g B W1 gt ct (i + 1) wr tl O ov := by
  obtain ⟨v, hv, hsc⟩ := (h.rt i hi).1 hs
  refine ⟨h.told, h.tlen, fun y hy => ⟨fun q => ?_, ?_⟩, ?_, h.Oc, h.below, h.gt_⟩
  · obtain ⟨v, hv, q⟩ := (h.rt y hy).1 q
    exact ⟨v, by omega, q⟩
  · rintro ⟨u, hu, q⟩
    refine (h.rt y hy).2 ?_
    by_cases e : u = i
    · subst e
      exact ⟨v, hv, hsc.trans q⟩
    · exact ⟨u, by omega, q⟩
  · rw [psOf_no (fun q => q v hv hsc)]
    exact h.out
theorem Q2.inner (h : Q2 g B W1 gt ct i wr tl O ov) (hi : i < g.length) (hs : sn tl i = false) : Gr.Least g i ∧ Q3 g B W1 gt ct i i wr tl O ov (fun _ => False) (.slice none 0 0) := by
  have hl : Gr.Least g i := fun u hu q => by
    have := (h.rt i hi).2 ⟨u, hu, q⟩
    rw [hs] at this
    cases this
  refine ⟨hl, h.told, h.tlen, fun y hy => ⟨fun q => .inl ((h.rt y hy).1 q), ?_⟩, h.out, by rw [partOf_start hl]; exact Kd.R_nil _ _ _ _ _, h.Oc, fun _ q => q.elim, h.below, h.gt_⟩
  rintro (q | ⟨hy2, q⟩)
  · exact (h.rt y hy).2 q
  · exact absurd q.symm (hl y hy2)
theorem Q3.skip (h : Q3 g B W1 gt ct i k wr tl O ov P pv) (hs : ¬ Gr.Scc g i k) : Q3 g B W1 gt ct i (k + 1) wr tl O ov P pv := by
  refine ⟨h.told, h.tlen, fun y hy => ⟨fun q => ?_, ?_⟩, h.out, by rw [partOf_no hs]; exact h.part, h.Oc, h.Pc, h.below, h.gt_⟩
  · rcases (h.rt y hy).1 q with q | ⟨q1, q2⟩
    · exact .inl q
    · exact .inr ⟨by omega, q2⟩
  · rintro (q | ⟨q1, q2⟩)
    · exact (h.rt y hy).2 (.inl q)
    · refine (h.rt y hy).2 (.inr ⟨?_, q2⟩)
      have : y ≠ k := fun e => hs (by rw [← e]; exact q2)
      omega
theorem Q3.put (h : Q3 g B W1 gt ct i k wr tl O ov P pv) (hB : B ≤ W1.heap.size) (hk : k < g.length) (hs : Gr.Scc g i k) (hg : (wr.setCell ⟨gt, k, none⟩ (.bool true)).grownBy w5 pv.ownBlock)
    (h5 : (Kd.int .i64).R 3 w5 B (fun j => P j ∨ wr.heap.size ≤ j) pv5 (castL (partOf g i k) ++ [(k : Int)])) :
    ∃ P', Q3 g B W1 gt ct i (k + 1) w5 (tl.set k true) O ov P' pv5 := by
  have hgt := h.gt_
  have hsz : (wr.setCell ⟨gt, k, none⟩ (.bool true)).heap.size = wr.heap.size := by simp [World.setCell]
  have hF1 : Fr (fun j => j = gt) wr (wr.setCell ⟨gt, k, none⟩ (.bool true)) := Fr.setCell (S := fun j => j = gt) (Fr.refl _ wr) (p := ⟨gt, k, none⟩) (.inl rfl) _
  have hF2 : Fr P (wr.setCell ⟨gt, k, none⟩ (.bool true)) w5 := (Fr.refl _ _).grown hg (fun j e => .inl (h.part.1 j e))
  have hF : Fr (fun j => j = gt ∨ P j) wr w5 := (hF1.mono (S' := fun j => j = gt ∨ P j) (fun j q => .inl q)).trans hF2 (fun j q => .inl (.inr q))
  have hput := (Kd.R_putg h.told (k : Int) true).1
  rw [Int.toNat_natCast] at hput
  refine ⟨fun j => (P j ∨ wr.heap.size ≤ j) ∧ j < w5.heap.size, fr_R hput hF2 (fun j e q => (h.Pc j q).2.1 e), by rw [List.length_set]; exact h.tlen, fun y hy => ?_, fr_R h.out hF (fun j hO q => ?_), ?_, fun j hO => ?_, ?_, ?_, ?_⟩
  · rw [Gr.sn_set]
    by_cases e : k = y
    · subst e
      simp only [if_true, true_iff]
      exact .inr ⟨by omega, hs⟩
    · rw [if_neg e, h.rt y hy]
      constructor
      · rintro (q | ⟨q1, q2⟩)
        · exact .inl q
        · exact .inr ⟨by omega, q2⟩
      · rintro (q | ⟨q1, q2⟩)
        · exact .inl q
        · exact .inr ⟨by omega, q2⟩
  · rcases q with q | q
    · exact (h.Oc j hO).2.1 q
    · exact (h.Pc j q).2.2.1 hO
  · rw [partOf_yes hs, ← castL_snoc]
    exact Kd.R_mono (Kd.R_bound h5) (fun j q => ⟨q.1, q.2.2.1⟩)
  · have := h.Oc j hO
    exact ⟨this.1, this.2.1, Nat.lt_of_lt_of_le this.2.2 hF.size⟩
  · rintro j ⟨q | q, q2⟩
    · have := h.Pc j q
      exact ⟨this.1, this.2.1, this.2.2.1, q2⟩
    · refine ⟨Nat.le_trans h.below.size q, by omega, fun hO => ?_, q2⟩
      have := h.Oc j hO
      omega
  · refine h.below.trans (hF.below h.below.size ?_)
    rintro j (rfl | q)
    · exact hgt.1
    · exact (h.Pc j q).1
  · exact ⟨hgt.1, Nat.lt_of_lt_of_le hgt.2 hF.size⟩
theorem Q3.done (h : Q3 g B W1 gt ct i g.length wr tl O ov P pv) (hl : Gr.Least g i) (hi : i < g.length) (hg : wr.grownBy w5 ov.ownBlock)
    (h5 : KE.R 31 w5 B (fun j => O j ∨ P j ∨ wr.heap.size ≤ j) ov5 ((psOf g i).map castL ++ [castL (partOf g i g.length)])) :
    ∃ O', Q2 g B W1 gt ct (i + 1) w5 tl O' ov5 := by
  have hgt := h.gt_
  have hF : Fr O wr w5 := (Fr.refl _ _).grown hg (fun j e => .inl (h.out.1 j e))
  refine ⟨fun j => (O j ∨ P j ∨ wr.heap.size ≤ j) ∧ j < w5.heap.size, fr_R h.told hF (fun j e q => (h.Oc j q).2.1 e), h.tlen, fun y hy => ?_, ?_, ?_, ?_, ?_⟩
  · rw [h.rt y hy]
    constructor
    · rintro (⟨v, hv, q⟩ | ⟨q1, q2⟩)
      · exact ⟨v, by omega, q⟩
      · exact ⟨i, by omega, q2⟩
    · rintro ⟨v, hv, q⟩
      by_cases e : v = i
      · subst e
        exact .inr ⟨hy, q⟩
      · exact .inl ⟨v, by omega, q⟩
  · rw [psOf_yes hl, List.map_append, List.map_singleton, ← partOf_all]
    exact Kd.R_mono (Kd.R_bound h5) (fun j q => ⟨q.1, q.2.2.1⟩)
  · rintro j ⟨q | q | q, q2⟩
    · exact ⟨(h.Oc j q).1, (h.Oc j q).2.1, q2⟩
    · exact ⟨(h.Pc j q).1, (h.Pc j q).2.1, q2⟩
    · exact ⟨Nat.le_trans h.below.size q, by omega, q2⟩
  · exact h.below.trans (hF.below h.below.size (fun j q => (h.Oc j q).1))
  · exact ⟨hgt.1, Nat.lt_of_lt_of_le hgt.2 hF.size⟩
theorem Q2.start {w1 : World} (hB : B ≤ W1.heap.size) (hm : Kd.R Kd.bool 4 w1 B (fun _ => True) (.slice (some ⟨gt, 0, none⟩) (List.replicate (g.length : Int).toNat false).length ct) (List.replicate (g.length : Int).toNat false)) (hg : W1.grownBy w1 none) (hgt : W1.heap.size ≤ gt) :
    Q2 g B W1 gt ct 0 w1 (List.replicate g.length false) (fun _ => False) (.slice none 0 0) := by
  obtain ⟨c, e⟩ := Kd.R_typed hm gt rfl
  refine ⟨?_, by simp, fun y hy => ?_, Kd.R_nil _ _ _ _ _, fun _ q => q.elim, ⟨hg.os, hg.tape, hg.output, hg.size, fun k hk => hg.block k hk (by simp)⟩, hgt, blk_lt e⟩
  · have := R_onlyB (ok' := fun k => k = gt) hm (fun k hk => by simpa [Value.ownBlock] using hk.symm)
    simpa using this
  · simp [sn, hy]
theorem Q2.cell (h : Q2 g B W1 gt ct i wr tl O ov) (hi : i < g.length) : wr.cell? ⟨gt, i, none⟩ = some (.bool (sn tl i)) := by
  obtain ⟨h1, -⟩ := Kd.R_celln false h.told (i : Int) (by omega) (by omega)
  rw [Int.toNat_natCast] at h1
  rw [h1]
  have hl : i < tl.length := by rw [h.tlen]; exact hi
  simp [rdOf, sn, List.getD_eq_getElem?_getD, List.getElem?_eq_getElem hl]
theorem Q3.cell (h : Q3 g B W1 gt ct i k wr tl O ov P pv) (hk : k < g.length) : wr.cell? ⟨gt, k, none⟩ = some (.bool (sn tl k)) ∧ wr.frozen? ⟨gt, k, none⟩ = false := by
  obtain ⟨h1, h2⟩ := Kd.R_celln false h.told (k : Int) (by omega) (by omega)
  rw [Int.toNat_natCast] at h1 h2
  refine ⟨?_, h2⟩
  rw [h1]
  have hl : k < tl.length := by rw [h.tlen]; exact hk
  simp [rdOf, sn, List.getD_eq_getElem?_getD, List.getElem?_eq_getElem hl]
theorem Q3.partR (h : Q3 g B W1 gt ct i k wr tl O ov P pv) (u : Value) (q : Nat) : (Kd.int .i64).R 3 (wr.setCell ⟨gt, q, none⟩ u) B (fun j => P j ∨ wr.heap.size ≤ j) pv (castL (partOf g i k)) :=
  Kd.R_mono (Kd.R_far (p := ⟨gt, q, none⟩) h.part (fun j hj => (h.Pc j hj).2.1) u) (fun j hj => .inl hj)
/-- what is read of all the rows -/
theorem all_cells {w1 : World} {ga : Nat} {rows : List (List Bool)} (h : KB.C w1 (some ⟨ga, 0, none⟩) g.length rows) (hrg : ∀ i, i < g.length → ∃ r, rows[i]? = some r ∧ RG g i r) (hi : i < g.length) (hk : k < g.length) :
    ∃ A0 c0 b, w1.cell? ⟨ga, i, none⟩ = some (.slice (some A0) g.length c0) ∧ w1.cell? (A0.add k) = some (.bool b) ∧ (b = true ↔ Gr.Reach g i k) := by
  obtain ⟨r, hr, hl, hR⟩ := hrg i hi
  obtain ⟨ad, A0, c0, e, h1, h2⟩ := all_at h i k hi r hr hl hk
  cases e
  have e1 : (⟨ga, 0, none⟩ : Addr).add i = ⟨ga, i, none⟩ := by simp [Addr.add]; exact fun e => e.symm
  rw [e1] at h1
  exact ⟨A0, c0, _, h1, h2, hR k hk⟩
end
end Go.Proofs.Ytldgmneijipbjaa.H
end
/- YtldgmneijipbjaaHRParts -/
section
/- The contract of the reference's Parts. -/
namespace Go.Proofs.Ytldgmneijipbjaa.H
open Go.RowKit Go.Shelf Go.Proofs.YtldgmneijipbjaaW.PrintWords Go.Proofs.YtldgmneijipbjaaW.PrintLast Go.Proofs.YtldgmneijipbjaaW.PrintMore
open Gr (out sn)
open Pu (RG okE)
set_option linter.unusedVariables false
set_option linter.unusedSimpArgs false

theorem info41 : (Try.prog.info? 41).map (fun i => (i.zero, i.size, i.bytes)) = some (some (.slice none 0 0), 1, 24) := by kernel_rfl

theorem Q1.start {g : Gr.G} {w w2 : World} {ga ca : Nat} (hm : KB.R 41 w2 w.heap.size (fun _ => True) (.slice (some ⟨ga, 0, none⟩) (List.replicate (g.length : Int).toNat ([] : List Bool)).length ca) (List.replicate (g.length : Int).toNat [])) (hb : Below w.heap.size w w2) :
    Q1 g w ga ca 0 w2 (List.replicate g.length []) := by
  refine ⟨by simpa using hm, by simp, fun i hi => by omega, hb⟩

set_option maxRecDepth 100000 in
set_option maxHeartbeats 8000000 in
theorem rparts_good (A : Option Addr) (c : Nat) (g : Gr.G) (w : World) (hg : Gr.Good g) (hE : Kd.C KE w A g.length (castG g)) (hc : g.length ≤ c) (hsm : g.length ≤ 1099511627776) (hr : ∀ x, (out g x).length ≤ 1099511627776)
    (hck : ∃ k, POrder.gussetref11_Check.f k (castG g) = some 0) :
    Calls Try.prog 12 #[.slice A g.length c] w (OwnRows w ((Gr.canon g).map castL)) := by
  obtain ⟨k, hk⟩ := hck
  have hcl : (castG g).length = g.length := by simp [castG]
  have hk2 := POrder.gussetref11_Check.calls k A c (castG g) 0 w (by rw [hcl]; exact hE) (by omega) hk
  rw [hcl] at hk2
  have HK := hide hk2
  have HE := hide hE
  have HC := hide hc
  have HG := hide hg
  have HR := hide hr
  clear hk hk2 hE hc hg hcl hr
  go_enter Try.func12, Try.ntmps12
  go_wp2_with (first | (go_at_call 9; refine HK.out.mono ?_; rintro e w1 ⟨rfl, ⟨nd, rfl⟩⟩) | ((with_reducible refine gate_dst (N := 15) rfl ?_); refine Kd.R_make KB (w0 := w) w.heap.size 41 rfl (N := 15) rfl 48 _ _ rfl (g.length : Int) rfl rfl Try.underlying48 (.slice none 0 0) 24 info41 rfl (by decide) (by omega) ([] : List Bool) (ok := fun _ => True) (okp := fun _ => True) ?m1 (fun _ hk => hk) trivial (by omega) (by omega) ?m2 ?m3 ?_; (case m1 => exact ⟨_, rfl, Kd.R_nil _ _ _ _ _⟩); (case m2 => exact pw_below_drewN (Below.refl _ w) nd); (case m3 => exact Nat.le_refl _); intro v2 w2 h1 h2 h3 h4; obtain ⟨ga, h4, h5⟩ := h4; obtain ⟨ca, rfl⟩ := R_blk h1 h4; have M1 := hide h1; have M2 := hide h2; clear h1 h2 h3 h4 h5))
  have HQ0 := hide (Q1.start M1.out M2.out)
  clear M1 M2
  have hnb : g.length < 9223372036854775807 := by omega
  go_loopg [4] (g.length + 1) (fun gk v4 wr => ∃ x : Nat, x ≤ g.length ∧ g.length - x < gk ∧ v4 = .int .i64 x ∧ ∃ rows, Aside0 (Q1 g w ga ca x wr rows))
  case atStart => exact ⟨0, Nat.zero_le _, by omega, rfl, _, HQ0⟩
  case round =>
    obtain ⟨x, hx, hgk, rfl, rows, HQ⟩ := hrel
    clear HQ0
    by_cases hlt : x < g.length
    · have hlti : (x : Int) < (g.length : Int) := by omega
      have HRE := hide (rreach_any A c g g.length x wr rfl HG.out (Kd.C_below HE.out HQ.out.below) HC.out hsm HR.out hlt)
      go_wp2_with (go_at_call 25; refine HRE.out.mono ?_; rintro e w3 ⟨v3, r3, rfl, hr3, hrg3, hb3⟩; obtain ⟨A3, c3, rfl, -, -⟩ := Kd.R_reads hr3; obtain ⟨⟨u3, cu3⟩, fz3⟩ := R_cell_any rfl (fr_R HQ.out.all (Fr.of_below (S := fun _ => False) hb3) (fun _ _ q => q)) x hlt; have HQ2 := hide (HQ.out.put hlt hr3 hrg3 hb3); clear hr3 hrg3 hb3 HRE)
      go_roundg (g.length - x)
      case measure => omega
      case rel => exact ⟨x + 1, by omega, by omega, by go_num, _, HQ2⟩
    · obtain rfl : x = g.length := by omega
      go_wp2_with (((with_reducible refine gate_dst (N := 30) rfl ?_); refine Kd.R_make Kd.bool (w0 := w) w.heap.size 4 rfl (N := 30) rfl 41 _ _ rfl (g.length : Int) rfl rfl Try.underlying41 (.bool false) 1 info4 rfl (by decide) (by omega) false (ok := fun _ => True) (okp := fun _ => True) rfl (fun _ hk => hk) trivial (by omega) (by omega) HQ.out.below HQ.out.below.size ?_; intro v1 w1 h1 h2 h3 h4; obtain ⟨gt, h4, h5⟩ := h4; obtain ⟨ct, rfl⟩ := R_blk h1 h4; have M1 := hide h1; have M2 := hide h2; have M3 := hide h3; have M5 := hide h5; clear h1 h2 h3 h4 h5))
      obtain ⟨Wa, hWa⟩ : ∃ Wa : World, Wa = wr := ⟨_, rfl⟩
      have hww : w.heap.size ≤ wr.heap.size := HQ.out.below.size
      have HQ0 := hide (show Q2 g w.heap.size Wa gt ct 0 w1 (List.replicate g.length false) (fun _ => False) (.slice none 0 0) by rw [hWa]; exact Q2.start hww M1.out M3.out M5.out)
      have HALL := hide (show ∀ W, Below Wa.heap.size Wa W → KB.C W (some ⟨ga, 0, none⟩) g.length rows from by
        intro W hW
        obtain ⟨A', c', e, _, hC⟩ := Kd.R_reads HQ.out.all
        injection e with e1 e2 e3
        subst e1
        rw [HQ.out.len] at hC
        rw [hWa] at hW
        exact Kd.C_below hC hW)
      have HRG := hide HQ.out.rg
      have HBW := hide (show Below w.heap.size w Wa by rw [hWa]; exact HQ.out.below)
      have hwa : w.heap.size ≤ Wa.heap.size := by rw [hWa]; exact hww
      clear M1 M2 M3 M5 HQ hWa hww
      go_loopg [6, 7] (g.length + 1) (fun gk v6 v7 wr => ∃ i : Nat, i ≤ g.length ∧ g.length - i < gk ∧ v7 = .int .i64 i ∧ ∃ tl O, Aside0 (Q2 g w.heap.size Wa gt ct i wr tl O v6))
      case atStart => exact ⟨0, Nat.zero_le _, by omega, rfl, _, _, HQ0⟩
      case round =>
        obtain ⟨i, hi, hgi, rfl, tl, O, HQ2⟩ := hrel
        clear HQ0
        obtain ⟨A6, c6, rfl, -, -⟩ := Kd.R_reads HQ2.out.out
        obtain ⟨l6, hl6⟩ : ∃ m, ((psOf g i).map castL).length = m := ⟨_, rfl⟩
        rw [hl6] at HQ2 ⊢
        by_cases hlt : i < g.length
        · have hlti : (i : Int) < (g.length : Int) := by omega
          have c1 := HQ2.out.cell hlt
          cases hsn : sn tl i with
          | true =>
            rw [hsn] at c1
            have HN := hide (HQ2.out.skip hlt hsn)
            clear hsn
            go_wp2
            go_roundg (g.length - i)
            case measure => omega
            case rel => exact ⟨i + 1, by omega, by omega, by go_num, _, _, HN⟩
          | false =>
            rw [hsn] at c1
            have HIN := hide (HQ2.out.inner hlt hsn)
            clear hsn
            go_wp2
            have HQ30 := hide HIN.out.2
            have HLE := hide HIN.out.1
            have HL6 := hide hl6
            clear HIN HQ2 hl6
            go_loopg [8, 9] (g.length + 1) (fun gj v8 v9 wi => ∃ k : Nat, i ≤ k ∧ k ≤ g.length ∧ g.length - k < gj ∧ v9 = .int .i64 k ∧ ∃ tl P, Aside0 (Q3 g w.heap.size Wa gt ct i k wi tl O (.slice A6 l6 c6) P v8))
            case atStart => exact ⟨i, Nat.le_refl _, by omega, by omega, rfl, _, _, HQ30⟩
            case round =>
              obtain ⟨k, hik, hk, hgj, rfl, tl, P, HQ3⟩ := hrel
              clear HQ30
              obtain ⟨A8, c8, rfl, -, -⟩ := Kd.R_reads HQ3.out.part
              obtain ⟨l8, hl8⟩ : ∃ m, (castL (partOf g i k)).length = m := ⟨_, rfl⟩
              rw [hl8] at HQ3 ⊢
              by_cases hkl : k < g.length
              · have hkli : (k : Int) < (g.length : Int) := by omega
                obtain ⟨A1, d1, b1, e1, e2, hb1⟩ := all_cells (HALL.out wr HQ3.out.below) HRG.out hlt hkl
                obtain ⟨A2, d2, b2, e3, e4, hb2⟩ := all_cells (HALL.out wr HQ3.out.below) HRG.out hkl hlt
                have hscc : Gr.Scc g i k ↔ (b1 = true ∧ b2 = true) := by rw [hb1, hb2]; exact Iff.rfl
                have HSC := hide hscc
                clear hb1 hb2 hscc
                have HL8 := hide hl8
                clear hl8
                cases b1 with
                | false =>
                  have HN := hide (HQ3.out.skip (fun q => by have := (HSC.out.1 q).1; cases this))
                  go_wp2
                  go_roundg (g.length - k)
                  case measure => omega
                  case rel => exact ⟨k + 1, by omega, by omega, by omega, by go_num, _, _, HN⟩
                | true =>
                  cases b2 with
                  | false =>
                    have HN := hide (HQ3.out.skip (fun q => by have := (HSC.out.1 q).2; cases this))
                    go_wp2
                    go_roundg (g.length - k)
                    case measure => omega
                    case rel => exact ⟨k + 1, by omega, by omega, by omega, by go_num, _, _, HN⟩
                  | true =>
                    obtain ⟨f1, f2⟩ := HQ3.out.cell hkl
                    have hll : l8 ≤ g.length := by have := partOf_length g i k; have e := HL8.out; rw [castL_length] at e; omega
                    have hsz : (wr.setCell ⟨gt, k, none⟩ (.bool true)).heap.size = wr.heap.size := by simp [World.setCell]
                    have hbs : w.heap.size ≤ wr.heap.size := Nat.le_trans hwa HQ3.out.below.size
                    have HPR := hide (HQ3.out.partR (.bool true) k)
                    go_wp2_with ((with_reducible refine gate_dst (N := 70) rfl ?_); at_builtin; refine Kd.R_append (Kd.int .i64) (w0 := wr.setCell ⟨gt, k, none⟩ (.bool true)) w.heap.size rfl (.tmp 67) (.tmp 69) 31 3 (.int .i64 0) 8 rfl Try.underlying31 info3 rfl (by decide) (by omega) (.slice A8 l8 c8) (castL (partOf g i k)) (k : Int) [.int .i64 k] (fun j => P j ∨ wr.heap.size ≤ j) (fun _ => False) rfl (by simp only [hsz]; rfl) ?aP (fun _ hk => hk.elim) (fun j hj => .inr (by rw [hsz] at hj; exact hj)) ?aO (Below.refl _ _) ?aS ?aL ?_; (case aP => exact rfl); (case aO => exact HPR.out); (case aS => rw [hsz]; exact hbs); (case aL => rw [HL8.out]; omega); intro v1 w4 h1 h2 h3 h4; obtain ⟨A9, c9, rfl, -, -⟩ := Kd.R_reads h1; obtain ⟨l9, hl9⟩ : ∃ m, (castL (partOf g i k) ++ [(k : Int)]).length = m := ⟨_, rfl⟩; rw [hl9] at h1 ⊢; have HQ4 := hide (HQ3.out.put hwa hkl (HSC.out.2 ⟨rfl, rfl⟩) h3 h1); clear h1 h2 h3 h4 hl9)
                    go_roundg (g.length - k)
                    case measure => omega
                    case rel => obtain ⟨P', h⟩ := HQ4.out; exact ⟨k + 1, by omega, by omega, by omega, by go_num, _, P', ⟨h⟩⟩
              · obtain rfl : k = g.length := by omega
                have hbs : w.heap.size ≤ wr.heap.size := Nat.le_trans hwa HQ3.out.below.size
                have hpl : ((psOf g i).map castL).length ≤ g.length := by have := psOf_length g i; rw [List.length_map]; omega
                have hok : ∀ j, P j → (O j ∨ P j ∨ wr.heap.size ≤ j) ∧ some j ≠ (Value.slice A6 l6 c6).ownBlock := fun j hj => ⟨.inr (.inl hj), fun e => (HQ3.out.Pc j hj).2.2.1 (HQ3.out.out.1 j e.symm)⟩
                have HOK := hide hok
                clear hok
                go_wp2_with ((with_reducible refine gate_dst (N := 74) rfl ?_); at_builtin; refine Kd.R_append KE (w0 := wr) w.heap.size rfl (.tmp 71) (.tmp 73) 22 31 (.slice none 0 0) 24 rfl Try.underlying22 info31 rfl (by decide) (by omega) (.slice A6 l6 c6) ((psOf g i).map castL) (castL (partOf g i g.length)) [.slice A8 l8 c8] (fun j => O j ∨ P j ∨ wr.heap.size ≤ j) P rfl rfl ?aP HOK.out (fun j hj => .inr (.inr hj)) ?aO (Below.refl _ _) ?aS ?aL ?_; (case aP => exact ⟨_, rfl, HQ3.out.part⟩); (case aO => exact Kd.R_mono HQ3.out.out (fun j hj => .inl hj)); (case aS => exact hbs); (case aL => omega); intro v1 w4 h1 h2 h3 h4; obtain ⟨A9, c9, rfl, -, -⟩ := Kd.R_reads h1; obtain ⟨l9, hl9⟩ : ∃ m, ((psOf g i).map castL ++ [castL (partOf g i g.length)]).length = m := ⟨_, rfl⟩; rw [hl9] at h1 ⊢; have HQ4 := hide (HQ3.out.done HLE.out hlt h3 h1); clear h1 h2 h3 h4 hl9)
                go_roundg (g.length - i)
                case measure => omega
                case rel => obtain ⟨O', h⟩ := HQ4.out; exact ⟨i + 1, by omega, by omega, by go_num, _, O', ⟨h⟩⟩
        · obtain rfl : i = g.length := by omega
          have HFIN := hide HQ2.out.out
          have HBF := hide (HBW.out.trans (HQ2.out.below.mono hwa))
          go_wp2
          go_ret
          exact ⟨_, rfl, Kd.R_mono (by rw [← psOf_all]; exact HFIN.out) (fun _ _ => trivial), HBF.out⟩
theorem rparts_bad (A : Option Addr) (c : Nat) (el : List (List Int)) (w : World) (hE : Kd.C KE w A el.length el) (hc : el.length ≤ c) (hs : Small el) (hok : okE el = false) :
    Calls Try.prog 12 #[.slice A el.length c] w (OwnRows w []) := by
  obtain ⟨k, hk⟩ := (Pu.rcheck_ev el (by have := hs.len; omega) (fun r hr => by have := hs.row r hr; omega)).rounds
  rw [hok] at hk
  have HK := hide hk
  have HE := hide hE
  have HC := hide hc
  clear hk hE hc hok hs
  go_enter Try.func12, Try.ntmps12
  go_wp2_with (go_at_call 9; refine (POrder.gussetref11_Check.calls k A c el 110 _ ?s1 ?s2 HK.out).mono ?_; (case s1 => exact HE.out); (case s2 => exact HC.out); rintro e w1 ⟨rfl, ⟨nd, rfl⟩⟩)
  go_ret
  exact ⟨_, rfl, Kd.R_nil _ _ _ _ _, pw_below_drewN (Below.refl _ _) nd⟩
theorem gOf_row {el : List (List Int)} (hs : Small el) (x : Nat) : (out (gOf el) x).length ≤ 1099511627776 := by
  unfold Gr.out
  rw [List.getD_eq_getElem?_getD]
  by_cases hx : x < el.length
  · have := hs.row el[x] (List.getElem_mem hx)
    simp [gOf, hx]
    omega
  · simp [gOf, hx]
theorem rparts_any (A : Option Addr) (n c : Nat) (el : List (List Int)) (w : World) (hn : el.length = n) (hE : Kd.C KE w A n el) (hc : n ≤ c) (hs : Small el) :
    Calls Try.prog 12 #[.slice A n c] w (OwnRows w (partsAns el)) := by
  subst hn
  unfold partsAns
  cases hok : okE el with
  | false => simpa using rparts_bad A c el w hE hc hs hok
  | true =>
    rw [if_pos rfl]
    have e := castG_gOf hok
    have hl : (gOf el).length = el.length := gOf_length el
    have := rparts_good A c (gOf el) w (gOf_good hok) (by rw [e, hl]; exact hE) (by rw [hl]; exact hc) (by rw [hl]; exact hs.len) (gOf_row hs) (by
      obtain ⟨k, hk⟩ := (Pu.rcheck_ev el (by have := hs.len; omega) (fun r hr => by have := hs.row r hr; omega)).rounds
      rw [hok] at hk
      exact ⟨k, by rw [e]; exact hk⟩)
    rw [hl] at this
    exact this
theorem rcheck_any (A : Option Addr) (n c : Nat) (el : List (List Int)) (w : World) (hn : el.length = n) (hE : KE.C w A n el) (hc : n ≤ c) (hs : Small el) :
    Calls Try.prog 9 #[.slice A n c] w fun e w' => e = .returned (.int .i64 (if okE el then 0 else 110)) ∧ ∃ q, w' = w.drewN q := by
  subst hn
  obtain ⟨k, hk⟩ := (Pu.rcheck_ev el (by have := hs.len; omega) (fun r hr => by have := hs.row r hr; omega)).rounds
  refine (POrder.gussetref11_Check.calls k A c el _ w hE hc hk).mono ?_
  rintro e w1 ⟨rfl, ⟨nd, rfl⟩⟩
  exact ⟨rfl, nd, rfl⟩
theorem canon_small (g : Gr.G) : (Gr.canon g).length ≤ g.length ∧ ∀ l, l ∈ Gr.canon g → l.length ≤ g.length := by
  refine ⟨psOf_length g g.length, fun l hl => ?_⟩
  obtain ⟨v, _, rfl⟩ := Gr.mem_canon.1 hl
  exact partOf_length g v g.length
theorem partsAns_small (el : List (List Int)) (hs : Small el) : (partsAns el).length ≤ 1099511627776 ∧ ∀ r, r ∈ partsAns el → r.length ≤ 1099511627776 := by
  unfold partsAns
  split
  · have h := canon_small (gOf el)
    have hl : (gOf el).length = el.length := gOf_length el
    have := hs.len
    refine ⟨by rw [List.length_map]; omega, fun r hr => ?_⟩
    obtain ⟨q, hq, rfl⟩ := List.mem_map.1 hr
    have := h.2 q hq
    rw [castL_length]
    omega
  · simp
end Go.Proofs.Ytldgmneijipbjaa.H
end
/- YtldgmneijipbjaaHLaw4 -/
section
/- OrderWalks: true at every input that is not too long. -/
namespace Go.Proofs.Ytldgmneijipbjaa.H
open Go.RowKit Go.Shelf Go.Proofs.YtldgmneijipbjaaW.PrintWords Go.Proofs.YtldgmneijipbjaaW.PrintLast Go.Proofs.YtldgmneijipbjaaW.PrintMore
open Pu (okE)
open POrder
set_option linter.unusedVariables false
set_option linter.unusedSimpArgs false

theorem rorder_ev (el : List (List Int)) (root : Int) (hs : Small el) : ∃ k, gussetref11_Order.f k el root = some (orderAns el root) := by
  have hrr : ∀ r, r ∈ el → r.length ≤ 4611686018427387904 := fun r hr => by have := hs.row r hr; omega
  unfold orderAns
  by_cases h : okE el = true ∧ 0 ≤ root ∧ root < el.length
  · rw [if_pos h]
    obtain ⟨r, rfl⟩ := Int.eq_ofNat_of_zero_le h.2.1
    have e := castG_gOf h.1
    have hl : (gOf el).length = el.length := gOf_length el
    have := Pu.order_ev (gOf el) (gOf_good h.1) (by rw [e]; exact h.1) (by rw [hl]; have := hs.len; omega) (fun x => by
      unfold Gr.out
      rw [List.getD_eq_getElem?_getD]
      by_cases hx : x < el.length
      · have := hs.row el[x] (List.getElem_mem hx)
        simp [gOf, hx]
        omega
      · simp [gOf, hx]) r (by rw [hl]; omega)
    rw [e] at this
    rw [Int.toNat_natCast]
    exact this
  · rw [if_neg h]
    have h1 := Pu.rcheck_ev el (by have := hs.len; omega) hrr
    refine YtldgmneijipbjaaW.PrintWords.Ev.rounds (g := fun k => gussetref11_Order.f k el root) ?_
    simp only [gussetref11_Order.f]
    refine YtldgmneijipbjaaW.PrintWords.Ev.bind h1 ?_
    cases hok : okE el with
    | false =>
      simp only [Bool.false_eq_true, if_false]
      refine YtldgmneijipbjaaW.PrintWords.Ev.congr (f := fun k => some ([] : List Int)) (fun k => ?_) (YtldgmneijipbjaaW.PrintWords.Ev.now _)
      rw [if_neg (by omega)]
    | true =>
      simp only [if_true]
      refine YtldgmneijipbjaaW.PrintWords.Ev.congr (f := fun k => some ([] : List Int)) (fun k => ?_) (YtldgmneijipbjaaW.PrintWords.Ev.now _)
      by_cases hr : root < 0
      · rw [if_pos hr]
      · rw [if_neg hr, if_pos (by have : ¬ (0 ≤ root ∧ root < el.length) := fun q => h ⟨hok, q⟩; omega)]
theorem rorder_any (A : Option Addr) (n c : Nat) (el : List (List Int)) (root : Int) (w : World) (hn : el.length = n) (hE : KE.C w A n el) (hc : n ≤ c) (hs : Small el) :
    Calls Try.prog 16 #[.slice A n c, .int .i64 root] w (OwnInts w (orderAns el root)) := by
  subst hn
  obtain ⟨k, hk⟩ := rorder_ev el root hs
  refine (gussetref11_Order.calls k A c el root _ w hE hc hk).mono ?_
  rintro e w1 ⟨v, rfl, h1, h2⟩
  exact ⟨v, rfl, h1, h2⟩

theorem small_any {el : List (List Int)} (hs : Small el) : el.length ≤ 4611686018427387904 ∧ ∀ r, r ∈ el → r.length ≤ 4611686018427387904 := ⟨by have := hs.len; omega, fun r hr => by have := hs.row r hr; omega⟩
theorem orderAns_len (el : List (List Int)) (root : Int) (hs : Small el) : (orderAns el root).length ≤ 4611686018427387904 := by
  unfold orderAns
  split
  · rename_i h
    have hl : (gOf el).length = el.length := gOf_length el
    have := (Pu.len_both (gOf el) (gOf_good h.1) (gOf el).length).1 root.toNat (List.replicate (gOf el).length false, []) (by have h2 : root.toNat < (gOf el).length := (by omega); simp [Gr.sn, h2])
    rw [Gr.unseen_start] at this
    simp only [List.length_nil] at this
    have e : (castL (Gr.orderOf (gOf el) root.toNat)).length ≤ (gOf el).length := by
      rw [castL_length]
      unfold Gr.orderOf
      omega
    have := hs.len
    omega
  · simp

set_option maxRecDepth 100000 in
set_option maxHeartbeats 4000000 in
theorem walks_law (A : Option Addr) (n c : Nat) (el : List (List Int)) (root : Int) (w : World) (hn : el.length = n) (hE : KE.C w A n el) (hc : n ≤ c) (hs : Small el) :
    Calls Try.prog 4 #[.slice A n c, .int .i64 root] w fun e w' => e = .returned (.bool true) ∧ Below w.heap.size w w' := by
  have HE := hide hE
  have HS := hide hs
  have HTW := hide (show Calls Try.prog 7 #[.slice A n c] w (OwnRows w el) by subst hn; exact twin_any A c el w hE hc hs)
  clear hE hs
  go_enter Try.func4, Try.ntmps4
  go_wp2_with (first | (go_at_call 7; refine HTW.out.mono ?_; rintro e w1 ⟨v1, rfl, h1, h2⟩; obtain ⟨A1, c1, rfl, hc1, hC1⟩ := Kd.R_reads h1; have HC1 := hide hC1; have HB1 := hide h2; have HE1 := hide (C_le HE.out h2); rw [hn] at hc1 HC1 ⊢; clear h1 h2 hC1 HE HTW) | (go_at_call 15; refine (show Calls Try.prog 15 #[.slice A1 n c1, .int .i64 root] w1 (OwnInts w1 (orderAns el root)) by subst hn; exact order_any A1 c1 el root w1 HC1.out hc1 HS.out).mono ?_; rintro e w2 ⟨v2, rfl, h1, h2⟩; obtain ⟨A2, c2, rfl, hc2, hC2⟩ := Kd.R_reads h1; have HC2 := hide hC2; have HB2 := hide (HB1.out.trans (h2.mono HB1.out.size)); have HE2 := hide (C_le HE1.out h2); have HT2 := hide (C_le HC1.out h2); clear h1 h2 hC2 HE1 HC1) | (go_at_call 16; refine (rorder_any A n c el root w2 hn HE2.out hc HS.out).mono ?_; rintro e w3 ⟨v3, rfl, h1, h2⟩; obtain ⟨A3, c3, rfl, hc3, hC3⟩ := Kd.R_reads h1; have HC3 := hide hC3; have HC4 := hide (C_le HC2.out h2); have HB3 := hide (HB2.out.trans (h2.mono HB2.out.size)); have HE3 := hide (C_le HE2.out h2); have HT3 := hide (C_le HT2.out h2); clear h1 h2 hC3 HE2 HC2 HT2) | (go_at_call 14; refine (same_any A2 A3 _ c2 c3 (orderAns el root) w3 rfl HC4.out hc2 HC3.out hc3 (orderAns_len el root HS.out)).mono ?_; rintro e w4 ⟨rfl, q4, rfl⟩) | (go_at_call 10; refine (sameAll_any A1 A n c1 c el (w3.drewN q4) hn (C_le HT3.out (pw_below_drewN (Below.refl _ _) q4)) hc1 (C_le HE3.out (pw_below_drewN (Below.refl _ _) q4)) hc (by rw [← hn]; exact (small_any HS.out).1) (small_any HS.out).2).mono ?_; rintro e w5 ⟨rfl, q5, rfl⟩) | (go_at_call 13; refine (awake_any _).mono ?_; rintro e w6 ⟨rfl, hb6⟩))
  go_ret
  exact ⟨rfl, (pw_below_drewN HB3.out (q4 + q5)).trans (hb6.mono (by have := HB3.out.size; simpa using this))⟩
theorem walks_true (A : Option Addr) (n c : Nat) (el : List (List Int)) (root : Int) (w : World) (hn : el.length = n) (hE : KE.C w A n el) (hc : n ≤ c) (hs : Small el) (_ : (el.map List.length).sum ≤ 1099511627776) :
    Calls Try.prog 4 #[.slice A n c, .int .i64 root] w fun e w' => e = .returned (.bool true) ∧ Below w.heap.size w w' := walks_law A n c el root w hn hE hc hs
end Go.Proofs.Ytldgmneijipbjaa.H
end
/- YtldgmneijipbjaaHSt -/
section
/- OrderStands: true at every input that is not too long. -/
namespace Go.Proofs.Ytldgmneijipbjaa.H
open Go.RowKit Go.Shelf Go.Proofs.YtldgmneijipbjaaW.PrintWords Go.Proofs.YtldgmneijipbjaaW.PrintLast Go.Proofs.YtldgmneijipbjaaW.PrintMore
open Pu (okE idx)
open Gr (out canon)
open St
set_option linter.unusedVariables false
set_option linter.unusedSimpArgs false

theorem at_any (A : Option Addr) (n c : Nat) (l : List Int) (x : Int) (w : World) (hn : l.length = n) (hE : (Kd.int .i64).C w A n l) (hc : n ≤ c) (hl : n ≤ 4611686018427387904) :
    Calls Try.prog 17 #[.slice A n c, .int .i64 x] w fun e w' => e = .returned (.int .i64 (idx l x)) ∧ ∃ q, w' = w.drewN q := by
  subst hn
  obtain ⟨k, hk⟩ := Pu.at_ev l x hl
  refine (Pat.gussetlaw11_at.calls k A c l x _ w hE hc hk).mono ?_
  rintro e w1 ⟨rfl, ⟨nd, rfl⟩⟩
  exact ⟨rfl, nd, rfl⟩

set_option maxRecDepth 100000 in
set_option maxHeartbeats 4000000 in
theorem stands_out (A : Option Addr) (n c : Nat) (el : List (List Int)) (root : Int) (w : World) (hn : el.length = n) (hE : KE.C w A n el) (hc : n ≤ c) (hs : Small el) (h : ¬ (okE el = true ∧ 0 ≤ root ∧ root < el.length)) :
    Calls Try.prog 5 #[.slice A n c, .int .i64 root] w fun e w' => e = .returned (.bool true) ∧ Below w.heap.size w w' := by
  have HE := hide hE
  have HS := hide hs
  have ha : orderAns el root = [] := by unfold orderAns; rw [if_neg h]
  have HA := hide ha
  have DR := fun (w : World) (q : Nat) => pw_below_drewN (Below.refl w.heap.size w) q
  have HDR := hide DR
  have HO := hide (fun q : Nat => show Calls Try.prog 15 #[.slice A n c, .int .i64 root] (w.drewN q) (OwnInts (w.drewN q) []) by
    rw [← ha]; subst hn; exact order_any A c el root _ (C_le hE (DR _ q)) hc hs)
  clear hE hs ha DR
  cases hok : okE el with
  | false =>
    have HC := hide (rcheck_any A n c el w hn HE.out hc HS.out)
    rw [hok] at HC
    clear hok h
    go_enter Try.func5, Try.ntmps5
    go_wp2_with (first | (go_at_call 9; refine HC.out.mono ?_; rintro e w1 ⟨rfl, q1, rfl⟩) | (go_at_call 15; refine (HO.out _).mono ?_; rintro e w2 ⟨v2, rfl, h1, h2⟩; obtain ⟨A2, c2, rfl, -, -⟩ := Kd.R_reads h1; have HB2 := hide (show Below w.heap.size w w2 from (HDR.out _ _).trans (h2.mono (by simp))); clear h1 h2) | (go_at_call 13; refine (awake_any _).mono ?_; rintro e w3 ⟨rfl, hb3⟩))
    go_ret
    exact ⟨rfl, HB2.out.trans (hb3.mono HB2.out.size)⟩
  | true =>
    have HC := hide (rcheck_any A n c el w hn HE.out hc HS.out)
    rw [hok] at HC
    by_cases hr : root < 0
    · clear hok h
      go_enter Try.func5, Try.ntmps5
      go_wp2_with (first | (go_at_call 9; refine HC.out.mono ?_; rintro e w1 ⟨rfl, q1, rfl⟩) | (go_at_call 15; refine (HO.out _).mono ?_; rintro e w2 ⟨v2, rfl, h1, h2⟩; obtain ⟨A2, c2, rfl, -, -⟩ := Kd.R_reads h1; have HB2 := hide (show Below w.heap.size w w2 from (HDR.out _ _).trans (h2.mono (by simp))); clear h1 h2) | (go_at_call 13; refine (awake_any _).mono ?_; rintro e w3 ⟨rfl, hb3⟩))
      go_ret
      exact ⟨rfl, HB2.out.trans (hb3.mono HB2.out.size)⟩
    · have hr0 : 0 ≤ root := by omega
      have hr1 : (n : Int) ≤ root := by
        have : ¬ (0 ≤ root ∧ root < el.length) := fun q => h ⟨hok, q⟩
        omega
      clear hok h hr
      go_enter Try.func5, Try.ntmps5
      go_wp2_with (first | (go_at_call 9; refine HC.out.mono ?_; rintro e w1 ⟨rfl, q1, rfl⟩) | (go_at_call 15; refine (HO.out _).mono ?_; rintro e w2 ⟨v2, rfl, h1, h2⟩; obtain ⟨A2, c2, rfl, -, -⟩ := Kd.R_reads h1; have HB2 := hide (show Below w.heap.size w w2 from (HDR.out _ _).trans (h2.mono (by simp))); clear h1 h2) | (go_at_call 13; refine (awake_any _).mono ?_; rintro e w3 ⟨rfl, hb3⟩))
      go_ret
      exact ⟨rfl, HB2.out.trans (hb3.mono HB2.out.size)⟩
structure SQ (g : Gr.G) (B : Nat) (W1 : World) (gp cp : Nat) (wr : World) (pt : List Int) : Prop where
  part : (Kd.int .i64).R 3 wr B (fun k => k = gp) (.slice (some ⟨gp, 0, none⟩) g.length cp) pt
  below : Below W1.heap.size W1 wr
  gp_ : W1.heap.size ≤ gp ∧ gp < wr.heap.size
section
variable {g : Gr.G} {B : Nat} {W1 wr : World} {gp cp x : Nat} {pt : List Int}
theorem SQ.start {w1 : World} (hB : B ≤ W1.heap.size) (hm : (Kd.int .i64).R 3 w1 B (fun _ => True) (.slice (some ⟨gp, 0, none⟩) (List.replicate (g.length : Int).toNat (0 : Int)).length cp) (List.replicate (g.length : Int).toNat 0)) (hg : W1.grownBy w1 none) (hgt : W1.heap.size ≤ gp) :
    SQ g B W1 gp cp w1 (List.replicate g.length 0) := by
  obtain ⟨c, e⟩ := Kd.R_typed hm gp rfl
  refine ⟨?_, ⟨hg.os, hg.tape, hg.output, hg.size, fun k hk => hg.block k hk (by simp)⟩, hgt, blk_lt e⟩
  have := R_onlyI (ok' := fun k => k = gp) hm (fun k hk => by simpa [Value.ownBlock] using hk.symm)
  simpa using this
theorem SQ.drewN (h : SQ g B W1 gp cp wr pt) (q : Nat) : SQ g B W1 gp cp (wr.drewN q) pt := ⟨Kd.R_drewN h.part q, pw_below_drewN h.below q, by simpa using h.gp_⟩
theorem SQ.put (h : SQ g B W1 gp cp wr pt) (v : Int) : SQ g B W1 gp cp (wr.setCell ⟨gp, x, none⟩ (.int .i64 v)) (pt.set x v) := by
  have hput := (Kd.R_putg h.part (x : Int) v).1
  rw [Int.toNat_natCast] at hput
  refine ⟨hput, h.below.trans ((Fr.setCell (S := fun j => j = gp) (Fr.refl _ wr) (p := ⟨gp, x, none⟩) (.inl rfl) (.int .i64 v)).below h.below.size (by rintro j rfl; exact h.gp_.1)), h.gp_.1, by have := h.gp_.2; simpa [World.setCell] using this⟩
theorem SQ.cell (h : SQ g B W1 gp cp wr pt) (hl : pt.length = g.length) (hx : x < g.length) {v : Int} (hv : pt[x]? = some v) : wr.cell? ⟨gp, x, none⟩ = some (.int .i64 v) := by
  obtain ⟨h1, -⟩ := Kd.R_celln (0 : Int) h.part (x : Int) (by omega) (by omega)
  rw [Int.toNat_natCast] at h1
  rw [h1]
  simp [rdOf, List.getD_eq_getElem?_getD, hv]
theorem SQ.any (h : SQ g B W1 gp cp wr pt) (hx : x < g.length) : (∃ u, wr.cell? ⟨gp, x, none⟩ = some u) ∧ wr.frozen? ⟨gp, x, none⟩ = false := R_cell_any rfl h.part x hx
end
noncomputable def cnt (g : Gr.G) (i : Nat) : Nat := (((canon g).map List.length).take i).sum
theorem cnt_next {g : Gr.G} {i : Nat} {l : List Nat} (h : (canon g)[i]? = some l) : cnt g (i + 1) = cnt g i + l.length := sum_take _ i _ (by rw [List.getElem?_map, h]; rfl)
theorem cnt_all (g : Gr.G) : cnt g (canon g).length = g.length := by
  unfold cnt
  rw [List.take_of_length_le (by simp), canon_total]
theorem sum_le (l : List Nat) (i : Nat) : (l.take i).sum ≤ l.sum := by
  conv => rhs; rw [← List.take_append_drop i l, List.sum_append]
  omega
theorem cnt_le (g : Gr.G) (i : Nat) : cnt g i ≤ g.length := by
  have := sum_le ((canon g).map List.length) i
  rw [canon_total] at this
  exact this
theorem gOf_castG (g : Gr.G) : gOf (castG g) = g := by
  unfold gOf castG
  rw [List.map_map]
  conv => rhs; rw [← List.map_id g]
  refine List.map_congr_left (fun l _ => ?_)
  show (castL l).map Int.toNat = l
  unfold castL
  rw [List.map_map]
  conv => rhs; rw [← List.map_id l]
  exact List.map_congr_left (fun x _ => by simp)
theorem order_len {g : Gr.G} (hg : Gr.Good g) {r : Nat} (hr : r < g.length) : (Gr.orderOf g r).length ≤ g.length := by
  have := (Pu.len_both g hg g.length).1 r (List.replicate g.length false, []) (by simp [Gr.sn, hr])
  rw [Gr.unseen_start] at this
  simp only [List.length_nil] at this
  unfold Gr.orderOf
  omega
theorem out_get {g : Gr.G} {i : Nat} (h : i < g.length) : g[i]? = some (out g i) := by
  unfold Gr.out
  rw [List.getD_eq_getElem?_getD, List.getElem?_eq_getElem h]
  rfl

theorem rowN {w : World} {ad : Addr} {cg : Gr.G} {n : Nat} (h : Kd.C KE w (some ad) n (castG cg)) (hn : cg.length = n) (i : Nat) (hi : i < n) :
    ∃ A0 c0, w.cell? (ad.add i) = some (.slice A0 (out cg i).length c0) ∧ (Kd.int .i64).C w A0 (out cg i).length (castL (out cg i)) := by
  subst hn
  obtain ⟨ad', A0, c0, e, h1, h2⟩ := edge_row h i hi
  cases e
  exact ⟨A0, c0, h1, h2⟩
theorem ints_at {w : World} {ad : Addr} {r : List Nat} {n : Nat} (h : (Kd.int .i64).C w (some ad) n (castL r)) (hn : r.length = n) (k y : Nat) (hy : r[k]? = some y) : w.cell? (ad.add k) = some (.int .i64 y) := by
  subst hn
  obtain ⟨ad', e, hc⟩ := edge_at h k y hy
  cases e
  exact hc
theorem C_some {α : Type} {d : Kd α} {w : World} {A : Option Addr} {n : Nat} {xs : List α} (h : d.C w A n xs) (hn : 0 < n) : ∃ ad, A = some ad := by
  obtain ⟨ad, e, _⟩ := h.2.2 hn
  exact ⟨ad, e⟩

set_option maxRecDepth 100000 in
set_option maxHeartbeats 8000000 in
theorem stands_in (A : Option Addr) (c : Nat) (g : Gr.G) (r : Nat) (w : World) (hg : Gr.Good g) (hE : KE.C w A g.length (castG g)) (hc : g.length ≤ c) (hs : Small (castG g)) (htot : ((castG g).map List.length).sum ≤ 1099511627776) (hok : okE (castG g) = true) (hr : r < g.length) :
    Calls Try.prog 5 #[.slice A g.length c, .int .i64 r] w fun e w' => e = .returned (.bool true) ∧ Below w.heap.size w w' := by
  have hcl : (castG g).length = g.length := by simp [castG]
  have hgO : gOf (castG g) = g := gOf_castG g
  have hsm : g.length ≤ 1099511627776 := by have := hs.len; omega
  have hri : (r : Int) < (g.length : Int) := by omega
  have hao : orderAns (castG g) r = castL (Gr.orderOf g r) := by unfold orderAns; rw [if_pos ⟨hok, by omega, by omega⟩, Int.toNat_natCast, hgO]
  have hap : partsAns (castG g) = castG (canon g) := by unfold partsAns; rw [if_pos hok, hgO]; rfl
  have HE := hide hE
  have DR := fun (w : World) (q : Nat) => pw_below_drewN (Below.refl w.heap.size w) q
  have HDR := hide DR
  have HCK := hide (show Calls Try.prog 9 #[.slice A g.length c] w fun e w' => e = .returned (.int .i64 0) ∧ ∃ q, w' = w.drewN q by
    have := rcheck_any A g.length c (castG g) w hcl hE hc hs
    rw [hok] at this
    exact this)
  have HO := hide (fun W (hW : Below w.heap.size w W) => show Calls Try.prog 15 #[.slice A g.length c, .int .i64 r] W (OwnInts W (castL (Gr.orderOf g r))) by
    rw [← hao, ← hcl]; exact order_any A c (castG g) r W (by rw [hcl]; exact Kd.C_below hE hW) (by rw [hcl]; exact hc) hs)
  have HP := hide (fun W (hW : Below w.heap.size w W) => show Calls Try.prog 11 #[.slice A g.length c] W (OwnRows W (castG (canon g))) by
    rw [← hap, ← hcl]; exact parts_any A c (castG g) W (by rw [hcl]; exact Kd.C_below hE hW) (by rw [hcl]; exact hc) hs htot)
  obtain ⟨eo, so, ho1, -, ho2⟩ := Gr.orderOf_inv hg hr
  obtain ⟨m, hm⟩ : ∃ m, eo.length = m := ⟨_, rfl⟩
  have hol : (Gr.orderOf g r).length = m + 1 := by rw [ho1]; simp [hm]
  have hlast : (Gr.orderOf g r)[m]? = some r := by rw [ho1, ← hm]; simp
  have hnd : (Gr.orderOf g r).Nodup := by have := ho2.nodup; simpa using this
  obtain ⟨o, hoo⟩ : ∃ o, Gr.orderOf g r = o := ⟨_, rfl⟩
  rw [hoo] at HO ho2 hol hlast hnd
  have HI := hide ho2
  have HND := hide hnd
  have HLAST := hide hlast
  have HOL := hide (show (castL o).length = m + 1 by rw [castL_length]; exact hol)
  have hml : m + 1 ≤ g.length := by rw [← hol, ← hoo]; exact order_len hg hr
  have HG := hide hg
  have HRB := hide (fun (i : Nat) (hi : i < g.length) => show (out g i).length ≤ 1099511627776 by
    have := hs.row (castL (out g i)) (List.mem_map.2 ⟨out g i, List.mem_of_getElem? (out_get hi), rfl⟩)
    rwa [castL_length] at this)
  clear hE hc hs htot hok hcl hgO hao hap DR ho1 ho2 hm hol hlast hnd hoo hg
  have hw1 : wrap64 (((m + 1 : Nat) : Int) - 1) = (m : Int) := by unfold wrap64; omega
  go_enter Try.func5, Try.ntmps5
  go_wp2_with (first | (go_at_call 9; refine HCK.out.mono ?_; rintro e w1 ⟨rfl, q1, rfl⟩) | (go_at_call 15; refine (HO.out (w.drewN q1) (HDR.out _ _)).mono ?_; rintro e w2 ⟨v2, rfl, h1, h2⟩; obtain ⟨A2, c2, rfl, hc2, hC2⟩ := Kd.R_reads h1; rw [HOL.out] at hc2 hC2 ⊢; have HC2 := hide hC2; have HB2 := hide (show Below w.heap.size w w2 from (HDR.out _ _).trans (h2.mono (by simp))); clear h1 h2 hC2) | (go_at_call 11; refine (HP.out w2 HB2.out).mono ?_; rintro e w3 ⟨v3, rfl, h1, h2⟩; obtain ⟨A3, c3, rfl, hc3, hC3⟩ := Kd.R_reads h1; obtain ⟨lp, hlp⟩ : ∃ l, (castG (canon g)).length = l := ⟨_, rfl⟩; rw [hlp] at hc3 hC3 ⊢; have HLP := hide hlp; have HC3 := hide hC3; have HC2b := hide (C_le HC2.out h2); obtain ⟨ado, eo2, cl⟩ := Kd.at_int HC2b.out (m : Int) (by omega) (by omega); subst eo2; have HB3 := hide (HB2.out.trans (h2.mono HB2.out.size)); have hrd : rd (castL o) (m : Int) = (r : Int) := (by have := HLAST.out; simp [rd, castL, List.getD_eq_getElem?_getD, this]); rw [hrd, Int.toNat_natCast] at cl; clear h1 h2 hC3 hrd hlp) | ((with_reducible refine gate_dst (N := 57) rfl ?_); refine Kd.R_make (Kd.int .i64) (w0 := w) w.heap.size 3 rfl (N := 57) rfl 31 _ _ rfl (g.length : Int) rfl rfl Try.underlying31 (.int .i64 0) 8 info3 rfl (by decide) (by omega) (0 : Int) (ok := fun _ => True) (okp := fun _ => True) rfl (fun _ hk => hk) trivial (by omega) (by omega) HB3.out HB3.out.size ?_; intro v4 w4 h1 h2 h3 h4; obtain ⟨gp, h4, h5⟩ := h4; obtain ⟨cp, rfl⟩ := R_blk h1 h4; have M1 := hide h1; have M2 := hide h2; have M3 := hide h3; have M5 := hide h5; clear h1 h2 h3 h4 h5))
  have HS0 := hide (SQ.start HB3.out.size M1.out M3.out M5.out)
  have HEB := hide (fun W (hW : Below w3.heap.size w3 W) => C_le (C_le HE.out HB3.out) hW)
  have HOB := hide (fun W (hW : Below w3.heap.size w3 W) => C_le HC2b.out hW)
  have HPB := hide (fun W (hW : Below w3.heap.size w3 W) => C_le HC3.out hW)
  clear M1 M2 M3 M5 HC2 HC2b HC3 HE HO HP HCK cl HB2
  have hbs : w.heap.size ≤ w3.heap.size := HB3.out.size
  have hlpb : lp ≤ g.length := by have h := (canon_small g).1; have e := HLP.out; simp [castG] at e; omega
  have HCN0 := hide (show (0 : Nat) = cnt g 0 by simp [cnt])
  go_loopg [8, 9] (lp + 1) (fun gk v8 v9 wr => ∃ i : Nat, i ≤ lp ∧ lp - i < gk ∧ v9 = .int .i64 i ∧ v8 = .int .i64 (cnt g i : Nat) ∧ ∃ pt, Aside0 (SQ g w.heap.size w3 gp cp wr pt ∧ PT g pt i 0))
  case atStart => exact ⟨0, Nat.zero_le _, by omega, rfl, by rw [← HCN0.out]; rfl, _, ⟨HS0.out, by simpa using PT.start g⟩⟩
  case round =>
    obtain ⟨i, hi, hgk, rfl, rfl, pt, HS⟩ := hrel
    clear HS0
    by_cases hlt : i < lp
    · have hlti : (i : Int) < (lp : Int) := by omega
      obtain ⟨ad3, rfl⟩ := C_some (HPB.out wr HS.out.1.below) (by omega)
      have hlc : (canon g).length = lp := by have e := HLP.out; simpa [castG] using e
      obtain ⟨l, hl⟩ : ∃ l, out (canon g) i = l := ⟨_, rfl⟩
      have hget : (canon g)[i]? = some l := by rw [← hl]; exact out_get (by omega)
      have hcb : cnt g i + l.length ≤ g.length := by rw [← cnt_next hget]; exact cnt_le g _
      obtain ⟨ll, hll⟩ : ∃ n, l.length = n := ⟨_, rfl⟩
      obtain ⟨ci, hci⟩ : ∃ n, cnt g i = n := ⟨_, rfl⟩
      rw [hll, hci] at hcb
      rw [hci]
      have HLL := hide hll
      have HCI := hide hci
      have HGET := hide hget
      have HL := hide hl
      have HLC := hide hlc
      have HS1 := hide HS.out
      clear HS hll hci hget hl hlc
      have CROW := hide (show ∀ W, Below w3.heap.size w3 W → ∃ A0 c0, W.cell? (ad3.add i) = some (.slice A0 ll c0) ∧ (Kd.int .i64).C W A0 ll (castL l) from fun W hW => by
        have h := rowN (HPB.out W hW) HLC.out i hlt
        rw [HL.out, HLL.out] at h
        exact h)
      obtain ⟨A0, c0, cr, -⟩ := CROW.out wr HS1.out.1.below
      go_wp2
      go_loopg [8, 10] (ll + 1) (fun gj v8 v10 wr => ∃ k : Nat, k ≤ ll ∧ ll - k < gj ∧ v10 = .int .i64 k ∧ v8 = .int .i64 ((ci + k : Nat) : Int) ∧ ∃ pt, Aside0 (SQ g w.heap.size w3 gp cp wr pt ∧ PT g pt i k))
      case atStart => exact ⟨0, Nat.zero_le _, by omega, rfl, rfl, _, HS1⟩
      case round =>
        obtain ⟨k, hk, hgj, rfl, rfl, pt, HS⟩ := hrel
        clear HS1 cr
        obtain ⟨A0, c0, cr, hrow⟩ := CROW.out wr HS.out.1.below
        by_cases hkl : k < ll
        · have hkli : (k : Int) < (ll : Int) := by omega
          obtain ⟨x, hx⟩ : ∃ x, l[k]? = some x := ⟨_, List.getElem?_eq_getElem (by rw [HLL.out]; exact hkl)⟩
          have hxg : x < g.length := canon_lt HGET.out (List.mem_of_getElem? hx)
          have hxi : (x : Int) < (g.length : Int) := by omega
          have hx0 : ¬ ((x : Int) < 0) := by omega
          obtain ⟨ad0, rfl, ce⟩ := edge_at (r := l) (by rw [HLL.out]; exact hrow) k x hx
          obtain ⟨⟨u, cu⟩, fu⟩ := HS.out.1.any hxg
          have HS2 := hide (show SQ g w.heap.size w3 gp cp (wr.setCell ⟨gp, x, none⟩ (.int .i64 (i : Int))) (pt.set x (i : Int)) ∧ PT g (pt.set x (i : Int)) i (k + 1) from ⟨HS.out.1.put _, HS.out.2.put HGET.out hx⟩)
          clear HS hrow hx
          go_wp2
          go_roundg (ll - k)
          case measure => omega
          case rel => exact ⟨k + 1, by omega, by omega, by go_num, by go_num, _, HS2⟩
        · obtain rfl : k = ll := by omega
          have HS2 := hide (show SQ g w.heap.size w3 gp cp wr pt ∧ PT g pt (i + 1) 0 from ⟨HS.out.1, (by have h := HS.out.2; rw [← HLL.out] at h; exact h.next HGET.out)⟩)
          have hcn : ci + k = cnt g (i + 1) := by rw [cnt_next HGET.out, HCI.out, HLL.out]
          have HCN := hide hcn
          clear HS hrow hcn
          go_wp2
          go_roundg (lp - i)
          case measure => omega
          case rel => exact ⟨i + 1, by omega, by omega, by go_num, by rw [← HCN.out], _, HS2⟩
    · obtain rfl : i = lp := by omega
      have hlc : (canon g).length = i := by have e := HLP.out; simpa [castG] using e
      have hca : cnt g i = g.length := by rw [← hlc]; exact cnt_all g
      rw [hca]
      have HPT := hide (show PT g pt (canon g).length 0 by rw [hlc]; exact HS.out.2)
      have HSQ := hide HS.out.1
      have HAT := hide (fun (W : World) (hW : Below w3.heap.size w3 W) (x : Int) => at_any (some ado) (m + 1) c2 (castL o) x W HOL.out (HOB.out W hW) hc2 (by omega))
      have hol : o.length = m + 1 := by have := HOL.out; rwa [castL_length] at this
      have HOLN := hide hol
      clear HS hca hlc hol
      go_wp2
      go_loopg [12] (m + 2) (fun gk v12 wr => ∃ i : Nat, i ≤ m + 1 ∧ m + 1 - i < gk ∧ v12 = .int .i64 i ∧ Aside0 (SQ g w.heap.size w3 gp cp wr pt))
      case atStart => exact ⟨0, Nat.zero_le _, by omega, rfl, HSQ⟩
      case round =>
        obtain ⟨j, hj, hgj, rfl, HS⟩ := hrel
        clear HSQ
        by_cases hjl : j < m + 1
        · have hjli : (j : Int) < (m : Int) + 1 := by omega
          obtain ⟨mj, hmj⟩ : ∃ x, o[j]? = some x := ⟨_, List.getElem?_eq_getElem (by rw [HOLN.out]; exact hjl)⟩
          have hmg : mj < g.length := HI.out.lt mj (.inl (List.mem_of_getElem? hmj))
          have hmi : (mj : Int) < (g.length : Int) := by omega
          have hm0 : ¬ ((mj : Int) < 0) := by omega
          have hmd : decide (g.length ≤ mj) = false := decide_eq_false (by omega)
          have co := ints_at (HOB.out wr HS.out.below) HOLN.out j mj hmj
          have HIDX := hide (show idx (castL o) (mj : Int) = (j : Int) from idx_at (castL_nodup HND.out) (by rw [castL_get, hmj]; rfl))
          have HMJ := hide hmj
          clear hmj
          go_wp2_with (go_at_call 17; refine (HAT.out wr HS.out.below _).mono ?_; rintro e w6 ⟨rfl, q6, rfl⟩; rw [HIDX.out])
          have HS6 := hide (HS.out.drewN q6)
          obtain ⟨ad, rfl⟩ := C_some (HEB.out wr HS.out.below) (by omega)
          obtain ⟨row, hrow⟩ : ∃ l, out g mj = l := ⟨_, rfl⟩
          obtain ⟨lj, hlj⟩ : ∃ n, row.length = n := ⟨_, rfl⟩
          have HROW := hide (show ∀ W, Below w3.heap.size w3 W → ∃ A0 c0, W.cell? (ad.add mj) = some (.slice A0 lj c0) ∧ (Kd.int .i64).C W A0 lj (castL row) from fun W hW => by
            have h := rowN (HEB.out W hW) rfl mj hmg
            rw [hrow, hlj] at h
            exact h)
          have hljb : lj ≤ 1099511627776 := by rw [← hlj, ← hrow]; exact HRB.out mj hmg
          have HRW := hide hrow
          have HLJ := hide hlj
          clear HS hrow hlj co
          go_loopg [13] (lj + 1) (fun gj v13 wr => ∃ k : Nat, k ≤ lj ∧ lj - k < gj ∧ v13 = .int .i64 k ∧ Aside0 (SQ g w.heap.size w3 gp cp wr pt))
          case atStart => exact ⟨0, Nat.zero_le _, by omega, rfl, HS6⟩
          case round =>
            obtain ⟨k, hk, hgk2, rfl, HS⟩ := hrel
            clear HS6
            have co := ints_at (HOB.out wr HS.out.below) HOLN.out j mj HMJ.out
            obtain ⟨A0, c0, cr, hcr⟩ := HROW.out wr HS.out.below
            by_cases hkl : k < lj
            · have hkli : (k : Int) < (lj : Int) := by omega
              obtain ⟨y, hy⟩ : ∃ y, row[k]? = some y := ⟨_, List.getElem?_eq_getElem (by rw [HLJ.out]; exact hkl)⟩
              obtain ⟨a0, rfl⟩ := C_some hcr (by omega)
              have ce := ints_at hcr HLJ.out k y hy
              have hyo : y ∈ out g mj := by rw [HRW.out]; exact List.mem_of_getElem? hy
              have hyg : y < g.length := HG.out mj y hyo
              have hyi : (y : Int) < (g.length : Int) := by omega
              obtain ⟨hp0, hp1⟩ := edge_place HI.out HMJ.out hyo
              obtain ⟨p, hp⟩ := Int.eq_ofNat_of_zero_le hp0
              rw [hp] at hp1
              have HPI := hide hp
              have hpn : ¬ ((p : Int) < 0) := by omega
              have hpn2 : decide ((p : Int) < 0) = false := decide_eq_false (by omega)
              by_cases hpj : (p : Int) ≤ (j : Int)
              · have hpj2 : ¬ ((j : Int) < (p : Int)) := by omega
                have hpd : decide (j < p) = false := decide_eq_false (by omega)
                have hpd2 : decide ((j : Int) < (p : Int)) = false := decide_eq_false (by omega)
                clear hp hp0 hp1 hcr hy hyo
                go_wp2_with (go_at_call 17; refine (HAT.out wr HS.out.below _).mono ?_; rintro e w6 ⟨rfl, q7, rfl⟩; rw [HPI.out])
                go_quiet (fail)
                go_wp2
                go_roundg (lj - k)
                case measure => omega
                case rel => exact ⟨k + 1, by omega, by omega, by go_num, ⟨HS.out.drewN _⟩⟩
              · have hpj2 : (j : Int) < (p : Int) := by omega
                have hsc : Gr.Scc g y mj := by
                  rcases hp1 with q | q
                  · exact absurd q hpj
                  · exact q
                have hsame := HPT.out.same hyg hmg hsc
                obtain ⟨vt, hvt⟩ : ∃ v, pt[mj]? = some v := ⟨_, List.getElem?_eq_getElem (by rw [HPT.out.len]; exact hmg)⟩
                rw [hvt] at hsame
                have cg1 := HS.out.cell HPT.out.len hmg hvt
                have cg2 := HS.out.cell HPT.out.len hyg hsame
                clear hp hp0 hp1 hcr hy hyo hsc hsame hvt hpj
                go_wp2_with (go_at_call 17; refine (HAT.out wr HS.out.below _).mono ?_; rintro e w6 ⟨rfl, q7, rfl⟩; rw [HPI.out])
                go_quiet (fail)
                go_wp2
                go_roundg (lj - k)
                case measure => omega
                case rel => exact ⟨k + 1, by omega, by omega, by go_num, ⟨HS.out.drewN _⟩⟩
            · obtain rfl : k = lj := by omega
              go_wp2
              go_roundg (m + 1 - j)
              case measure => omega
              case rel => exact ⟨j + 1, by omega, by omega, by go_num, HS⟩
        · obtain rfl : j = m + 1 := by omega
          have HBF := hide (HB3.out.trans (HS.out.below.mono hbs))
          go_wp2_with (go_at_call 13; refine (awake_any _).mono ?_; rintro e w8 ⟨rfl, hb8⟩)
          go_ret
          exact ⟨rfl, HBF.out.trans (hb8.mono HBF.out.size)⟩
end Go.Proofs.Ytldgmneijipbjaa.H
end
/- YtldgmneijipbjaaHLaw5 -/
section
/- OrderStands: true at every input that is not too long. -/
namespace Go.Proofs.Ytldgmneijipbjaa.H
open Go.RowKit Go.Shelf Go.Proofs.YtldgmneijipbjaaW.PrintWords Go.Proofs.YtldgmneijipbjaaW.PrintLast Go.Proofs.YtldgmneijipbjaaW.PrintMore
open Pu (okE)
set_option linter.unusedVariables false

theorem stands_true (A : Option Addr) (n c : Nat) (el : List (List Int)) (root : Int) (w : World) (hn : el.length = n) (hE : KE.C w A n el) (hc : n ≤ c) (hs : Small el) (htot : (el.map List.length).sum ≤ 1099511627776) :
    Calls Try.prog 5 #[.slice A n c, .int .i64 root] w fun e w' => e = .returned (.bool true) ∧ Below w.heap.size w w' := by
  by_cases h : okE el = true ∧ 0 ≤ root ∧ root < el.length
  · obtain ⟨hok, h0, h1⟩ := h
    obtain ⟨r, rfl⟩ := Int.eq_ofNat_of_zero_le h0
    have e := castG_gOf hok
    have hl : (gOf el).length = n := by rw [gOf_length]; exact hn
    have := stands_in A c (gOf el) r w (gOf_good hok) (by rw [e, hl]; exact hE) (by rw [hl]; exact hc) (by rw [e]; exact hs) (by rw [e]; exact htot) (by rw [e]; exact hok) (by rw [hl]; omega)
    rw [hl] at this
    exact this
  · exact stands_out A n c el root w hn hE hc hs h
end Go.Proofs.Ytldgmneijipbjaa.H
end
/- YtldgmneijipbjaaHRow -/
section
/- The argument '[][]int' of a law of layer 11: what it reads as, and how long it is at the most. -/
namespace Go.Proofs.Ytldgmneijipbjaa.H
open Go.RowKit Go.Shelf Go.Proofs.YtldgmneijipbjaaW.PrintWords Go.Proofs.YtldgmneijipbjaaW.PrintLast Go.Proofs.YtldgmneijipbjaaW.PrintMore
open Go.ChangeShapes Go.WideShapes
set_option linter.unusedVariables false

theorem bulk_one {H : Type} (d : DataW H) : 1 ≤ Rows.uptoBulk d := by
  cases d with
  | lit l => cases l <;> simp [Rows.uptoBulk]
  | nil => simp [Rows.uptoBulk]
  | ptr d => simp [Rows.uptoBulk]
  | slice elems spare => simp [Rows.uptoBulk]
  | agg parts => simp [Rows.uptoBulk]
  | iface t d => simp [Rows.uptoBulk]
  | map entries => simp [Rows.uptoBulk]
  | held h => simp [Rows.uptoBulk]
theorem bulk_length {H : Type} (l : List (DataW H)) : l.length ≤ Rows.uptoBulkAll l := by
  induction l with
  | nil => simp [Rows.uptoBulkAll]
  | cons x r ih => have := bulk_one x; simp only [Rows.uptoBulkAll, List.length_cons]; omega
theorem bulk_row {H : Type} (k : IntKind) (A : Option Addr) (L : Nat) (Z : List Int) (h : A = none → L = 0) : (Z.take L).length + 1 ≤ Rows.uptoBulk (H := H) (Deep.intRow k A L Z) := by
  cases A with
  | none => rw [h rfl]; simp [Deep.intRow, Rows.uptoBulk]
  | some a =>
    simp only [Deep.intRow, Rows.uptoBulk]
    have := bulk_length (H := H) (Go.ChangeShapes.lits k (Z.take L))
    simp only [Go.ChangeShapes.lits, List.length_map] at this
    simp only [Go.ChangeShapes.lits]
    omega
theorem bulk_rows {H : Type} (k : IntKind) (A : Nat → Option Addr) (L : Nat → Nat) (Z : Nat → List Int) (rs : List Nat) (h : ∀ r, r ∈ rs → A r = none → L r = 0) :
    ((rs.map fun r => (Z r).take (L r)).map List.length).sum + rs.length ≤ Rows.uptoBulkAll (H := H) (rs.map fun r => Deep.intRow k (A r) (L r) (Z r)) := by
  induction rs with
  | nil => simp [Rows.uptoBulkAll]
  | cons r rs ih =>
    have h1 := bulk_row (H := H) k (A r) (L r) (Z r) (h r (by simp))
    have h2 := ih (fun r hr => h r (by simp [hr]))
    simp only [List.map_cons, List.sum_cons, List.length_cons, Rows.uptoBulkAll]
    omega
theorem sum_mem (l : List (List Int)) : ∀ r, r ∈ l → r.length ≤ (l.map List.length).sum := by
  induction l with
  | nil => intro r hr; cases hr
  | cons x l ih =>
    intro r hr
    simp only [List.map_cons, List.sum_cons]
    rcases List.mem_cons.1 hr with rfl | hr
    · omega
    · have := ih r hr; omega

theorem open_rows {H : Type} {enc : TypeId × Value → H} {W : World} {fuel : Nat} {A0 : Option Addr} {len cap : Nat} {d : DataW H} {p : List MemPlace} (h : DataW.trod enc Try.prog W 0 (fun _ => true) true fuel 22 [.slice A0 len cap] = some (d, p)) (hb : Rows.uptoBulk d ≤ 1048576) :
    len ≤ cap ∧ ∃ el : List (List Int), el.length = len ∧ KE.C W A0 len el ∧ Small el ∧ (el.map List.length).sum ≤ 1099511627776 := by
  rcases Deep.open_int_rows Try.underlying22 Try.underlying31 Try.underlying3 (by kernel_rfl) (by kernel_rfl) h with ⟨hcs, hx⟩ | ⟨a, len', cap', A, L, C, Z, hcs, _, hl, hm, hx, hrows⟩
  · simp at hcs
    obtain ⟨rfl, rfl, rfl⟩ := hcs
    exact ⟨Nat.le_refl _, [], rfl, ⟨rfl, by omega, fun h => by omega⟩, ⟨by simp, fun r hr => by cases hr⟩, by simp⟩
  · simp at hcs
    obtain ⟨rfl, rfl, rfl⟩ := hcs
    simp only [Prod.mk.injEq] at hx
    obtain ⟨rfl, -⟩ := hx
    simp only [Rows.uptoBulk] at hb
    have h1 := bulk_rows (H := H) .i64 A L Z (List.range len) (fun r hr e => by
      have := hrows r (by have := List.mem_range.1 hr; omega)
      have := this.2.2.2.2.2.1 e
      omega)
    simp only [List.length_range] at h1
    have hsum : (((List.range len).map fun r => (Z r).take (L r)).map List.length).sum ≤ 1048576 := by omega
    refine ⟨hl, (List.range len).map fun r => (Z r).take (L r), by simp, ⟨by simp, by unfold maxLen at hm; omega, fun _ => ⟨a, rfl, fun j q hq => ?_⟩⟩, ⟨by simp; omega, fun r hr => by have := sum_mem _ r hr; omega⟩, by omega⟩
    have hj : j < len := by have := (List.getElem?_eq_some_iff.1 hq).1; simpa using this
    have hq2 : (Z j).take (L j) = q := by simpa [hj] using hq
    obtain ⟨e1, e2, e3, e4, e5, e6, e7⟩ := hrows j (by omega)
    have hql : q.length = L j := by rw [← hq2, List.length_take]; omega
    refine ⟨[.slice (A j) q.length (C j)], rfl, ⟨A j, C j, rfl, by omega, rfl, by unfold maxLen at e3; omega, fun hp => ?_⟩, fun i u hu => ?_⟩
    · cases hA : A j with
      | none => have := e6 hA; omega
      | some a' =>
        refine ⟨a', rfl, fun c x hx => ⟨[.int .i64 x], rfl, rfl, fun i u hu => ?_⟩⟩
        match i, hu with
        | 0, hu =>
          cases hu
          have hc : c < q.length := (List.getElem?_eq_some_iff.1 hx).1
          have := (e7 a' hA).2 c (by omega)
          have e8 : a'.add (c * 1 + 0) = a'.add c := by rw [Nat.mul_one, Nat.add_zero]
          show W.cell? (a'.add (c * 1 + 0)) = _
          rw [e8, this]
          rw [← hq2, List.getElem?_take_of_lt (by omega)] at hx
          rw [List.getD_eq_getElem?_getD, hx]
          rfl
    · match i, hu with
      | 0, hu =>
        cases hu
        have e8 : a.add (j * 1 + 0) = a.add j := by rw [Nat.mul_one, Nat.add_zero]
        show W.cell? (a.add (j * 1 + 0)) = _
        rw [e8, e1, hql]
end Go.Proofs.Ytldgmneijipbjaa.H
end
