/- tree.walk under All's closure: by induction on the tree. -/
import Derived.Test.YtldgmneijipbjaaDoorV3
import Derived.Test.YtldgmneijipbjaaDoorT2
namespace Go.Proofs.YtldgmneijipbjaaDoor.H
open Go.RowKit Go.Shelf Go.Proofs.YtldgmneijipbjaaDoorW.PrintWords Go.Proofs.YtldgmneijipbjaaDoorW.PrintLast Go.Proofs.YtldgmneijipbjaaDoorW.PrintMore
open PTreeSames Pu
set_option linter.unusedVariables false
set_option linter.unusedSimpArgs false
attribute [local go_sem] Oper.semAt_some

theorem flatL_append (a b : List Tr) : flatL (a ++ b) = flatL a ++ flatL b := by
  induction a with
  | nil => simp [flatL]
  | cons x a ih => rw [List.cons_append, flatL, flatL, ih, List.append_assoc]
theorem flatL_take {l : List Tr} {i : Nat} {y : Tr} (h : l[i]? = some y) : flatL (l.take (i + 1)) = flatL (l.take i) ++ flat y := by
  have hi := (List.getElem?_eq_some_iff.1 h).1
  rw [List.take_succ_eq_append_getElem hi, (List.getElem?_eq_some_iff.1 h).2, flatL_append]
  simp [flatL]
theorem flat_kid {x : Tr} {i : Nat} {y : Tr} (h : x.f3[i]? = some y) : flat x = (x :: flatL (x.f3.take i)) ++ (flat y ++ flatL (x.f3.drop (i + 1))) := by
  have e : x.f3 = x.f3.take i ++ (y :: x.f3.drop (i + 1)) := by rw [← drop_at h, List.take_append_drop]
  rw [flat_eq, List.cons_append]
  congr 1
  conv => lhs; rw [e, flatL_append, flatL]
/-- the tree x stands in L from place p on -/
def Stands (L : List Tr) (p : Nat) (x : Tr) : Prop := p + (flat x).length ≤ L.length ∧ ∀ j y, (flat x)[j]? = some y → L[p + j]? = some y
theorem Stands.root {L : List Tr} {p : Nat} {x : Tr} (h : Stands L p x) : L[p]? = some x := by
  have := h.2 0 x (by rw [flat_eq]; rfl)
  simpa using this
theorem Stands.kid {L : List Tr} {p i : Nat} {x y : Tr} (h : Stands L p x) (hy : x.f3[i]? = some y) : Stands L (p + (1 + (flatL (x.f3.take i)).length)) y := by
  have e := flat_kid hy
  have hl := congrArg List.length e
  simp only [List.length_append, List.length_cons] at hl
  refine ⟨by have := h.1; omega, fun j z hz => ?_⟩
  have := h.2 ((1 + (flatL (x.f3.take i)).length) + j) z (by
    rw [e, List.getElem?_append_right (by simp; omega)]
    have e2 : 1 + (flatL (x.f3.take i)).length + j - (x :: flatL (x.f3.take i)).length = j := by simp; omega
    rw [e2, List.getElem?_append_left (List.getElem?_eq_some_iff.1 hz).1]
    exact hz)
  rw [← this]
  congr 1
  omega
theorem flat_pos (x : Tr) : 0 < (flat x).length := by rw [flat_eq]; simp

/-- a tree whose memory lies in ok -/
structure RdF (w : World) (ok : Nat → Prop) (x : Tr) (A : Option Addr) (c : Nat) : Prop where
  kids : Kd.F KT w ok A x.f3.length x.f3
  cap : x.f3.length ≤ c
theorem RdF.rd {w W : World} {ok : Nat → Prop} {x : Tr} {A : Option Addr} {c : Nat} (h : RdF w ok x A c) (hW : ∀ k, ok k → W.heap[k]? = w.heap[k]?) : Rd W x A c := ⟨h.kids W (fun k hk _ => hW k hk), h.cap⟩
theorem RdF.kid {w : World} {ok : Nat → Prop} {x : Tr} {A : Option Addr} {c : Nat} (h : RdF w ok x A c) {i : Nat} {y : Tr} (hy : x.f3[i]? = some y) :
    ∃ ad A' c', A = some ad ∧ RdF w ok y A' c' ∧ ∀ W : World, (∀ k, ok k → W.heap[k]? = w.heap[k]?) → W.cell? (ad.add (i * 4)) = some (.int .i64 y.f0) ∧ W.cell? ⟨(ad.add (i * 4)).block, (ad.add (i * 4)).off + 1, none⟩ = some (.string y.f1) ∧ W.cell? ⟨(ad.add (i * 4)).block, (ad.add (i * 4)).off + 2, none⟩ = some (.int .i64 y.f2) ∧ W.cell? ⟨(ad.add (i * 4)).block, (ad.add (i * 4)).off + 3, none⟩ = some (.slice A' y.f3.length c') := by
  have hi : i < x.f3.length := (List.getElem?_eq_some_iff.1 hy).1
  obtain ⟨ad, cs, rfl, hcl, hF, hcc, hok⟩ := Kd.F_get h.kids z24 (i : Int) (by omega) (by omega)
  have hs : KT.sz = 4 := rfl
  have e1 : x.f3.getD (i : Int).toNat z24 = y := by rw [Int.toNat_natCast, List.getD_eq_getElem?_getD, hy]; rfl
  rw [e1] at hF
  rw [hs, Int.toNat_natCast] at hcc
  obtain ⟨A', c', rfl, l3, g3⟩ := k24_openF hF
  have hokb : ok ad.block := hok (by rw [hs]; decide)
  refine ⟨ad, A', c', rfl, ⟨g3, l3⟩, fun W hW => ?_⟩
  have hc : ∀ j u, ([.int .i64 y.f0, .string y.f1, .int .i64 y.f2, .slice A' y.f3.length c'] : List Value)[j]? = some u → W.cell? (ad.add (i * 4 + j)) = some u := fun j u hu => by
    have hb : (ad.add (i * 4 + j)).block = ad.block := add_block _ _
    exact (World.cell?_of_block (w := w) (w' := W) (a := ad.add (i * 4 + j)) (by rw [hb]; exact hW _ hokb)).trans (hcc j u hu)
  exact ⟨hc 0 _ rfl, by rw [← add_field _ _ 1 (by omega)]; exact hc 1 _ rfl, by rw [← add_field _ _ 2 (by omega)]; exact hc 2 _ rfl, by rw [← add_field _ _ 3 (by omega)]; exact hc 3 _ rfl⟩
def okF (D0 : Nat) (Xs : Nat → Prop) (k : Nat) : Prop := k < D0 ∧ ¬ Xs k
theorem Agr.ok {D0 : Nat} {Xs : Nat → Prop} {w W : World} (h : Agr D0 Xs w W) : ∀ k, okF D0 Xs k → W.heap[k]? = w.heap[k]? := fun k hk => h.keep k hk.1 hk.2

def counter (k : Nat) : Obj := .cells #[.int .i64 (k : Nat)] 3 (0, 0)
/-- what walk leaves -/
def Walked (J Jx : List El → World → Prop) (Xs : Nat → Prop) (bc : Nat) (pre : List El) (k : Nat) (W : World) (e : Ending) (W' : World) : Prop :=
  ∃ b : Bool, e = .returned (.bool b) ∧ ((b = true ∧ ∃ es : List El, es.length = k ∧ J (pre ++ es) W' ∧ Fr (fun j => Xs j ∨ j = bc) W W' ∧ W'.heap[bc]? = some (counter (pre.length + k))) ∨
    (b = false ∧ ∃ es : List El, es ≠ [] ∧ es.length ≤ k ∧ Jx (pre ++ es) W'))
structure LQ (J : List El → World → Prop) (Xs : Nat → Prop) (bc : Nat) (pre : List El) (x : Tr) (W : World) (i : Nat) (wr : World) : Prop where
  es : ∃ es : List El, es.length = 1 + (flatL (x.f3.take i)).length ∧ J (pre ++ es) wr
  fr : Fr (fun j => Xs j ∨ j = bc) W wr
  cnt : wr.heap[bc]? = some (counter (pre.length + (1 + (flatL (x.f3.take i)).length)))

set_option maxRecDepth 100000 in
set_option maxHeartbeats 8000000 in
theorem walk_in (l yb bc D D0 : Nat) (Xs : Nat → Prop) (w : World) (L : List Tr) (J Jx : List El → World → Prop) (hDD : D0 ≤ D) (hJ : StaysAt D J) (hY : Rounds Fence.wide l D D0 Xs L J Jx)
    (hXs : ∀ k, Xs k → k < D0) (hyD : D ≤ yb) (hcD : D ≤ bc) (hyc : yb ≠ bc) (hL : L.length ≤ 1099511627776) (m : Nat) :
    ∀ (x : Tr), SizeOf.sizeOf x ≤ m → Fit x → ∀ (n : Nat) (pre : List El) (A : Option Addr) (c : Nat) (W : World), J pre W → W.heap[yb]? = some (.cells #[.func (.yield l) #[] #[]] 35 (0, 0)) → W.heap[bc]? = some (counter pre.length) →
      Agr D0 Xs w W → RdF w (okF D0 Xs) x A c → Stands L pre.length x →
      CallsIn Fence.wide n Tryd.prog 18 #[.agg #[.int .i64 x.f0, .string x.f1, .int .i64 x.f2, .slice A x.f3.length c], .pointer (some ⟨bc, 0, none⟩), .func (.func 19) #[] #[.pointer (some ⟨yb, 0, none⟩)]] W (Walked J Jx Xs bc pre (flat x).length W) := by
  induction m with
  | zero => intro x hx; obtain ⟨a, b, c, d⟩ := x; simp [S24.mk.sizeOf_spec] at hx
  | succ m ih =>
    intro x hx hf n pre A c W hj hyb hbc hag hrd hst
    have IH := hide (fun (y : Tr) (hy : y ∈ x.f3) => ih y (by have := kid_lt hy; omega) (hf.kid hy))
    obtain ⟨len, hlen⟩ : ∃ len, x.f3.length = len := ⟨_, rfl⟩
    obtain ⟨k, hk⟩ : ∃ k, pre.length = k := ⟨_, rfl⟩
    have hlb : len ≤ 2513169434843 := by rw [← hlen]; exact hf.len
    have hkb : k < 1099511627776 := by rw [← hk]; have := hst.1; have := flat_pos x; omega
    have hw : wrap64 ((k : Int) + 1) = (k : Int) + 1 := by unfold wrap64; omega
    have hDW : D ≤ W.heap.size := by have := blk_lt hbc; omega
    have hWb : W.heap.size ≠ bc := by have := blk_lt hbc; omega
    have hbW : bc ≠ W.heap.size := Ne.symm hWb
    have H1 := hide (show ∀ W1, Below W.heap.size W W1 → W1.heap[bc]? = some (counter k) → True from fun _ _ _ => trivial)
    have HST := hide hst
    have HRD := hide hrd
    have HAG := hide hag
    have HBC := hide hbc
    have HYB := hide hyb
    have HJ := hide hj
    have HF := hide hf
    have HLEN := hide hlen
    have HK := hide hk
    have HDW := hide hDW
    have HW := hide hw
    have c0 : ∀ o, (W.alloc o).cell? ⟨bc, 0, none⟩ = some (.int .i64 (k : Nat)) := fun o => cell_al o (show W.cell? ⟨bc, 0, none⟩ = some (.int .i64 (k : Nat)) from by rw [← hk]; exact (blk_cell (t := 3) (cs := #[.int .i64 (pre.length : Nat)]) hbc 0).trans rfl)
    have f0 : ∀ o, (W.alloc o).frozen? ⟨bc, 0, none⟩ = false := fun o => blk_frozen (t := 3) (cs := #[.int .i64 (pre.length : Nat)]) (blk_alloc hbc o) 0
    rw [hlen]
    clear hx hf hj hyb hbc hag hrd hst hlen hk hDW H1 hw ih
    refine callsIn_of_wp Tryd.func18 rfl trivial ?_ rfl
    simp only [Tryd.ntmps18, List.size_toArray, List.length_cons, List.length_nil, Nat.reduceAdd, Nat.reduceSub, Array.replicate_succ, Array.replicate_zero, List.push_toArray, List.append_toArray, List.nil_append, List.cons_append]
    gi_wp2_with ((try refine ⟨trivial, (fun h => by cases h), ?_⟩); gi_at_call 19; refine Aside0.out ?_)
    refine ⟨?_⟩
    obtain ⟨W1, hW1⟩ : ∃ W1, (W.alloc (.cells #[.int .i64 x.f0, .string x.f1, .int .i64 x.f2, .slice A len c] 24)).setCell ⟨bc, 0, none⟩ (.int .i64 ((k : Int) + 1)) = W1 := ⟨_, rfl⟩
    have hF1 : Fr (fun j => j = bc) W W1 := by rw [← hW1]; exact Fr.setCell (p := ⟨bc, 0, none⟩) ((Fr.refl (fun j => j = bc) W).alloc _) (.inl rfl) _
    have hb1 : Below D W W1 := hF1.below HDW.out (by rintro j rfl; exact hcD)
    have n1 : W1.heap[W.heap.size]? = some (.cells #[.int .i64 x.f0, .string x.f1, .int .i64 x.f2, .slice A len c] 24 (0, 0)) := by rw [← hW1]; exact blk_far (blk_new W _) hWb _
    have n2 : W1.heap[bc]? = some (counter (k + 1)) := by
      rw [← hW1]
      refine blk_put (cs := #[.int .i64 (k : Nat)]) ?_ 0 _ ?_
      · refine blk_alloc ?_ _
        have := HBC.out
        rw [HK.out] at this
        exact this
      · have e : (((k + 1 : Nat) : Int)) = (k : Int) + 1 := by omega
        simp only [e]
        rfl
    have n3 : W1.heap[yb]? = some (.cells #[.func (.yield l) #[] #[]] 35 (0, 0)) := by rw [← hW1]; exact blk_far (blk_alloc HYB.out _) hyc _
    rw [hW1]
    have hag1 : Agr D0 Xs w W1 := HAG.out.fr hF1 (by rintro j rfl; exact .inr (by omega))
    have hlb1 : W.heap.size < W1.heap.size := blk_lt n1
    have hcall := all11_in (n - 1) l yb D D0 Xs L J Jx hDD hJ hY pre x HF.out A c W1 (hJ _ _ _ HJ.out hb1) (by have := HDW.out; omega) n3 HST.out.root (HRD.out.rd hag1.ok)
    rw [HK.out, HLEN.out] at hcall
    refine hcall.mono ?_
    clear hcall hW1 c0 f0
    rintro e W2 ⟨b, rfl, hp⟩
    cases b with
    | false =>
      have hp2 : ∃ x1, Jx (pre ++ [x1]) W2 := by
        rcases hp with ⟨h, _⟩ | ⟨_, h⟩
        · cases h
        · exact h
      have HP := hide hp2
      clear hp hp2 hF1 hb1 n1 n2 n3 hag1 hlb1
      gi_wp2
      go_ret
      obtain ⟨x1, h1⟩ := HP.out
      exact ⟨false, rfl, .inr ⟨rfl, [x1], by simp, flat_pos x, h1⟩⟩
    | true =>
      have hp2 : ∃ x1, J (pre ++ [x1]) W2 ∧ Fr Xs W1 W2 := by
        rcases hp with ⟨_, h⟩ | ⟨h, _⟩
        · exact h
        · cases h
      obtain ⟨x1, hj1, hF2⟩ := hp2
      have hnX : ∀ j, D0 ≤ j → ¬ Xs j := fun j hj h => by have := hXs j h; omega
      have m1 := (hF2.block _ hlb1 (hnX _ (by have := HDW.out; omega))).trans n1
      have m2 := (hF2.block _ (blk_lt n2) (hnX _ (by omega))).trans n2
      have c3 : W2.cell? ⟨W.heap.size, 3, none⟩ = some (.slice A len c) := (blk_cell m1 3).trans rfl
      have Q0 := hide (show LQ J Xs bc pre x W 0 W2 from ⟨⟨[x1], by simp [flatL], hj1⟩, (hF1.mono (fun _ h => .inr h)).trans hF2 (fun _ h => .inl (.inl h)), by rw [HK.out]; simpa [flatL] using m2⟩)
      clear hp hj1 hF2 m1 m2 hF1 hb1 n1 n2 n3 hag1 hlb1 hnX
      gi_wp2
      clear c3
      gi_loopw [26] (fun v26 wr => ∃ i : Nat, i ≤ len ∧ v26 = .int .i64 i ∧ Aside0 (LQ J Xs bc pre x W i wr)) (fun v26 _ => len - (intOf v26).toNat)
      case atStart => exact ⟨0, Nat.zero_le _, rfl, Q0⟩
      case round =>
        obtain ⟨i, hi, rfl, Q⟩ := hrel
        clear Q0
        by_cases hlt : i < len
        · have hlti : (i : Int) < (len : Int) := by omega
          obtain ⟨y, hy⟩ := get_of (l := x.f3) (i := i) (by rw [HLEN.out]; exact hlt)
          have hagr : Agr D0 Xs w wr := HAG.out.fr Q.out.fr (by rintro j (h | rfl); exact .inl h; exact .inr (by omega))
          obtain ⟨ad, A', c', rfl, hry, hcells⟩ := HRD.out.kid hy
          obtain ⟨k0, k1, k2, k3⟩ := hcells wr hagr.ok
          have HRY := hide hry
          have HYK := hide hy
          have HAGR := hide hagr
          clear hy hagr hry hcells
          gi_wp2_with ((try refine ⟨trivial, (fun h => by cases h), ?_⟩); gi_at_call 18; refine Aside0.out ?_)
          refine ⟨?_⟩
          obtain ⟨es, hes, hjs⟩ := Q.out.es
          obtain ⟨W3, hW3⟩ : ∃ W3, wr.alloc (.cells #[.int .i64 y.f0, .string y.f1, .int .i64 y.f2, .slice A' y.f3.length c'] 24) = W3 := ⟨_, rfl⟩
          have hb3 : Below wr.heap.size wr W3 := by rw [← hW3]; exact below_alloc (Below.refl _ _) _
          have hDwr : D ≤ wr.heap.size := by have := Q.out.fr.size; have := HDW.out; omega
          have hlen2 : (pre ++ es).length = pre.length + (1 + (flatL (x.f3.take i)).length) := by rw [List.length_append, hes]
          have hyb3 : W3.heap[yb]? = some (.cells #[.func (.yield l) #[] #[]] 35 (0, 0)) := by
            have q := (Q.out.fr.block yb (blk_lt HYB.out) (by rintro (h | h); (have := hXs _ h; omega); exact hyc h)).trans HYB.out
            exact (hb3.block yb (blk_lt q)).trans q
          have hbc3 : W3.heap[bc]? = some (counter (pre ++ es).length) := by
            rw [hlen2]
            exact (hb3.block bc (blk_lt Q.out.cnt)).trans Q.out.cnt
          rw [hW3]
          have hag3 : Agr D0 Xs w W3 := HAGR.out.below hb3 (by omega)
          have hcall := IH.out y (kid_mem HYK.out) (n - 1) (pre ++ es) A' c' W3 (hJ _ _ _ hjs (hb3.mono hDwr)) hyb3 hbc3 hag3 HRY.out (by rw [hlen2]; exact HST.out.kid HYK.out)
          refine hcall.mono ?_
          clear hcall hW3
          rintro e W4 ⟨b, rfl, hp⟩
          cases b with
          | false =>
            have hp2 : ∃ es2 : List El, es2 ≠ [] ∧ es2.length ≤ (flat y).length ∧ Jx ((pre ++ es) ++ es2) W4 := by
              rcases hp with ⟨h, _⟩ | ⟨_, h⟩
              · cases h
              · exact h
            have HP := hide hp2
            have HES := hide hes
            clear hp hp2 hes hjs hyb3 hbc3 hag3 hlen2 hb3 hDwr k0 k1 k2 k3
            gi_wp2
            go_ret
            obtain ⟨es2, h1, h2, h3⟩ := HP.out
            refine ⟨false, rfl, .inr ⟨rfl, es ++ es2, by simp [h1], ?_, by rw [← List.append_assoc]; exact h3⟩⟩
            have := congrArg List.length (flat_kid HYK.out)
            simp only [List.length_append, List.length_cons] at this ⊢
            rw [HES.out]
            omega
          | true =>
            have hp2 : ∃ es2 : List El, es2.length = (flat y).length ∧ J ((pre ++ es) ++ es2) W4 ∧ Fr (fun j => Xs j ∨ j = bc) W3 W4 ∧ W4.heap[bc]? = some (counter ((pre ++ es).length + (flat y).length)) := by
              rcases hp with ⟨_, h⟩ | ⟨h, _⟩
              · exact h
              · cases h
            obtain ⟨es2, g1, g2, g3, g4⟩ := hp2
            have e8 : 1 + (flatL (x.f3.take (i + 1))).length = (es ++ es2).length := by rw [flatL_take HYK.out, List.length_append, List.length_append, hes, g1]; omega
            have Q2 := hide (show LQ J Xs bc pre x W (i + 1) W4 from ⟨⟨es ++ es2, e8.symm, by rw [← List.append_assoc]; exact g2⟩, (Q.out.fr.more hb3).trans g3 (fun j h => .inl h), by rw [e8, List.length_append, g1]; rw [List.length_append] at g4; rw [← Nat.add_assoc]; exact g4⟩)
            clear hp hes hjs hyb3 hbc3 hag3 hlen2 hb3 hDwr k0 k1 k2 k3 g1 g2 g3 g4 e8
            gi_wp2
            go_roundw
            case rel => exact ⟨i + 1, by omega, by go_num, Q2⟩
            case measure => simp [intOf]; omega
        · obtain rfl : i = len := by omega
          gi_wp2
          go_ret
          obtain ⟨es, hes, hjs⟩ := Q.out.es
          have e2 : (flat x).length = 1 + (flatL (x.f3.take i)).length := by rw [List.take_of_length_le (by rw [HLEN.out]; exact Nat.le_refl _), flat_eq]; simp; omega
          exact ⟨true, rfl, .inl ⟨rfl, es, by rw [hes, e2], hjs, Q.out.fr, by rw [e2]; exact Q.out.cnt⟩⟩
end Go.Proofs.YtldgmneijipbjaaDoor.H
