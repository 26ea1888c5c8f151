/- Functions that tell something of all trees of a row, or of each of them. -/
import Derived.Test.YtldgmneijipbjaaDoorT3
import Derived.Shelf.Abstract
namespace Go.Proofs.YtldgmneijipbjaaDoor.H
open Go.RowKit Go.Shelf Go.Proofs.YtldgmneijipbjaaDoorW.PrintWords Go.Proofs.YtldgmneijipbjaaDoorW.PrintLast Go.Proofs.YtldgmneijipbjaaDoorW.PrintMore
open PTreeSames Pu
set_option linter.unusedVariables false
set_option linter.unusedSimpArgs false

/-- function K, with what it has caught, tells P of the trees in l, in each world behind w0 -/
def Tells0 (K : Nat) (l : List Tr) (P : Tr → Bool) (w0 : World) : Prop := ∀ y, y ∈ l → ∀ A c w, Below w0.heap.size w0 w → Rd w y A c → Calls Tryd.prog K #[nd y A c] w (SameB w (P y))
def Tells1 (K : Nat) (a : Option Addr) (l : List Tr) (P : Tr → Bool) (w0 : World) : Prop := ∀ y, y ∈ l → ∀ A c w, Below w0.heap.size w0 w → Rd w y A c → Calls Tryd.prog K #[nd y A c, .pointer a] w (SameB w (P y))
theorem calls_gate {P : Program} {K : FuncId} {args : Array Value} {w : World} {Q : Ending → World → Prop} (h : Calls P K args w Q) : Calls P K args w Q := h
theorem all_drop {α : Type} {l : List α} {P : α → Bool} {i : Nat} {y : α} (h : l[i]? = some y) : (l.drop i).all P = (P y && (l.drop (i + 1)).all P) := by rw [drop_at h, List.all_cons]
structure AQ (w : World) (l : List Tr) (A : Option Addr) (n : Nat) (P : Tr → Bool) (i : Nat) (wr : World) : Prop where
  r1 : Kd.C KT wr A l.length l
  below : Below w.heap.size w wr
  eq : l.all P = (l.drop i).all P

set_option maxRecDepth 100000 in
set_option maxHeartbeats 2000000 in
theorem all0_any (K : Nat) (he : Enters Tryd.prog K) (l : List Tr) (P : Tr → Bool) (hl : l.length ≤ 2513169434843) (A : Option Addr) (c : Nat) (w : World) (h : Kd.C KT w A l.length l) (hT : Tells0 K l P w) :
    Calls Tryd.prog 25 #[.slice A l.length c, .func (.func K) #[] #[]] w (SameB w (l.all P)) := by
  have hent : ∀ (args : Array Value) (w : World), (callFunc K args).run Tryd.prog w = .ok (.enter K args) w := he
  have HT := hide hT
  have Q0 := hide (show AQ w l A l.length P 0 w from ⟨h, Below.refl _ _, by simp⟩)
  obtain ⟨n, hn⟩ : ∃ n, l.length = n := ⟨_, rfl⟩
  have HN := hide hn
  rw [hn] at hl Q0 ⊢
  clear hT h hn he
  go_enter Tryd.func25, Tryd.ntmps25
  go_wp2
  go_loopg [9] (n + 1) (fun gk v9 wr => ∃ i : Nat, i ≤ n ∧ n - i < gk ∧ v9 = .int .i64 i ∧ Aside0 (AQ w l A n P i wr))
  case atStart => exact ⟨0, Nat.zero_le _, by omega, rfl, Q0⟩
  case round =>
    obtain ⟨i, hi, hgk, rfl, Q⟩ := hrel
    clear Q0
    by_cases hlt : i < n
    · have hlti : (i : Int) < (n : Int) := by omega
      obtain ⟨x, hx⟩ := get_of (l := l) (i := i) (by rw [HN.out]; exact hlt)
      obtain ⟨ad, A', c', rfl, hrx, k0, k1, k2, k3⟩ := C_kid Q.out.r1 hx
      have HX := hide hx
      have HRX := hide hrx
      have HB1 := hide (below_alloc (Below.refl wr.heap.size wr) (.cells #[.int .i64 x.f0, .string x.f1, .int .i64 x.f2, .slice A' x.f3.length c'] 24))
      clear hx hrx
      cases hP : P x with
      | true =>
        have HPX := hide hP
        clear hP
        go_wp2_with ((with_reducible refine calls_gate ?_); refine (HT.out x (List.mem_of_getElem? HX.out) A' c' _ (Q.out.below.trans (HB1.out.mono Q.out.below.size)) (HRX.out.below HB1.out)).mono ?_; rintro e w2 ⟨rfl, h2⟩; rw [HPX.out]; have HB2 := hide (HB1.out.trans (h2.mono (by simp))); clear h2)
        go_roundg (n - i)
        case measure => omega
        case rel => exact ⟨i + 1, by omega, by omega, by go_num, ⟨⟨C_le Q.out.r1 HB2.out, Q.out.below.trans (HB2.out.mono Q.out.below.size), by rw [Q.out.eq, all_drop HX.out, HPX.out]; rfl⟩⟩⟩
      | false =>
        have HPX := hide hP
        clear hP
        go_wp2_with ((with_reducible refine calls_gate ?_); refine (HT.out x (List.mem_of_getElem? HX.out) A' c' _ (Q.out.below.trans (HB1.out.mono Q.out.below.size)) (HRX.out.below HB1.out)).mono ?_; rintro e w2 ⟨rfl, h2⟩; rw [HPX.out]; have HB2 := hide (HB1.out.trans (h2.mono (by simp))); clear h2)
        go_ret
        exact ⟨ret_bool (by rw [Q.out.eq, all_drop HX.out, HPX.out]; rfl), Q.out.below.trans (HB2.out.mono Q.out.below.size)⟩
    · obtain rfl : i = n := by omega
      go_wp2
      go_ret
      exact ⟨ret_bool (by rw [Q.out.eq, List.drop_eq_nil_of_le (by rw [HN.out]; exact Nat.le_refl _)]; rfl), Q.out.below⟩
set_option maxRecDepth 100000 in
set_option maxHeartbeats 2000000 in
theorem all1_any (K : Nat) (a : Option Addr) (he : Enters Tryd.prog K) (l : List Tr) (P : Tr → Bool) (hl : l.length ≤ 2513169434843) (A : Option Addr) (c : Nat) (w : World) (h : Kd.C KT w A l.length l) (hT : Tells1 K a l P w) :
    Calls Tryd.prog 25 #[.slice A l.length c, .func (.func K) #[] #[.pointer a]] w (SameB w (l.all P)) := by
  have hent : ∀ (args : Array Value) (w : World), (callFunc K args).run Tryd.prog w = .ok (.enter K args) w := he
  have HT := hide hT
  have Q0 := hide (show AQ w l A l.length P 0 w from ⟨h, Below.refl _ _, by simp⟩)
  obtain ⟨n, hn⟩ : ∃ n, l.length = n := ⟨_, rfl⟩
  have HN := hide hn
  rw [hn] at hl Q0 ⊢
  clear hT h hn he
  go_enter Tryd.func25, Tryd.ntmps25
  go_wp2
  go_loopg [9] (n + 1) (fun gk v9 wr => ∃ i : Nat, i ≤ n ∧ n - i < gk ∧ v9 = .int .i64 i ∧ Aside0 (AQ w l A n P i wr))
  case atStart => exact ⟨0, Nat.zero_le _, by omega, rfl, Q0⟩
  case round =>
    obtain ⟨i, hi, hgk, rfl, Q⟩ := hrel
    clear Q0
    by_cases hlt : i < n
    · have hlti : (i : Int) < (n : Int) := by omega
      obtain ⟨x, hx⟩ := get_of (l := l) (i := i) (by rw [HN.out]; exact hlt)
      obtain ⟨ad, A', c', rfl, hrx, k0, k1, k2, k3⟩ := C_kid Q.out.r1 hx
      have HX := hide hx
      have HRX := hide hrx
      have HB1 := hide (below_alloc (Below.refl wr.heap.size wr) (.cells #[.int .i64 x.f0, .string x.f1, .int .i64 x.f2, .slice A' x.f3.length c'] 24))
      clear hx hrx
      cases hP : P x with
      | true =>
        have HPX := hide hP
        clear hP
        go_wp2_with ((with_reducible refine calls_gate ?_); refine (HT.out x (List.mem_of_getElem? HX.out) A' c' _ (Q.out.below.trans (HB1.out.mono Q.out.below.size)) (HRX.out.below HB1.out)).mono ?_; rintro e w2 ⟨rfl, h2⟩; rw [HPX.out]; have HB2 := hide (HB1.out.trans (h2.mono (by simp))); clear h2)
        go_roundg (n - i)
        case measure => omega
        case rel => exact ⟨i + 1, by omega, by omega, by go_num, ⟨⟨C_le Q.out.r1 HB2.out, Q.out.below.trans (HB2.out.mono Q.out.below.size), by rw [Q.out.eq, all_drop HX.out, HPX.out]; rfl⟩⟩⟩
      | false =>
        have HPX := hide hP
        clear hP
        go_wp2_with ((with_reducible refine calls_gate ?_); refine (HT.out x (List.mem_of_getElem? HX.out) A' c' _ (Q.out.below.trans (HB1.out.mono Q.out.below.size)) (HRX.out.below HB1.out)).mono ?_; rintro e w2 ⟨rfl, h2⟩; rw [HPX.out]; have HB2 := hide (HB1.out.trans (h2.mono (by simp))); clear h2)
        go_ret
        exact ⟨ret_bool (by rw [Q.out.eq, all_drop HX.out, HPX.out]; rfl), Q.out.below.trans (HB2.out.mono Q.out.below.size)⟩
    · obtain rfl : i = n := by omega
      go_wp2
      go_ret
      exact ⟨ret_bool (by rw [Q.out.eq, List.drop_eq_nil_of_le (by rw [HN.out]; exact Nat.le_refl _)]; rfl), Q.out.below⟩

/-- a function's value: the function, and the pointer that it has caught, if it has -/
structure FV where
  K : Nat
  cap : Option (Option Addr)
def FV.caps (f : FV) : Array Value := match f.cap with
  | none => #[]
  | some a => #[.pointer a]
def FV.val (f : FV) : Value := .func (.func f.K) #[] f.caps
/-- it tells b of the tree y -/
def FV.Tells (f : FV) (y : Tr) (b : Bool) (w0 : World) : Prop := ∀ A c w, Below w0.heap.size w0 w → Rd w y A c → Calls Tryd.prog f.K (#[nd y A c] ++ f.caps) w (SameB w b)
def rowB : List (Tr → Bool) → List Tr → Bool
  | [], [] => true
  | P :: Ps, y :: l => P y && rowB Ps l
  | _, _ => false
theorem rowB_len {Ps : List (Tr → Bool)} : ∀ {l : List Tr}, Ps.length ≠ l.length → rowB Ps l = false := by
  induction Ps with
  | nil => intro l h; cases l with
    | nil => simp at h
    | cons y l => rfl
  | cons P Ps ih => intro l h; cases l with
    | nil => rfl
    | cons y l => rw [rowB, ih (by simpa using h)]; simp
theorem rowB_drop {Ps : List (Tr → Bool)} {l : List Tr} {i : Nat} {P : Tr → Bool} {y : Tr} (h : Ps[i]? = some P) (k : l[i]? = some y) : rowB (Ps.drop i) (l.drop i) = (P y && rowB (Ps.drop (i + 1)) (l.drop (i + 1))) := by
  rw [drop_at h, drop_at k, rowB]
structure RQ (w : World) (x : Tr) (A : Option Addr) (c n : Nat) (fs : List (FV × (Tr → Bool))) (af : Addr) (i : Nat) (wr : World) : Prop where
  blk : wr.heap[w.heap.size]? = some (.cells #[.int .i64 x.f0, .string x.f1, .int .i64 x.f2, .slice A n c] 24 (0, 0))
  rd : Rd wr x A c
  cells : ∀ i v, fs[i]? = some v → wr.cell? (af.add i) = some v.1.val
  below : Below w.heap.size w wr
  eq : rowB (fs.map Prod.snd) x.f3 = rowB ((fs.map Prod.snd).drop i) (x.f3.drop i)
theorem RQ.next {w wr w2 : World} {x : Tr} {A : Option Addr} {c n : Nat} {fs : List (FV × (Tr → Bool))} {af : Addr} {i : Nat} {f : FV × (Tr → Bool)} {y : Tr} (q : RQ w x A c n fs af i wr) (hf : fs[i]? = some f) (hy : x.f3[i]? = some y) (hP : f.2 y = true) (hb : Below wr.heap.size wr w2) : RQ w x A c n fs af (i + 1) w2 :=
  ⟨(hb.block _ (blk_lt q.blk)).trans q.blk, q.rd.below hb, fun j v hv => pw_cell_below hb (q.cells j v hv), q.below.trans (hb.mono q.below.size), by rw [q.eq, rowB_drop (P := f.2) (by rw [List.getElem?_map, hf]; rfl) hy, hP]; rfl⟩

set_option maxRecDepth 100000 in
set_option maxHeartbeats 4000000 in
theorem row_any (x : Tr) (fs : List (FV × (Tr → Bool))) (hl : x.f3.length ≤ 2513169434843) (hm : fs.length ≤ 1000) (he : ∀ f, f ∈ fs → Enters Tryd.prog f.1.K) (A : Option Addr) (c : Nat) (af : Addr) (w : World) (h : Rd w x A c)
    (hc : ∀ i v, fs[i]? = some v → w.cell? (af.add i) = some v.1.val) (hT : ∀ (i : Nat) f y, fs[i]? = some f → x.f3[i]? = some y → f.1.Tells y (f.2 y) w) :
    Calls Tryd.prog 35 #[nd x A c, .slice (some af) fs.length fs.length] w (SameB w (rowB (fs.map Prod.snd) x.f3)) := by
  have HT := hide hT
  have HE := hide he
  have HR := hide h
  have HC := hide hc
  obtain ⟨n, hn⟩ : ∃ n, x.f3.length = n := ⟨_, rfl⟩
  obtain ⟨m, hmm⟩ : ∃ m, fs.length = m := ⟨_, rfl⟩
  have HN := hide hn
  have HM := hide hmm
  unfold nd
  rw [hn] at hl ⊢
  rw [hmm] at hm ⊢
  have Q0 := hide (show RQ w x A c n fs af 0 (w.alloc (.cells #[.int .i64 x.f0, .string x.f1, .int .i64 x.f2, .slice A n c] 24)) from ⟨blk_new w _, h.below (below_alloc (Below.refl _ _) _), fun i v hv => cell_al _ (hc i v hv), below_alloc (Below.refl _ _) _, by simp⟩)
  clear hT he h hc hn hmm
  by_cases hne : n = m
  · subst hne
    go_enter Tryd.func35, Tryd.ntmps35
    go_wp2
    go_loopg [15] (n + 1) (fun gk v15 wr => ∃ i : Nat, i ≤ n ∧ n - i < gk ∧ v15 = .int .i64 i ∧ Aside0 (RQ w x A c n fs af i wr))
    case atStart => exact ⟨0, Nat.zero_le _, by omega, rfl, Q0⟩
    case round =>
      obtain ⟨i, hi, hgk, rfl, Q⟩ := hrel
      clear Q0
      by_cases hlt : i < n
      · have hlti : (i : Int) < (n : Int) := by omega
        obtain ⟨y, hy⟩ := get_of (l := x.f3) (i := i) (by rw [HN.out]; exact hlt)
        obtain ⟨f, hf⟩ : ∃ f, fs[i]? = some f := ⟨_, List.getElem?_eq_getElem (by rw [HM.out]; exact hlt)⟩
        obtain ⟨ad, A', c', rfl, hry, k0, k1, k2, k3⟩ := Q.out.rd.kid hy
        have cf := Q.out.cells i f hf
        have cb := (blk_cell Q.out.blk 3).trans rfl
        have HTF := hide (HT.out i f y hf hy)
        have hent : ∀ (args : Array Value) (w : World), (callFunc f.1.K args).run Tryd.prog w = .ok (.enter f.1.K args) w := HE.out f (List.mem_of_getElem? hf)
        have HF := hide hf
        have HY := hide hy
        have HRY := hide hry
        obtain ⟨⟨K, cap⟩, P⟩ := f
        clear hf hy hry
        simp only [FV.val, FV.caps] at cf hent
        have HTG := hide (HTF.out : ∀ A c w', Below w.heap.size w w' → Rd w' y A c → Calls Tryd.prog K (#[nd y A c] ++ FV.caps ⟨K, cap⟩) w' (SameB w' (P y)))
        clear HTF
        cases cap with
        | none =>
          simp only at cf
          have HTH := hide (HTG.out : ∀ A c w', Below w.heap.size w w' → Rd w' y A c → Calls Tryd.prog K #[nd y A c] w' (SameB w' (P y)))
          clear HTG
          cases hP : P y with
          | true =>
            have HPX := hide hP
            clear hP
            go_wp2_with ((with_reducible refine calls_gate ?_); refine (HTH.out A' c' _ Q.out.below HRY.out).mono ?_; rintro e w2 ⟨rfl, h2⟩; rw [HPX.out]; have Q2 := hide (Q.out.next HF.out HY.out HPX.out h2); clear h2)
            go_roundg (n - i)
            case measure => omega
            case rel => exact ⟨i + 1, by omega, by omega, by go_num, Q2⟩
          | false =>
            have HPX := hide hP
            clear hP
            go_wp2_with ((with_reducible refine calls_gate ?_); refine (HTH.out A' c' _ Q.out.below HRY.out).mono ?_; rintro e w2 ⟨rfl, h2⟩; rw [HPX.out]; have HB2 := hide (Q.out.below.trans (h2.mono Q.out.below.size)); clear h2)
            go_ret
            exact ⟨ret_bool (by rw [Q.out.eq, rowB_drop (P := P) (by rw [List.getElem?_map, HF.out]; rfl) HY.out, HPX.out]; rfl), HB2.out⟩
        | some a =>
          simp only at cf
          have HTH := hide (HTG.out : ∀ A c w', Below w.heap.size w w' → Rd w' y A c → Calls Tryd.prog K #[nd y A c, .pointer a] w' (SameB w' (P y)))
          clear HTG
          cases hP : P y with
          | true =>
            have HPX := hide hP
            clear hP
            go_wp2_with ((with_reducible refine calls_gate ?_); refine (HTH.out A' c' _ Q.out.below HRY.out).mono ?_; rintro e w2 ⟨rfl, h2⟩; rw [HPX.out]; have Q2 := hide (Q.out.next HF.out HY.out HPX.out h2); clear h2)
            go_roundg (n - i)
            case measure => omega
            case rel => exact ⟨i + 1, by omega, by omega, by go_num, Q2⟩
          | false =>
            have HPX := hide hP
            clear hP
            go_wp2_with ((with_reducible refine calls_gate ?_); refine (HTH.out A' c' _ Q.out.below HRY.out).mono ?_; rintro e w2 ⟨rfl, h2⟩; rw [HPX.out]; have HB2 := hide (Q.out.below.trans (h2.mono Q.out.below.size)); clear h2)
            go_ret
            exact ⟨ret_bool (by rw [Q.out.eq, rowB_drop (P := P) (by rw [List.getElem?_map, HF.out]; rfl) HY.out, HPX.out]; rfl), HB2.out⟩
      · obtain rfl : i = n := by omega
        go_wp2
        go_ret
        exact ⟨ret_bool (by rw [Q.out.eq, List.drop_eq_nil_of_le (by rw [List.length_map, HM.out]; exact Nat.le_refl _), List.drop_eq_nil_of_le (by rw [HN.out]; exact Nat.le_refl _)]; rfl), Q.out.below⟩
  · have hni : ((n : Int) == (m : Int)) = false := by simp; omega
    have hni2 : ((n : Int) != (m : Int)) = true := by simp; omega
    have hni3 : ¬ (n : Int) = (m : Int) := by omega
    go_enter Tryd.func35, Tryd.ntmps35
    go_wp2
    go_ret
    exact ⟨ret_bool (rowB_len (by rw [List.length_map, HM.out, HN.out]; omega)).symm, Q0.out.below⟩
theorem FV.Tells.below {f : FV} {y : Tr} {b : Bool} {w w' : World} (h : f.Tells y b w) (hb : Below w.heap.size w w') : f.Tells y b w' := fun A c W hW hr => h A c W (hb.trans (hW.mono hb.size)) hr
theorem Tells0.below {K : Nat} {l : List Tr} {P : Tr → Bool} {w w' : World} (h : Tells0 K l P w) (hb : Below w.heap.size w w') : Tells0 K l P w' := fun y hy A c W hW hr => h y hy A c W (hb.trans (hW.mono hb.size)) hr
theorem Tells1.below {K : Nat} {a : Option Addr} {l : List Tr} {P : Tr → Bool} {w w' : World} (h : Tells1 K a l P w) (hb : Below w.heap.size w w') : Tells1 K a l P w' := fun y hy A c W hW hr => h y hy A c W (hb.trans (hW.mono hb.size)) hr
/-- row, where its functions have just been put into a slice -/
theorem row_built (x : Tr) (fs : List (FV × (Tr → Bool))) (t : TypeId) (hl : x.f3.length ≤ 2513169434843) (hm : fs.length ≤ 1000) (he : ∀ f, f ∈ fs → Enters Tryd.prog f.1.K) (A : Option Addr) (c : Nat) (w : World) (h : Rd w x A c)
    (hT : ∀ (i : Nat) f y, fs[i]? = some f → x.f3[i]? = some y → f.1.Tells y (f.2 y) w) :
    Calls Tryd.prog 35 #[nd x A c, .slice (some ⟨w.heap.size, 0, none⟩) fs.length fs.length] (w.alloc (.cells (fs.map (fun f => f.1.val)).toArray t)) fun e w' => e = .returned (.bool (rowB (fs.map Prod.snd) x.f3)) ∧ Below w.heap.size w w' := by
  have hb := below_alloc (Below.refl w.heap.size w) (.cells (fs.map (fun f => f.1.val)).toArray t)
  refine (row_any x fs hl hm he A c ⟨w.heap.size, 0, none⟩ _ (h.below hb) (fun i v hv => ?_) (fun i f y hf hy => (hT i f y hf hy).below hb)).mono ?_
  · rw [add_plain, blk_cell (blk_new w _) i]
    simp [hv]
  · rintro e w' ⟨rfl, h2⟩
    exact ⟨rfl, hb.trans (h2.mono hb.size)⟩
end Go.Proofs.YtldgmneijipbjaaDoor.H
