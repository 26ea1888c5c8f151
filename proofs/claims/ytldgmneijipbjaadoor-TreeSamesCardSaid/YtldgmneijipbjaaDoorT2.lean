/- What the printed functions on trees answer. -/
import Derived.Test.YtldgmneijipbjaaDoorPrA
import Derived.Test.YtldgmneijipbjaaDoorPrB
import Derived.Test.YtldgmneijipbjaaDoorT0
import Derived.Laws.Strings
namespace Go.Proofs.YtldgmneijipbjaaDoor.Pu
open Go.RowKit Go.Proofs.YtldgmneijipbjaaDoorW.PrintWords
open PTreeSames H
set_option linter.unusedVariables false

theorem wrap_small {j : Int} (h0 : 0 ≤ j) (h : j ≤ 9223372036854775806) : wrap64 (j + 1) = j + 1 := by unfold wrap64; omega
theorem ev_eq {α : Type} {g : Nat → Option α} {a b : α} (h : Ev g a) (e : a = b) : Ev g b := e ▸ h
theorem rd_at {l : List Tr} {i : Nat} {y : Tr} (h : l[i]? = some y) : rd_T24 l (i : Int) = y := by unfold rd_T24; rw [Int.toNat_natCast, List.getD_eq_getElem?_getD, h]; rfl
theorem drop_at {α : Type} {l : List α} {i : Nat} {y : α} (h : l[i]? = some y) : l.drop i = y :: l.drop (i + 1) := by
  have hi := (List.getElem?_eq_some_iff.1 h).1
  rw [List.drop_eq_getElem_cons hi, (List.getElem?_eq_some_iff.1 h).2]
theorem str_eq {a b : ByteArray} : a.toList = b.toList ↔ a = b := by
  rw [ByteArray.toList_eq, ByteArray.toList_eq]
  exact ⟨fun h => WideShapes.bytes_inj h, fun h => by rw [h]⟩

mutual
/-- how many trees a tree is, as the program counts -/
def szW : Tr → Int
  | ⟨_, _, _, l⟩ => szL 1 l
def szL : Int → List Tr → Int
  | a, [] => a
  | a, x :: l => szL (wrap64 (a + szW x)) l
end
mutual
/-- how deep a tree is, as the program counts -/
def dpW : Tr → Int
  | ⟨_, _, _, l⟩ => dpL 0 l
def dpL : Int → List Tr → Int
  | a, [] => wrap64 (a + 1)
  | a, x :: l => dpL (mx a (dpW x)) l
end
theorem szW_eq (x : Tr) : szW x = szL 1 x.f3 := by obtain ⟨a, b, c, l⟩ := x; rw [szW]
theorem dpW_eq (x : Tr) : dpW x = dpL 0 x.f3 := by obtain ⟨a, b, c, l⟩ := x; rw [dpW]

section
variable {x : Tr} {i : Nat}
theorem get_of {l : List Tr} (h : i < l.length) : ∃ y, l[i]? = some y := ⟨_, List.getElem?_eq_getElem h⟩
end

theorem tsize_ev (m : Nat) : ∀ x : Tr, SizeOf.sizeOf x ≤ m → Fit x → Ev (fun k => tree_Size.f k x.f0 x.f1 x.f2 x.f3) (szW x) := by
  induction m with
  | zero => intro x hx; obtain ⟨a, b, c, d⟩ := x; simp [S24.mk.sizeOf_spec] at hx
  | succ m ih =>
    intro x hx hf
    have hl := hf.len
    have loop : ∀ d i : Nat, x.f3.length - i = d → i ≤ x.f3.length → ∀ a, Ev (fun k => tree_Size.l0 k a x.f3 (x.f3.length : Int) (i : Int)) (szL a (x.f3.drop i)) := by
      intro d
      induction d with
      | zero =>
        intro i hi hle a
        refine ev_eq (Ev.step (f := fun _ => some a) (fun k => ?_) (Ev.now _)) ?_
        · simp only [tree_Size.l0]; rw [if_neg (by omega)]
        · rw [List.drop_eq_nil_of_le (by omega), szL]
      | succ d ihd =>
        intro i hi hle a
        obtain ⟨y, hy⟩ := get_of (l := x.f3) (i := i) (by omega)
        rw [drop_at hy, szL]
        refine Ev.step (f := fun k => (tree_Size.f k y.f0 y.f1 y.f2 y.f3).bind fun t => tree_Size.l0 k (wrap64 (a + t)) x.f3 (x.f3.length : Int) ((i + 1 : Nat) : Int)) (fun k => ?_) ?_
        · simp only [tree_Size.l0]; rw [if_pos (by omega), if_pos (by omega), if_pos (by omega), rd_at hy, wrap_small (by omega) (by omega)]; rfl
        · exact Ev.bind (ih y (by have := kid_lt (kid_mem hy); omega) (hf.kid (kid_mem hy))) (ihd (i + 1) (by omega) (by omega) _)
    rw [szW_eq]
    refine Ev.step (f := fun k => tree_Size.l0 k 1 x.f3 (x.f3.length : Int) 0) (fun k => ?_) ?_
    · simp only [tree_Size.f]
    · exact loop x.f3.length 0 (by omega) (by omega) 1
theorem rsize_ev (m : Nat) : ∀ x : Tr, SizeOf.sizeOf x ≤ m → Fit x → Ev (fun k => gussetref05_Size.f k x.f0 x.f1 x.f2 x.f3) (szW x) := by
  induction m with
  | zero => intro x hx; obtain ⟨a, b, c, d⟩ := x; simp [S24.mk.sizeOf_spec] at hx
  | succ m ih =>
    intro x hx hf
    have hl := hf.len
    have loop : ∀ d i : Nat, x.f3.length - i = d → i ≤ x.f3.length → ∀ a, Ev (fun k => gussetref05_Size.l0 k a (i : Int) x.f0 x.f1 x.f2 x.f3) (szL a (x.f3.drop i)) := by
      intro d
      induction d with
      | zero =>
        intro i hi hle a
        refine ev_eq (Ev.step (f := fun _ => some a) (fun k => ?_) (Ev.now _)) ?_
        · simp only [gussetref05_Size.l0]; rw [if_neg (by omega)]
        · rw [List.drop_eq_nil_of_le (by omega), szL]
      | succ d ihd =>
        intro i hi hle a
        obtain ⟨y, hy⟩ := get_of (l := x.f3) (i := i) (by omega)
        rw [drop_at hy, szL]
        refine Ev.step (f := fun k => (gussetref05_Size.f k y.f0 y.f1 y.f2 y.f3).bind fun t => gussetref05_Size.l0 k (wrap64 (a + t)) ((i + 1 : Nat) : Int) x.f0 x.f1 x.f2 x.f3) (fun k => ?_) ?_
        · simp only [gussetref05_Size.l0]; rw [if_pos (by omega), if_pos (by omega), rd_at hy, wrap_small (by omega) (by omega)]; rfl
        · exact Ev.bind (ih y (by have := kid_lt (kid_mem hy); omega) (hf.kid (kid_mem hy))) (ihd (i + 1) (by omega) (by omega) _)
    rw [szW_eq]
    refine Ev.step (f := fun k => gussetref05_Size.l0 k 1 0 x.f0 x.f1 x.f2 x.f3) (fun k => ?_) ?_
    · simp only [gussetref05_Size.f]
    · exact loop x.f3.length 0 (by omega) (by omega) 1
theorem tdepth_ev (m : Nat) : ∀ x : Tr, SizeOf.sizeOf x ≤ m → Fit x → Ev (fun k => tree_Depth.f k x.f0 x.f1 x.f2 x.f3) (dpW x) := by
  induction m with
  | zero => intro x hx; obtain ⟨a, b, c, d⟩ := x; simp [S24.mk.sizeOf_spec] at hx
  | succ m ih =>
    intro x hx hf
    have hl := hf.len
    have loop : ∀ d i : Nat, x.f3.length - i = d → i ≤ x.f3.length → ∀ a, Ev (fun k => tree_Depth.l0 k a x.f3 (x.f3.length : Int) (i : Int)) (dpL a (x.f3.drop i)) := by
      intro d
      induction d with
      | zero =>
        intro i hi hle a
        refine ev_eq (Ev.step (f := fun _ => some (wrap64 (a + 1))) (fun k => ?_) (Ev.now _)) ?_
        · simp only [tree_Depth.l0]; rw [if_neg (by omega)]
        · rw [List.drop_eq_nil_of_le (by omega), dpL]
      | succ d ihd =>
        intro i hi hle a
        obtain ⟨y, hy⟩ := get_of (l := x.f3) (i := i) (by omega)
        rw [drop_at hy, dpL]
        refine Ev.step (f := fun k => (tree_Depth.f k y.f0 y.f1 y.f2 y.f3).bind fun t => tree_Depth.l0 k (mx a t) x.f3 (x.f3.length : Int) ((i + 1 : Nat) : Int)) (fun k => ?_) ?_
        · simp only [tree_Depth.l0]; rw [if_pos (by omega), if_pos (by omega), if_pos (by omega), rd_at hy, wrap_small (by omega) (by omega)]; rfl
        · exact Ev.bind (ih y (by have := kid_lt (kid_mem hy); omega) (hf.kid (kid_mem hy))) (ihd (i + 1) (by omega) (by omega) _)
    rw [dpW_eq]
    refine Ev.step (f := fun k => tree_Depth.l0 k 0 x.f3 (x.f3.length : Int) 0) (fun k => ?_) ?_
    · simp only [tree_Depth.f]
    · exact loop x.f3.length 0 (by omega) (by omega) 0
theorem rdepth_ev (m : Nat) : ∀ x : Tr, SizeOf.sizeOf x ≤ m → Fit x → Ev (fun k => gussetref05_Depth.f k x.f0 x.f1 x.f2 x.f3) (dpW x) := by
  induction m with
  | zero => intro x hx; obtain ⟨a, b, c, d⟩ := x; simp [S24.mk.sizeOf_spec] at hx
  | succ m ih =>
    intro x hx hf
    have hl := hf.len
    have loop : ∀ d i : Nat, x.f3.length - i = d → i ≤ x.f3.length → ∀ a, Ev (fun k => gussetref05_Depth.l0 k a (i : Int) x.f0 x.f1 x.f2 x.f3) (dpL a (x.f3.drop i)) := by
      intro d
      induction d with
      | zero =>
        intro i hi hle a
        refine ev_eq (Ev.step (f := fun _ => some (wrap64 (a + 1))) (fun k => ?_) (Ev.now _)) ?_
        · simp only [gussetref05_Depth.l0]; rw [if_neg (by omega)]
        · rw [List.drop_eq_nil_of_le (by omega), dpL]
      | succ d ihd =>
        intro i hi hle a
        obtain ⟨y, hy⟩ := get_of (l := x.f3) (i := i) (by omega)
        rw [drop_at hy, dpL]
        refine Ev.step (f := fun k => (gussetref05_Depth.f k y.f0 y.f1 y.f2 y.f3).bind fun t => gussetref05_Depth.l0 k (mx a t) ((i + 1 : Nat) : Int) x.f0 x.f1 x.f2 x.f3) (fun k => ?_) ?_
        · simp only [gussetref05_Depth.l0]; rw [if_pos (by omega), if_pos (by omega), rd_at hy, wrap_small (by omega) (by omega)]; rfl
        · exact Ev.bind (ih y (by have := kid_lt (kid_mem hy); omega) (hf.kid (kid_mem hy))) (ihd (i + 1) (by omega) (by omega) _)
    rw [dpW_eq]
    refine Ev.step (f := fun k => gussetref05_Depth.l0 k 0 0 x.f0 x.f1 x.f2 x.f3) (fun k => ?_) ?_
    · simp only [gussetref05_Depth.f]
    · exact loop x.f3.length 0 (by omega) (by omega) 0
theorem rcopy_ev (m : Nat) : ∀ x : Tr, SizeOf.sizeOf x ≤ m → Fit x → Ev (fun k => gussetref05_Copy.f k x.f0 x.f1 x.f2 x.f3) (x.f0, x.f1, x.f2, x.f3) := by
  induction m with
  | zero => intro x hx; obtain ⟨a, b, c, d⟩ := x; simp [S24.mk.sizeOf_spec] at hx
  | succ m ih =>
    intro x hx hf
    have hl := hf.len
    have loop : ∀ d i : Nat, x.f3.length - i = d → i ≤ x.f3.length → Ev (fun k => gussetref05_Copy.l0 k (i : Int) x.f0 x.f1 x.f2 x.f3 x.f0 x.f1 x.f2 (x.f3.take i)) (x.f0, x.f1, x.f2, x.f3) := by
      intro d
      induction d with
      | zero =>
        intro i hi hle
        refine ev_eq (Ev.step (f := fun _ => some (x.f0, x.f1, x.f2, x.f3.take i)) (fun k => ?_) (Ev.now _)) ?_
        · simp only [gussetref05_Copy.l0]; rw [if_neg (by omega)]
        · rw [List.take_of_length_le (by omega)]
      | succ d ihd =>
        intro i hi hle
        obtain ⟨y, hy⟩ := get_of (l := x.f3) (i := i) (by omega)
        refine Ev.step (f := fun k => (gussetref05_Copy.f k y.f0 y.f1 y.f2 y.f3).bind fun b => gussetref05_Copy.l0 k ((i + 1 : Nat) : Int) x.f0 x.f1 x.f2 x.f3 x.f0 x.f1 x.f2 (x.f3.take i ++ [(⟨b.1, b.2.1, b.2.2.1, b.2.2.2⟩ : Tr)])) (fun k => ?_) ?_
        · simp only [gussetref05_Copy.l0]; rw [if_pos (by omega), if_pos (by omega), rd_at hy, wrap_small (by omega) (by omega)]
          simp only [if_pos (show (x.f3.take i).length < 2513169434916 by rw [List.length_take]; omega)]
          rfl
        · refine Ev.bind (ih y (by have := kid_lt (kid_mem hy); omega) (hf.kid (kid_mem hy))) ?_
          have e : x.f3.take i ++ [(⟨y.f0, y.f1, y.f2, y.f3⟩ : Tr)] = x.f3.take (i + 1) := by
            have hi := (List.getElem?_eq_some_iff.1 hy).1
            rw [List.take_succ_eq_append_getElem hi, (List.getElem?_eq_some_iff.1 hy).2]; cases y; rfl
          simp only [e]
          exact ihd (i + 1) (by omega) (by omega)
    refine Ev.step (f := fun k => gussetref05_Copy.l0 k 0 x.f0 x.f1 x.f2 x.f3 x.f0 x.f1 x.f2 []) (fun k => ?_) ?_
    · simp only [gussetref05_Copy.f]
    · exact loop x.f3.length 0 (by omega) (by omega)
open Classical in
/-- whether two trees are one -/
noncomputable def sm {α : Type} (a b : α) : Bool := decide (a = b)
open Classical in
theorem sm_true {α : Type} {a b : α} (h : a = b) : sm a b = true := by unfold sm; exact decide_eq_true h
open Classical in
theorem sm_false {α : Type} {a b : α} (h : ¬ a = b) : sm a b = false := by unfold sm; exact decide_eq_false h
theorem sm_congr {α β : Type} {a b : α} {c d : β} (h : a = b ↔ c = d) : sm a b = sm c d := by
  by_cases e : a = b
  · rw [sm_true e, sm_true (h.1 e)]
  · rw [sm_false e, sm_false (fun q => e (h.2 q))]
theorem rsame_ev (m : Nat) : ∀ x y : Tr, SizeOf.sizeOf x ≤ m → Fit x → Fit y → Ev (fun k => gussetref05_Same.f k x.f0 x.f1 x.f2 x.f3 y.f0 y.f1 y.f2 y.f3) (sm x y) := by
  induction m with
  | zero => intro x y hx; obtain ⟨a, b, c, d⟩ := x; simp [S24.mk.sizeOf_spec] at hx
  | succ m ih =>
    intro x y hx hf hg
    have hl := hf.len
    have hm := hg.len
    have loop : x.f3.length = y.f3.length → ∀ d i : Nat, x.f3.length - i = d → i ≤ x.f3.length → Ev (fun k => gussetref05_Same.l0 k (i : Int) x.f0 x.f1 x.f2 x.f3 y.f0 y.f1 y.f2 y.f3) (sm (x.f3.drop i) (y.f3.drop i)) := by
      intro hle d
      induction d with
      | zero =>
        intro i hi hle2
        refine ev_eq (Ev.step (f := fun _ => some true) (fun k => ?_) (Ev.now _)) ?_
        · simp only [gussetref05_Same.l0]; rw [if_neg (by omega)]
        · rw [List.drop_eq_nil_of_le (by omega), List.drop_eq_nil_of_le (by omega), sm_true rfl]
      | succ d ihd =>
        intro i hi hle2
        obtain ⟨a, ha⟩ := get_of (l := x.f3) (i := i) (by omega)
        obtain ⟨b, hb⟩ := get_of (l := y.f3) (i := i) (by omega)
        rw [drop_at ha, drop_at hb]
        refine Ev.step (f := fun k => (gussetref05_Same.f k a.f0 a.f1 a.f2 a.f3 b.f0 b.f1 b.f2 b.f3).bind fun t => if t = true then gussetref05_Same.l0 k ((i + 1 : Nat) : Int) x.f0 x.f1 x.f2 x.f3 y.f0 y.f1 y.f2 y.f3 else some false) (fun k => ?_) ?_
        · simp only [gussetref05_Same.l0]; rw [if_pos (by omega), if_pos (by omega), if_pos (by omega), rd_at ha, rd_at hb, wrap_small (by omega) (by omega)]; rfl
        · refine Ev.bind (ih a b (by have := kid_lt (kid_mem ha); omega) (hf.kid (kid_mem ha)) (hg.kid (kid_mem hb))) ?_
          by_cases e : a = b
          · rw [sm_true e]
            simp only [if_true]
            refine ev_eq (ihd (i + 1) (by omega) (by omega)) (sm_congr ?_)
            rw [e]
            simp
          · rw [sm_false e]
            refine ev_eq (Ev.congr (f := fun _ => some false) (fun k => by simp) (Ev.now _)) ?_
            rw [sm_false]
            intro q
            exact e (List.cons.inj q).1
    have hj : Ev (fun k => gussetref05_Same.j0 k true x.f0 x.f1 x.f2 x.f3 y.f0 y.f1 y.f2 y.f3) false := Ev.step (f := fun _ => some false) (fun k => by simp only [gussetref05_Same.j0, if_true]) (Ev.now _)
    obtain ⟨x0, x1, x2, xl⟩ := x
    obtain ⟨y0, y1, y2, yl⟩ := y
    simp only at *
    by_cases h0 : x0 = y0
    · by_cases h1 : x1.toList = y1.toList
      · by_cases h2 : x2 = y2
        · by_cases h3 : xl.length = yl.length
          · refine Ev.step (f := fun k => gussetref05_Same.j0 k ((xl.length : Int) != (yl.length : Int)) x0 x1 x2 xl y0 y1 y2 yl) (fun k => by simp only [gussetref05_Same.f]; rw [if_pos h0, if_pos h1, if_pos h2]) ?_
            have e : ((xl.length : Int) != (yl.length : Int)) = false := by rw [h3]; simp
            rw [e]
            refine Ev.step (f := fun k => gussetref05_Same.l0 k 0 x0 x1 x2 xl y0 y1 y2 yl) (fun k => by simp only [gussetref05_Same.j0]; rw [if_neg (by simp)]) ?_
            refine ev_eq (loop h3 xl.length 0 (by omega) (by omega)) (sm_congr ?_)
            rw [str_eq] at h1
            subst h0 h1 h2
            simp
          · refine Ev.step (f := fun k => gussetref05_Same.j0 k ((xl.length : Int) != (yl.length : Int)) x0 x1 x2 xl y0 y1 y2 yl) (fun k => by simp only [gussetref05_Same.f]; rw [if_pos h0, if_pos h1, if_pos h2]) ?_
            have e : ((xl.length : Int) != (yl.length : Int)) = true := by simp; omega
            rw [e, sm_false (fun q => h3 (by injection q with _ _ _ q; rw [q]))]
            exact hj
        · rw [sm_false (fun q => h2 (by injection q))]
          exact Ev.step (f := fun k => gussetref05_Same.j0 k true x0 x1 x2 xl y0 y1 y2 yl) (fun k => by simp only [gussetref05_Same.f]; rw [if_pos h0, if_pos h1, if_neg h2]) hj
      · rw [sm_false (fun q => h1 (str_eq.2 (by injection q)))]
        exact Ev.step (f := fun k => gussetref05_Same.j0 k true x0 x1 x2 xl y0 y1 y2 yl) (fun k => by simp only [gussetref05_Same.f]; rw [if_pos h0, if_neg h1]) hj
    · rw [sm_false (fun q => h0 (by injection q))]
      exact Ev.step (f := fun k => gussetref05_Same.j0 k true x0 x1 x2 xl y0 y1 y2 yl) (fun k => by simp only [gussetref05_Same.f]; rw [if_neg h0]) hj
end Go.Proofs.YtldgmneijipbjaaDoor.Pu
namespace Go.Proofs.YtldgmneijipbjaaDoor.H
open Go.RowKit Go.Proofs.YtldgmneijipbjaaDoorW.PrintWords
open PTreeSames Pu
variable {x y : Tr} {A B : Option Addr} {c d : Nat} {w : World}
theorem tsize_any (hf : Fit x) (h : Rd w x A c) : Calls Tryd.prog 13 #[nd x A c] w fun e w' => e = .returned (.int .i64 (szW x)) ∧ Below w.heap.size w w' := by
  obtain ⟨k, hk⟩ := (tsize_ev _ x (Nat.le_refl _) hf).rounds
  exact tree_Size.calls k _ _ _ A c _ _ w h.kids h.cap hk
theorem rsize_any (hf : Fit x) (h : Rd w x A c) : Calls Tryd.prog 14 #[nd x A c] w fun e w' => e = .returned (.int .i64 (szW x)) ∧ Below w.heap.size w w' := by
  obtain ⟨k, hk⟩ := (rsize_ev _ x (Nat.le_refl _) hf).rounds
  exact gussetref05_Size.calls k _ _ _ A c _ _ w h.kids h.cap hk
theorem tdepth_any (hf : Fit x) (h : Rd w x A c) : Calls Tryd.prog 15 #[nd x A c] w fun e w' => e = .returned (.int .i64 (dpW x)) ∧ Below w.heap.size w w' := by
  obtain ⟨k, hk⟩ := (tdepth_ev _ x (Nat.le_refl _) hf).rounds
  exact tree_Depth.calls k _ _ _ A c _ _ w h.kids h.cap hk
theorem rdepth_any (hf : Fit x) (h : Rd w x A c) : Calls Tryd.prog 16 #[nd x A c] w fun e w' => e = .returned (.int .i64 (dpW x)) ∧ Below w.heap.size w w' := by
  obtain ⟨k, hk⟩ := (rdepth_ev _ x (Nat.le_refl _) hf).rounds
  exact gussetref05_Depth.calls k _ _ _ A c _ _ w h.kids h.cap hk
theorem rcopy_any (hf : Fit x) (h : Rd w x A c) : Calls Tryd.prog 11 #[nd x A c] w fun e w' => ∃ A' c', e = .returned (nd x A' c') ∧ Rd w' x A' c' ∧ Below w.heap.size w w' := by
  obtain ⟨k, hk⟩ := (rcopy_ev _ x (Nat.le_refl _) hf).rounds
  refine (gussetref05_Copy.calls k _ _ _ A c _ _ _ _ _ w h.kids h.cap hk).mono ?_
  rintro e w' ⟨v3, rfl, h1, h2⟩
  obtain ⟨A', c', rfl, hc, hC⟩ := Kd.R_reads h1
  exact ⟨A', c', rfl, ⟨hC, hc⟩, h2⟩
theorem rsame_any (hf : Fit x) (hg : Fit y) (h : Rd w x A c) (k : Rd w y B d) : Calls Tryd.prog 8 #[nd x A c, nd y B d] w fun e w' => e = .returned (.bool (sm x y)) ∧ Below w.heap.size w w' := by
  obtain ⟨n, hn⟩ := (rsame_ev _ x y (Nat.le_refl _) hf hg).rounds
  exact gussetref05_Same.calls n _ _ _ A c _ _ _ _ B d _ _ w h.kids h.cap k.kids k.cap hn
end Go.Proofs.YtldgmneijipbjaaDoor.H
