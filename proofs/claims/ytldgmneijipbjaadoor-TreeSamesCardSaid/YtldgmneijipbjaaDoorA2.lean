/- The forms of the example's trees. -/
import Derived.Test.YtldgmneijipbjaaDoorA1
import Derived.Test.YtldgmneijipbjaaDoorPrC
namespace Go.Proofs.YtldgmneijipbjaaDoor.H
open Go.RowKit Go.Shelf Go.Proofs.YtldgmneijipbjaaDoorW.PrintWords Go.Proofs.YtldgmneijipbjaaDoorW.PrintLast Go.Proofs.YtldgmneijipbjaaDoorW.PrintMore
open PTreeSames Pu
set_option linter.unusedVariables false
set_option linter.unusedSimpArgs false

theorem box4 {w w2 : World} {a b c d : Value} {t : TypeId} (h : Below (w.alloc (.cells #[a, b, c, d] t)).heap.size (w.alloc (.cells #[a, b, c, d] t)) w2) :
    w2.cell? ⟨w.heap.size, 0, none⟩ = some a ∧ w2.cell? ⟨w.heap.size, 1, none⟩ = some b ∧ w2.cell? ⟨w.heap.size, 2, none⟩ = some c ∧ w2.cell? ⟨w.heap.size, 3, none⟩ = some d ∧ Below w.heap.size w w2 :=
  ⟨pw_cell_below h (blk_cell (blk_new w _) 0), pw_cell_below h (blk_cell (blk_new w _) 1), pw_cell_below h (blk_cell (blk_new w _) 2), pw_cell_below h (blk_cell (blk_new w _) 3), (below_alloc (Below.refl w.heap.size w) _).trans (h.mono (by simp))⟩
section
variable (w : World)
set_option maxHeartbeats 2000000 in
set_option maxRecDepth 100000 in
theorem expr_neg (A : Option Addr) (c : Nat) : Calls Tryd.prog 32 #[.agg #[.int .i64 1, .string mt, .int .i64 (-1), .slice A 0 c]] w (SameB w false) := by
  go_enter Tryd.func32, Tryd.ntmps32
  go_wp2_with (first | (go_at_call 24; refine (like_mt _ (-1) _ (by decide) _ _ _).mono ?_; rintro e w2 ⟨rfl, h2⟩; obtain ⟨c0, c1, c2, c3, hb⟩ := box4 h2; have HB2 := hide hb; clear h2 hb) | (go_at_call 53; refine (leaf_neg _ _ _).mono ?_; rintro e w3 ⟨rfl, h3⟩))
  go_ret
  exact ⟨rfl, HB2.out.trans (h3.mono HB2.out.size)⟩
set_option maxHeartbeats 2000000 in
set_option maxRecDepth 100000 in
theorem type_neg (A : Option Addr) (c : Nat) : Calls Tryd.prog 33 #[.agg #[.int .i64 1, .string mt, .int .i64 (-1), .slice A 0 c]] w (SameB w false) := by
  go_enter Tryd.func33, Tryd.ntmps33
  go_wp2_with ((go_at_call 24; refine (like_mt _ (-1) _ (by decide) _ _ _).mono ?_; rintro e w2 ⟨rfl, h2⟩; obtain ⟨c0, c1, c2, c3, hb⟩ := box4 h2; have HB2 := hide hb; clear h2 hb))
  go_ret
  exact ⟨rfl, HB2.out⟩
set_option maxHeartbeats 2000000 in
set_option maxRecDepth 100000 in
theorem stmt_neg (A : Option Addr) (c : Nat) : Calls Tryd.prog 29 #[.agg #[.int .i64 1, .string mt, .int .i64 (-1), .slice A 0 c]] w (SameB w false) := by
  go_enter Tryd.func29, Tryd.ntmps29
  go_wp2_with ((go_at_call 24; refine (like_mt _ (-1) _ (by decide) _ _ _).mono ?_; rintro e w2 ⟨rfl, h2⟩; obtain ⟨c0, c1, c2, c3, hb⟩ := box4 h2; have HB2 := hide hb; clear h2 hb))
  go_ret
  exact ⟨rfl, HB2.out⟩
set_option maxHeartbeats 2000000 in
set_option maxRecDepth 100000 in
theorem item_neg (A : Option Addr) (c : Nat) : Calls Tryd.prog 26 #[.agg #[.int .i64 1, .string mt, .int .i64 (-1), .slice A 0 c]] w (SameB w false) := by
  go_enter Tryd.func26, Tryd.ntmps26
  go_wp2_with (first | (go_at_call 24; refine (like_mt _ (-1) _ (by decide) _ _ _).mono ?_; rintro e w2 ⟨rfl, h2⟩; obtain ⟨c0, c1, c2, c3, hb⟩ := box4 h2; have HB2 := hide hb; clear h2 hb) | (go_at_call 29; refine (stmt_neg _ A c).mono ?_; rintro e w3 ⟨rfl, h3⟩))
  go_ret
  exact ⟨rfl, HB2.out.trans (h3.mono HB2.out.size)⟩
set_option maxHeartbeats 2000000 in
set_option maxRecDepth 100000 in
theorem form_neg (A : Option Addr) (c : Nat) : Calls Tryd.prog 21 #[.agg #[.int .i64 1, .string mt, .int .i64 (-1), .slice A 0 c]] w fun e w' => e = .returned (.int .i64 0) ∧ Below w.heap.size w w' := by
  go_enter Tryd.func21, Tryd.ntmps21
  go_wp2_with (first | (go_at_call 32; refine (expr_neg _ A c).mono ?_; rintro e w2 ⟨rfl, h2⟩; obtain ⟨c0, c1, c2, c3, hb⟩ := box4 h2; have HB2 := hide hb; clear h2 hb) | (go_at_call 33; refine (type_neg _ A c).mono ?_; rintro e w3 ⟨rfl, h3⟩; have d0 := pw_cell_below h3 c0; have d1 := pw_cell_below h3 c1; have d2 := pw_cell_below h3 c2; have d3 := pw_cell_below h3 c3; have HB3 := hide (HB2.out.trans (h3.mono HB2.out.size)); clear h3) | (go_at_call 29; refine (stmt_neg _ A c).mono ?_; rintro e w4 ⟨rfl, h4⟩; have e0 := pw_cell_below h4 d0; have e1 := pw_cell_below h4 d1; have e2 := pw_cell_below h4 d2; have e3 := pw_cell_below h4 d3; have HB4 := hide (HB3.out.trans (h4.mono HB3.out.size)); clear h4) | (go_at_call 26; refine (item_neg _ A c).mono ?_; rintro e w5 ⟨rfl, h5⟩; have HB5 := hide (HB4.out.trans (h5.mono HB4.out.size)); clear h5))
  go_ret
  exact ⟨rfl, HB5.out⟩
/-- nothing holds of all of no trees -/
theorem all_nil (K : Nat) (he : Enters Tryd.prog K) : Calls Tryd.prog 25 #[.slice none 0 0, .func (.func K) #[] #[]] w (SameB w true) :=
  all0_any K he [] (fun _ => true) (by simp) none 0 w ⟨rfl, by simp, fun h => by simp at h⟩ (fun y hy => by cases hy)
theorem contains_mt (A : Option Addr) (c : Nat) : Calls Tryd.prog 40 #[.slice A 0 c, .int .u8 36] w fun e w' => e = .returned (.bool false) ∧ Below w.heap.size w w' := by
  refine (slices_Contains_byte_byte.calls 1 A c [] 36 false w ⟨rfl, by simp, fun h => by simp at h⟩ (by simp) ?_).mono ?_
  · simp [slices_Contains_byte_byte.f, slices_Index_byte_byte.f, slices_Index_byte_byte.l0]
  · rintro e w' ⟨rfl, h⟩
    exact ⟨rfl, h.below⟩
set_option maxHeartbeats 2000000 in
set_option maxRecDepth 100000 in
theorem free_mod : Calls Tryd.prog 27 #[.agg #[.int .i64 68, .string mt, .int .i64 0, .slice none 0 0]] w (SameB w true) := by
  have kc := fun (W : World) => Lib.run_convert_string_bytes (P := Tryd.prog) W 9 47 5 mt Tryd.underlying9 Tryd.underlying47 Tryd.underlying5
  go_enter Tryd.func27, Tryd.ntmps27
  go_wp2_with (first | (go_at_call 40; refine (contains_mt _ _ _).mono ?_; rintro e w2 ⟨rfl, h2⟩; obtain ⟨c0, c1, c2, c3, hb⟩ := box4 ((bytes_below (Below.refl _ _) (Nat.le_refl _) 5 mt).trans (h2.mono (by rw [Lib.bytesWorld_size]; omega))); have HB2 := hide hb; clear h2 hb) | (go_at_call 25; refine (all_nil _ 27 (enters_of Tryd.func27 (by kernel_rfl) rfl)).mono ?_; rintro e w3 ⟨rfl, h3⟩))
  go_ret
  exact ⟨rfl, HB2.out.trans (h3.mono HB2.out.size)⟩
set_option maxHeartbeats 2000000 in
set_option maxRecDepth 100000 in
theorem form_mod : Calls Tryd.prog 21 #[.agg #[.int .i64 68, .string mt, .int .i64 0, .slice none 0 0]] w fun e w' => e = .returned (.int .i64 5) ∧ Below w.heap.size w w' := by
  go_enter Tryd.func21, Tryd.ntmps21
  go_wp2_with (first | (go_at_call 24; refine (like_bare _ _ _ _ _).mono ?_; rintro e w2 ⟨rfl, h2⟩; obtain ⟨c0, c1, c2, c3, hb⟩ := box4 h2; have HB2 := hide hb; clear h2 hb) | (go_at_call 25; refine (all_nil _ 26 (enters_of Tryd.func26 (by kernel_rfl) rfl)).mono ?_; rintro e w3 ⟨rfl, h3⟩; have d0 := pw_cell_below h3 c0; have d1 := pw_cell_below h3 c1; have d2 := pw_cell_below h3 c2; have d3 := pw_cell_below h3 c3; have HB3 := hide (HB2.out.trans (h3.mono HB2.out.size)); clear h3) | (go_at_call 27; refine (free_mod _).mono ?_; rintro e w4 ⟨rfl, h4⟩; have HB4 := hide (HB3.out.trans (h4.mono HB3.out.size)); clear h4))
  go_ret
  exact ⟨rfl, HB4.out⟩
set_option maxHeartbeats 2000000 in
theorem binary_plus : Calls Tryd.prog 51 #[.string plus] w fun e w' => e = .returned (.bool true) ∧ w = w' := by
  have h1 : (plus.toList == [43]) = true := by rw [ByteArray.toList_eq]; rfl
  go_enter Tryd.func51, Tryd.ntmps51
  go_wp2
  go_ret
  exact ⟨rfl, rfl⟩
def fE : FV := ⟨32, none⟩
theorem fE_num (n : Int) (h0 : 0 < n) (h1 : n ≤ 100) : fE.Tells (nm n) true w := fun A c w2 hb hr => expr_num w2 A c n h0 h1
theorem fE_enters : Enters Tryd.prog 32 := enters_of Tryd.func32 (by kernel_rfl) rfl
theorem row_sum (A : Option Addr) (c : Nat) (h : Rd w sumT A c) : Calls Tryd.prog 35 #[nd sumT A c, .slice (some ⟨w.heap.size, 0, none⟩) 2 2] (w.alloc (.cells #[.func (.func 32) #[] #[], .func (.func 32) #[] #[]] 43)) fun e w' => e = .returned (.bool true) ∧ Below w.heap.size w w' :=
  row_built sumT [(fE, fun _ => true), (fE, fun _ => true)] 43 (by simp) (by simp) (fun f hf => by
    simp only [List.mem_cons, List.not_mem_nil, or_false, or_self] at hf
    subst hf
    exact fE_enters) A c w h (fun i f y hf hy => by
    match i with
    | 0 => simp at hf hy; subst hf hy; exact fE_num w 1 (by decide) (by decide)
    | 1 => simp at hf hy; subst hf hy; exact fE_num w 2 (by decide) (by decide)
    | i + 2 => simp at hf)
set_option maxHeartbeats 4000000 in
set_option maxRecDepth 100000 in
theorem expr_sum (A : Option Addr) (c : Nat) (hr : Rd w sumT A c) : Calls Tryd.prog 32 #[.agg #[.int .i64 16, .string plus, .int .i64 0, .slice A 2 c]] w (SameB w true) := by
  have HR := hide hr
  have ht : plus.toList ≠ [] := by rw [ByteArray.toList_eq]; simp
  have HT := hide ht
  clear hr ht
  go_enter Tryd.func32, Tryd.ntmps32
  go_wp2_with (first | (go_at_call 24; refine (like_txt _ plus _ _ HT.out _ _ _).mono ?_; rintro e w2 ⟨rfl, h2⟩; obtain ⟨c0, c1, c2, c3, hb⟩ := box4 h2; have HB2 := hide hb; clear h2 hb) | (go_at_call 51; refine (binary_plus _).mono ?_; rintro e w3 ⟨rfl, rfl⟩) | (go_at_call 35; refine (row_sum _ A c (HR.out.below HB2.out)).mono ?_; rintro e w4 ⟨rfl, h4⟩))
  go_ret
  exact ⟨rfl, HB2.out.trans (h4.mono HB2.out.size)⟩
set_option maxHeartbeats 4000000 in
set_option maxRecDepth 100000 in
theorem form_sum (A : Option Addr) (c : Nat) (hr : Rd w sumT A c) : Calls Tryd.prog 21 #[.agg #[.int .i64 16, .string plus, .int .i64 0, .slice A 2 c]] w fun e w' => e = .returned (.int .i64 1) ∧ Below w.heap.size w w' := by
  have HR := hide hr
  clear hr
  go_enter Tryd.func21, Tryd.ntmps21
  go_wp2_with (go_at_call 32; refine (expr_sum _ A c (HR.out.below (below_alloc (Below.refl _ _) _))).mono ?_; rintro e w2 ⟨rfl, h2⟩; obtain ⟨c0, c1, c2, c3, hb⟩ := box4 h2; have HB2 := hide hb; clear h2 hb)
  go_ret
  exact ⟨rfl, HB2.out⟩
end
end Go.Proofs.YtldgmneijipbjaaDoor.H
