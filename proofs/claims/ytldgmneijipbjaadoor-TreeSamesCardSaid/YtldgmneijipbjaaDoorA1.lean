/- What the program tells of the example's trees. -/
import Derived.Test.YtldgmneijipbjaaDoorF0
namespace Go.Proofs.YtldgmneijipbjaaDoor.H
open Go.RowKit Go.Shelf Go.Proofs.YtldgmneijipbjaaDoorW.PrintWords Go.Proofs.YtldgmneijipbjaaDoorW.PrintLast Go.Proofs.YtldgmneijipbjaaDoorW.PrintMore
open PTreeSames Pu
set_option linter.unusedVariables false
set_option linter.unusedSimpArgs false

abbrev mt : ByteArray := ⟨#[]⟩
abbrev nm (n : Int) : Tr := ⟨1, mt, n, []⟩
abbrev plus : ByteArray := ⟨#[43]⟩
abbrev sumT : Tr := ⟨16, plus, 0, [nm 1, nm 2]⟩
abbrev modT : Tr := ⟨68, mt, 0, []⟩
section
variable (w : World)
set_option maxHeartbeats 1000000 in
theorem like_mt (n : Int) (k : Int) (h : n ≠ 0) (A : Option Addr) (m c : Nat) : Calls Tryd.prog 24 #[.agg #[.int .i64 k, .string mt, .int .i64 n, .slice A m c], .bool false, .bool false] w (SameB w false) := by
  have h1 : (n == 0) = false := by simpa using h
  clear h
  go_enter Tryd.func24, Tryd.ntmps24
  go_wp2
  go_ret
  exact ⟨rfl, below_alloc (Below.refl _ _) _⟩
set_option maxHeartbeats 1000000 in
theorem like_txt (s : ByteArray) (n : Int) (k : Int) (h : s.toList ≠ []) (A : Option Addr) (m c : Nat) : Calls Tryd.prog 24 #[.agg #[.int .i64 k, .string s, .int .i64 n, .slice A m c], .bool false, .bool false] w (SameB w false) := by
  have h1 : (s.toList == []) = false := by simpa using h
  have h2 : s.toList.isEmpty = false := by simpa using h
  clear h
  go_enter Tryd.func24, Tryd.ntmps24
  go_wp2
  go_ret
  exact ⟨rfl, below_alloc (Below.refl _ _) _⟩
set_option maxHeartbeats 1000000 in
theorem like_bare (k : Int) (A : Option Addr) (m c : Nat) : Calls Tryd.prog 24 #[.agg #[.int .i64 k, .string mt, .int .i64 0, .slice A m c], .bool false, .bool false] w (SameB w true) := by
  go_enter Tryd.func24, Tryd.ntmps24
  go_wp2
  go_ret
  exact ⟨rfl, below_alloc (Below.refl _ _) _⟩
set_option maxHeartbeats 1000000 in
theorem leaf_num (A : Option Addr) (c : Nat) (n : Int) (h0 : 0 ≤ n) (h1 : n ≤ 100) : Calls Tryd.prog 53 #[.agg #[.int .i64 1, .string mt, .int .i64 n, .slice A 0 c]] w (SameB w true) := by
  have e0 : decide (0 ≤ n) = true := decide_eq_true h0
  have e1 : decide (n ≤ 9007199254740991) = true := decide_eq_true (by omega)
  go_enter Tryd.func53, Tryd.ntmps53
  go_wp2
  go_ret
  exact ⟨rfl, below_alloc (Below.refl _ _) _⟩
set_option maxHeartbeats 1000000 in
theorem leaf_neg (A : Option Addr) (c : Nat) : Calls Tryd.prog 53 #[.agg #[.int .i64 1, .string mt, .int .i64 (-1), .slice A 0 c]] w (SameB w false) := by
  go_enter Tryd.func53, Tryd.ntmps53
  go_wp2
  go_ret
  exact ⟨rfl, below_alloc (Below.refl _ _) _⟩
set_option maxHeartbeats 2000000 in
set_option maxRecDepth 100000 in
theorem expr_num (A : Option Addr) (c : Nat) (n : Int) (h0 : 0 < n) (h1 : n ≤ 100) : Calls Tryd.prog 32 #[.agg #[.int .i64 1, .string mt, .int .i64 n, .slice A 0 c]] w (SameB w true) := by
  have hn : n ≠ 0 := by omega
  have hn0 : 0 ≤ n := by omega
  have HN := hide hn
  have H0 := hide hn0
  have H1 := hide h1
  clear hn hn0 h0 h1
  go_enter Tryd.func32, Tryd.ntmps32
  go_wp2_with (first | (go_at_call 24; refine (like_mt _ n _ HN.out _ _ _).mono ?_; rintro e w2 ⟨rfl, h2⟩; have HB2 := hide ((below_alloc (Below.refl w.heap.size w) (.cells #[.int .i64 1, .string mt, .int .i64 n, .slice A 0 c] 24)).trans (h2.mono (by simp))); have c0 := pw_cell_below h2 (blk_cell (blk_new w (.cells #[.int .i64 1, .string mt, .int .i64 n, .slice A 0 c] 24)) 0); have c1 := pw_cell_below h2 (blk_cell (blk_new w (.cells #[.int .i64 1, .string mt, .int .i64 n, .slice A 0 c] 24)) 1); have c2 := pw_cell_below h2 (blk_cell (blk_new w (.cells #[.int .i64 1, .string mt, .int .i64 n, .slice A 0 c] 24)) 2); have c3 := pw_cell_below h2 (blk_cell (blk_new w (.cells #[.int .i64 1, .string mt, .int .i64 n, .slice A 0 c] 24)) 3); clear h2) | (go_at_call 53; refine (leaf_num _ _ _ n H0.out H1.out).mono ?_; rintro e w3 ⟨rfl, h3⟩))
  go_ret
  exact ⟨rfl, HB2.out.trans (h3.mono HB2.out.size)⟩
end
end Go.Proofs.YtldgmneijipbjaaDoor.H
