/- TreeWalks in the form of a claim's call. -/
import Derived.Test.YtldgmneijipbjaaDoorV8
import Derived.Test.YtldgmneijipbjaaDoorT4
namespace Go.Proofs.YtldgmneijipbjaaDoor.H
open Go.RowKit Go.Proofs.YtldgmneijipbjaaDoorW.PrintWords Go.Proofs.YtldgmneijipbjaaDoorW.PrintLast Go.Proofs.YtldgmneijipbjaaDoorW.PrintMore
open PTreeSames Pu
mutual
theorem flat_bk : ∀ x : Tr, (flat x).length ≤ bk x
  | ⟨a, s, n, l⟩ => by
    have h := flatL_bk l
    rw [flat, bk, List.length_cons]
    omega
theorem flatL_bk : ∀ l : List Tr, (flatL l).length ≤ bkL l
  | [] => by rw [flatL]; exact Nat.zero_le _
  | x :: l => by
    have h1 := flat_bk x
    have h2 := flatL_bk l
    rw [flatL, bkL, List.length_append]
    omega
end
theorem walks_card {W : World} (x : Tr) (lx : Low x) (A : Option Addr) (c : Nat) (hr : Rd W x A c) (a : Int) (w : World) (hw : w = W) :
    Calls Tryd.prog 3 #[nd x A c, .int .i64 a] w fun e w' => e = .returned (.bool true) ∧ Below w.heap.size w w' := by
  subst hw
  exact walks_law w x lx.fit (Nat.le_trans (flat_bk x) lx) A c hr a
end Go.Proofs.YtldgmneijipbjaaDoor.H
