/-
  DERIVED. GIVEN WITH THE SEED: THE CARDS: each row of YtldgmneijipbjaaGreatDoorRows.lean that lists a variable, with what it lists TIED to the program's text (the seventh form; the later family's looks); each row that meets fmt, with fmt's text TOLD by the authors' own Lean function (tested against real Go, not proved from fmt's source: count such statements apart). THE CARD IS WHAT COUNTS. Prove the row's statement (the work); the ties are given (YtldgmneijipbjaaGreatDoorTie.lean); close each card by the builder's one call (the guide's Derived/Test/ToyasCard.lean, 'card_holds'). Laid BY PROGRAM, IN A SANDBOX (cutbox-door.mjs). By AI agents, Wed Nov 11 2026. No macro, syntax, notation, axiom, sorry.
-/
import Derived.Test.YtldgmneijipbjaaGreatDoorRows
import GoSem.ClaimSeven
namespace Go.Proofs.YtldgmneijipbjaaGreatDoor
namespace Rows

/-- THE TIED CARD OF 'gussetlaw09.ScopeTells'. -/
def scopeTellsCard : Claim7 := { stood := { row := scopeTellsRow, standIns := [], harness := (true, "52af5b57ab77cca542f1f596d6d0d5100180bc657283034819a0f047b0b24192"), looks := false }, kinds := [], alts := [], laidByText := true, laidKinds := [.data, .pinned], laidTests := true, laidLooks := .later }
def ScopeTellsCardSaid : Prop := Claim7.holds Tryz.pinned (.plain (OpenSpec.ofChange scopeTellsSpec)) scopeTellsCard

/-- THE TIED CARD OF 'gussetlaw09.ScopeTops'. -/
def scopeTopsCard : Claim7 := { stood := { row := scopeTopsRow, standIns := [], harness := (true, "52af5b57ab77cca542f1f596d6d0d5100180bc657283034819a0f047b0b24192"), looks := false }, kinds := [], alts := [], laidByText := true, laidKinds := [.data, .pinned], laidTests := true, laidLooks := .later }
def ScopeTopsCardSaid : Prop := Claim7.holds Tryz.pinned (.plain (OpenSpec.ofChange scopeTopsSpec)) scopeTopsCard

/-- THE TIED CARD OF 'gussetlaw09.ScopeAdds'. -/
def scopeAddsCard : Claim7 := { stood := { row := scopeAddsRow, standIns := [], harness := (true, "52af5b57ab77cca542f1f596d6d0d5100180bc657283034819a0f047b0b24192"), looks := false }, kinds := [], alts := [], laidByText := true, laidKinds := [.data, .pinned], laidTests := true, laidLooks := .later }
def ScopeAddsCardSaid : Prop := Claim7.holds Tryz.pinned (.plain (OpenSpec.ofChange scopeAddsSpec)) scopeAddsCard

/-- THE TIED CARD OF 'gussetlaw09.ScopeOwn'. -/
def scopeOwnCard : Claim7 := { stood := { row := scopeOwnRow, standIns := [], harness := (true, "52af5b57ab77cca542f1f596d6d0d5100180bc657283034819a0f047b0b24192"), looks := false }, kinds := [], alts := [], laidByText := true, laidKinds := [.data, .pinned], laidTests := true, laidLooks := .later }
def ScopeOwnCardSaid : Prop := Claim7.holds Tryz.pinned (.plain (OpenSpec.ofChange scopeOwnSpec)) scopeOwnCard

/-- THE SECOND FORM's CARD OF 'gussetlaw09.ScopeTells'. -/
def scopeTellsUptoCard : Claim7 := { stood := { row := scopeTellsUptoRow, standIns := [], harness := (true, "52af5b57ab77cca542f1f596d6d0d5100180bc657283034819a0f047b0b24192"), looks := false }, kinds := [], alts := [], laidByText := true, laidKinds := [.data, .pinned], laidTests := true, laidLooks := .later }
def ScopeTellsUptoCardSaid : Prop := Claim7.holds Tryz.pinned (.plain (OpenSpec.upto scopeTellsSpec)) scopeTellsUptoCard

/-- THE SECOND FORM's CARD OF 'gussetlaw09.ScopeTops'. -/
def scopeTopsUptoCard : Claim7 := { stood := { row := scopeTopsUptoRow, standIns := [], harness := (true, "52af5b57ab77cca542f1f596d6d0d5100180bc657283034819a0f047b0b24192"), looks := false }, kinds := [], alts := [], laidByText := true, laidKinds := [.data, .pinned], laidTests := true, laidLooks := .later }
def ScopeTopsUptoCardSaid : Prop := Claim7.holds Tryz.pinned (.plain (OpenSpec.upto scopeTopsSpec)) scopeTopsUptoCard

/-- THE SECOND FORM's CARD OF 'gussetlaw09.ScopeAdds'. -/
def scopeAddsUptoCard : Claim7 := { stood := { row := scopeAddsUptoRow, standIns := [], harness := (true, "52af5b57ab77cca542f1f596d6d0d5100180bc657283034819a0f047b0b24192"), looks := false }, kinds := [], alts := [], laidByText := true, laidKinds := [.data, .pinned], laidTests := true, laidLooks := .later }
def ScopeAddsUptoCardSaid : Prop := Claim7.holds Tryz.pinned (.plain (OpenSpec.upto scopeAddsSpec)) scopeAddsUptoCard

/-- THE SECOND FORM's CARD OF 'gussetlaw09.ScopeOwn'. -/
def scopeOwnUptoCard : Claim7 := { stood := { row := scopeOwnUptoRow, standIns := [], harness := (true, "52af5b57ab77cca542f1f596d6d0d5100180bc657283034819a0f047b0b24192"), looks := false }, kinds := [], alts := [], laidByText := true, laidKinds := [.data, .pinned], laidTests := true, laidLooks := .later }
def ScopeOwnUptoCardSaid : Prop := Claim7.holds Tryz.pinned (.plain (OpenSpec.upto scopeOwnSpec)) scopeOwnUptoCard
end Rows
end Go.Proofs.YtldgmneijipbjaaGreatDoor
