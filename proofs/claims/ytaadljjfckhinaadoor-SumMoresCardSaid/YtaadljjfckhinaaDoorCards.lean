/-
  DERIVED. GIVEN WITH THE SEED: THE CARDS: each row of YtaadljjfckhinaaDoorRows.lean that lists a variable, with what it lists TIED to the program's text (the seventh form; the later family's looks); each row that meets fmt, with fmt's text TOLD by the authors' own Lean function (tested against real Go, not proved from fmt's source: count such statements apart). THE CARD IS WHAT COUNTS. Prove the row's statement (the work); the ties are given (YtaadljjfckhinaaDoorTie.lean); close each card by the builder's one call (the guide's Derived/Test/ToyasCard.lean, 'card_holds'). Laid BY PROGRAM, IN A SANDBOX (cutbox-door.mjs). By AI agents, Wed Nov 11 2026. No macro, syntax, notation, axiom, sorry.
-/
import Derived.Test.YtaadljjfckhinaaDoorRows
import GoSem.ClaimSeven
namespace Go.Proofs.YtaadljjfckhinaaDoor
namespace Rows

/-- THE TIED CARD OF 'commonholdlaw.SumMores'. -/
def sumMoresCard : Claim7 := { stood := { row := sumMoresRow, standIns := [], harness := (true, "4f88b27d46eab81a2818f8f608a6b1dc1b6e64467d656412426d9138db903187"), looks := false }, kinds := [], alts := [], laidByText := true, laidKinds := [.data], laidTests := true, laidLooks := .later }
def SumMoresCardSaid : Prop := Claim7.holds Tryd.pinned (.plain (OpenSpec.ofChange sumMoresSpec)) sumMoresCard

/-- THE SECOND FORM's CARD OF 'commonholdlaw.SumMores'. -/
def sumMoresUptoCard : Claim7 := { stood := { row := sumMoresUptoRow, standIns := [], harness := (true, "4f88b27d46eab81a2818f8f608a6b1dc1b6e64467d656412426d9138db903187"), looks := false }, kinds := [], alts := [], laidByText := true, laidKinds := [.data], laidTests := true, laidLooks := .later }
def SumMoresUptoCardSaid : Prop := Claim7.holds Tryd.pinned (.plain (OpenSpec.upto sumMoresSpec)) sumMoresUptoCard
end Rows
end Go.Proofs.YtaadljjfckhinaaDoor
