/-
  DERIVED. GIVEN WITH THE SEED: THE CARDS: each row of YtmfpaeajibeikaaDoorRows.lean that lists a variable, with what it lists TIED to the program's text (the seventh form; the later family's looks); each row that meets fmt, with fmt's text TOLD by the authors' own Lean function (tested against real Go, not proved from fmt's source: count such statements apart). THE CARD IS WHAT COUNTS. Prove the row's statement (the work); the ties are given (YtmfpaeajibeikaaDoorTie.lean); close each card by the builder's one call (the guide's Derived/Test/ToyasCard.lean, 'card_holds'). Laid BY PROGRAM, IN A SANDBOX (cutbox-door.mjs). By AI agents, Wed Nov 11 2026. No macro, syntax, notation, axiom, sorry.
-/
import Derived.Test.YtmfpaeajibeikaaDoorRows
import GoSem.ClaimSeven
namespace Go.Proofs.YtmfpaeajibeikaaDoor
namespace Rows

/-- THE TIED CARD OF 'commonholdlaw.RelSorts'. -/
def relSortsCard : Claim7 := { stood := { row := relSortsRow, standIns := [], harness := (true, "571a349f2549a45ffa8dcd712cb667110ba175f50876f21ff11e3f9f24e4b35f"), looks := false }, kinds := [], alts := [], laidByText := true, laidKinds := [.data, .pinned], laidTests := true, laidLooks := .later }
def RelSortsCardSaid : Prop := Claim7.holds Tryd.pinned (.plain (OpenSpec.ofChange relSortsSpec)) relSortsCard

/-- THE TIED CARD OF 'commonholdlaw.EvalHolds'. -/
def evalHoldsCard : Claim7 := { stood := { row := evalHoldsRow, standIns := [], harness := (true, "571a349f2549a45ffa8dcd712cb667110ba175f50876f21ff11e3f9f24e4b35f"), looks := false }, kinds := [], alts := [], laidByText := true, laidKinds := [.data, .pinned], laidTests := true, laidLooks := .later }
def EvalHoldsCardSaid : Prop := Claim7.holds Tryd.pinned (.plain (OpenSpec.ofChange evalHoldsSpec)) evalHoldsCard

/-- THE TIED CARD OF 'commonholdlaw.RelFilters'. -/
def relFiltersCard : Claim7 := { stood := { row := relFiltersRow, standIns := [], harness := (true, "571a349f2549a45ffa8dcd712cb667110ba175f50876f21ff11e3f9f24e4b35f"), looks := false }, kinds := [], alts := [], laidByText := true, laidKinds := [.data, .pinned], laidTests := true, laidLooks := .later }
def RelFiltersCardSaid : Prop := Claim7.holds Tryd.pinned (.plain (OpenSpec.ofChange relFiltersSpec)) relFiltersCard

/-- THE TIED CARD OF 'commonholdlaw.RelJoins'. -/
def relJoinsCard : Claim7 := { stood := { row := relJoinsRow, standIns := [], harness := (true, "571a349f2549a45ffa8dcd712cb667110ba175f50876f21ff11e3f9f24e4b35f"), looks := false }, kinds := [], alts := [], laidByText := true, laidKinds := [.data, .pinned], laidTests := true, laidLooks := .later }
def RelJoinsCardSaid : Prop := Claim7.holds Tryd.pinned (.plain (OpenSpec.ofChange relJoinsSpec)) relJoinsCard

/-- THE SECOND FORM's CARD OF 'commonholdlaw.RelSorts'. -/
def relSortsUptoCard : Claim7 := { stood := { row := relSortsUptoRow, standIns := [], harness := (true, "571a349f2549a45ffa8dcd712cb667110ba175f50876f21ff11e3f9f24e4b35f"), looks := false }, kinds := [], alts := [], laidByText := true, laidKinds := [.data, .pinned], laidTests := true, laidLooks := .later }
def RelSortsUptoCardSaid : Prop := Claim7.holds Tryd.pinned (.plain (OpenSpec.upto relSortsSpec)) relSortsUptoCard

/-- THE SECOND FORM's CARD OF 'commonholdlaw.EvalHolds'. -/
def evalHoldsUptoCard : Claim7 := { stood := { row := evalHoldsUptoRow, standIns := [], harness := (true, "571a349f2549a45ffa8dcd712cb667110ba175f50876f21ff11e3f9f24e4b35f"), looks := false }, kinds := [], alts := [], laidByText := true, laidKinds := [.data, .pinned], laidTests := true, laidLooks := .later }
def EvalHoldsUptoCardSaid : Prop := Claim7.holds Tryd.pinned (.plain (OpenSpec.upto evalHoldsSpec)) evalHoldsUptoCard

/-- THE SECOND FORM's CARD OF 'commonholdlaw.RelFilters'. -/
def relFiltersUptoCard : Claim7 := { stood := { row := relFiltersUptoRow, standIns := [], harness := (true, "571a349f2549a45ffa8dcd712cb667110ba175f50876f21ff11e3f9f24e4b35f"), looks := false }, kinds := [], alts := [], laidByText := true, laidKinds := [.data, .pinned], laidTests := true, laidLooks := .later }
def RelFiltersUptoCardSaid : Prop := Claim7.holds Tryd.pinned (.plain (OpenSpec.upto relFiltersSpec)) relFiltersUptoCard

/-- THE SECOND FORM's CARD OF 'commonholdlaw.RelJoins'. -/
def relJoinsUptoCard : Claim7 := { stood := { row := relJoinsUptoRow, standIns := [], harness := (true, "571a349f2549a45ffa8dcd712cb667110ba175f50876f21ff11e3f9f24e4b35f"), looks := false }, kinds := [], alts := [], laidByText := true, laidKinds := [.data, .pinned], laidTests := true, laidLooks := .later }
def RelJoinsUptoCardSaid : Prop := Claim7.holds Tryd.pinned (.plain (OpenSpec.upto relJoinsSpec)) relJoinsUptoCard
end Rows
end Go.Proofs.YtmfpaeajibeikaaDoor
