/-
  DERIVED. GIVEN WITH THE SEED: THE CARDS: each row of YtkgllmjlhaimcaaDoorRows.lean that lists a variable, with what it lists TIED to the program's text (the seventh form; the later family's looks); each row that meets fmt, with fmt's text TOLD by the authors' own Lean function (tested against real Go, not proved from fmt's source: count such statements apart). THE CARD IS WHAT COUNTS. Prove the row's statement (the work); the ties are given (YtkgllmjlhaimcaaDoorTie.lean); close each card by the builder's one call (the guide's Derived/Test/ToyasCard.lean, 'card_holds'). Laid BY PROGRAM, IN A SANDBOX (cutbox-door.mjs). By AI agents, Wed Nov 11 2026. No macro, syntax, notation, axiom, sorry.
-/
import Derived.Test.YtkgllmjlhaimcaaDoorRows
import GoSem.ClaimSeven
namespace Go.Proofs.YtkgllmjlhaimcaaDoor
namespace Rows

/-- THE TIED CARD OF 'commonholdlaw.EvalEvals'. -/
def evalEvalsCard : Claim7 := { stood := { row := evalEvalsRow, standIns := [], harness := (true, "32b0f57ae019cfa495e41b3dabbb4416a3c9051575df47294dd924d27c75594f"), looks := false }, kinds := [], alts := [], laidByText := true, laidKinds := [.data, .pinned], laidTests := true, laidLooks := .later }
def EvalEvalsCardSaid : Prop := Claim7.holds Tryd.pinned (.plain (OpenSpec.ofChange evalEvalsSpec)) evalEvalsCard

/-- THE TIED CARD OF 'commonholdlaw.EvalHolds'. -/
def evalHoldsCard : Claim7 := { stood := { row := evalHoldsRow, standIns := [], harness := (true, "32b0f57ae019cfa495e41b3dabbb4416a3c9051575df47294dd924d27c75594f"), looks := false }, kinds := [], alts := [], laidByText := true, laidKinds := [.data, .pinned], laidTests := true, laidLooks := .later }
def EvalHoldsCardSaid : Prop := Claim7.holds Tryd.pinned (.plain (OpenSpec.ofChange evalHoldsSpec)) evalHoldsCard

/-- THE TIED CARD OF 'commonholdlaw.RelProjects'. -/
def relProjectsCard : Claim7 := { stood := { row := relProjectsRow, standIns := [], harness := (true, "32b0f57ae019cfa495e41b3dabbb4416a3c9051575df47294dd924d27c75594f"), looks := false }, kinds := [], alts := [], laidByText := true, laidKinds := [.data, .pinned], laidTests := true, laidLooks := .later }
def RelProjectsCardSaid : Prop := Claim7.holds Tryd.pinned (.plain (OpenSpec.ofChange relProjectsSpec)) relProjectsCard

/-- THE TIED CARD OF 'commonholdlaw.RelFilters'. -/
def relFiltersCard : Claim7 := { stood := { row := relFiltersRow, standIns := [], harness := (true, "32b0f57ae019cfa495e41b3dabbb4416a3c9051575df47294dd924d27c75594f"), looks := false }, kinds := [], alts := [], laidByText := true, laidKinds := [.data, .pinned], laidTests := true, laidLooks := .later }
def RelFiltersCardSaid : Prop := Claim7.holds Tryd.pinned (.plain (OpenSpec.ofChange relFiltersSpec)) relFiltersCard

/-- THE TIED CARD OF 'commonholdlaw.RelJoins'. -/
def relJoinsCard : Claim7 := { stood := { row := relJoinsRow, standIns := [], harness := (true, "32b0f57ae019cfa495e41b3dabbb4416a3c9051575df47294dd924d27c75594f"), looks := false }, kinds := [], alts := [], laidByText := true, laidKinds := [.data, .pinned], laidTests := true, laidLooks := .later }
def RelJoinsCardSaid : Prop := Claim7.holds Tryd.pinned (.plain (OpenSpec.ofChange relJoinsSpec)) relJoinsCard

/-- THE SECOND FORM's CARD OF 'commonholdlaw.EvalEvals'. -/
def evalEvalsUptoCard : Claim7 := { stood := { row := evalEvalsUptoRow, standIns := [], harness := (true, "32b0f57ae019cfa495e41b3dabbb4416a3c9051575df47294dd924d27c75594f"), looks := false }, kinds := [], alts := [], laidByText := true, laidKinds := [.data, .pinned], laidTests := true, laidLooks := .later }
def EvalEvalsUptoCardSaid : Prop := Claim7.holds Tryd.pinned (.plain (OpenSpec.upto evalEvalsSpec)) evalEvalsUptoCard

/-- THE SECOND FORM's CARD OF 'commonholdlaw.EvalHolds'. -/
def evalHoldsUptoCard : Claim7 := { stood := { row := evalHoldsUptoRow, standIns := [], harness := (true, "32b0f57ae019cfa495e41b3dabbb4416a3c9051575df47294dd924d27c75594f"), looks := false }, kinds := [], alts := [], laidByText := true, laidKinds := [.data, .pinned], laidTests := true, laidLooks := .later }
def EvalHoldsUptoCardSaid : Prop := Claim7.holds Tryd.pinned (.plain (OpenSpec.upto evalHoldsSpec)) evalHoldsUptoCard

/-- THE SECOND FORM's CARD OF 'commonholdlaw.RelProjects'. -/
def relProjectsUptoCard : Claim7 := { stood := { row := relProjectsUptoRow, standIns := [], harness := (true, "32b0f57ae019cfa495e41b3dabbb4416a3c9051575df47294dd924d27c75594f"), looks := false }, kinds := [], alts := [], laidByText := true, laidKinds := [.data, .pinned], laidTests := true, laidLooks := .later }
def RelProjectsUptoCardSaid : Prop := Claim7.holds Tryd.pinned (.plain (OpenSpec.upto relProjectsSpec)) relProjectsUptoCard

/-- THE SECOND FORM's CARD OF 'commonholdlaw.RelFilters'. -/
def relFiltersUptoCard : Claim7 := { stood := { row := relFiltersUptoRow, standIns := [], harness := (true, "32b0f57ae019cfa495e41b3dabbb4416a3c9051575df47294dd924d27c75594f"), looks := false }, kinds := [], alts := [], laidByText := true, laidKinds := [.data, .pinned], laidTests := true, laidLooks := .later }
def RelFiltersUptoCardSaid : Prop := Claim7.holds Tryd.pinned (.plain (OpenSpec.upto relFiltersSpec)) relFiltersUptoCard

/-- THE SECOND FORM's CARD OF 'commonholdlaw.RelJoins'. -/
def relJoinsUptoCard : Claim7 := { stood := { row := relJoinsUptoRow, standIns := [], harness := (true, "32b0f57ae019cfa495e41b3dabbb4416a3c9051575df47294dd924d27c75594f"), looks := false }, kinds := [], alts := [], laidByText := true, laidKinds := [.data, .pinned], laidTests := true, laidLooks := .later }
def RelJoinsUptoCardSaid : Prop := Claim7.holds Tryd.pinned (.plain (OpenSpec.upto relJoinsSpec)) relJoinsUptoCard
end Rows
end Go.Proofs.YtkgllmjlhaimcaaDoor
