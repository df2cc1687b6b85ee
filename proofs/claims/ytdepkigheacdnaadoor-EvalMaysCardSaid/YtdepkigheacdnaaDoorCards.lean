/-
  DERIVED. GIVEN WITH THE SEED: THE CARDS: each row of YtdepkigheacdnaaDoorRows.lean that lists a variable, with what it lists TIED to the program's text (the seventh form; the later family's looks); each row that meets fmt, with fmt's text TOLD by the authors' own Lean function (tested against real Go, not proved from fmt's source: count such statements apart). THE CARD IS WHAT COUNTS. Prove the row's statement (the work); the ties are given (YtdepkigheacdnaaDoorTie.lean); close each card by the builder's one call (the guide's Derived/Test/ToyasCard.lean, 'card_holds'). Laid BY PROGRAM, IN A SANDBOX (cutbox-door.mjs). By AI agents, Wed Nov 11 2026. No macro, syntax, notation, axiom, sorry.
-/
import Derived.Test.YtdepkigheacdnaaDoorRows
import GoSem.ClaimSeven
namespace Go.Proofs.YtdepkigheacdnaaDoor
namespace Rows

/-- THE TIED CARD OF 'commonholdlaw.ValueChecks'. -/
def valueChecksCard : Claim7 := { stood := { row := valueChecksRow, standIns := [], harness := (true, "6e5773a7b976a5036f70480c27f3c505db65a341cb55955a8ed85872715f1ca2"), looks := false }, kinds := [], alts := [], laidByText := true, laidKinds := [.data, .pinned], laidTests := true, laidLooks := .later }
def ValueChecksCardSaid : Prop := Claim7.holds Tryd.pinned (.plain (OpenSpec.ofChange valueChecksSpec)) valueChecksCard

/-- THE TIED CARD OF 'commonholdlaw.ValueIs'. -/
def valueIsCard : Claim7 := { stood := { row := valueIsRow, standIns := [], harness := (true, "6e5773a7b976a5036f70480c27f3c505db65a341cb55955a8ed85872715f1ca2"), looks := false }, kinds := [], alts := [], laidByText := true, laidKinds := [.data, .pinned], laidTests := true, laidLooks := .later }
def ValueIsCardSaid : Prop := Claim7.holds Tryd.pinned (.plain (OpenSpec.ofChange valueIsSpec)) valueIsCard

/-- THE TIED CARD OF 'commonholdlaw.ValueOrders'. -/
def valueOrdersCard : Claim7 := { stood := { row := valueOrdersRow, standIns := [], harness := (true, "6e5773a7b976a5036f70480c27f3c505db65a341cb55955a8ed85872715f1ca2"), looks := false }, kinds := [], alts := [], laidByText := true, laidKinds := [.data, .pinned], laidTests := true, laidLooks := .later }
def ValueOrdersCardSaid : Prop := Claim7.holds Tryd.pinned (.plain (OpenSpec.ofChange valueOrdersSpec)) valueOrdersCard

/-- THE TIED CARD OF 'commonholdlaw.ValueCompares'. -/
def valueComparesCard : Claim7 := { stood := { row := valueComparesRow, standIns := [], harness := (true, "6e5773a7b976a5036f70480c27f3c505db65a341cb55955a8ed85872715f1ca2"), looks := false }, kinds := [], alts := [], laidByText := true, laidKinds := [.data, .pinned], laidTests := true, laidLooks := .later }
def ValueComparesCardSaid : Prop := Claim7.holds Tryd.pinned (.plain (OpenSpec.ofChange valueComparesSpec)) valueComparesCard

/-- THE TIED CARD OF 'commonholdlaw.KeyEncodes'. -/
def keyEncodesCard : Claim7 := { stood := { row := keyEncodesRow, standIns := [], harness := (true, "6e5773a7b976a5036f70480c27f3c505db65a341cb55955a8ed85872715f1ca2"), looks := false }, kinds := [], alts := [], laidByText := true, laidKinds := [.data, .pinned], laidTests := true, laidLooks := .later }
def KeyEncodesCardSaid : Prop := Claim7.holds Tryd.pinned (.plain (OpenSpec.ofChange keyEncodesSpec)) keyEncodesCard

/-- THE TIED CARD OF 'commonholdlaw.KeyDecodes'. -/
def keyDecodesCard : Claim7 := { stood := { row := keyDecodesRow, standIns := [], harness := (true, "6e5773a7b976a5036f70480c27f3c505db65a341cb55955a8ed85872715f1ca2"), looks := false }, kinds := [], alts := [], laidByText := true, laidKinds := [.data, .pinned], laidTests := true, laidLooks := .later }
def KeyDecodesCardSaid : Prop := Claim7.holds Tryd.pinned (.plain (OpenSpec.ofChange keyDecodesSpec)) keyDecodesCard

/-- THE TIED CARD OF 'commonholdlaw.LexMays'. -/
def lexMaysCard : Claim7 := { stood := { row := lexMaysRow, standIns := [], harness := (true, "6e5773a7b976a5036f70480c27f3c505db65a341cb55955a8ed85872715f1ca2"), looks := false }, kinds := [], alts := [], laidByText := true, laidKinds := [.data, .data, .pinned], laidTests := true, laidLooks := .later }
def LexMaysCardSaid : Prop := Claim7.holds Tryd.pinned (.plain (OpenSpec.ofChange lexMaysSpec)) lexMaysCard

/-- THE TIED CARD OF 'commonholdlaw.ShapeNames'. -/
def shapeNamesCard : Claim7 := { stood := { row := shapeNamesRow, standIns := [], harness := (true, "6e5773a7b976a5036f70480c27f3c505db65a341cb55955a8ed85872715f1ca2"), looks := false }, kinds := [], alts := [], laidByText := true, laidKinds := [.data, .data, .widerDeep, .pinned], laidTests := true, laidLooks := .later }
def ShapeNamesCardSaid : Prop := Claim7.holds Tryd.pinned (.plain (OpenSpec.ofChange shapeNamesSpec)) shapeNamesCard

/-- THE TIED CARD OF 'commonholdlaw.RelMays'. -/
def relMaysCard : Claim7 := { stood := { row := relMaysRow, standIns := [], harness := (true, "6e5773a7b976a5036f70480c27f3c505db65a341cb55955a8ed85872715f1ca2"), looks := false }, kinds := [], alts := [], laidByText := true, laidKinds := [.data, .pinned], laidTests := true, laidLooks := .later }
def RelMaysCardSaid : Prop := Claim7.holds Tryd.pinned (.plain (OpenSpec.ofChange relMaysSpec)) relMaysCard

/-- THE TIED CARD OF 'commonholdlaw.PlanLeads'. -/
def planLeadsCard : Claim7 := { stood := { row := planLeadsRow, standIns := [], harness := (true, "6e5773a7b976a5036f70480c27f3c505db65a341cb55955a8ed85872715f1ca2"), looks := false }, kinds := [], alts := [], laidByText := true, laidKinds := [.data, .data, .pinned], laidTests := true, laidLooks := .later }
def PlanLeadsCardSaid : Prop := Claim7.holds Tryd.pinned (.plain (OpenSpec.ofChange planLeadsSpec)) planLeadsCard

/-- THE TIED CARD OF 'commonholdlaw.EvalMays'. -/
def evalMaysCard : Claim7 := { stood := { row := evalMaysRow, standIns := [], harness := (true, "6e5773a7b976a5036f70480c27f3c505db65a341cb55955a8ed85872715f1ca2"), looks := false }, kinds := [], alts := [], laidByText := true, laidKinds := [.data, .pinned], laidTests := true, laidLooks := .later }
def EvalMaysCardSaid : Prop := Claim7.holds Tryd.pinned (.plain (OpenSpec.ofChange evalMaysSpec)) evalMaysCard

/-- THE TIED CARD OF 'commonholdlaw.RowSpans'. -/
def rowSpansCard : Claim7 := { stood := { row := rowSpansRow, standIns := [], harness := (true, "6e5773a7b976a5036f70480c27f3c505db65a341cb55955a8ed85872715f1ca2"), looks := false }, kinds := [], alts := [], laidByText := true, laidKinds := [.data, .pinned], laidTests := true, laidLooks := .later }
def RowSpansCardSaid : Prop := Claim7.holds Tryd.pinned (.plain (OpenSpec.ofChange rowSpansSpec)) rowSpansCard

/-- THE SECOND FORM's CARD OF 'commonholdlaw.ValueChecks'. -/
def valueChecksUptoCard : Claim7 := { stood := { row := valueChecksUptoRow, standIns := [], harness := (true, "6e5773a7b976a5036f70480c27f3c505db65a341cb55955a8ed85872715f1ca2"), looks := false }, kinds := [], alts := [], laidByText := true, laidKinds := [.data, .pinned], laidTests := true, laidLooks := .later }
def ValueChecksUptoCardSaid : Prop := Claim7.holds Tryd.pinned (.plain (OpenSpec.upto valueChecksSpec)) valueChecksUptoCard

/-- THE SECOND FORM's CARD OF 'commonholdlaw.ValueIs'. -/
def valueIsUptoCard : Claim7 := { stood := { row := valueIsUptoRow, standIns := [], harness := (true, "6e5773a7b976a5036f70480c27f3c505db65a341cb55955a8ed85872715f1ca2"), looks := false }, kinds := [], alts := [], laidByText := true, laidKinds := [.data, .pinned], laidTests := true, laidLooks := .later }
def ValueIsUptoCardSaid : Prop := Claim7.holds Tryd.pinned (.plain (OpenSpec.upto valueIsSpec)) valueIsUptoCard

/-- THE SECOND FORM's CARD OF 'commonholdlaw.ValueOrders'. -/
def valueOrdersUptoCard : Claim7 := { stood := { row := valueOrdersUptoRow, standIns := [], harness := (true, "6e5773a7b976a5036f70480c27f3c505db65a341cb55955a8ed85872715f1ca2"), looks := false }, kinds := [], alts := [], laidByText := true, laidKinds := [.data, .pinned], laidTests := true, laidLooks := .later }
def ValueOrdersUptoCardSaid : Prop := Claim7.holds Tryd.pinned (.plain (OpenSpec.upto valueOrdersSpec)) valueOrdersUptoCard

/-- THE SECOND FORM's CARD OF 'commonholdlaw.ValueCompares'. -/
def valueComparesUptoCard : Claim7 := { stood := { row := valueComparesUptoRow, standIns := [], harness := (true, "6e5773a7b976a5036f70480c27f3c505db65a341cb55955a8ed85872715f1ca2"), looks := false }, kinds := [], alts := [], laidByText := true, laidKinds := [.data, .pinned], laidTests := true, laidLooks := .later }
def ValueComparesUptoCardSaid : Prop := Claim7.holds Tryd.pinned (.plain (OpenSpec.upto valueComparesSpec)) valueComparesUptoCard

/-- THE SECOND FORM's CARD OF 'commonholdlaw.KeyEncodes'. -/
def keyEncodesUptoCard : Claim7 := { stood := { row := keyEncodesUptoRow, standIns := [], harness := (true, "6e5773a7b976a5036f70480c27f3c505db65a341cb55955a8ed85872715f1ca2"), looks := false }, kinds := [], alts := [], laidByText := true, laidKinds := [.data, .pinned], laidTests := true, laidLooks := .later }
def KeyEncodesUptoCardSaid : Prop := Claim7.holds Tryd.pinned (.plain (OpenSpec.upto keyEncodesSpec)) keyEncodesUptoCard

/-- THE SECOND FORM's CARD OF 'commonholdlaw.KeyDecodes'. -/
def keyDecodesUptoCard : Claim7 := { stood := { row := keyDecodesUptoRow, standIns := [], harness := (true, "6e5773a7b976a5036f70480c27f3c505db65a341cb55955a8ed85872715f1ca2"), looks := false }, kinds := [], alts := [], laidByText := true, laidKinds := [.data, .pinned], laidTests := true, laidLooks := .later }
def KeyDecodesUptoCardSaid : Prop := Claim7.holds Tryd.pinned (.plain (OpenSpec.upto keyDecodesSpec)) keyDecodesUptoCard

/-- THE SECOND FORM's CARD OF 'commonholdlaw.LexMays'. -/
def lexMaysUptoCard : Claim7 := { stood := { row := lexMaysUptoRow, standIns := [], harness := (true, "6e5773a7b976a5036f70480c27f3c505db65a341cb55955a8ed85872715f1ca2"), looks := false }, kinds := [], alts := [], laidByText := true, laidKinds := [.data, .data, .pinned], laidTests := true, laidLooks := .later }
def LexMaysUptoCardSaid : Prop := Claim7.holds Tryd.pinned (.plain (OpenSpec.upto lexMaysSpec)) lexMaysUptoCard

/-- THE SECOND FORM's CARD OF 'commonholdlaw.ShapeNames'. -/
def shapeNamesUptoCard : Claim7 := { stood := { row := shapeNamesUptoRow, standIns := [], harness := (true, "6e5773a7b976a5036f70480c27f3c505db65a341cb55955a8ed85872715f1ca2"), looks := false }, kinds := [], alts := [], laidByText := true, laidKinds := [.data, .data, .widerDeep, .pinned], laidTests := true, laidLooks := .later }
def ShapeNamesUptoCardSaid : Prop := Claim7.holds Tryd.pinned (.plain (OpenSpec.upto shapeNamesSpec)) shapeNamesUptoCard

/-- THE SECOND FORM's CARD OF 'commonholdlaw.RelMays'. -/
def relMaysUptoCard : Claim7 := { stood := { row := relMaysUptoRow, standIns := [], harness := (true, "6e5773a7b976a5036f70480c27f3c505db65a341cb55955a8ed85872715f1ca2"), looks := false }, kinds := [], alts := [], laidByText := true, laidKinds := [.data, .pinned], laidTests := true, laidLooks := .later }
def RelMaysUptoCardSaid : Prop := Claim7.holds Tryd.pinned (.plain (OpenSpec.upto relMaysSpec)) relMaysUptoCard

/-- THE SECOND FORM's CARD OF 'commonholdlaw.PlanLeads'. -/
def planLeadsUptoCard : Claim7 := { stood := { row := planLeadsUptoRow, standIns := [], harness := (true, "6e5773a7b976a5036f70480c27f3c505db65a341cb55955a8ed85872715f1ca2"), looks := false }, kinds := [], alts := [], laidByText := true, laidKinds := [.data, .data, .pinned], laidTests := true, laidLooks := .later }
def PlanLeadsUptoCardSaid : Prop := Claim7.holds Tryd.pinned (.plain (OpenSpec.upto planLeadsSpec)) planLeadsUptoCard

/-- THE SECOND FORM's CARD OF 'commonholdlaw.EvalMays'. -/
def evalMaysUptoCard : Claim7 := { stood := { row := evalMaysUptoRow, standIns := [], harness := (true, "6e5773a7b976a5036f70480c27f3c505db65a341cb55955a8ed85872715f1ca2"), looks := false }, kinds := [], alts := [], laidByText := true, laidKinds := [.data, .pinned], laidTests := true, laidLooks := .later }
def EvalMaysUptoCardSaid : Prop := Claim7.holds Tryd.pinned (.plain (OpenSpec.upto evalMaysSpec)) evalMaysUptoCard

/-- THE SECOND FORM's CARD OF 'commonholdlaw.RowSpans'. -/
def rowSpansUptoCard : Claim7 := { stood := { row := rowSpansUptoRow, standIns := [], harness := (true, "6e5773a7b976a5036f70480c27f3c505db65a341cb55955a8ed85872715f1ca2"), looks := false }, kinds := [], alts := [], laidByText := true, laidKinds := [.data, .pinned], laidTests := true, laidLooks := .later }
def RowSpansUptoCardSaid : Prop := Claim7.holds Tryd.pinned (.plain (OpenSpec.upto rowSpansSpec)) rowSpansUptoCard
end Rows
end Go.Proofs.YtdepkigheacdnaaDoor
