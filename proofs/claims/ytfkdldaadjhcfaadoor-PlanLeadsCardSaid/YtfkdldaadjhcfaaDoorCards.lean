/-
  DERIVED. GIVEN WITH THE SEED: THE CARDS: each row of YtfkdldaadjhcfaaDoorRows.lean that lists a variable, with what it lists TIED to the program's text (the seventh form; the later family's looks); each row that meets fmt, with fmt's text TOLD by the authors' own Lean function (tested against real Go, not proved from fmt's source: count such statements apart). THE CARD IS WHAT COUNTS. Prove the row's statement (the work); the ties are given (YtfkdldaadjhcfaaDoorTie.lean); close each card by the builder's one call (the guide's Derived/Test/ToyasCard.lean, 'card_holds'). Laid BY PROGRAM, IN A SANDBOX (cutbox-door.mjs). By AI agents, Wed Nov 11 2026. No macro, syntax, notation, axiom, sorry.
-/
import Derived.Test.YtfkdldaadjhcfaaDoorRows
import GoSem.ClaimSeven
namespace Go.Proofs.YtfkdldaadjhcfaaDoor
namespace Rows

/-- THE TIED CARD OF 'commonholdlaw.KeyDecodes'. -/
def keyDecodesCard : Claim7 := { stood := { row := keyDecodesRow, standIns := [], harness := (true, "0b014ee85d1a42ef21032a1b3d4f6599300956f7d29b792ff26d29497d086745"), looks := false }, kinds := [], alts := [], laidByText := true, laidKinds := [.data, .pinned], laidTests := true, laidLooks := .later }
def KeyDecodesCardSaid : Prop := Claim7.holds Tryd.pinned (.plain (OpenSpec.ofChange keyDecodesSpec)) keyDecodesCard

/-- THE TIED CARD OF 'commonholdlaw.PlanLeads'. -/
def planLeadsCard : Claim7 := { stood := { row := planLeadsRow, standIns := [], harness := (true, "0b014ee85d1a42ef21032a1b3d4f6599300956f7d29b792ff26d29497d086745"), looks := false }, kinds := [], alts := [], laidByText := true, laidKinds := [.data, .data, .pinned], laidTests := true, laidLooks := .later }
def PlanLeadsCardSaid : Prop := Claim7.holds Tryd.pinned (.plain (OpenSpec.ofChange planLeadsSpec)) planLeadsCard

/-- THE TIED CARD OF 'commonholdlaw.CatalogFits'. -/
def catalogFitsCard : Claim7 := { stood := { row := catalogFitsRow, standIns := [], harness := (true, "0b014ee85d1a42ef21032a1b3d4f6599300956f7d29b792ff26d29497d086745"), looks := false }, kinds := [], alts := [], laidByText := true, laidKinds := [.data, .data, .widerDeep, .pinned], laidTests := true, laidLooks := .later }
def CatalogFitsCardSaid : Prop := Claim7.holds Tryd.pinned (.plain (OpenSpec.ofChange catalogFitsSpec)) catalogFitsCard

/-- THE TIED CARD OF 'commonholdlaw.ShapeMays'. -/
def shapeMaysCard : Claim7 := { stood := { row := shapeMaysRow, standIns := [], harness := (true, "0b014ee85d1a42ef21032a1b3d4f6599300956f7d29b792ff26d29497d086745"), looks := false }, kinds := [], alts := [], laidByText := true, laidKinds := [.data, .data, .widerDeep, .pinned], laidTests := true, laidLooks := .later }
def ShapeMaysCardSaid : Prop := Claim7.holds Tryd.pinned (.plain (OpenSpec.ofChange shapeMaysSpec)) shapeMaysCard

/-- THE TIED CARD OF 'commonholdlaw.RelSorts'. -/
def relSortsCard : Claim7 := { stood := { row := relSortsRow, standIns := [], harness := (true, "0b014ee85d1a42ef21032a1b3d4f6599300956f7d29b792ff26d29497d086745"), looks := false }, kinds := [], alts := [], laidByText := true, laidKinds := [.data, .pinned], laidTests := true, laidLooks := .later }
def RelSortsCardSaid : Prop := Claim7.holds Tryd.pinned (.plain (OpenSpec.ofChange relSortsSpec)) relSortsCard

/-- THE SECOND FORM's CARD OF 'commonholdlaw.KeyDecodes'. -/
def keyDecodesUptoCard : Claim7 := { stood := { row := keyDecodesUptoRow, standIns := [], harness := (true, "0b014ee85d1a42ef21032a1b3d4f6599300956f7d29b792ff26d29497d086745"), looks := false }, kinds := [], alts := [], laidByText := true, laidKinds := [.data, .pinned], laidTests := true, laidLooks := .later }
def KeyDecodesUptoCardSaid : Prop := Claim7.holds Tryd.pinned (.plain (OpenSpec.upto keyDecodesSpec)) keyDecodesUptoCard

/-- THE SECOND FORM's CARD OF 'commonholdlaw.PlanLeads'. -/
def planLeadsUptoCard : Claim7 := { stood := { row := planLeadsUptoRow, standIns := [], harness := (true, "0b014ee85d1a42ef21032a1b3d4f6599300956f7d29b792ff26d29497d086745"), looks := false }, kinds := [], alts := [], laidByText := true, laidKinds := [.data, .data, .pinned], laidTests := true, laidLooks := .later }
def PlanLeadsUptoCardSaid : Prop := Claim7.holds Tryd.pinned (.plain (OpenSpec.upto planLeadsSpec)) planLeadsUptoCard

/-- THE SECOND FORM's CARD OF 'commonholdlaw.CatalogFits'. -/
def catalogFitsUptoCard : Claim7 := { stood := { row := catalogFitsUptoRow, standIns := [], harness := (true, "0b014ee85d1a42ef21032a1b3d4f6599300956f7d29b792ff26d29497d086745"), looks := false }, kinds := [], alts := [], laidByText := true, laidKinds := [.data, .data, .widerDeep, .pinned], laidTests := true, laidLooks := .later }
def CatalogFitsUptoCardSaid : Prop := Claim7.holds Tryd.pinned (.plain (OpenSpec.upto catalogFitsSpec)) catalogFitsUptoCard

/-- THE SECOND FORM's CARD OF 'commonholdlaw.ShapeMays'. -/
def shapeMaysUptoCard : Claim7 := { stood := { row := shapeMaysUptoRow, standIns := [], harness := (true, "0b014ee85d1a42ef21032a1b3d4f6599300956f7d29b792ff26d29497d086745"), looks := false }, kinds := [], alts := [], laidByText := true, laidKinds := [.data, .data, .widerDeep, .pinned], laidTests := true, laidLooks := .later }
def ShapeMaysUptoCardSaid : Prop := Claim7.holds Tryd.pinned (.plain (OpenSpec.upto shapeMaysSpec)) shapeMaysUptoCard

/-- THE SECOND FORM's CARD OF 'commonholdlaw.RelSorts'. -/
def relSortsUptoCard : Claim7 := { stood := { row := relSortsUptoRow, standIns := [], harness := (true, "0b014ee85d1a42ef21032a1b3d4f6599300956f7d29b792ff26d29497d086745"), looks := false }, kinds := [], alts := [], laidByText := true, laidKinds := [.data, .pinned], laidTests := true, laidLooks := .later }
def RelSortsUptoCardSaid : Prop := Claim7.holds Tryd.pinned (.plain (OpenSpec.upto relSortsSpec)) relSortsUptoCard
end Rows
end Go.Proofs.YtfkdldaadjhcfaaDoor
