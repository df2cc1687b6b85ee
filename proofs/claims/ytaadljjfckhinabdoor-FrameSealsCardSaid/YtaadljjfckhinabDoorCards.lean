/-
  DERIVED. GIVEN WITH THE SEED: THE CARDS: each row of YtaadljjfckhinabDoorRows.lean that lists a variable, with what it lists TIED to the program's text (the seventh form; the later family's looks); each row that meets fmt, with fmt's text TOLD by the authors' own Lean function (tested against real Go, not proved from fmt's source: count such statements apart). THE CARD IS WHAT COUNTS. Prove the row's statement (the work); the ties are given (YtaadljjfckhinabDoorTie.lean); close each card by the builder's one call (the guide's Derived/Test/ToyasCard.lean, 'card_holds'). Laid BY PROGRAM, IN A SANDBOX (cutbox-door.mjs). By AI agents, Wed Nov 11 2026. No macro, syntax, notation, axiom, sorry.
-/
import Derived.Test.YtaadljjfckhinabDoorRows
import GoSem.ClaimSeven
namespace Go.Proofs.YtaadljjfckhinabDoor
namespace Rows

/-- THE TIED CARD OF 'commonholdlaw.SumOfs'. -/
def sumOfsCard : Claim7 := { stood := { row := sumOfsRow, standIns := [], harness := (true, "c52373b4132f57182a75ef9ad35d020d3ad611cfd0c3812c684f3bf150ba6895"), looks := false }, kinds := [], alts := [], laidByText := true, laidKinds := [.data], laidTests := true, laidLooks := .later }
def SumOfsCardSaid : Prop := Claim7.holds Tryd.pinned (.plain (OpenSpec.ofChange sumOfsSpec)) sumOfsCard

/-- THE TIED CARD OF 'commonholdlaw.ParseKepts'. -/
def parseKeptsCard : Claim7 := { stood := { row := parseKeptsRow, standIns := [], harness := (true, "c52373b4132f57182a75ef9ad35d020d3ad611cfd0c3812c684f3bf150ba6895"), looks := false }, kinds := [], alts := [], laidByText := true, laidKinds := [.widerDeep], laidTests := true, laidLooks := .later }
def ParseKeptsCardSaid : Prop := Claim7.holds Tryd.pinned (.plain (OpenSpec.ofChange parseKeptsSpec)) parseKeptsCard

/-- THE TIED CARD OF 'commonholdlaw.FrameOpens'. -/
def frameOpensCard : Claim7 := { stood := { row := frameOpensRow, standIns := [], harness := (true, "c52373b4132f57182a75ef9ad35d020d3ad611cfd0c3812c684f3bf150ba6895"), looks := false }, kinds := [], alts := [], laidByText := true, laidKinds := [.data], laidTests := true, laidLooks := .later }
def FrameOpensCardSaid : Prop := Claim7.holds Tryd.pinned (.plain (OpenSpec.ofChange frameOpensSpec)) frameOpensCard

/-- THE TIED CARD OF 'commonholdlaw.FrameSeals'. -/
def frameSealsCard : Claim7 := { stood := { row := frameSealsRow, standIns := [], harness := (true, "c52373b4132f57182a75ef9ad35d020d3ad611cfd0c3812c684f3bf150ba6895"), looks := false }, kinds := [], alts := [], laidByText := true, laidKinds := [.data], laidTests := true, laidLooks := .later }
def FrameSealsCardSaid : Prop := Claim7.holds Tryd.pinned (.plain (OpenSpec.ofChange frameSealsSpec)) frameSealsCard

/-- THE TIED CARD OF 'commonholdlaw.FrameCuts'. -/
def frameCutsCard : Claim7 := { stood := { row := frameCutsRow, standIns := [], harness := (true, "c52373b4132f57182a75ef9ad35d020d3ad611cfd0c3812c684f3bf150ba6895"), looks := false }, kinds := [], alts := [], laidByText := true, laidKinds := [.data], laidTests := true, laidLooks := .later }
def FrameCutsCardSaid : Prop := Claim7.holds Tryd.pinned (.plain (OpenSpec.ofChange frameCutsSpec)) frameCutsCard

/-- THE SECOND FORM's CARD OF 'commonholdlaw.SumOfs'. -/
def sumOfsUptoCard : Claim7 := { stood := { row := sumOfsUptoRow, standIns := [], harness := (true, "c52373b4132f57182a75ef9ad35d020d3ad611cfd0c3812c684f3bf150ba6895"), looks := false }, kinds := [], alts := [], laidByText := true, laidKinds := [.data], laidTests := true, laidLooks := .later }
def SumOfsUptoCardSaid : Prop := Claim7.holds Tryd.pinned (.plain (OpenSpec.upto sumOfsSpec)) sumOfsUptoCard

/-- THE SECOND FORM's CARD OF 'commonholdlaw.ParseKepts'. -/
def parseKeptsUptoCard : Claim7 := { stood := { row := parseKeptsUptoRow, standIns := [], harness := (true, "c52373b4132f57182a75ef9ad35d020d3ad611cfd0c3812c684f3bf150ba6895"), looks := false }, kinds := [], alts := [], laidByText := true, laidKinds := [.widerDeep], laidTests := true, laidLooks := .later }
def ParseKeptsUptoCardSaid : Prop := Claim7.holds Tryd.pinned (.plain (OpenSpec.upto parseKeptsSpec)) parseKeptsUptoCard

/-- THE SECOND FORM's CARD OF 'commonholdlaw.FrameOpens'. -/
def frameOpensUptoCard : Claim7 := { stood := { row := frameOpensUptoRow, standIns := [], harness := (true, "c52373b4132f57182a75ef9ad35d020d3ad611cfd0c3812c684f3bf150ba6895"), looks := false }, kinds := [], alts := [], laidByText := true, laidKinds := [.data], laidTests := true, laidLooks := .later }
def FrameOpensUptoCardSaid : Prop := Claim7.holds Tryd.pinned (.plain (OpenSpec.upto frameOpensSpec)) frameOpensUptoCard

/-- THE SECOND FORM's CARD OF 'commonholdlaw.FrameSeals'. -/
def frameSealsUptoCard : Claim7 := { stood := { row := frameSealsUptoRow, standIns := [], harness := (true, "c52373b4132f57182a75ef9ad35d020d3ad611cfd0c3812c684f3bf150ba6895"), looks := false }, kinds := [], alts := [], laidByText := true, laidKinds := [.data], laidTests := true, laidLooks := .later }
def FrameSealsUptoCardSaid : Prop := Claim7.holds Tryd.pinned (.plain (OpenSpec.upto frameSealsSpec)) frameSealsUptoCard

/-- THE SECOND FORM's CARD OF 'commonholdlaw.FrameCuts'. -/
def frameCutsUptoCard : Claim7 := { stood := { row := frameCutsUptoRow, standIns := [], harness := (true, "c52373b4132f57182a75ef9ad35d020d3ad611cfd0c3812c684f3bf150ba6895"), looks := false }, kinds := [], alts := [], laidByText := true, laidKinds := [.data], laidTests := true, laidLooks := .later }
def FrameCutsUptoCardSaid : Prop := Claim7.holds Tryd.pinned (.plain (OpenSpec.upto frameCutsSpec)) frameCutsUptoCard
end Rows
end Go.Proofs.YtaadljjfckhinabDoor
