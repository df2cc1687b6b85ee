/-
  NARROWER THAN 'FOR EVERY INPUT', by the rows' own cells (each row's printed sentence says how): SumOfs: laid · ParseKepts: laid · FrameOpens: laid · FrameSeals: laid · FrameCuts: laid.
  DERIVED. THE GIVEN ROWS OF THIS SEAT. 5 by the template 'for every input the law returns true; each argument reads behind the call as it read before'; 0 by the template 'total and deterministic' (their statements: YtaadljjfckhinabDoorTotals.lean).
  GIVEN WITH THE SEED: the statements are not yours to turn. If you find one false, say at which input.
  Laid BY PROGRAM, IN A SANDBOX (cutbox-rows.mjs): the forced cells as the released guide's own fill.sh prints them over the translation 7d4779e1d7212fdc… (all of the seat's roots in one cut). By AI agents, Wed Nov 11 2026. No macro, syntax, notation, axiom, sorry.
-/
import Derived.Test.YtaadljjfckhinabDoorChecked
import GoSem.Claim
import GoSem.ClaimJoined
import GoSem.ClaimMapViews
import Derived.JoinedTies
import Derived.KernelRfl
namespace Go.Proofs.YtaadljjfckhinabDoor
/- THE CELL 'sum', in the pinned program and in every row, IS THE sha256 OF THE DUMP (.gsa) THAT YtaadljjfckhinabDoorProg.lean LOADS. Nothing in Lean hashes anything: it is a label: what it is worth is what the hold of that sum in a sandbox is worth. -/
noncomputable def Tryd.pinned : Pinned := { name := "ytaadljjfckhinabdoor", sum := "7d4779e1d7212fdc6bea177407dee8f200636c6be2d509d367ce011a69831674", checked := Tryd.checked }
namespace Rows
def none {H : Type} : Left H := { results := [], args := [] }

/- WHAT THE LISTED PACKAGE-LEVEL VARIABLES READ AS WHEN THE CALL BEGINS. Each datum BY PROGRAM (the guide's laid-datum.mjs) off the statement by which the dump's own 'gosem.cut.vars' lays the variable. In a bare row this is a premise. The card (YtaadljjfckhinabDoorCards.lean) ties it to the program's text. -/
def laid_commonhold_sum_step {H : Type} : DataW H := .agg [.lit (.int .u32 0), .lit (.int .u32 498536548), .lit (.int .u32 997073096), .lit (.int .u32 651767980), .lit (.int .u32 1994146192), .lit (.int .u32 1802195444), .lit (.int .u32 1303535960), .lit (.int .u32 1342533948), .lit (.int .u32 3988292384), .lit (.int .u32 4027552580), .lit (.int .u32 3604390888), .lit (.int .u32 3412177804), .lit (.int .u32 2607071920), .lit (.int .u32 2262029012), .lit (.int .u32 2685067896), .lit (.int .u32 3183342108)]
def laid_commonhold_parse_kept {H : Type} : DataW H := .agg [.lit (.string [97, 110, 100]), .lit (.string [98, 121]), .lit (.string [99, 111, 117, 110, 116]), .lit (.string [99, 114, 101, 97, 116, 101]), .lit (.string [100, 101, 108, 101, 116, 101]), .lit (.string [100, 101, 115, 99]), .lit (.string [102, 97, 108, 115, 101]), .lit (.string [102, 114, 111, 109]), .lit (.string [103, 114, 111, 117, 112]), .lit (.string [105, 110, 100, 101, 120]), .lit (.string [105, 110, 115, 101, 114, 116]), .lit (.string [105, 110, 116]), .lit (.string [105, 110, 116, 111]), .lit (.string [105, 115]), .lit (.string [106, 111, 105, 110]), .lit (.string [107, 101, 121]), .lit (.string [108, 105, 109, 105, 116]), .lit (.string [109, 97, 120]), .lit (.string [109, 105, 110]), .lit (.string [110, 111, 116]), .lit (.string [110, 117, 108, 108]), .lit (.string [111, 110]), .lit (.string [111, 114]), .lit (.string [111, 114, 100, 101, 114]), .lit (.string [112, 114, 105, 109, 97, 114, 121]), .lit (.string [115, 101, 108, 101, 99, 116]), .lit (.string [115, 101, 116]), .lit (.string [115, 117, 109]), .lit (.string [116, 97, 98, 108, 101]), .lit (.string [116, 101, 120, 116]), .lit (.string [116, 114, 117, 101]), .lit (.string [116, 114, 117, 116, 104]), .lit (.string [117, 112, 100, 97, 116, 101]), .lit (.string [118, 97, 108, 117, 101, 115]), .lit (.string [119, 104, 101, 114, 101])]

/-- 'commonholdlaw.SumOfs': WHATEVER THE INPUT: true; the input reads as it did. -/
def sumOfsSpec : ChangeSpec := { name := "sumOfs", fn := fun _ => fun
  | [d] => { results := [.lit (.bool true)], args := [d] }
  | _ => none }
def sumOfsRow : OpenClaim := { program := "ytaadljjfckhinabdoor", sum := "7d4779e1d7212fdc6bea177407dee8f200636c6be2d509d367ce011a69831674", func := "commonhold/commonholdlaw.SumOfs", spec := "sumOfs", named := ["commonhold/sum.step"], apart := false, laid := [("commonhold/sum.step", laid_commonhold_sum_step)] }
def SumOfsSaid : Prop := sumOfsRow.holds Tryd.pinned (OpenSpec.ofChange sumOfsSpec)

/-- ITS FALSE NEIGHBOUR: 'it returns false'. Refute it at one input. -/
def sumOfsWrong : ChangeSpec := { name := "sumOfs", fn := fun _ => fun
  | [d] => { results := [.lit (.bool false)], args := [d] }
  | _ => none }
def SumOfsWrongFalsely : Prop := sumOfsRow.holds Tryd.pinned (OpenSpec.ofChange sumOfsWrong)

/-- 'commonholdlaw.ParseKepts': WHATEVER THE INPUT: true; the input reads as it did. -/
def parseKeptsSpec : ChangeSpec := { name := "parseKepts", fn := fun _ => fun
  | [d] => { results := [.lit (.bool true)], args := [d] }
  | _ => none }
def parseKeptsRow : OpenClaim := { program := "ytaadljjfckhinabdoor", sum := "7d4779e1d7212fdc6bea177407dee8f200636c6be2d509d367ce011a69831674", func := "commonhold/commonholdlaw.ParseKepts", spec := "parseKepts", named := ["commonhold/parse.kept"], apart := false, laid := [("commonhold/parse.kept", laid_commonhold_parse_kept)] }
def ParseKeptsSaid : Prop := parseKeptsRow.holds Tryd.pinned (OpenSpec.ofChange parseKeptsSpec)

/-- ITS FALSE NEIGHBOUR: 'it returns false'. Refute it at one input. -/
def parseKeptsWrong : ChangeSpec := { name := "parseKepts", fn := fun _ => fun
  | [d] => { results := [.lit (.bool false)], args := [d] }
  | _ => none }
def ParseKeptsWrongFalsely : Prop := parseKeptsRow.holds Tryd.pinned (OpenSpec.ofChange parseKeptsWrong)

/-- 'commonholdlaw.FrameOpens': WHATEVER THE INPUT: true; the input reads as it did. -/
def frameOpensSpec : ChangeSpec := { name := "frameOpens", fn := fun _ => fun
  | [d] => { results := [.lit (.bool true)], args := [d] }
  | _ => none }
def frameOpensRow : OpenClaim := { program := "ytaadljjfckhinabdoor", sum := "7d4779e1d7212fdc6bea177407dee8f200636c6be2d509d367ce011a69831674", func := "commonhold/commonholdlaw.FrameOpens", spec := "frameOpens", named := ["commonhold/sum.step"], apart := false, laid := [("commonhold/sum.step", laid_commonhold_sum_step)] }
def FrameOpensSaid : Prop := frameOpensRow.holds Tryd.pinned (OpenSpec.ofChange frameOpensSpec)

/-- ITS FALSE NEIGHBOUR: 'it returns false'. Refute it at one input. -/
def frameOpensWrong : ChangeSpec := { name := "frameOpens", fn := fun _ => fun
  | [d] => { results := [.lit (.bool false)], args := [d] }
  | _ => none }
def FrameOpensWrongFalsely : Prop := frameOpensRow.holds Tryd.pinned (OpenSpec.ofChange frameOpensWrong)

/-- 'commonholdlaw.FrameSeals': WHATEVER THE INPUT: true; the input reads as it did. -/
def frameSealsSpec : ChangeSpec := { name := "frameSeals", fn := fun _ => fun
  | [d] => { results := [.lit (.bool true)], args := [d] }
  | _ => none }
def frameSealsRow : OpenClaim := { program := "ytaadljjfckhinabdoor", sum := "7d4779e1d7212fdc6bea177407dee8f200636c6be2d509d367ce011a69831674", func := "commonhold/commonholdlaw.FrameSeals", spec := "frameSeals", named := ["commonhold/sum.step"], apart := false, laid := [("commonhold/sum.step", laid_commonhold_sum_step)] }
def FrameSealsSaid : Prop := frameSealsRow.holds Tryd.pinned (OpenSpec.ofChange frameSealsSpec)

/-- ITS FALSE NEIGHBOUR: 'it returns false'. Refute it at one input. -/
def frameSealsWrong : ChangeSpec := { name := "frameSeals", fn := fun _ => fun
  | [d] => { results := [.lit (.bool false)], args := [d] }
  | _ => none }
def FrameSealsWrongFalsely : Prop := frameSealsRow.holds Tryd.pinned (OpenSpec.ofChange frameSealsWrong)

/-- 'commonholdlaw.FrameCuts': WHATEVER THE INPUT: true; the input reads as it did. -/
def frameCutsSpec : ChangeSpec := { name := "frameCuts", fn := fun _ => fun
  | [d] => { results := [.lit (.bool true)], args := [d] }
  | _ => none }
def frameCutsRow : OpenClaim := { program := "ytaadljjfckhinabdoor", sum := "7d4779e1d7212fdc6bea177407dee8f200636c6be2d509d367ce011a69831674", func := "commonhold/commonholdlaw.FrameCuts", spec := "frameCuts", named := ["commonhold/sum.step"], apart := false, laid := [("commonhold/sum.step", laid_commonhold_sum_step)] }
def FrameCutsSaid : Prop := frameCutsRow.holds Tryd.pinned (OpenSpec.ofChange frameCutsSpec)

/-- ITS FALSE NEIGHBOUR: 'it returns false'. Refute it at one input. -/
def frameCutsWrong : ChangeSpec := { name := "frameCuts", fn := fun _ => fun
  | [d] => { results := [.lit (.bool false)], args := [d] }
  | _ => none }
def FrameCutsWrongFalsely : Prop := frameCutsRow.holds Tryd.pinned (OpenSpec.ofChange frameCutsWrong)

/- THE SECOND FORM. 'bulk': how many values and letters a reading holds, each counted each time it is reached (what is shared counts as often as it is met; a slice's spare places count too). A statement '..UptoSaid' is the law's where the arguments, and the package variables that the reading takes, are together of bulk at most 1048576: NARROWER than '..Said'. Prove '..Said' where nothing that the law and all that it calls make is longer than what came in: it says more and counts as full. Else prove '..UptoSaid'. A law counts once. -/
mutual
def uptoBulk {H : Type} : DataW H → Nat
  | .lit (.string bytes) => bytes.length + 1
  | .lit _ => 1
  | .nil => 1
  | .ptr d => uptoBulk d + 1
  | .slice elems spare => uptoBulkAll elems + uptoBulkAll spare + 1
  | .agg parts => uptoBulkAll parts + 1
  | .iface _ d => uptoBulk d + 1
  | .map entries => uptoBulkEntries entries + 1
  | .held _ => 1
def uptoBulkAll {H : Type} : List (DataW H) → Nat
  | [] => 0
  | d :: r => uptoBulk d + uptoBulkAll r
def uptoBulkEntries {H : Type} : List (Lit × DataW H) → Nat
  | [] => 0
  | x :: r => uptoBulkEntry x + uptoBulkEntries r
def uptoBulkEntry {H : Type} : Lit × DataW H → Nat
  | (.string bytes, d) => bytes.length + uptoBulk d + 1
  | (_, d) => uptoBulk d + 1
 end
def uptoSmall : (H : Type) → List (DataW H) → Bool := fun _ ds => decide (uptoBulkAll ds ≤ 1048576)
def OpenSpec.upto (s : _root_.Go.ChangeSpec) : _root_.Go.OpenSpec := { _root_.Go.OpenSpec.ofChange s with cond := some uptoSmall }

/-- 'commonholdlaw.SumOfs', WHERE WHAT IT READS IS OF BULK AT MOST 1048576: true; the input reads as it did. -/
def sumOfsUptoRow : OpenClaim := { program := "ytaadljjfckhinabdoor", sum := "7d4779e1d7212fdc6bea177407dee8f200636c6be2d509d367ce011a69831674", func := "commonhold/commonholdlaw.SumOfs", spec := "sumOfs", named := ["commonhold/sum.step"], apart := false, laid := [("commonhold/sum.step", laid_commonhold_sum_step)], narrowed := true }
def SumOfsUptoSaid : Prop := sumOfsUptoRow.holds Tryd.pinned (OpenSpec.upto sumOfsSpec)

/-- 'commonholdlaw.ParseKepts', WHERE WHAT IT READS IS OF BULK AT MOST 1048576: true; the input reads as it did. -/
def parseKeptsUptoRow : OpenClaim := { program := "ytaadljjfckhinabdoor", sum := "7d4779e1d7212fdc6bea177407dee8f200636c6be2d509d367ce011a69831674", func := "commonhold/commonholdlaw.ParseKepts", spec := "parseKepts", named := ["commonhold/parse.kept"], apart := false, laid := [("commonhold/parse.kept", laid_commonhold_parse_kept)], narrowed := true }
def ParseKeptsUptoSaid : Prop := parseKeptsUptoRow.holds Tryd.pinned (OpenSpec.upto parseKeptsSpec)

/-- 'commonholdlaw.FrameOpens', WHERE WHAT IT READS IS OF BULK AT MOST 1048576: true; the input reads as it did. -/
def frameOpensUptoRow : OpenClaim := { program := "ytaadljjfckhinabdoor", sum := "7d4779e1d7212fdc6bea177407dee8f200636c6be2d509d367ce011a69831674", func := "commonhold/commonholdlaw.FrameOpens", spec := "frameOpens", named := ["commonhold/sum.step"], apart := false, laid := [("commonhold/sum.step", laid_commonhold_sum_step)], narrowed := true }
def FrameOpensUptoSaid : Prop := frameOpensUptoRow.holds Tryd.pinned (OpenSpec.upto frameOpensSpec)

/-- 'commonholdlaw.FrameSeals', WHERE WHAT IT READS IS OF BULK AT MOST 1048576: true; the input reads as it did. -/
def frameSealsUptoRow : OpenClaim := { program := "ytaadljjfckhinabdoor", sum := "7d4779e1d7212fdc6bea177407dee8f200636c6be2d509d367ce011a69831674", func := "commonhold/commonholdlaw.FrameSeals", spec := "frameSeals", named := ["commonhold/sum.step"], apart := false, laid := [("commonhold/sum.step", laid_commonhold_sum_step)], narrowed := true }
def FrameSealsUptoSaid : Prop := frameSealsUptoRow.holds Tryd.pinned (OpenSpec.upto frameSealsSpec)

/-- 'commonholdlaw.FrameCuts', WHERE WHAT IT READS IS OF BULK AT MOST 1048576: true; the input reads as it did. -/
def frameCutsUptoRow : OpenClaim := { program := "ytaadljjfckhinabdoor", sum := "7d4779e1d7212fdc6bea177407dee8f200636c6be2d509d367ce011a69831674", func := "commonhold/commonholdlaw.FrameCuts", spec := "frameCuts", named := ["commonhold/sum.step"], apart := false, laid := [("commonhold/sum.step", laid_commonhold_sum_step)], narrowed := true }
def FrameCutsUptoSaid : Prop := frameCutsUptoRow.holds Tryd.pinned (OpenSpec.upto frameCutsSpec)

end Rows
end Go.Proofs.YtaadljjfckhinabDoor
