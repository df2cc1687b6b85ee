/-
  NARROWER THAN 'FOR EVERY INPUT', by the rows' own cells (each row's printed sentence says how): RowEntries: laid · RowReads: laid · EvalEvals: loops, laid · EvalHolds: loops, laid · RelFilters: loops, laid · RelProjects: loops, laid · RelJoins: loops, laid.
  DERIVED. THE GIVEN ROWS OF THIS SEAT. 7 by the template 'for every input the law returns true; each argument reads behind the call as it read before'; 0 by the template 'total and deterministic' (their statements: YthhejedfjgikdaaDoorTotals.lean).
  GIVEN WITH THE SEED: the statements are not yours to turn. If you find one false, say at which input.
  Laid BY PROGRAM, IN A SANDBOX (cutbox-rows.mjs): the forced cells as the released guide's own fill.sh prints them over the translation 2230915436466aaf… (all of the seat's roots in one cut). By AI agents, Wed Nov 11 2026. No macro, syntax, notation, axiom, sorry.
-/
import Derived.Test.YthhejedfjgikdaaDoorChecked
import GoSem.PinnedTables
import GoSem.Claim
import GoSem.ClaimJoined
import GoSem.ClaimMapViews
import Derived.JoinedTies
import Derived.KernelRfl
namespace Go.Proofs.YthhejedfjgikdaaDoor
/- THE CELL 'sum', in the pinned program and in every row, IS THE sha256 OF THE DUMP (.gsa) THAT YthhejedfjgikdaaDoorProg.lean LOADS. Nothing in Lean hashes anything: it is a label: what it is worth is what the hold of that sum in a sandbox is worth. -/
noncomputable def Tryd.pinned : Pinned := { name := "ythhejedfjgikdaadoor", sum := "2230915436466aaf425198d8fb98dfb70ff06af3c1dced61294a4da3cce8b880", checked := Tryd.checked }
namespace Rows
def none {H : Type} : Left H := { results := [], args := [] }

/- WHAT THE LISTED PACKAGE-LEVEL VARIABLES READ AS WHEN THE CALL BEGINS. Each datum BY PROGRAM (the guide's laid-datum.mjs) off the statement by which the dump's own 'gosem.cut.vars' lays the variable. In a bare row this is a premise. The card (YthhejedfjgikdaaDoorCards.lean) ties it to the program's text. -/
def laid_unicode_utf8_acceptRanges {H : Type} : DataW H := .agg [.agg [.lit (.int .u8 128), .lit (.int .u8 191)], .agg [.lit (.int .u8 160), .lit (.int .u8 191)], .agg [.lit (.int .u8 128), .lit (.int .u8 159)], .agg [.lit (.int .u8 144), .lit (.int .u8 191)], .agg [.lit (.int .u8 128), .lit (.int .u8 143)], .agg [.lit (.int .u8 0), .lit (.int .u8 0)], .agg [.lit (.int .u8 0), .lit (.int .u8 0)], .agg [.lit (.int .u8 0), .lit (.int .u8 0)], .agg [.lit (.int .u8 0), .lit (.int .u8 0)], .agg [.lit (.int .u8 0), .lit (.int .u8 0)], .agg [.lit (.int .u8 0), .lit (.int .u8 0)], .agg [.lit (.int .u8 0), .lit (.int .u8 0)], .agg [.lit (.int .u8 0), .lit (.int .u8 0)], .agg [.lit (.int .u8 0), .lit (.int .u8 0)], .agg [.lit (.int .u8 0), .lit (.int .u8 0)], .agg [.lit (.int .u8 0), .lit (.int .u8 0)]]
def laid_commonhold_lex_marks {H : Type} : DataW H := .agg [.lit (.string [60, 61]), .lit (.string [62, 61]), .lit (.string [60, 62]), .lit (.string [40]), .lit (.string [41]), .lit (.string [44]), .lit (.string [46]), .lit (.string [42]), .lit (.string [43]), .lit (.string [45]), .lit (.string [47]), .lit (.string [37]), .lit (.string [61]), .lit (.string [60]), .lit (.string [62]), .lit (.string [])]
def laid_commonhold_parse_kept {H : Type} : DataW H := .agg [.lit (.string [97, 110, 100]), .lit (.string [98, 121]), .lit (.string [99, 111, 117, 110, 116]), .lit (.string [99, 114, 101, 97, 116, 101]), .lit (.string [100, 101, 108, 101, 116, 101]), .lit (.string [100, 101, 115, 99]), .lit (.string [102, 97, 108, 115, 101]), .lit (.string [102, 114, 111, 109]), .lit (.string [103, 114, 111, 117, 112]), .lit (.string [105, 110, 100, 101, 120]), .lit (.string [105, 110, 115, 101, 114, 116]), .lit (.string [105, 110, 116]), .lit (.string [105, 110, 116, 111]), .lit (.string [105, 115]), .lit (.string [106, 111, 105, 110]), .lit (.string [107, 101, 121]), .lit (.string [108, 105, 109, 105, 116]), .lit (.string [109, 97, 120]), .lit (.string [109, 105, 110]), .lit (.string [110, 111, 116]), .lit (.string [110, 117, 108, 108]), .lit (.string [111, 110]), .lit (.string [111, 114]), .lit (.string [111, 114, 100, 101, 114]), .lit (.string [112, 114, 105, 109, 97, 114, 121]), .lit (.string [115, 101, 108, 101, 99, 116]), .lit (.string [115, 101, 116]), .lit (.string [115, 117, 109]), .lit (.string [116, 97, 98, 108, 101]), .lit (.string [116, 101, 120, 116]), .lit (.string [116, 114, 117, 101]), .lit (.string [116, 114, 117, 116, 104]), .lit (.string [117, 112, 100, 97, 116, 101]), .lit (.string [118, 97, 108, 117, 101, 115]), .lit (.string [119, 104, 101, 114, 101])]
/-- One of Go's own tables, pinned by name: the form's constant. -/
def laid_unicode_utf8_first : DataW Unit := Go.Pinned.utf8First

/-- 'commonholdlaw.RowEntries': WHATEVER THE INPUT: true; the input reads as it did. -/
def rowEntriesSpec : ChangeSpec := { name := "rowEntries", fn := fun _ => fun
  | [d1, d2, d3] => { results := [.lit (.bool true)], args := [d1, d2, d3] }
  | _ => none }
def rowEntriesRow : OpenClaim := { program := "ythhejedfjgikdaadoor", sum := "2230915436466aaf425198d8fb98dfb70ff06af3c1dced61294a4da3cce8b880", func := "commonhold/commonholdlaw.RowEntries", spec := "rowEntries", unfollowed := true, recurses := true, named := ["unicode/utf8.first", "unicode/utf8.acceptRanges", "commonhold/lex.marks", "commonhold/parse.kept"], apart := false, laid := [("unicode/utf8.acceptRanges", laid_unicode_utf8_acceptRanges), ("commonhold/lex.marks", laid_commonhold_lex_marks), ("commonhold/parse.kept", laid_commonhold_parse_kept), ("unicode/utf8.first", laid_unicode_utf8_first)] }
def RowEntriesSaid : Prop := rowEntriesRow.holds Tryd.pinned (OpenSpec.ofChange rowEntriesSpec)

/-- ITS FALSE NEIGHBOUR: 'it returns false'. Refute it at one input. -/
def rowEntriesWrong : ChangeSpec := { name := "rowEntries", fn := fun _ => fun
  | [d1, d2, d3] => { results := [.lit (.bool false)], args := [d1, d2, d3] }
  | _ => none }
def RowEntriesWrongFalsely : Prop := rowEntriesRow.holds Tryd.pinned (OpenSpec.ofChange rowEntriesWrong)

/-- 'commonholdlaw.RowReads': WHATEVER THE INPUT: true; the input reads as it did. -/
def rowReadsSpec : ChangeSpec := { name := "rowReads", fn := fun _ => fun
  | [d1, d2, d3] => { results := [.lit (.bool true)], args := [d1, d2, d3] }
  | _ => none }
def rowReadsRow : OpenClaim := { program := "ythhejedfjgikdaadoor", sum := "2230915436466aaf425198d8fb98dfb70ff06af3c1dced61294a4da3cce8b880", func := "commonhold/commonholdlaw.RowReads", spec := "rowReads", unfollowed := true, recurses := true, named := ["unicode/utf8.first", "unicode/utf8.acceptRanges", "commonhold/lex.marks", "commonhold/parse.kept"], apart := false, laid := [("unicode/utf8.acceptRanges", laid_unicode_utf8_acceptRanges), ("commonhold/lex.marks", laid_commonhold_lex_marks), ("commonhold/parse.kept", laid_commonhold_parse_kept), ("unicode/utf8.first", laid_unicode_utf8_first)] }
def RowReadsSaid : Prop := rowReadsRow.holds Tryd.pinned (OpenSpec.ofChange rowReadsSpec)

/-- ITS FALSE NEIGHBOUR: 'it returns false'. Refute it at one input. -/
def rowReadsWrong : ChangeSpec := { name := "rowReads", fn := fun _ => fun
  | [d1, d2, d3] => { results := [.lit (.bool false)], args := [d1, d2, d3] }
  | _ => none }
def RowReadsWrongFalsely : Prop := rowReadsRow.holds Tryd.pinned (OpenSpec.ofChange rowReadsWrong)

/-- 'commonholdlaw.EvalEvals': WHATEVER THE INPUT: true; the input reads as it did. -/
def evalEvalsSpec : ChangeSpec := { name := "evalEvals", fn := fun _ => fun
  | [d1, d2] => { results := [.lit (.bool true)], args := [d1, d2] }
  | _ => none }
def evalEvalsRow : OpenClaim := { program := "ythhejedfjgikdaadoor", sum := "2230915436466aaf425198d8fb98dfb70ff06af3c1dced61294a4da3cce8b880", func := "commonhold/commonholdlaw.EvalEvals", spec := "evalEvals", inPlace := ["internal/bytealg.abigen_runtime_cmpstring"], unfollowed := true, recurses := true, named := ["unicode/utf8.first", "unicode/utf8.acceptRanges"], loops := true, apart := false, laid := [("unicode/utf8.acceptRanges", laid_unicode_utf8_acceptRanges), ("unicode/utf8.first", laid_unicode_utf8_first)] }
def EvalEvalsSaid : Prop := evalEvalsRow.holds Tryd.pinned (OpenSpec.ofChange evalEvalsSpec)

/-- ITS FALSE NEIGHBOUR: 'it returns false'. Refute it at one input. -/
def evalEvalsWrong : ChangeSpec := { name := "evalEvals", fn := fun _ => fun
  | [d1, d2] => { results := [.lit (.bool false)], args := [d1, d2] }
  | _ => none }
def EvalEvalsWrongFalsely : Prop := evalEvalsRow.holds Tryd.pinned (OpenSpec.ofChange evalEvalsWrong)

/-- 'commonholdlaw.EvalHolds': WHATEVER THE INPUT: true; the input reads as it did. -/
def evalHoldsSpec : ChangeSpec := { name := "evalHolds", fn := fun _ => fun
  | [d1, d2] => { results := [.lit (.bool true)], args := [d1, d2] }
  | _ => none }
def evalHoldsRow : OpenClaim := { program := "ythhejedfjgikdaadoor", sum := "2230915436466aaf425198d8fb98dfb70ff06af3c1dced61294a4da3cce8b880", func := "commonhold/commonholdlaw.EvalHolds", spec := "evalHolds", inPlace := ["internal/bytealg.abigen_runtime_cmpstring"], unfollowed := true, recurses := true, named := ["unicode/utf8.first", "unicode/utf8.acceptRanges"], loops := true, apart := false, laid := [("unicode/utf8.acceptRanges", laid_unicode_utf8_acceptRanges), ("unicode/utf8.first", laid_unicode_utf8_first)] }
def EvalHoldsSaid : Prop := evalHoldsRow.holds Tryd.pinned (OpenSpec.ofChange evalHoldsSpec)

/-- ITS FALSE NEIGHBOUR: 'it returns false'. Refute it at one input. -/
def evalHoldsWrong : ChangeSpec := { name := "evalHolds", fn := fun _ => fun
  | [d1, d2] => { results := [.lit (.bool false)], args := [d1, d2] }
  | _ => none }
def EvalHoldsWrongFalsely : Prop := evalHoldsRow.holds Tryd.pinned (OpenSpec.ofChange evalHoldsWrong)

/-- 'commonholdlaw.RelFilters': WHATEVER THE INPUT: true; the input reads as it did. -/
def relFiltersSpec : ChangeSpec := { name := "relFilters", fn := fun _ => fun
  | [d1, d2] => { results := [.lit (.bool true)], args := [d1, d2] }
  | _ => none }
def relFiltersRow : OpenClaim := { program := "ythhejedfjgikdaadoor", sum := "2230915436466aaf425198d8fb98dfb70ff06af3c1dced61294a4da3cce8b880", func := "commonhold/commonholdlaw.RelFilters", spec := "relFilters", inPlace := ["internal/bytealg.abigen_runtime_cmpstring"], unfollowed := true, recurses := true, named := ["unicode/utf8.first", "unicode/utf8.acceptRanges"], loops := true, apart := false, laid := [("unicode/utf8.acceptRanges", laid_unicode_utf8_acceptRanges), ("unicode/utf8.first", laid_unicode_utf8_first)] }
def RelFiltersSaid : Prop := relFiltersRow.holds Tryd.pinned (OpenSpec.ofChange relFiltersSpec)

/-- ITS FALSE NEIGHBOUR: 'it returns false'. Refute it at one input. -/
def relFiltersWrong : ChangeSpec := { name := "relFilters", fn := fun _ => fun
  | [d1, d2] => { results := [.lit (.bool false)], args := [d1, d2] }
  | _ => none }
def RelFiltersWrongFalsely : Prop := relFiltersRow.holds Tryd.pinned (OpenSpec.ofChange relFiltersWrong)

/-- 'commonholdlaw.RelProjects': WHATEVER THE INPUT: true; the input reads as it did. -/
def relProjectsSpec : ChangeSpec := { name := "relProjects", fn := fun _ => fun
  | [d1, d2] => { results := [.lit (.bool true)], args := [d1, d2] }
  | _ => none }
def relProjectsRow : OpenClaim := { program := "ythhejedfjgikdaadoor", sum := "2230915436466aaf425198d8fb98dfb70ff06af3c1dced61294a4da3cce8b880", func := "commonhold/commonholdlaw.RelProjects", spec := "relProjects", inPlace := ["internal/bytealg.abigen_runtime_cmpstring"], unfollowed := true, recurses := true, named := ["unicode/utf8.first", "unicode/utf8.acceptRanges"], loops := true, apart := false, laid := [("unicode/utf8.acceptRanges", laid_unicode_utf8_acceptRanges), ("unicode/utf8.first", laid_unicode_utf8_first)] }
def RelProjectsSaid : Prop := relProjectsRow.holds Tryd.pinned (OpenSpec.ofChange relProjectsSpec)

/-- ITS FALSE NEIGHBOUR: 'it returns false'. Refute it at one input. -/
def relProjectsWrong : ChangeSpec := { name := "relProjects", fn := fun _ => fun
  | [d1, d2] => { results := [.lit (.bool false)], args := [d1, d2] }
  | _ => none }
def RelProjectsWrongFalsely : Prop := relProjectsRow.holds Tryd.pinned (OpenSpec.ofChange relProjectsWrong)

/-- 'commonholdlaw.RelJoins': WHATEVER THE INPUT: true; the input reads as it did. -/
def relJoinsSpec : ChangeSpec := { name := "relJoins", fn := fun _ => fun
  | [d1, d2, d3] => { results := [.lit (.bool true)], args := [d1, d2, d3] }
  | _ => none }
def relJoinsRow : OpenClaim := { program := "ythhejedfjgikdaadoor", sum := "2230915436466aaf425198d8fb98dfb70ff06af3c1dced61294a4da3cce8b880", func := "commonhold/commonholdlaw.RelJoins", spec := "relJoins", inPlace := ["internal/bytealg.abigen_runtime_cmpstring"], unfollowed := true, recurses := true, named := ["unicode/utf8.first", "unicode/utf8.acceptRanges"], loops := true, apart := false, laid := [("unicode/utf8.acceptRanges", laid_unicode_utf8_acceptRanges), ("unicode/utf8.first", laid_unicode_utf8_first)] }
def RelJoinsSaid : Prop := relJoinsRow.holds Tryd.pinned (OpenSpec.ofChange relJoinsSpec)

/-- ITS FALSE NEIGHBOUR: 'it returns false'. Refute it at one input. -/
def relJoinsWrong : ChangeSpec := { name := "relJoins", fn := fun _ => fun
  | [d1, d2, d3] => { results := [.lit (.bool false)], args := [d1, d2, d3] }
  | _ => none }
def RelJoinsWrongFalsely : Prop := relJoinsRow.holds Tryd.pinned (OpenSpec.ofChange relJoinsWrong)

/- THE SECOND FORM. 'bulk': how many values and letters a reading holds, each counted each time it is reached (what is shared counts as often as it is met; a slice's spare places count too). A statement '..UptoSaid' is the law's where the arguments, and the package variables that the reading takes, are together of bulk at most 1048576: NARROWER than '..Said'. Prove '..Said' where nothing that the law and all that it calls make is longer than what came in: it says more and counts as full. Else prove '..UptoSaid'. A law counts once. -/
mutual
def uptoBulk {H : Type} : DataW H → Nat
  | .lit (.string bytes) => bytes.length + 1
  | .lit _ => 1
  | .nil => 1
  | .ptr d => uptoBulk d + 1
  | .slice elems spare => uptoBulkAll elems + uptoBulkAll spare + 1
  | .agg parts => uptoBulkAll parts + 1
  | .iface _ d => uptoBulk d + 1
  | .map entries => uptoBulkEntries entries + 1
  | .held _ => 1
def uptoBulkAll {H : Type} : List (DataW H) → Nat
  | [] => 0
  | d :: r => uptoBulk d + uptoBulkAll r
def uptoBulkEntries {H : Type} : List (Lit × DataW H) → Nat
  | [] => 0
  | x :: r => uptoBulkEntry x + uptoBulkEntries r
def uptoBulkEntry {H : Type} : Lit × DataW H → Nat
  | (.string bytes, d) => bytes.length + uptoBulk d + 1
  | (_, d) => uptoBulk d + 1
 end
def uptoSmall : (H : Type) → List (DataW H) → Bool := fun _ ds => decide (uptoBulkAll ds ≤ 1048576)
def OpenSpec.upto (s : _root_.Go.ChangeSpec) : _root_.Go.OpenSpec := { _root_.Go.OpenSpec.ofChange s with cond := some uptoSmall }

/-- 'commonholdlaw.RowEntries', WHERE WHAT IT READS IS OF BULK AT MOST 1048576: true; the input reads as it did. -/
def rowEntriesUptoRow : OpenClaim := { program := "ythhejedfjgikdaadoor", sum := "2230915436466aaf425198d8fb98dfb70ff06af3c1dced61294a4da3cce8b880", func := "commonhold/commonholdlaw.RowEntries", spec := "rowEntries", unfollowed := true, recurses := true, named := ["unicode/utf8.first", "unicode/utf8.acceptRanges", "commonhold/lex.marks", "commonhold/parse.kept"], apart := false, laid := [("unicode/utf8.acceptRanges", laid_unicode_utf8_acceptRanges), ("commonhold/lex.marks", laid_commonhold_lex_marks), ("commonhold/parse.kept", laid_commonhold_parse_kept), ("unicode/utf8.first", laid_unicode_utf8_first)], narrowed := true }
def RowEntriesUptoSaid : Prop := rowEntriesUptoRow.holds Tryd.pinned (OpenSpec.upto rowEntriesSpec)

/-- 'commonholdlaw.RowReads', WHERE WHAT IT READS IS OF BULK AT MOST 1048576: true; the input reads as it did. -/
def rowReadsUptoRow : OpenClaim := { program := "ythhejedfjgikdaadoor", sum := "2230915436466aaf425198d8fb98dfb70ff06af3c1dced61294a4da3cce8b880", func := "commonhold/commonholdlaw.RowReads", spec := "rowReads", unfollowed := true, recurses := true, named := ["unicode/utf8.first", "unicode/utf8.acceptRanges", "commonhold/lex.marks", "commonhold/parse.kept"], apart := false, laid := [("unicode/utf8.acceptRanges", laid_unicode_utf8_acceptRanges), ("commonhold/lex.marks", laid_commonhold_lex_marks), ("commonhold/parse.kept", laid_commonhold_parse_kept), ("unicode/utf8.first", laid_unicode_utf8_first)], narrowed := true }
def RowReadsUptoSaid : Prop := rowReadsUptoRow.holds Tryd.pinned (OpenSpec.upto rowReadsSpec)

/-- 'commonholdlaw.EvalEvals', WHERE WHAT IT READS IS OF BULK AT MOST 1048576: true; the input reads as it did. -/
def evalEvalsUptoRow : OpenClaim := { program := "ythhejedfjgikdaadoor", sum := "2230915436466aaf425198d8fb98dfb70ff06af3c1dced61294a4da3cce8b880", func := "commonhold/commonholdlaw.EvalEvals", spec := "evalEvals", inPlace := ["internal/bytealg.abigen_runtime_cmpstring"], unfollowed := true, recurses := true, named := ["unicode/utf8.first", "unicode/utf8.acceptRanges"], loops := true, apart := false, laid := [("unicode/utf8.acceptRanges", laid_unicode_utf8_acceptRanges), ("unicode/utf8.first", laid_unicode_utf8_first)], narrowed := true }
def EvalEvalsUptoSaid : Prop := evalEvalsUptoRow.holds Tryd.pinned (OpenSpec.upto evalEvalsSpec)

/-- 'commonholdlaw.EvalHolds', WHERE WHAT IT READS IS OF BULK AT MOST 1048576: true; the input reads as it did. -/
def evalHoldsUptoRow : OpenClaim := { program := "ythhejedfjgikdaadoor", sum := "2230915436466aaf425198d8fb98dfb70ff06af3c1dced61294a4da3cce8b880", func := "commonhold/commonholdlaw.EvalHolds", spec := "evalHolds", inPlace := ["internal/bytealg.abigen_runtime_cmpstring"], unfollowed := true, recurses := true, named := ["unicode/utf8.first", "unicode/utf8.acceptRanges"], loops := true, apart := false, laid := [("unicode/utf8.acceptRanges", laid_unicode_utf8_acceptRanges), ("unicode/utf8.first", laid_unicode_utf8_first)], narrowed := true }
def EvalHoldsUptoSaid : Prop := evalHoldsUptoRow.holds Tryd.pinned (OpenSpec.upto evalHoldsSpec)

/-- 'commonholdlaw.RelFilters', WHERE WHAT IT READS IS OF BULK AT MOST 1048576: true; the input reads as it did. -/
def relFiltersUptoRow : OpenClaim := { program := "ythhejedfjgikdaadoor", sum := "2230915436466aaf425198d8fb98dfb70ff06af3c1dced61294a4da3cce8b880", func := "commonhold/commonholdlaw.RelFilters", spec := "relFilters", inPlace := ["internal/bytealg.abigen_runtime_cmpstring"], unfollowed := true, recurses := true, named := ["unicode/utf8.first", "unicode/utf8.acceptRanges"], loops := true, apart := false, laid := [("unicode/utf8.acceptRanges", laid_unicode_utf8_acceptRanges), ("unicode/utf8.first", laid_unicode_utf8_first)], narrowed := true }
def RelFiltersUptoSaid : Prop := relFiltersUptoRow.holds Tryd.pinned (OpenSpec.upto relFiltersSpec)

/-- 'commonholdlaw.RelProjects', WHERE WHAT IT READS IS OF BULK AT MOST 1048576: true; the input reads as it did. -/
def relProjectsUptoRow : OpenClaim := { program := "ythhejedfjgikdaadoor", sum := "2230915436466aaf425198d8fb98dfb70ff06af3c1dced61294a4da3cce8b880", func := "commonhold/commonholdlaw.RelProjects", spec := "relProjects", inPlace := ["internal/bytealg.abigen_runtime_cmpstring"], unfollowed := true, recurses := true, named := ["unicode/utf8.first", "unicode/utf8.acceptRanges"], loops := true, apart := false, laid := [("unicode/utf8.acceptRanges", laid_unicode_utf8_acceptRanges), ("unicode/utf8.first", laid_unicode_utf8_first)], narrowed := true }
def RelProjectsUptoSaid : Prop := relProjectsUptoRow.holds Tryd.pinned (OpenSpec.upto relProjectsSpec)

/-- 'commonholdlaw.RelJoins', WHERE WHAT IT READS IS OF BULK AT MOST 1048576: true; the input reads as it did. -/
def relJoinsUptoRow : OpenClaim := { program := "ythhejedfjgikdaadoor", sum := "2230915436466aaf425198d8fb98dfb70ff06af3c1dced61294a4da3cce8b880", func := "commonhold/commonholdlaw.RelJoins", spec := "relJoins", inPlace := ["internal/bytealg.abigen_runtime_cmpstring"], unfollowed := true, recurses := true, named := ["unicode/utf8.first", "unicode/utf8.acceptRanges"], loops := true, apart := false, laid := [("unicode/utf8.acceptRanges", laid_unicode_utf8_acceptRanges), ("unicode/utf8.first", laid_unicode_utf8_first)], narrowed := true }
def RelJoinsUptoSaid : Prop := relJoinsUptoRow.holds Tryd.pinned (OpenSpec.upto relJoinsSpec)

end Rows
end Go.Proofs.YthhejedfjgikdaaDoor
