/-
  NARROWER THAN 'FOR EVERY INPUT', by the rows' own cells (each row's printed sentence says how): KeyDecodes: laid · PlanLeads: loops, laid · CatalogFits: laid · ShapeMays: loops, laid · RelSorts: laid.
  DERIVED. THE GIVEN ROWS OF THIS SEAT. 5 by the template 'for every input the law returns true; each argument reads behind the call as it read before'; 0 by the template 'total and deterministic' (their statements: YtfkdldaadjhcfaaDoorTotals.lean).
  GIVEN WITH THE SEED: the statements are not yours to turn. If you find one false, say at which input.
  Laid BY PROGRAM, IN A SANDBOX (cutbox-rows.mjs): the forced cells as the released guide's own fill.sh prints them over the translation a40a49509e662411… (all of the seat's roots in one cut). By AI agents, Wed Nov 11 2026. No macro, syntax, notation, axiom, sorry.
-/
import Derived.Test.YtfkdldaadjhcfaaDoorChecked
import GoSem.PinnedTables
import GoSem.Claim
import GoSem.ClaimJoined
import GoSem.ClaimMapViews
import Derived.JoinedTies
import Derived.KernelRfl
namespace Go.Proofs.YtfkdldaadjhcfaaDoor
/- THE CELL 'sum', in the pinned program and in every row, IS THE sha256 OF THE DUMP (.gsa) THAT YtfkdldaadjhcfaaDoorProg.lean LOADS. Nothing in Lean hashes anything: it is a label: what it is worth is what the hold of that sum in a sandbox is worth. -/
noncomputable def Tryd.pinned : Pinned := { name := "ytfkdldaadjhcfaadoor", sum := "a40a49509e662411b875ed2f9c22e62a93937d5beff368d5ff257100d07aaa34", checked := Tryd.checked }
namespace Rows
def none {H : Type} : Left H := { results := [], args := [] }

/- WHAT THE LISTED PACKAGE-LEVEL VARIABLES READ AS WHEN THE CALL BEGINS. Each datum BY PROGRAM (the guide's laid-datum.mjs) off the statement by which the dump's own 'gosem.cut.vars' lays the variable. In a bare row this is a premise. The card (YtfkdldaadjhcfaaDoorCards.lean) ties it to the program's text. -/
def laid_unicode_utf8_acceptRanges {H : Type} : DataW H := .agg [.agg [.lit (.int .u8 128), .lit (.int .u8 191)], .agg [.lit (.int .u8 160), .lit (.int .u8 191)], .agg [.lit (.int .u8 128), .lit (.int .u8 159)], .agg [.lit (.int .u8 144), .lit (.int .u8 191)], .agg [.lit (.int .u8 128), .lit (.int .u8 143)], .agg [.lit (.int .u8 0), .lit (.int .u8 0)], .agg [.lit (.int .u8 0), .lit (.int .u8 0)], .agg [.lit (.int .u8 0), .lit (.int .u8 0)], .agg [.lit (.int .u8 0), .lit (.int .u8 0)], .agg [.lit (.int .u8 0), .lit (.int .u8 0)], .agg [.lit (.int .u8 0), .lit (.int .u8 0)], .agg [.lit (.int .u8 0), .lit (.int .u8 0)], .agg [.lit (.int .u8 0), .lit (.int .u8 0)], .agg [.lit (.int .u8 0), .lit (.int .u8 0)], .agg [.lit (.int .u8 0), .lit (.int .u8 0)], .agg [.lit (.int .u8 0), .lit (.int .u8 0)]]
/-- One of Go's own tables, pinned by name: the form's constant. -/
def laid_unicode_utf8_first : DataW Unit := Go.Pinned.utf8First
def laid_commonhold_plan_turned {H : Type} : DataW H := .agg [.lit (.int .i64 13), .lit (.int .i64 14), .lit (.int .i64 17), .lit (.int .i64 18), .lit (.int .i64 15), .lit (.int .i64 16)]
def laid_commonhold_lex_marks {H : Type} : DataW H := .agg [.lit (.string [60, 61]), .lit (.string [62, 61]), .lit (.string [60, 62]), .lit (.string [40]), .lit (.string [41]), .lit (.string [44]), .lit (.string [46]), .lit (.string [42]), .lit (.string [43]), .lit (.string [45]), .lit (.string [47]), .lit (.string [37]), .lit (.string [61]), .lit (.string [60]), .lit (.string [62]), .lit (.string [])]
def laid_commonhold_parse_kept {H : Type} : DataW H := .agg [.lit (.string [97, 110, 100]), .lit (.string [98, 121]), .lit (.string [99, 111, 117, 110, 116]), .lit (.string [99, 114, 101, 97, 116, 101]), .lit (.string [100, 101, 108, 101, 116, 101]), .lit (.string [100, 101, 115, 99]), .lit (.string [102, 97, 108, 115, 101]), .lit (.string [102, 114, 111, 109]), .lit (.string [103, 114, 111, 117, 112]), .lit (.string [105, 110, 100, 101, 120]), .lit (.string [105, 110, 115, 101, 114, 116]), .lit (.string [105, 110, 116]), .lit (.string [105, 110, 116, 111]), .lit (.string [105, 115]), .lit (.string [106, 111, 105, 110]), .lit (.string [107, 101, 121]), .lit (.string [108, 105, 109, 105, 116]), .lit (.string [109, 97, 120]), .lit (.string [109, 105, 110]), .lit (.string [110, 111, 116]), .lit (.string [110, 117, 108, 108]), .lit (.string [111, 110]), .lit (.string [111, 114]), .lit (.string [111, 114, 100, 101, 114]), .lit (.string [112, 114, 105, 109, 97, 114, 121]), .lit (.string [115, 101, 108, 101, 99, 116]), .lit (.string [115, 101, 116]), .lit (.string [115, 117, 109]), .lit (.string [116, 97, 98, 108, 101]), .lit (.string [116, 101, 120, 116]), .lit (.string [116, 114, 117, 101]), .lit (.string [116, 114, 117, 116, 104]), .lit (.string [117, 112, 100, 97, 116, 101]), .lit (.string [118, 97, 108, 117, 101, 115]), .lit (.string [119, 104, 101, 114, 101])]

/-- 'commonholdlaw.KeyDecodes': WHATEVER THE INPUT: true; the input reads as it did. -/
def keyDecodesSpec : ChangeSpec := { name := "keyDecodes", fn := fun _ => fun
  | [d] => { results := [.lit (.bool true)], args := [d] }
  | _ => none }
def keyDecodesRow : OpenClaim := { program := "ytfkdldaadjhcfaadoor", sum := "a40a49509e662411b875ed2f9c22e62a93937d5beff368d5ff257100d07aaa34", func := "commonhold/commonholdlaw.KeyDecodes", spec := "keyDecodes", named := ["unicode/utf8.first", "unicode/utf8.acceptRanges"], apart := false, laid := [("unicode/utf8.acceptRanges", laid_unicode_utf8_acceptRanges), ("unicode/utf8.first", laid_unicode_utf8_first)] }
def KeyDecodesSaid : Prop := keyDecodesRow.holds Tryd.pinned (OpenSpec.ofChange keyDecodesSpec)

/-- ITS FALSE NEIGHBOUR: 'it returns false'. Refute it at one input. -/
def keyDecodesWrong : ChangeSpec := { name := "keyDecodes", fn := fun _ => fun
  | [d] => { results := [.lit (.bool false)], args := [d] }
  | _ => none }
def KeyDecodesWrongFalsely : Prop := keyDecodesRow.holds Tryd.pinned (OpenSpec.ofChange keyDecodesWrong)

/-- 'commonholdlaw.PlanLeads': WHATEVER THE INPUT: true; the input reads as it did. -/
def planLeadsSpec : ChangeSpec := { name := "planLeads", fn := fun _ => fun
  | [d] => { results := [.lit (.bool true)], args := [d] }
  | _ => none }
def planLeadsRow : OpenClaim := { program := "ytfkdldaadjhcfaadoor", sum := "a40a49509e662411b875ed2f9c22e62a93937d5beff368d5ff257100d07aaa34", func := "commonhold/commonholdlaw.PlanLeads", spec := "planLeads", recurses := true, named := ["commonhold/plan.turned", "unicode/utf8.first", "unicode/utf8.acceptRanges"], loops := true, apart := false, laid := [("unicode/utf8.acceptRanges", laid_unicode_utf8_acceptRanges), ("commonhold/plan.turned", laid_commonhold_plan_turned), ("unicode/utf8.first", laid_unicode_utf8_first)] }
def PlanLeadsSaid : Prop := planLeadsRow.holds Tryd.pinned (OpenSpec.ofChange planLeadsSpec)

/-- ITS FALSE NEIGHBOUR: 'it returns false'. Refute it at one input. -/
def planLeadsWrong : ChangeSpec := { name := "planLeads", fn := fun _ => fun
  | [d] => { results := [.lit (.bool false)], args := [d] }
  | _ => none }
def PlanLeadsWrongFalsely : Prop := planLeadsRow.holds Tryd.pinned (OpenSpec.ofChange planLeadsWrong)

/-- 'commonholdlaw.CatalogFits': WHATEVER THE INPUT: true; the input reads as it did. -/
def catalogFitsSpec : ChangeSpec := { name := "catalogFits", fn := fun _ => fun
  | [d] => { results := [.lit (.bool true)], args := [d] }
  | _ => none }
def catalogFitsRow : OpenClaim := { program := "ytfkdldaadjhcfaadoor", sum := "a40a49509e662411b875ed2f9c22e62a93937d5beff368d5ff257100d07aaa34", func := "commonhold/commonholdlaw.CatalogFits", spec := "catalogFits", unfollowed := true, recurses := true, named := ["unicode/utf8.first", "unicode/utf8.acceptRanges", "commonhold/lex.marks", "commonhold/parse.kept"], apart := false, laid := [("unicode/utf8.acceptRanges", laid_unicode_utf8_acceptRanges), ("commonhold/lex.marks", laid_commonhold_lex_marks), ("commonhold/parse.kept", laid_commonhold_parse_kept), ("unicode/utf8.first", laid_unicode_utf8_first)] }
def CatalogFitsSaid : Prop := catalogFitsRow.holds Tryd.pinned (OpenSpec.ofChange catalogFitsSpec)

/-- ITS FALSE NEIGHBOUR: 'it returns false'. Refute it at one input. -/
def catalogFitsWrong : ChangeSpec := { name := "catalogFits", fn := fun _ => fun
  | [d] => { results := [.lit (.bool false)], args := [d] }
  | _ => none }
def CatalogFitsWrongFalsely : Prop := catalogFitsRow.holds Tryd.pinned (OpenSpec.ofChange catalogFitsWrong)

/-- 'commonholdlaw.ShapeMays': WHATEVER THE INPUT: true; the input reads as it did. -/
def shapeMaysSpec : ChangeSpec := { name := "shapeMays", fn := fun _ => fun
  | [d] => { results := [.lit (.bool true)], args := [d] }
  | _ => none }
def shapeMaysRow : OpenClaim := { program := "ytfkdldaadjhcfaadoor", sum := "a40a49509e662411b875ed2f9c22e62a93937d5beff368d5ff257100d07aaa34", func := "commonhold/commonholdlaw.ShapeMays", spec := "shapeMays", unfollowed := true, recurses := true, named := ["unicode/utf8.first", "unicode/utf8.acceptRanges", "commonhold/lex.marks", "commonhold/parse.kept"], loops := true, apart := false, laid := [("unicode/utf8.acceptRanges", laid_unicode_utf8_acceptRanges), ("commonhold/lex.marks", laid_commonhold_lex_marks), ("commonhold/parse.kept", laid_commonhold_parse_kept), ("unicode/utf8.first", laid_unicode_utf8_first)] }
def ShapeMaysSaid : Prop := shapeMaysRow.holds Tryd.pinned (OpenSpec.ofChange shapeMaysSpec)

/-- ITS FALSE NEIGHBOUR: 'it returns false'. Refute it at one input. -/
def shapeMaysWrong : ChangeSpec := { name := "shapeMays", fn := fun _ => fun
  | [d] => { results := [.lit (.bool false)], args := [d] }
  | _ => none }
def ShapeMaysWrongFalsely : Prop := shapeMaysRow.holds Tryd.pinned (OpenSpec.ofChange shapeMaysWrong)

/-- 'commonholdlaw.RelSorts': WHATEVER THE INPUT: true; the input reads as it did. -/
def relSortsSpec : ChangeSpec := { name := "relSorts", fn := fun _ => fun
  | [d1, d2] => { results := [.lit (.bool true)], args := [d1, d2] }
  | _ => none }
def relSortsRow : OpenClaim := { program := "ytfkdldaadjhcfaadoor", sum := "a40a49509e662411b875ed2f9c22e62a93937d5beff368d5ff257100d07aaa34", func := "commonhold/commonholdlaw.RelSorts", spec := "relSorts", inPlace := ["internal/bytealg.abigen_runtime_cmpstring"], unfollowed := true, recurses := true, named := ["unicode/utf8.first", "unicode/utf8.acceptRanges"], apart := false, laid := [("unicode/utf8.acceptRanges", laid_unicode_utf8_acceptRanges), ("unicode/utf8.first", laid_unicode_utf8_first)] }
def RelSortsSaid : Prop := relSortsRow.holds Tryd.pinned (OpenSpec.ofChange relSortsSpec)

/-- ITS FALSE NEIGHBOUR: 'it returns false'. Refute it at one input. -/
def relSortsWrong : ChangeSpec := { name := "relSorts", fn := fun _ => fun
  | [d1, d2] => { results := [.lit (.bool false)], args := [d1, d2] }
  | _ => none }
def RelSortsWrongFalsely : Prop := relSortsRow.holds Tryd.pinned (OpenSpec.ofChange relSortsWrong)

/- THE SECOND FORM. 'bulk': how many values and letters a reading holds, each counted each time it is reached (what is shared counts as often as it is met; a slice's spare places count too). A statement '..UptoSaid' is the law's where the arguments, and the package variables that the reading takes, are together of bulk at most 1048576: NARROWER than '..Said'. Prove '..Said' where nothing that the law and all that it calls make is longer than what came in: it says more and counts as full. Else prove '..UptoSaid'. A law counts once. -/
mutual
def uptoBulk {H : Type} : DataW H → Nat
  | .lit (.string bytes) => bytes.length + 1
  | .lit _ => 1
  | .nil => 1
  | .ptr d => uptoBulk d + 1
  | .slice elems spare => uptoBulkAll elems + uptoBulkAll spare + 1
  | .agg parts => uptoBulkAll parts + 1
  | .iface _ d => uptoBulk d + 1
  | .map entries => uptoBulkEntries entries + 1
  | .held _ => 1
def uptoBulkAll {H : Type} : List (DataW H) → Nat
  | [] => 0
  | d :: r => uptoBulk d + uptoBulkAll r
def uptoBulkEntries {H : Type} : List (Lit × DataW H) → Nat
  | [] => 0
  | x :: r => uptoBulkEntry x + uptoBulkEntries r
def uptoBulkEntry {H : Type} : Lit × DataW H → Nat
  | (.string bytes, d) => bytes.length + uptoBulk d + 1
  | (_, d) => uptoBulk d + 1
 end
def uptoSmall : (H : Type) → List (DataW H) → Bool := fun _ ds => decide (uptoBulkAll ds ≤ 1048576)
def OpenSpec.upto (s : _root_.Go.ChangeSpec) : _root_.Go.OpenSpec := { _root_.Go.OpenSpec.ofChange s with cond := some uptoSmall }

/-- 'commonholdlaw.KeyDecodes', WHERE WHAT IT READS IS OF BULK AT MOST 1048576: true; the input reads as it did. -/
def keyDecodesUptoRow : OpenClaim := { program := "ytfkdldaadjhcfaadoor", sum := "a40a49509e662411b875ed2f9c22e62a93937d5beff368d5ff257100d07aaa34", func := "commonhold/commonholdlaw.KeyDecodes", spec := "keyDecodes", named := ["unicode/utf8.first", "unicode/utf8.acceptRanges"], apart := false, laid := [("unicode/utf8.acceptRanges", laid_unicode_utf8_acceptRanges), ("unicode/utf8.first", laid_unicode_utf8_first)], narrowed := true }
def KeyDecodesUptoSaid : Prop := keyDecodesUptoRow.holds Tryd.pinned (OpenSpec.upto keyDecodesSpec)

/-- 'commonholdlaw.PlanLeads', WHERE WHAT IT READS IS OF BULK AT MOST 1048576: true; the input reads as it did. -/
def planLeadsUptoRow : OpenClaim := { program := "ytfkdldaadjhcfaadoor", sum := "a40a49509e662411b875ed2f9c22e62a93937d5beff368d5ff257100d07aaa34", func := "commonhold/commonholdlaw.PlanLeads", spec := "planLeads", recurses := true, named := ["commonhold/plan.turned", "unicode/utf8.first", "unicode/utf8.acceptRanges"], loops := true, apart := false, laid := [("unicode/utf8.acceptRanges", laid_unicode_utf8_acceptRanges), ("commonhold/plan.turned", laid_commonhold_plan_turned), ("unicode/utf8.first", laid_unicode_utf8_first)], narrowed := true }
def PlanLeadsUptoSaid : Prop := planLeadsUptoRow.holds Tryd.pinned (OpenSpec.upto planLeadsSpec)

/-- 'commonholdlaw.CatalogFits', WHERE WHAT IT READS IS OF BULK AT MOST 1048576: true; the input reads as it did. -/
def catalogFitsUptoRow : OpenClaim := { program := "ytfkdldaadjhcfaadoor", sum := "a40a49509e662411b875ed2f9c22e62a93937d5beff368d5ff257100d07aaa34", func := "commonhold/commonholdlaw.CatalogFits", spec := "catalogFits", unfollowed := true, recurses := true, named := ["unicode/utf8.first", "unicode/utf8.acceptRanges", "commonhold/lex.marks", "commonhold/parse.kept"], apart := false, laid := [("unicode/utf8.acceptRanges", laid_unicode_utf8_acceptRanges), ("commonhold/lex.marks", laid_commonhold_lex_marks), ("commonhold/parse.kept", laid_commonhold_parse_kept), ("unicode/utf8.first", laid_unicode_utf8_first)], narrowed := true }
def CatalogFitsUptoSaid : Prop := catalogFitsUptoRow.holds Tryd.pinned (OpenSpec.upto catalogFitsSpec)

/-- 'commonholdlaw.ShapeMays', WHERE WHAT IT READS IS OF BULK AT MOST 1048576: true; the input reads as it did. -/
def shapeMaysUptoRow : OpenClaim := { program := "ytfkdldaadjhcfaadoor", sum := "a40a49509e662411b875ed2f9c22e62a93937d5beff368d5ff257100d07aaa34", func := "commonhold/commonholdlaw.ShapeMays", spec := "shapeMays", unfollowed := true, recurses := true, named := ["unicode/utf8.first", "unicode/utf8.acceptRanges", "commonhold/lex.marks", "commonhold/parse.kept"], loops := true, apart := false, laid := [("unicode/utf8.acceptRanges", laid_unicode_utf8_acceptRanges), ("commonhold/lex.marks", laid_commonhold_lex_marks), ("commonhold/parse.kept", laid_commonhold_parse_kept), ("unicode/utf8.first", laid_unicode_utf8_first)], narrowed := true }
def ShapeMaysUptoSaid : Prop := shapeMaysUptoRow.holds Tryd.pinned (OpenSpec.upto shapeMaysSpec)

/-- 'commonholdlaw.RelSorts', WHERE WHAT IT READS IS OF BULK AT MOST 1048576: true; the input reads as it did. -/
def relSortsUptoRow : OpenClaim := { program := "ytfkdldaadjhcfaadoor", sum := "a40a49509e662411b875ed2f9c22e62a93937d5beff368d5ff257100d07aaa34", func := "commonhold/commonholdlaw.RelSorts", spec := "relSorts", inPlace := ["internal/bytealg.abigen_runtime_cmpstring"], unfollowed := true, recurses := true, named := ["unicode/utf8.first", "unicode/utf8.acceptRanges"], apart := false, laid := [("unicode/utf8.acceptRanges", laid_unicode_utf8_acceptRanges), ("unicode/utf8.first", laid_unicode_utf8_first)], narrowed := true }
def RelSortsUptoSaid : Prop := relSortsUptoRow.holds Tryd.pinned (OpenSpec.upto relSortsSpec)

end Rows
end Go.Proofs.YtfkdldaadjhcfaaDoor
