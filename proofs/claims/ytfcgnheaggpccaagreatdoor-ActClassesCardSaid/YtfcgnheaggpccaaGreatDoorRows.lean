/-
  NARROWER THAN 'FOR EVERY INPUT', by the rows' own cells (each row's printed sentence says how): ActCodes: laid · ActResults: laid · ActClasses: laid · ActBack: laid · ActOther: laid · ActLong: laid.
  DERIVED. THE GIVEN ROWS OF THIS SEAT. 6 by the template 'for every input the law returns true; each argument reads behind the call as it read before'; 0 by the template 'total and deterministic' (their statements: YtfcgnheaggpccaaGreatDoorTotals.lean).
  GIVEN WITH THE SEED: the statements are not yours to turn. If you find one false, say at which input.
  Laid BY PROGRAM, IN A SANDBOX (cutbox-rows.mjs): the forced cells as the released guide's own fill.sh prints them over the translation 18fe8b5dbcbc13bc… (all of the seat's roots in one cut). By AI agents, Wed Nov 11 2026. No macro, syntax, notation, axiom, sorry.
-/
import Derived.Test.YtfcgnheaggpccaaGreatDoorChecked
import GoSem.PinnedTables
import GoSem.Claim
import GoSem.ClaimJoined
import GoSem.ClaimMapViews
import Derived.JoinedTies
import Derived.KernelRfl
namespace Go.Proofs.YtfcgnheaggpccaaGreatDoor
/- THE CELL 'sum', in the pinned program and in every row, IS THE sha256 OF THE DUMP (.gsa) THAT YtfcgnheaggpccaaGreatDoorProg.lean LOADS. Nothing in Lean hashes anything: it is a label: what it is worth is what the hold of that sum in a sandbox is worth. -/
noncomputable def Tryz.pinned : Pinned := { name := "ytfcgnheaggpccaagreatdoor", sum := "18fe8b5dbcbc13bcd11ee9b125098c943ec20e2c12abeb1cfb8c7839443ed6b4", checked := Tryz.checked }
namespace Rows
def none {H : Type} : Left H := { results := [], args := [] }

/- WHAT THE LISTED PACKAGE-LEVEL VARIABLES READ AS WHEN THE CALL BEGINS. Each datum BY PROGRAM (the guide's laid-datum.mjs) off the statement by which the dump's own 'gosem.cut.vars' lays the variable. In a bare row this is a premise. The card (YtfcgnheaggpccaaGreatDoorCards.lean) ties it to the program's text. -/
def laid_unicode_utf8_acceptRanges {H : Type} : DataW H := .agg [.agg [.lit (.int .u8 128), .lit (.int .u8 191)], .agg [.lit (.int .u8 160), .lit (.int .u8 191)], .agg [.lit (.int .u8 128), .lit (.int .u8 159)], .agg [.lit (.int .u8 144), .lit (.int .u8 191)], .agg [.lit (.int .u8 128), .lit (.int .u8 143)], .agg [.lit (.int .u8 0), .lit (.int .u8 0)], .agg [.lit (.int .u8 0), .lit (.int .u8 0)], .agg [.lit (.int .u8 0), .lit (.int .u8 0)], .agg [.lit (.int .u8 0), .lit (.int .u8 0)], .agg [.lit (.int .u8 0), .lit (.int .u8 0)], .agg [.lit (.int .u8 0), .lit (.int .u8 0)], .agg [.lit (.int .u8 0), .lit (.int .u8 0)], .agg [.lit (.int .u8 0), .lit (.int .u8 0)], .agg [.lit (.int .u8 0), .lit (.int .u8 0)], .agg [.lit (.int .u8 0), .lit (.int .u8 0)], .agg [.lit (.int .u8 0), .lit (.int .u8 0)]]
/-- One of Go's own tables, pinned by name: the form's constant. -/
def laid_unicode_utf8_first : DataW Unit := Go.Pinned.utf8First

/-- 'retortlaw19.ActCodes': WHATEVER THE INPUT: true; the input reads as it did. -/
def actCodesSpec : ChangeSpec := { name := "actCodes", fn := fun _ => fun
  | [d1, d2, d3] => { results := [.lit (.bool true)], args := [d1, d2, d3] }
  | _ => none }
def actCodesRow : OpenClaim := { program := "ytfcgnheaggpccaagreatdoor", sum := "18fe8b5dbcbc13bcd11ee9b125098c943ec20e2c12abeb1cfb8c7839443ed6b4", func := "retort/retortlaw19.ActCodes", spec := "actCodes", inPlace := ["internal/bytealg.CountString", "internal/bytealg.IndexByteString", "internal/bytealg.IndexString", "internal/abi.NoEscape", "internal/bytealg.MakeNoZero", "math.Float64frombits", "math.Float64bits", "math.sqrt"], unfollowed := true, recurses := true, named := ["unicode/utf8.first", "unicode/utf8.acceptRanges", "internal/bytealg.MaxLen"], plainKeys := false, apart := false, laid := [("unicode/utf8.acceptRanges", laid_unicode_utf8_acceptRanges), ("unicode/utf8.first", laid_unicode_utf8_first)] }
def ActCodesSaid : Prop := actCodesRow.holds Tryz.pinned (OpenSpec.ofChange actCodesSpec)

/-- ITS FALSE NEIGHBOUR: 'it returns false'. Refute it at one input. -/
def actCodesWrong : ChangeSpec := { name := "actCodes", fn := fun _ => fun
  | [d1, d2, d3] => { results := [.lit (.bool false)], args := [d1, d2, d3] }
  | _ => none }
def ActCodesWrongFalsely : Prop := actCodesRow.holds Tryz.pinned (OpenSpec.ofChange actCodesWrong)

/-- 'retortlaw19.ActResults': WHATEVER THE INPUT: true; the input reads as it did. -/
def actResultsSpec : ChangeSpec := { name := "actResults", fn := fun _ => fun
  | [d1, d2, d3] => { results := [.lit (.bool true)], args := [d1, d2, d3] }
  | _ => none }
def actResultsRow : OpenClaim := { program := "ytfcgnheaggpccaagreatdoor", sum := "18fe8b5dbcbc13bcd11ee9b125098c943ec20e2c12abeb1cfb8c7839443ed6b4", func := "retort/retortlaw19.ActResults", spec := "actResults", inPlace := ["internal/bytealg.CountString", "internal/bytealg.IndexByteString", "internal/bytealg.IndexString", "internal/abi.NoEscape", "internal/bytealg.MakeNoZero", "math.Float64frombits", "math.Float64bits", "math.sqrt"], unfollowed := true, recurses := true, named := ["unicode/utf8.first", "unicode/utf8.acceptRanges", "internal/bytealg.MaxLen"], plainKeys := false, apart := false, laid := [("unicode/utf8.acceptRanges", laid_unicode_utf8_acceptRanges), ("unicode/utf8.first", laid_unicode_utf8_first)] }
def ActResultsSaid : Prop := actResultsRow.holds Tryz.pinned (OpenSpec.ofChange actResultsSpec)

/-- ITS FALSE NEIGHBOUR: 'it returns false'. Refute it at one input. -/
def actResultsWrong : ChangeSpec := { name := "actResults", fn := fun _ => fun
  | [d1, d2, d3] => { results := [.lit (.bool false)], args := [d1, d2, d3] }
  | _ => none }
def ActResultsWrongFalsely : Prop := actResultsRow.holds Tryz.pinned (OpenSpec.ofChange actResultsWrong)

/-- 'retortlaw19.ActClasses': WHATEVER THE INPUT: true; the input reads as it did. -/
def actClassesSpec : ChangeSpec := { name := "actClasses", fn := fun _ => fun
  | [d] => { results := [.lit (.bool true)], args := [d] }
  | _ => none }
def actClassesRow : OpenClaim := { program := "ytfcgnheaggpccaagreatdoor", sum := "18fe8b5dbcbc13bcd11ee9b125098c943ec20e2c12abeb1cfb8c7839443ed6b4", func := "retort/retortlaw19.ActClasses", spec := "actClasses", inPlace := ["internal/bytealg.CountString", "internal/bytealg.IndexByteString", "internal/bytealg.IndexString", "internal/abi.NoEscape", "internal/bytealg.MakeNoZero", "math.Float64frombits", "math.Float64bits", "math.sqrt"], unfollowed := true, recurses := true, named := ["unicode/utf8.first", "unicode/utf8.acceptRanges", "internal/bytealg.MaxLen"], plainKeys := false, apart := false, laid := [("unicode/utf8.acceptRanges", laid_unicode_utf8_acceptRanges), ("unicode/utf8.first", laid_unicode_utf8_first)] }
def ActClassesSaid : Prop := actClassesRow.holds Tryz.pinned (OpenSpec.ofChange actClassesSpec)

/-- ITS FALSE NEIGHBOUR: 'it returns false'. Refute it at one input. -/
def actClassesWrong : ChangeSpec := { name := "actClasses", fn := fun _ => fun
  | [d] => { results := [.lit (.bool false)], args := [d] }
  | _ => none }
def ActClassesWrongFalsely : Prop := actClassesRow.holds Tryz.pinned (OpenSpec.ofChange actClassesWrong)

/-- 'retortlaw19.ActBack': WHATEVER THE INPUT: true; the input reads as it did. -/
def actBackSpec : ChangeSpec := { name := "actBack", fn := fun _ => fun
  | [d1, d2, d3, d4] => { results := [.lit (.bool true)], args := [d1, d2, d3, d4] }
  | _ => none }
def actBackRow : OpenClaim := { program := "ytfcgnheaggpccaagreatdoor", sum := "18fe8b5dbcbc13bcd11ee9b125098c943ec20e2c12abeb1cfb8c7839443ed6b4", func := "retort/retortlaw19.ActBack", spec := "actBack", inPlace := ["internal/bytealg.CountString", "internal/bytealg.IndexByteString", "internal/bytealg.IndexString", "internal/abi.NoEscape", "internal/bytealg.MakeNoZero", "math.Float64frombits", "math.Float64bits", "math.sqrt"], unfollowed := true, recurses := true, named := ["unicode/utf8.first", "unicode/utf8.acceptRanges", "internal/bytealg.MaxLen"], plainKeys := false, apart := false, laid := [("unicode/utf8.acceptRanges", laid_unicode_utf8_acceptRanges), ("unicode/utf8.first", laid_unicode_utf8_first)] }
def ActBackSaid : Prop := actBackRow.holds Tryz.pinned (OpenSpec.ofChange actBackSpec)

/-- ITS FALSE NEIGHBOUR: 'it returns false'. Refute it at one input. -/
def actBackWrong : ChangeSpec := { name := "actBack", fn := fun _ => fun
  | [d1, d2, d3, d4] => { results := [.lit (.bool false)], args := [d1, d2, d3, d4] }
  | _ => none }
def ActBackWrongFalsely : Prop := actBackRow.holds Tryz.pinned (OpenSpec.ofChange actBackWrong)

/-- 'retortlaw19.ActOther': WHATEVER THE INPUT: true; the input reads as it did. -/
def actOtherSpec : ChangeSpec := { name := "actOther", fn := fun _ => fun
  | [d] => { results := [.lit (.bool true)], args := [d] }
  | _ => none }
def actOtherRow : OpenClaim := { program := "ytfcgnheaggpccaagreatdoor", sum := "18fe8b5dbcbc13bcd11ee9b125098c943ec20e2c12abeb1cfb8c7839443ed6b4", func := "retort/retortlaw19.ActOther", spec := "actOther", inPlace := ["internal/bytealg.CountString", "internal/bytealg.IndexByteString", "internal/bytealg.IndexString", "internal/abi.NoEscape", "internal/bytealg.MakeNoZero", "math.Float64frombits", "math.Float64bits", "math.sqrt"], unfollowed := true, recurses := true, named := ["unicode/utf8.first", "unicode/utf8.acceptRanges", "internal/bytealg.MaxLen"], plainKeys := false, apart := false, laid := [("unicode/utf8.acceptRanges", laid_unicode_utf8_acceptRanges), ("unicode/utf8.first", laid_unicode_utf8_first)] }
def ActOtherSaid : Prop := actOtherRow.holds Tryz.pinned (OpenSpec.ofChange actOtherSpec)

/-- ITS FALSE NEIGHBOUR: 'it returns false'. Refute it at one input. -/
def actOtherWrong : ChangeSpec := { name := "actOther", fn := fun _ => fun
  | [d] => { results := [.lit (.bool false)], args := [d] }
  | _ => none }
def ActOtherWrongFalsely : Prop := actOtherRow.holds Tryz.pinned (OpenSpec.ofChange actOtherWrong)

/-- 'retortlaw19.ActLong': WHATEVER THE INPUT: true; the input reads as it did. -/
def actLongSpec : ChangeSpec := { name := "actLong", fn := fun _ => fun
  | [d1, d2] => { results := [.lit (.bool true)], args := [d1, d2] }
  | _ => none }
def actLongRow : OpenClaim := { program := "ytfcgnheaggpccaagreatdoor", sum := "18fe8b5dbcbc13bcd11ee9b125098c943ec20e2c12abeb1cfb8c7839443ed6b4", func := "retort/retortlaw19.ActLong", spec := "actLong", inPlace := ["internal/bytealg.CountString", "internal/bytealg.IndexByteString", "internal/bytealg.IndexString", "internal/abi.NoEscape", "internal/bytealg.MakeNoZero", "math.Float64frombits", "math.Float64bits", "math.sqrt"], unfollowed := true, recurses := true, named := ["unicode/utf8.first", "unicode/utf8.acceptRanges", "internal/bytealg.MaxLen"], plainKeys := false, apart := false, laid := [("unicode/utf8.acceptRanges", laid_unicode_utf8_acceptRanges), ("unicode/utf8.first", laid_unicode_utf8_first)] }
def ActLongSaid : Prop := actLongRow.holds Tryz.pinned (OpenSpec.ofChange actLongSpec)

/-- ITS FALSE NEIGHBOUR: 'it returns false'. Refute it at one input. -/
def actLongWrong : ChangeSpec := { name := "actLong", fn := fun _ => fun
  | [d1, d2] => { results := [.lit (.bool false)], args := [d1, d2] }
  | _ => none }
def ActLongWrongFalsely : Prop := actLongRow.holds Tryz.pinned (OpenSpec.ofChange actLongWrong)

/- THE SECOND FORM. 'bulk': how many values and letters a reading holds, each counted each time it is reached (what is shared counts as often as it is met; a slice's spare places count too). A statement '..UptoSaid' is the law's where the arguments, and the package variables that the reading takes, are together of bulk at most 1048576: NARROWER than '..Said'. Prove '..Said' where nothing that the law and all that it calls make is longer than what came in: it says more and counts as full. Else prove '..UptoSaid'. A law counts once. -/
mutual
def uptoBulk {H : Type} : DataW H → Nat
  | .lit (.string bytes) => bytes.length + 1
  | .lit _ => 1
  | .nil => 1
  | .ptr d => uptoBulk d + 1
  | .slice elems spare => uptoBulkAll elems + uptoBulkAll spare + 1
  | .agg parts => uptoBulkAll parts + 1
  | .iface _ d => uptoBulk d + 1
  | .map entries => uptoBulkEntries entries + 1
  | .held _ => 1
def uptoBulkAll {H : Type} : List (DataW H) → Nat
  | [] => 0
  | d :: r => uptoBulk d + uptoBulkAll r
def uptoBulkEntries {H : Type} : List (Lit × DataW H) → Nat
  | [] => 0
  | x :: r => uptoBulkEntry x + uptoBulkEntries r
def uptoBulkEntry {H : Type} : Lit × DataW H → Nat
  | (.string bytes, d) => bytes.length + uptoBulk d + 1
  | (_, d) => uptoBulk d + 1
 end
def uptoSmall : (H : Type) → List (DataW H) → Bool := fun _ ds => decide (uptoBulkAll ds ≤ 1048576)
def OpenSpec.upto (s : _root_.Go.ChangeSpec) : _root_.Go.OpenSpec := { _root_.Go.OpenSpec.ofChange s with cond := some uptoSmall }

/-- 'retortlaw19.ActCodes', WHERE WHAT IT READS IS OF BULK AT MOST 1048576: true; the input reads as it did. -/
def actCodesUptoRow : OpenClaim := { program := "ytfcgnheaggpccaagreatdoor", sum := "18fe8b5dbcbc13bcd11ee9b125098c943ec20e2c12abeb1cfb8c7839443ed6b4", func := "retort/retortlaw19.ActCodes", spec := "actCodes", inPlace := ["internal/bytealg.CountString", "internal/bytealg.IndexByteString", "internal/bytealg.IndexString", "internal/abi.NoEscape", "internal/bytealg.MakeNoZero", "math.Float64frombits", "math.Float64bits", "math.sqrt"], unfollowed := true, recurses := true, named := ["unicode/utf8.first", "unicode/utf8.acceptRanges", "internal/bytealg.MaxLen"], plainKeys := false, apart := false, laid := [("unicode/utf8.acceptRanges", laid_unicode_utf8_acceptRanges), ("unicode/utf8.first", laid_unicode_utf8_first)], narrowed := true }
def ActCodesUptoSaid : Prop := actCodesUptoRow.holds Tryz.pinned (OpenSpec.upto actCodesSpec)

/-- 'retortlaw19.ActResults', WHERE WHAT IT READS IS OF BULK AT MOST 1048576: true; the input reads as it did. -/
def actResultsUptoRow : OpenClaim := { program := "ytfcgnheaggpccaagreatdoor", sum := "18fe8b5dbcbc13bcd11ee9b125098c943ec20e2c12abeb1cfb8c7839443ed6b4", func := "retort/retortlaw19.ActResults", spec := "actResults", inPlace := ["internal/bytealg.CountString", "internal/bytealg.IndexByteString", "internal/bytealg.IndexString", "internal/abi.NoEscape", "internal/bytealg.MakeNoZero", "math.Float64frombits", "math.Float64bits", "math.sqrt"], unfollowed := true, recurses := true, named := ["unicode/utf8.first", "unicode/utf8.acceptRanges", "internal/bytealg.MaxLen"], plainKeys := false, apart := false, laid := [("unicode/utf8.acceptRanges", laid_unicode_utf8_acceptRanges), ("unicode/utf8.first", laid_unicode_utf8_first)], narrowed := true }
def ActResultsUptoSaid : Prop := actResultsUptoRow.holds Tryz.pinned (OpenSpec.upto actResultsSpec)

/-- 'retortlaw19.ActClasses', WHERE WHAT IT READS IS OF BULK AT MOST 1048576: true; the input reads as it did. -/
def actClassesUptoRow : OpenClaim := { program := "ytfcgnheaggpccaagreatdoor", sum := "18fe8b5dbcbc13bcd11ee9b125098c943ec20e2c12abeb1cfb8c7839443ed6b4", func := "retort/retortlaw19.ActClasses", spec := "actClasses", inPlace := ["internal/bytealg.CountString", "internal/bytealg.IndexByteString", "internal/bytealg.IndexString", "internal/abi.NoEscape", "internal/bytealg.MakeNoZero", "math.Float64frombits", "math.Float64bits", "math.sqrt"], unfollowed := true, recurses := true, named := ["unicode/utf8.first", "unicode/utf8.acceptRanges", "internal/bytealg.MaxLen"], plainKeys := false, apart := false, laid := [("unicode/utf8.acceptRanges", laid_unicode_utf8_acceptRanges), ("unicode/utf8.first", laid_unicode_utf8_first)], narrowed := true }
def ActClassesUptoSaid : Prop := actClassesUptoRow.holds Tryz.pinned (OpenSpec.upto actClassesSpec)

/-- 'retortlaw19.ActBack', WHERE WHAT IT READS IS OF BULK AT MOST 1048576: true; the input reads as it did. -/
def actBackUptoRow : OpenClaim := { program := "ytfcgnheaggpccaagreatdoor", sum := "18fe8b5dbcbc13bcd11ee9b125098c943ec20e2c12abeb1cfb8c7839443ed6b4", func := "retort/retortlaw19.ActBack", spec := "actBack", inPlace := ["internal/bytealg.CountString", "internal/bytealg.IndexByteString", "internal/bytealg.IndexString", "internal/abi.NoEscape", "internal/bytealg.MakeNoZero", "math.Float64frombits", "math.Float64bits", "math.sqrt"], unfollowed := true, recurses := true, named := ["unicode/utf8.first", "unicode/utf8.acceptRanges", "internal/bytealg.MaxLen"], plainKeys := false, apart := false, laid := [("unicode/utf8.acceptRanges", laid_unicode_utf8_acceptRanges), ("unicode/utf8.first", laid_unicode_utf8_first)], narrowed := true }
def ActBackUptoSaid : Prop := actBackUptoRow.holds Tryz.pinned (OpenSpec.upto actBackSpec)

/-- 'retortlaw19.ActOther', WHERE WHAT IT READS IS OF BULK AT MOST 1048576: true; the input reads as it did. -/
def actOtherUptoRow : OpenClaim := { program := "ytfcgnheaggpccaagreatdoor", sum := "18fe8b5dbcbc13bcd11ee9b125098c943ec20e2c12abeb1cfb8c7839443ed6b4", func := "retort/retortlaw19.ActOther", spec := "actOther", inPlace := ["internal/bytealg.CountString", "internal/bytealg.IndexByteString", "internal/bytealg.IndexString", "internal/abi.NoEscape", "internal/bytealg.MakeNoZero", "math.Float64frombits", "math.Float64bits", "math.sqrt"], unfollowed := true, recurses := true, named := ["unicode/utf8.first", "unicode/utf8.acceptRanges", "internal/bytealg.MaxLen"], plainKeys := false, apart := false, laid := [("unicode/utf8.acceptRanges", laid_unicode_utf8_acceptRanges), ("unicode/utf8.first", laid_unicode_utf8_first)], narrowed := true }
def ActOtherUptoSaid : Prop := actOtherUptoRow.holds Tryz.pinned (OpenSpec.upto actOtherSpec)

/-- 'retortlaw19.ActLong', WHERE WHAT IT READS IS OF BULK AT MOST 1048576: true; the input reads as it did. -/
def actLongUptoRow : OpenClaim := { program := "ytfcgnheaggpccaagreatdoor", sum := "18fe8b5dbcbc13bcd11ee9b125098c943ec20e2c12abeb1cfb8c7839443ed6b4", func := "retort/retortlaw19.ActLong", spec := "actLong", inPlace := ["internal/bytealg.CountString", "internal/bytealg.IndexByteString", "internal/bytealg.IndexString", "internal/abi.NoEscape", "internal/bytealg.MakeNoZero", "math.Float64frombits", "math.Float64bits", "math.sqrt"], unfollowed := true, recurses := true, named := ["unicode/utf8.first", "unicode/utf8.acceptRanges", "internal/bytealg.MaxLen"], plainKeys := false, apart := false, laid := [("unicode/utf8.acceptRanges", laid_unicode_utf8_acceptRanges), ("unicode/utf8.first", laid_unicode_utf8_first)], narrowed := true }
def ActLongUptoSaid : Prop := actLongUptoRow.holds Tryz.pinned (OpenSpec.upto actLongSpec)

end Rows
end Go.Proofs.YtfcgnheaggpccaaGreatDoor
