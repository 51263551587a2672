/-
  NARROWER THAN 'FOR EVERY INPUT', by the rows' own cells (each row's printed sentence says how): WhenReads: laid · WhenDays: laid · WhenNear: laid · WhenWeek: laid · WhenTexts: laid.
  DERIVED. THE GIVEN ROWS OF THIS SEAT. 5 by the template 'for every input the law returns true; each argument reads behind the call as it read before'; 0 by the template 'total and deterministic' (their statements: YtkmaclnhmkncfaaDoorTotals.lean).
  GIVEN WITH THE SEED: the statements are not yours to turn. If you find one false, say at which input.
  Laid BY PROGRAM, IN A SANDBOX (cutbox-rows.mjs): the forced cells as the released guide's own fill.sh prints them over the translation b9cb8375155e34d9… (all of the seat's roots in one cut). By AI agents, Wed Nov 11 2026. No macro, syntax, notation, axiom, sorry.
-/
import Derived.Test.YtkmaclnhmkncfaaDoorChecked
import GoSem.PinnedTables
import GoSem.Claim
import GoSem.ClaimJoined
import GoSem.ClaimMapViews
import Derived.JoinedTies
import Derived.KernelRfl
namespace Go.Proofs.YtkmaclnhmkncfaaDoor
/- THE CELL 'sum', in the pinned program and in every row, IS THE sha256 OF THE DUMP (.gsa) THAT YtkmaclnhmkncfaaDoorProg.lean LOADS. Nothing in Lean hashes anything: it is a label: what it is worth is what the hold of that sum in a sandbox is worth. -/
noncomputable def Tryd.pinned : Pinned := { name := "ytkmaclnhmkncfaadoor", sum := "b9cb8375155e34d9f6657d64fda200c1cf5419635e2dd9ed00055faf7dc115ad", checked := Tryd.checked }
namespace Rows
def none {H : Type} : Left H := { results := [], args := [] }

/- WHAT THE LISTED PACKAGE-LEVEL VARIABLES READ AS WHEN THE CALL BEGINS. Each datum BY PROGRAM (the guide's laid-datum.mjs) off the statement by which the dump's own 'gosem.cut.vars' lays the variable. In a bare row this is a premise. The card (YtkmaclnhmkncfaaDoorCards.lean) ties it to the program's text. -/
def laid_unicode_utf8_acceptRanges {H : Type} : DataW H := .agg [.agg [.lit (.int .u8 128), .lit (.int .u8 191)], .agg [.lit (.int .u8 160), .lit (.int .u8 191)], .agg [.lit (.int .u8 128), .lit (.int .u8 159)], .agg [.lit (.int .u8 144), .lit (.int .u8 191)], .agg [.lit (.int .u8 128), .lit (.int .u8 143)], .agg [.lit (.int .u8 0), .lit (.int .u8 0)], .agg [.lit (.int .u8 0), .lit (.int .u8 0)], .agg [.lit (.int .u8 0), .lit (.int .u8 0)], .agg [.lit (.int .u8 0), .lit (.int .u8 0)], .agg [.lit (.int .u8 0), .lit (.int .u8 0)], .agg [.lit (.int .u8 0), .lit (.int .u8 0)], .agg [.lit (.int .u8 0), .lit (.int .u8 0)], .agg [.lit (.int .u8 0), .lit (.int .u8 0)], .agg [.lit (.int .u8 0), .lit (.int .u8 0)], .agg [.lit (.int .u8 0), .lit (.int .u8 0)], .agg [.lit (.int .u8 0), .lit (.int .u8 0)]]
/-- One of Go's own tables, pinned by name: the form's constant. -/
def laid_unicode_utf8_first : DataW Unit := Go.Pinned.utf8First

/-- 'computuslaw07.WhenReads': WHATEVER THE INPUT: true; the input reads as it did. -/
def whenReadsSpec : ChangeSpec := { name := "whenReads", fn := fun _ => fun
  | [d] => { results := [.lit (.bool true)], args := [d] }
  | _ => none }
def whenReadsRow : OpenClaim := { program := "ytkmaclnhmkncfaadoor", sum := "b9cb8375155e34d9f6657d64fda200c1cf5419635e2dd9ed00055faf7dc115ad", func := "computus/computuslaw07.WhenReads", spec := "whenReads", inPlace := ["internal/bytealg.IndexByteString", "internal/bytealg.CountString", "internal/bytealg.IndexString"], unfollowed := true, recurses := true, named := ["unicode/utf8.first", "unicode/utf8.acceptRanges", "internal/bytealg.MaxLen"], apart := false, laid := [("unicode/utf8.acceptRanges", laid_unicode_utf8_acceptRanges), ("unicode/utf8.first", laid_unicode_utf8_first)] }
def WhenReadsSaid : Prop := whenReadsRow.holds Tryd.pinned (OpenSpec.ofChange whenReadsSpec)

/-- ITS FALSE NEIGHBOUR: 'it returns false'. Refute it at one input. -/
def whenReadsWrong : ChangeSpec := { name := "whenReads", fn := fun _ => fun
  | [d] => { results := [.lit (.bool false)], args := [d] }
  | _ => none }
def WhenReadsWrongFalsely : Prop := whenReadsRow.holds Tryd.pinned (OpenSpec.ofChange whenReadsWrong)

/-- 'computuslaw07.WhenDays': WHATEVER THE INPUT: true; the input reads as it did. -/
def whenDaysSpec : ChangeSpec := { name := "whenDays", fn := fun _ => fun
  | [d1, d2, d3] => { results := [.lit (.bool true)], args := [d1, d2, d3] }
  | _ => none }
def whenDaysRow : OpenClaim := { program := "ytkmaclnhmkncfaadoor", sum := "b9cb8375155e34d9f6657d64fda200c1cf5419635e2dd9ed00055faf7dc115ad", func := "computus/computuslaw07.WhenDays", spec := "whenDays", inPlace := ["internal/bytealg.IndexByteString", "internal/bytealg.CountString", "internal/bytealg.IndexString"], unfollowed := true, recurses := true, named := ["unicode/utf8.first", "unicode/utf8.acceptRanges", "internal/bytealg.MaxLen"], apart := false, laid := [("unicode/utf8.acceptRanges", laid_unicode_utf8_acceptRanges), ("unicode/utf8.first", laid_unicode_utf8_first)] }
def WhenDaysSaid : Prop := whenDaysRow.holds Tryd.pinned (OpenSpec.ofChange whenDaysSpec)

/-- ITS FALSE NEIGHBOUR: 'it returns false'. Refute it at one input. -/
def whenDaysWrong : ChangeSpec := { name := "whenDays", fn := fun _ => fun
  | [d1, d2, d3] => { results := [.lit (.bool false)], args := [d1, d2, d3] }
  | _ => none }
def WhenDaysWrongFalsely : Prop := whenDaysRow.holds Tryd.pinned (OpenSpec.ofChange whenDaysWrong)

/-- 'computuslaw07.WhenNear': WHATEVER THE INPUT: true; the input reads as it did. -/
def whenNearSpec : ChangeSpec := { name := "whenNear", fn := fun _ => fun
  | [d1, d2, d3] => { results := [.lit (.bool true)], args := [d1, d2, d3] }
  | _ => none }
def whenNearRow : OpenClaim := { program := "ytkmaclnhmkncfaadoor", sum := "b9cb8375155e34d9f6657d64fda200c1cf5419635e2dd9ed00055faf7dc115ad", func := "computus/computuslaw07.WhenNear", spec := "whenNear", inPlace := ["internal/bytealg.IndexByteString", "internal/bytealg.CountString", "internal/bytealg.IndexString"], unfollowed := true, recurses := true, named := ["unicode/utf8.first", "unicode/utf8.acceptRanges", "internal/bytealg.MaxLen"], apart := false, laid := [("unicode/utf8.acceptRanges", laid_unicode_utf8_acceptRanges), ("unicode/utf8.first", laid_unicode_utf8_first)] }
def WhenNearSaid : Prop := whenNearRow.holds Tryd.pinned (OpenSpec.ofChange whenNearSpec)

/-- ITS FALSE NEIGHBOUR: 'it returns false'. Refute it at one input. -/
def whenNearWrong : ChangeSpec := { name := "whenNear", fn := fun _ => fun
  | [d1, d2, d3] => { results := [.lit (.bool false)], args := [d1, d2, d3] }
  | _ => none }
def WhenNearWrongFalsely : Prop := whenNearRow.holds Tryd.pinned (OpenSpec.ofChange whenNearWrong)

/-- 'computuslaw07.WhenWeek': WHATEVER THE INPUT: true; the input reads as it did. -/
def whenWeekSpec : ChangeSpec := { name := "whenWeek", fn := fun _ => fun
  | [d1, d2, d3] => { results := [.lit (.bool true)], args := [d1, d2, d3] }
  | _ => none }
def whenWeekRow : OpenClaim := { program := "ytkmaclnhmkncfaadoor", sum := "b9cb8375155e34d9f6657d64fda200c1cf5419635e2dd9ed00055faf7dc115ad", func := "computus/computuslaw07.WhenWeek", spec := "whenWeek", inPlace := ["internal/bytealg.IndexByteString", "internal/bytealg.CountString", "internal/bytealg.IndexString"], unfollowed := true, recurses := true, named := ["unicode/utf8.first", "unicode/utf8.acceptRanges", "internal/bytealg.MaxLen"], apart := false, laid := [("unicode/utf8.acceptRanges", laid_unicode_utf8_acceptRanges), ("unicode/utf8.first", laid_unicode_utf8_first)] }
def WhenWeekSaid : Prop := whenWeekRow.holds Tryd.pinned (OpenSpec.ofChange whenWeekSpec)

/-- ITS FALSE NEIGHBOUR: 'it returns false'. Refute it at one input. -/
def whenWeekWrong : ChangeSpec := { name := "whenWeek", fn := fun _ => fun
  | [d1, d2, d3] => { results := [.lit (.bool false)], args := [d1, d2, d3] }
  | _ => none }
def WhenWeekWrongFalsely : Prop := whenWeekRow.holds Tryd.pinned (OpenSpec.ofChange whenWeekWrong)

/-- 'computuslaw07.WhenTexts': WHATEVER THE INPUT: true; the input reads as it did. -/
def whenTextsSpec : ChangeSpec := { name := "whenTexts", fn := fun _ => fun
  | [d1, d2] => { results := [.lit (.bool true)], args := [d1, d2] }
  | _ => none }
def whenTextsRow : OpenClaim := { program := "ytkmaclnhmkncfaadoor", sum := "b9cb8375155e34d9f6657d64fda200c1cf5419635e2dd9ed00055faf7dc115ad", func := "computus/computuslaw07.WhenTexts", spec := "whenTexts", inPlace := ["internal/bytealg.IndexByteString", "internal/bytealg.CountString", "internal/bytealg.IndexString"], unfollowed := true, recurses := true, named := ["unicode/utf8.first", "unicode/utf8.acceptRanges", "internal/bytealg.MaxLen"], apart := false, laid := [("unicode/utf8.acceptRanges", laid_unicode_utf8_acceptRanges), ("unicode/utf8.first", laid_unicode_utf8_first)] }
def WhenTextsSaid : Prop := whenTextsRow.holds Tryd.pinned (OpenSpec.ofChange whenTextsSpec)

/-- ITS FALSE NEIGHBOUR: 'it returns false'. Refute it at one input. -/
def whenTextsWrong : ChangeSpec := { name := "whenTexts", fn := fun _ => fun
  | [d1, d2] => { results := [.lit (.bool false)], args := [d1, d2] }
  | _ => none }
def WhenTextsWrongFalsely : Prop := whenTextsRow.holds Tryd.pinned (OpenSpec.ofChange whenTextsWrong)

/- THE SECOND FORM. 'bulk': how many values and letters a reading holds, each counted each time it is reached (what is shared counts as often as it is met; a slice's spare places count too). A statement '..UptoSaid' is the law's where the arguments, and the package variables that the reading takes, are together of bulk at most 1048576: NARROWER than '..Said'. Prove '..Said' where nothing that the law and all that it calls make is longer than what came in: it says more and counts as full. Else prove '..UptoSaid'. A law counts once. -/
mutual
def uptoBulk {H : Type} : DataW H → Nat
  | .lit (.string bytes) => bytes.length + 1
  | .lit _ => 1
  | .nil => 1
  | .ptr d => uptoBulk d + 1
  | .slice elems spare => uptoBulkAll elems + uptoBulkAll spare + 1
  | .agg parts => uptoBulkAll parts + 1
  | .iface _ d => uptoBulk d + 1
  | .map entries => uptoBulkEntries entries + 1
  | .held _ => 1
def uptoBulkAll {H : Type} : List (DataW H) → Nat
  | [] => 0
  | d :: r => uptoBulk d + uptoBulkAll r
def uptoBulkEntries {H : Type} : List (Lit × DataW H) → Nat
  | [] => 0
  | x :: r => uptoBulkEntry x + uptoBulkEntries r
def uptoBulkEntry {H : Type} : Lit × DataW H → Nat
  | (.string bytes, d) => bytes.length + uptoBulk d + 1
  | (_, d) => uptoBulk d + 1
 end
def uptoSmall : (H : Type) → List (DataW H) → Bool := fun _ ds => decide (uptoBulkAll ds ≤ 1048576)
def OpenSpec.upto (s : _root_.Go.ChangeSpec) : _root_.Go.OpenSpec := { _root_.Go.OpenSpec.ofChange s with cond := some uptoSmall }

/-- 'computuslaw07.WhenReads', WHERE WHAT IT READS IS OF BULK AT MOST 1048576: true; the input reads as it did. -/
def whenReadsUptoRow : OpenClaim := { program := "ytkmaclnhmkncfaadoor", sum := "b9cb8375155e34d9f6657d64fda200c1cf5419635e2dd9ed00055faf7dc115ad", func := "computus/computuslaw07.WhenReads", spec := "whenReads", inPlace := ["internal/bytealg.IndexByteString", "internal/bytealg.CountString", "internal/bytealg.IndexString"], unfollowed := true, recurses := true, named := ["unicode/utf8.first", "unicode/utf8.acceptRanges", "internal/bytealg.MaxLen"], apart := false, laid := [("unicode/utf8.acceptRanges", laid_unicode_utf8_acceptRanges), ("unicode/utf8.first", laid_unicode_utf8_first)], narrowed := true }
def WhenReadsUptoSaid : Prop := whenReadsUptoRow.holds Tryd.pinned (OpenSpec.upto whenReadsSpec)

/-- 'computuslaw07.WhenDays', WHERE WHAT IT READS IS OF BULK AT MOST 1048576: true; the input reads as it did. -/
def whenDaysUptoRow : OpenClaim := { program := "ytkmaclnhmkncfaadoor", sum := "b9cb8375155e34d9f6657d64fda200c1cf5419635e2dd9ed00055faf7dc115ad", func := "computus/computuslaw07.WhenDays", spec := "whenDays", inPlace := ["internal/bytealg.IndexByteString", "internal/bytealg.CountString", "internal/bytealg.IndexString"], unfollowed := true, recurses := true, named := ["unicode/utf8.first", "unicode/utf8.acceptRanges", "internal/bytealg.MaxLen"], apart := false, laid := [("unicode/utf8.acceptRanges", laid_unicode_utf8_acceptRanges), ("unicode/utf8.first", laid_unicode_utf8_first)], narrowed := true }
def WhenDaysUptoSaid : Prop := whenDaysUptoRow.holds Tryd.pinned (OpenSpec.upto whenDaysSpec)

/-- 'computuslaw07.WhenNear', WHERE WHAT IT READS IS OF BULK AT MOST 1048576: true; the input reads as it did. -/
def whenNearUptoRow : OpenClaim := { program := "ytkmaclnhmkncfaadoor", sum := "b9cb8375155e34d9f6657d64fda200c1cf5419635e2dd9ed00055faf7dc115ad", func := "computus/computuslaw07.WhenNear", spec := "whenNear", inPlace := ["internal/bytealg.IndexByteString", "internal/bytealg.CountString", "internal/bytealg.IndexString"], unfollowed := true, recurses := true, named := ["unicode/utf8.first", "unicode/utf8.acceptRanges", "internal/bytealg.MaxLen"], apart := false, laid := [("unicode/utf8.acceptRanges", laid_unicode_utf8_acceptRanges), ("unicode/utf8.first", laid_unicode_utf8_first)], narrowed := true }
def WhenNearUptoSaid : Prop := whenNearUptoRow.holds Tryd.pinned (OpenSpec.upto whenNearSpec)

/-- 'computuslaw07.WhenWeek', WHERE WHAT IT READS IS OF BULK AT MOST 1048576: true; the input reads as it did. -/
def whenWeekUptoRow : OpenClaim := { program := "ytkmaclnhmkncfaadoor", sum := "b9cb8375155e34d9f6657d64fda200c1cf5419635e2dd9ed00055faf7dc115ad", func := "computus/computuslaw07.WhenWeek", spec := "whenWeek", inPlace := ["internal/bytealg.IndexByteString", "internal/bytealg.CountString", "internal/bytealg.IndexString"], unfollowed := true, recurses := true, named := ["unicode/utf8.first", "unicode/utf8.acceptRanges", "internal/bytealg.MaxLen"], apart := false, laid := [("unicode/utf8.acceptRanges", laid_unicode_utf8_acceptRanges), ("unicode/utf8.first", laid_unicode_utf8_first)], narrowed := true }
def WhenWeekUptoSaid : Prop := whenWeekUptoRow.holds Tryd.pinned (OpenSpec.upto whenWeekSpec)

/-- 'computuslaw07.WhenTexts', WHERE WHAT IT READS IS OF BULK AT MOST 1048576: true; the input reads as it did. -/
def whenTextsUptoRow : OpenClaim := { program := "ytkmaclnhmkncfaadoor", sum := "b9cb8375155e34d9f6657d64fda200c1cf5419635e2dd9ed00055faf7dc115ad", func := "computus/computuslaw07.WhenTexts", spec := "whenTexts", inPlace := ["internal/bytealg.IndexByteString", "internal/bytealg.CountString", "internal/bytealg.IndexString"], unfollowed := true, recurses := true, named := ["unicode/utf8.first", "unicode/utf8.acceptRanges", "internal/bytealg.MaxLen"], apart := false, laid := [("unicode/utf8.acceptRanges", laid_unicode_utf8_acceptRanges), ("unicode/utf8.first", laid_unicode_utf8_first)], narrowed := true }
def WhenTextsUptoSaid : Prop := whenTextsUptoRow.holds Tryd.pinned (OpenSpec.upto whenTextsSpec)

end Rows
end Go.Proofs.YtkmaclnhmkncfaaDoor
