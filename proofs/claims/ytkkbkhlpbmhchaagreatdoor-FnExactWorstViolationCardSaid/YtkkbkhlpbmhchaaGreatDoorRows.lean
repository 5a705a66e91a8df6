/-
  NARROWER THAN 'FOR EVERY INPUT', by the rows' own cells (each row's printed sentence says how): FnExactCoversViolation: laid · FnExactIsViolationList: laid · FnExactIsWaiverList: laid · FnExactViolationTotal: laid · FnExactWorstViolation: laid · FnExactCornerSpread: laid · FnExactWorstCorner: laid.
  DERIVED. THE GIVEN ROWS OF THIS SEAT. 7 by the template 'for every input the law returns true; each argument reads behind the call as it read before'; 0 by the template 'total and deterministic' (their statements: YtkkbkhlpbmhchaaGreatDoorTotals.lean).
  GIVEN WITH THE SEED: the statements are not yours to turn. If you find one false, say at which input.
  Laid BY PROGRAM, IN A SANDBOX (cutbox-rows.mjs): the forced cells as the released guide's own fill.sh prints them over the translation ebc64a5a0198a3c7… (all of the seat's roots in one cut). By AI agents, Wed Nov 11 2026. No macro, syntax, notation, axiom, sorry.
-/
import Derived.Test.YtkkbkhlpbmhchaaGreatDoorChecked
import GoSem.PinnedTables
import GoSem.Claim
import GoSem.ClaimJoined
import GoSem.ClaimMapViews
import Derived.JoinedTies
import Derived.KernelRfl
namespace Go.Proofs.YtkkbkhlpbmhchaaGreatDoor
/- THE CELL 'sum', in the pinned program and in every row, IS THE sha256 OF THE DUMP (.gsa) THAT YtkkbkhlpbmhchaaGreatDoorProg.lean LOADS. Nothing in Lean hashes anything: it is a label: what it is worth is what the hold of that sum in a sandbox is worth. -/
noncomputable def Tryz.pinned : Pinned := { name := "ytkkbkhlpbmhchaagreatdoor", sum := "ebc64a5a0198a3c7e6fa1a990a96bb325af6b5bd3d40e3fde2a3a2aa73f72178", checked := Tryz.checked }
namespace Rows
def none {H : Type} : Left H := { results := [], args := [] }

/- WHAT THE LISTED PACKAGE-LEVEL VARIABLES READ AS WHEN THE CALL BEGINS. Each datum BY PROGRAM (the guide's laid-datum.mjs) off the statement by which the dump's own 'gosem.cut.vars' lays the variable. In a bare row this is a premise. The card (YtkkbkhlpbmhchaaGreatDoorCards.lean) ties it to the program's text. -/
def laid_unicode_utf8_acceptRanges {H : Type} : DataW H := .agg [.agg [.lit (.int .u8 128), .lit (.int .u8 191)], .agg [.lit (.int .u8 160), .lit (.int .u8 191)], .agg [.lit (.int .u8 128), .lit (.int .u8 159)], .agg [.lit (.int .u8 144), .lit (.int .u8 191)], .agg [.lit (.int .u8 128), .lit (.int .u8 143)], .agg [.lit (.int .u8 0), .lit (.int .u8 0)], .agg [.lit (.int .u8 0), .lit (.int .u8 0)], .agg [.lit (.int .u8 0), .lit (.int .u8 0)], .agg [.lit (.int .u8 0), .lit (.int .u8 0)], .agg [.lit (.int .u8 0), .lit (.int .u8 0)], .agg [.lit (.int .u8 0), .lit (.int .u8 0)], .agg [.lit (.int .u8 0), .lit (.int .u8 0)], .agg [.lit (.int .u8 0), .lit (.int .u8 0)], .agg [.lit (.int .u8 0), .lit (.int .u8 0)], .agg [.lit (.int .u8 0), .lit (.int .u8 0)], .agg [.lit (.int .u8 0), .lit (.int .u8 0)]]
/-- One of Go's own tables, pinned by name: the form's constant. -/
def laid_unicode_utf8_first : DataW Unit := Go.Pinned.utf8First

/-- 'laws.FnExactCoversViolation': WHATEVER THE INPUT: true; the input reads as it did. -/
def fnExactCoversViolationSpec : ChangeSpec := { name := "fnExactCoversViolation", fn := fun _ => fun
  | [d1, d2, d3, d4] => { results := [.lit (.bool true)], args := [d1, d2, d3, d4] }
  | _ => none }
def fnExactCoversViolationRow : OpenClaim := { program := "ytkkbkhlpbmhchaagreatdoor", sum := "ebc64a5a0198a3c7e6fa1a990a96bb325af6b5bd3d40e3fde2a3a2aa73f72178", func := "loop.example/g00861/laws.FnExactCoversViolation", spec := "fnExactCoversViolation", inPlace := ["internal/bytealg.IndexByteString", "internal/bytealg.IndexString"], unfollowed := true, recurses := true, named := ["unicode/utf8.first", "unicode/utf8.acceptRanges", "internal/bytealg.MaxLen"], apart := false, laid := [("unicode/utf8.acceptRanges", laid_unicode_utf8_acceptRanges), ("unicode/utf8.first", laid_unicode_utf8_first)] }
def FnExactCoversViolationSaid : Prop := fnExactCoversViolationRow.holds Tryz.pinned (OpenSpec.ofChange fnExactCoversViolationSpec)

/-- ITS FALSE NEIGHBOUR: 'it returns false'. Refute it at one input. -/
def fnExactCoversViolationWrong : ChangeSpec := { name := "fnExactCoversViolation", fn := fun _ => fun
  | [d1, d2, d3, d4] => { results := [.lit (.bool false)], args := [d1, d2, d3, d4] }
  | _ => none }
def FnExactCoversViolationWrongFalsely : Prop := fnExactCoversViolationRow.holds Tryz.pinned (OpenSpec.ofChange fnExactCoversViolationWrong)

/-- 'laws.FnExactIsViolationList': WHATEVER THE INPUT: true; the input reads as it did. -/
def fnExactIsViolationListSpec : ChangeSpec := { name := "fnExactIsViolationList", fn := fun _ => fun
  | [d1, d2] => { results := [.lit (.bool true)], args := [d1, d2] }
  | _ => none }
def fnExactIsViolationListRow : OpenClaim := { program := "ytkkbkhlpbmhchaagreatdoor", sum := "ebc64a5a0198a3c7e6fa1a990a96bb325af6b5bd3d40e3fde2a3a2aa73f72178", func := "loop.example/g00861/laws.FnExactIsViolationList", spec := "fnExactIsViolationList", inPlace := ["internal/bytealg.IndexByteString", "internal/bytealg.IndexString"], unfollowed := true, recurses := true, named := ["unicode/utf8.first", "unicode/utf8.acceptRanges", "internal/bytealg.MaxLen"], apart := false, laid := [("unicode/utf8.acceptRanges", laid_unicode_utf8_acceptRanges), ("unicode/utf8.first", laid_unicode_utf8_first)] }
def FnExactIsViolationListSaid : Prop := fnExactIsViolationListRow.holds Tryz.pinned (OpenSpec.ofChange fnExactIsViolationListSpec)

/-- ITS FALSE NEIGHBOUR: 'it returns false'. Refute it at one input. -/
def fnExactIsViolationListWrong : ChangeSpec := { name := "fnExactIsViolationList", fn := fun _ => fun
  | [d1, d2] => { results := [.lit (.bool false)], args := [d1, d2] }
  | _ => none }
def FnExactIsViolationListWrongFalsely : Prop := fnExactIsViolationListRow.holds Tryz.pinned (OpenSpec.ofChange fnExactIsViolationListWrong)

/-- 'laws.FnExactIsWaiverList': WHATEVER THE INPUT: true; the input reads as it did. -/
def fnExactIsWaiverListSpec : ChangeSpec := { name := "fnExactIsWaiverList", fn := fun _ => fun
  | [d1, d2] => { results := [.lit (.bool true)], args := [d1, d2] }
  | _ => none }
def fnExactIsWaiverListRow : OpenClaim := { program := "ytkkbkhlpbmhchaagreatdoor", sum := "ebc64a5a0198a3c7e6fa1a990a96bb325af6b5bd3d40e3fde2a3a2aa73f72178", func := "loop.example/g00861/laws.FnExactIsWaiverList", spec := "fnExactIsWaiverList", inPlace := ["internal/bytealg.IndexByteString", "internal/bytealg.IndexString"], unfollowed := true, recurses := true, named := ["unicode/utf8.first", "unicode/utf8.acceptRanges", "internal/bytealg.MaxLen"], apart := false, laid := [("unicode/utf8.acceptRanges", laid_unicode_utf8_acceptRanges), ("unicode/utf8.first", laid_unicode_utf8_first)] }
def FnExactIsWaiverListSaid : Prop := fnExactIsWaiverListRow.holds Tryz.pinned (OpenSpec.ofChange fnExactIsWaiverListSpec)

/-- ITS FALSE NEIGHBOUR: 'it returns false'. Refute it at one input. -/
def fnExactIsWaiverListWrong : ChangeSpec := { name := "fnExactIsWaiverList", fn := fun _ => fun
  | [d1, d2] => { results := [.lit (.bool false)], args := [d1, d2] }
  | _ => none }
def FnExactIsWaiverListWrongFalsely : Prop := fnExactIsWaiverListRow.holds Tryz.pinned (OpenSpec.ofChange fnExactIsWaiverListWrong)

/-- 'laws.FnExactViolationTotal': WHATEVER THE INPUT: true; the input reads as it did. -/
def fnExactViolationTotalSpec : ChangeSpec := { name := "fnExactViolationTotal", fn := fun _ => fun
  | [d1, d2, d3] => { results := [.lit (.bool true)], args := [d1, d2, d3] }
  | _ => none }
def fnExactViolationTotalRow : OpenClaim := { program := "ytkkbkhlpbmhchaagreatdoor", sum := "ebc64a5a0198a3c7e6fa1a990a96bb325af6b5bd3d40e3fde2a3a2aa73f72178", func := "loop.example/g00861/laws.FnExactViolationTotal", spec := "fnExactViolationTotal", inPlace := ["internal/bytealg.IndexByteString", "internal/bytealg.IndexString"], unfollowed := true, recurses := true, named := ["unicode/utf8.first", "unicode/utf8.acceptRanges", "internal/bytealg.MaxLen"], apart := false, laid := [("unicode/utf8.acceptRanges", laid_unicode_utf8_acceptRanges), ("unicode/utf8.first", laid_unicode_utf8_first)] }
def FnExactViolationTotalSaid : Prop := fnExactViolationTotalRow.holds Tryz.pinned (OpenSpec.ofChange fnExactViolationTotalSpec)

/-- ITS FALSE NEIGHBOUR: 'it returns false'. Refute it at one input. -/
def fnExactViolationTotalWrong : ChangeSpec := { name := "fnExactViolationTotal", fn := fun _ => fun
  | [d1, d2, d3] => { results := [.lit (.bool false)], args := [d1, d2, d3] }
  | _ => none }
def FnExactViolationTotalWrongFalsely : Prop := fnExactViolationTotalRow.holds Tryz.pinned (OpenSpec.ofChange fnExactViolationTotalWrong)

/-- 'laws.FnExactWorstViolation': WHATEVER THE INPUT: true; the input reads as it did. -/
def fnExactWorstViolationSpec : ChangeSpec := { name := "fnExactWorstViolation", fn := fun _ => fun
  | [d1, d2, d3] => { results := [.lit (.bool true)], args := [d1, d2, d3] }
  | _ => none }
def fnExactWorstViolationRow : OpenClaim := { program := "ytkkbkhlpbmhchaagreatdoor", sum := "ebc64a5a0198a3c7e6fa1a990a96bb325af6b5bd3d40e3fde2a3a2aa73f72178", func := "loop.example/g00861/laws.FnExactWorstViolation", spec := "fnExactWorstViolation", inPlace := ["internal/bytealg.IndexByteString", "internal/bytealg.IndexString"], unfollowed := true, recurses := true, named := ["unicode/utf8.first", "unicode/utf8.acceptRanges", "internal/bytealg.MaxLen"], apart := false, laid := [("unicode/utf8.acceptRanges", laid_unicode_utf8_acceptRanges), ("unicode/utf8.first", laid_unicode_utf8_first)] }
def FnExactWorstViolationSaid : Prop := fnExactWorstViolationRow.holds Tryz.pinned (OpenSpec.ofChange fnExactWorstViolationSpec)

/-- ITS FALSE NEIGHBOUR: 'it returns false'. Refute it at one input. -/
def fnExactWorstViolationWrong : ChangeSpec := { name := "fnExactWorstViolation", fn := fun _ => fun
  | [d1, d2, d3] => { results := [.lit (.bool false)], args := [d1, d2, d3] }
  | _ => none }
def FnExactWorstViolationWrongFalsely : Prop := fnExactWorstViolationRow.holds Tryz.pinned (OpenSpec.ofChange fnExactWorstViolationWrong)

/-- 'laws.FnExactCornerSpread': WHATEVER THE INPUT: true; the input reads as it did. -/
def fnExactCornerSpreadSpec : ChangeSpec := { name := "fnExactCornerSpread", fn := fun _ => fun
  | [d1, d2, d3] => { results := [.lit (.bool true)], args := [d1, d2, d3] }
  | _ => none }
def fnExactCornerSpreadRow : OpenClaim := { program := "ytkkbkhlpbmhchaagreatdoor", sum := "ebc64a5a0198a3c7e6fa1a990a96bb325af6b5bd3d40e3fde2a3a2aa73f72178", func := "loop.example/g00861/laws.FnExactCornerSpread", spec := "fnExactCornerSpread", inPlace := ["internal/bytealg.IndexByteString", "internal/bytealg.IndexString"], unfollowed := true, recurses := true, named := ["unicode/utf8.first", "unicode/utf8.acceptRanges", "internal/bytealg.MaxLen"], apart := false, laid := [("unicode/utf8.acceptRanges", laid_unicode_utf8_acceptRanges), ("unicode/utf8.first", laid_unicode_utf8_first)] }
def FnExactCornerSpreadSaid : Prop := fnExactCornerSpreadRow.holds Tryz.pinned (OpenSpec.ofChange fnExactCornerSpreadSpec)

/-- ITS FALSE NEIGHBOUR: 'it returns false'. Refute it at one input. -/
def fnExactCornerSpreadWrong : ChangeSpec := { name := "fnExactCornerSpread", fn := fun _ => fun
  | [d1, d2, d3] => { results := [.lit (.bool false)], args := [d1, d2, d3] }
  | _ => none }
def FnExactCornerSpreadWrongFalsely : Prop := fnExactCornerSpreadRow.holds Tryz.pinned (OpenSpec.ofChange fnExactCornerSpreadWrong)

/-- 'laws.FnExactWorstCorner': WHATEVER THE INPUT: true; the input reads as it did. -/
def fnExactWorstCornerSpec : ChangeSpec := { name := "fnExactWorstCorner", fn := fun _ => fun
  | [d1, d2, d3, d4] => { results := [.lit (.bool true)], args := [d1, d2, d3, d4] }
  | _ => none }
def fnExactWorstCornerRow : OpenClaim := { program := "ytkkbkhlpbmhchaagreatdoor", sum := "ebc64a5a0198a3c7e6fa1a990a96bb325af6b5bd3d40e3fde2a3a2aa73f72178", func := "loop.example/g00861/laws.FnExactWorstCorner", spec := "fnExactWorstCorner", inPlace := ["internal/bytealg.IndexByteString", "internal/bytealg.IndexString"], unfollowed := true, recurses := true, named := ["unicode/utf8.first", "unicode/utf8.acceptRanges", "internal/bytealg.MaxLen"], apart := false, laid := [("unicode/utf8.acceptRanges", laid_unicode_utf8_acceptRanges), ("unicode/utf8.first", laid_unicode_utf8_first)] }
def FnExactWorstCornerSaid : Prop := fnExactWorstCornerRow.holds Tryz.pinned (OpenSpec.ofChange fnExactWorstCornerSpec)

/-- ITS FALSE NEIGHBOUR: 'it returns false'. Refute it at one input. -/
def fnExactWorstCornerWrong : ChangeSpec := { name := "fnExactWorstCorner", fn := fun _ => fun
  | [d1, d2, d3, d4] => { results := [.lit (.bool false)], args := [d1, d2, d3, d4] }
  | _ => none }
def FnExactWorstCornerWrongFalsely : Prop := fnExactWorstCornerRow.holds Tryz.pinned (OpenSpec.ofChange fnExactWorstCornerWrong)

/- THE SECOND FORM. 'bulk': how many values and letters a reading holds, each counted each time it is reached (what is shared counts as often as it is met; a slice's spare places count too). A statement '..UptoSaid' is the law's where the arguments, and the package variables that the reading takes, are together of bulk at most 1048576: NARROWER than '..Said'. Prove '..Said' where nothing that the law and all that it calls make is longer than what came in: it says more and counts as full. Else prove '..UptoSaid'. A law counts once. -/
mutual
def uptoBulk {H : Type} : DataW H → Nat
  | .lit (.string bytes) => bytes.length + 1
  | .lit _ => 1
  | .nil => 1
  | .ptr d => uptoBulk d + 1
  | .slice elems spare => uptoBulkAll elems + uptoBulkAll spare + 1
  | .agg parts => uptoBulkAll parts + 1
  | .iface _ d => uptoBulk d + 1
  | .map entries => uptoBulkEntries entries + 1
  | .held _ => 1
def uptoBulkAll {H : Type} : List (DataW H) → Nat
  | [] => 0
  | d :: r => uptoBulk d + uptoBulkAll r
def uptoBulkEntries {H : Type} : List (Lit × DataW H) → Nat
  | [] => 0
  | x :: r => uptoBulkEntry x + uptoBulkEntries r
def uptoBulkEntry {H : Type} : Lit × DataW H → Nat
  | (.string bytes, d) => bytes.length + uptoBulk d + 1
  | (_, d) => uptoBulk d + 1
 end
def uptoSmall : (H : Type) → List (DataW H) → Bool := fun _ ds => decide (uptoBulkAll ds ≤ 1048576)
def OpenSpec.upto (s : _root_.Go.ChangeSpec) : _root_.Go.OpenSpec := { _root_.Go.OpenSpec.ofChange s with cond := some uptoSmall }

/-- 'laws.FnExactCoversViolation', WHERE WHAT IT READS IS OF BULK AT MOST 1048576: true; the input reads as it did. -/
def fnExactCoversViolationUptoRow : OpenClaim := { program := "ytkkbkhlpbmhchaagreatdoor", sum := "ebc64a5a0198a3c7e6fa1a990a96bb325af6b5bd3d40e3fde2a3a2aa73f72178", func := "loop.example/g00861/laws.FnExactCoversViolation", spec := "fnExactCoversViolation", inPlace := ["internal/bytealg.IndexByteString", "internal/bytealg.IndexString"], unfollowed := true, recurses := true, named := ["unicode/utf8.first", "unicode/utf8.acceptRanges", "internal/bytealg.MaxLen"], apart := false, laid := [("unicode/utf8.acceptRanges", laid_unicode_utf8_acceptRanges), ("unicode/utf8.first", laid_unicode_utf8_first)], narrowed := true }
def FnExactCoversViolationUptoSaid : Prop := fnExactCoversViolationUptoRow.holds Tryz.pinned (OpenSpec.upto fnExactCoversViolationSpec)

/-- 'laws.FnExactIsViolationList', WHERE WHAT IT READS IS OF BULK AT MOST 1048576: true; the input reads as it did. -/
def fnExactIsViolationListUptoRow : OpenClaim := { program := "ytkkbkhlpbmhchaagreatdoor", sum := "ebc64a5a0198a3c7e6fa1a990a96bb325af6b5bd3d40e3fde2a3a2aa73f72178", func := "loop.example/g00861/laws.FnExactIsViolationList", spec := "fnExactIsViolationList", inPlace := ["internal/bytealg.IndexByteString", "internal/bytealg.IndexString"], unfollowed := true, recurses := true, named := ["unicode/utf8.first", "unicode/utf8.acceptRanges", "internal/bytealg.MaxLen"], apart := false, laid := [("unicode/utf8.acceptRanges", laid_unicode_utf8_acceptRanges), ("unicode/utf8.first", laid_unicode_utf8_first)], narrowed := true }
def FnExactIsViolationListUptoSaid : Prop := fnExactIsViolationListUptoRow.holds Tryz.pinned (OpenSpec.upto fnExactIsViolationListSpec)

/-- 'laws.FnExactIsWaiverList', WHERE WHAT IT READS IS OF BULK AT MOST 1048576: true; the input reads as it did. -/
def fnExactIsWaiverListUptoRow : OpenClaim := { program := "ytkkbkhlpbmhchaagreatdoor", sum := "ebc64a5a0198a3c7e6fa1a990a96bb325af6b5bd3d40e3fde2a3a2aa73f72178", func := "loop.example/g00861/laws.FnExactIsWaiverList", spec := "fnExactIsWaiverList", inPlace := ["internal/bytealg.IndexByteString", "internal/bytealg.IndexString"], unfollowed := true, recurses := true, named := ["unicode/utf8.first", "unicode/utf8.acceptRanges", "internal/bytealg.MaxLen"], apart := false, laid := [("unicode/utf8.acceptRanges", laid_unicode_utf8_acceptRanges), ("unicode/utf8.first", laid_unicode_utf8_first)], narrowed := true }
def FnExactIsWaiverListUptoSaid : Prop := fnExactIsWaiverListUptoRow.holds Tryz.pinned (OpenSpec.upto fnExactIsWaiverListSpec)

/-- 'laws.FnExactViolationTotal', WHERE WHAT IT READS IS OF BULK AT MOST 1048576: true; the input reads as it did. -/
def fnExactViolationTotalUptoRow : OpenClaim := { program := "ytkkbkhlpbmhchaagreatdoor", sum := "ebc64a5a0198a3c7e6fa1a990a96bb325af6b5bd3d40e3fde2a3a2aa73f72178", func := "loop.example/g00861/laws.FnExactViolationTotal", spec := "fnExactViolationTotal", inPlace := ["internal/bytealg.IndexByteString", "internal/bytealg.IndexString"], unfollowed := true, recurses := true, named := ["unicode/utf8.first", "unicode/utf8.acceptRanges", "internal/bytealg.MaxLen"], apart := false, laid := [("unicode/utf8.acceptRanges", laid_unicode_utf8_acceptRanges), ("unicode/utf8.first", laid_unicode_utf8_first)], narrowed := true }
def FnExactViolationTotalUptoSaid : Prop := fnExactViolationTotalUptoRow.holds Tryz.pinned (OpenSpec.upto fnExactViolationTotalSpec)

/-- 'laws.FnExactWorstViolation', WHERE WHAT IT READS IS OF BULK AT MOST 1048576: true; the input reads as it did. -/
def fnExactWorstViolationUptoRow : OpenClaim := { program := "ytkkbkhlpbmhchaagreatdoor", sum := "ebc64a5a0198a3c7e6fa1a990a96bb325af6b5bd3d40e3fde2a3a2aa73f72178", func := "loop.example/g00861/laws.FnExactWorstViolation", spec := "fnExactWorstViolation", inPlace := ["internal/bytealg.IndexByteString", "internal/bytealg.IndexString"], unfollowed := true, recurses := true, named := ["unicode/utf8.first", "unicode/utf8.acceptRanges", "internal/bytealg.MaxLen"], apart := false, laid := [("unicode/utf8.acceptRanges", laid_unicode_utf8_acceptRanges), ("unicode/utf8.first", laid_unicode_utf8_first)], narrowed := true }
def FnExactWorstViolationUptoSaid : Prop := fnExactWorstViolationUptoRow.holds Tryz.pinned (OpenSpec.upto fnExactWorstViolationSpec)

/-- 'laws.FnExactCornerSpread', WHERE WHAT IT READS IS OF BULK AT MOST 1048576: true; the input reads as it did. -/
def fnExactCornerSpreadUptoRow : OpenClaim := { program := "ytkkbkhlpbmhchaagreatdoor", sum := "ebc64a5a0198a3c7e6fa1a990a96bb325af6b5bd3d40e3fde2a3a2aa73f72178", func := "loop.example/g00861/laws.FnExactCornerSpread", spec := "fnExactCornerSpread", inPlace := ["internal/bytealg.IndexByteString", "internal/bytealg.IndexString"], unfollowed := true, recurses := true, named := ["unicode/utf8.first", "unicode/utf8.acceptRanges", "internal/bytealg.MaxLen"], apart := false, laid := [("unicode/utf8.acceptRanges", laid_unicode_utf8_acceptRanges), ("unicode/utf8.first", laid_unicode_utf8_first)], narrowed := true }
def FnExactCornerSpreadUptoSaid : Prop := fnExactCornerSpreadUptoRow.holds Tryz.pinned (OpenSpec.upto fnExactCornerSpreadSpec)

/-- 'laws.FnExactWorstCorner', WHERE WHAT IT READS IS OF BULK AT MOST 1048576: true; the input reads as it did. -/
def fnExactWorstCornerUptoRow : OpenClaim := { program := "ytkkbkhlpbmhchaagreatdoor", sum := "ebc64a5a0198a3c7e6fa1a990a96bb325af6b5bd3d40e3fde2a3a2aa73f72178", func := "loop.example/g00861/laws.FnExactWorstCorner", spec := "fnExactWorstCorner", inPlace := ["internal/bytealg.IndexByteString", "internal/bytealg.IndexString"], unfollowed := true, recurses := true, named := ["unicode/utf8.first", "unicode/utf8.acceptRanges", "internal/bytealg.MaxLen"], apart := false, laid := [("unicode/utf8.acceptRanges", laid_unicode_utf8_acceptRanges), ("unicode/utf8.first", laid_unicode_utf8_first)], narrowed := true }
def FnExactWorstCornerUptoSaid : Prop := fnExactWorstCornerUptoRow.holds Tryz.pinned (OpenSpec.upto fnExactWorstCornerSpec)

end Rows
end Go.Proofs.YtkkbkhlpbmhchaaGreatDoor
