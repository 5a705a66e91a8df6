/-
  NARROWER THAN 'FOR EVERY INPUT', by the rows' own cells (each row's printed sentence says how): FnExactSourceNets: laid · FnExactValuesFor: laid · FnExactExpiredWaivers: laid · FnExactUnusedWaivers: laid · FnExactHullTiming: laid · FnExactOpenViolations: laid · FnExactSurplusWaivers: laid.
  DERIVED. THE GIVEN ROWS OF THIS SEAT. 7 by the template 'for every input the law returns true; each argument reads behind the call as it read before'; 0 by the template 'total and deterministic' (their statements: YtbdokiecpmhjmaaGreatDoorTotals.lean).
  GIVEN WITH THE SEED: the statements are not yours to turn. If you find one false, say at which input.
  Laid BY PROGRAM, IN A SANDBOX (cutbox-rows.mjs): the forced cells as the released guide's own fill.sh prints them over the translation e9fc33c47c6ebd71… (all of the seat's roots in one cut). By AI agents, Wed Nov 11 2026. No macro, syntax, notation, axiom, sorry.
-/
import Derived.Test.YtbdokiecpmhjmaaGreatDoorChecked
import GoSem.PinnedTables
import GoSem.Claim
import GoSem.ClaimJoined
import GoSem.ClaimMapViews
import Derived.JoinedTies
import Derived.KernelRfl
namespace Go.Proofs.YtbdokiecpmhjmaaGreatDoor
/- THE CELL 'sum', in the pinned program and in every row, IS THE sha256 OF THE DUMP (.gsa) THAT YtbdokiecpmhjmaaGreatDoorProg.lean LOADS. Nothing in Lean hashes anything: it is a label: what it is worth is what the hold of that sum in a sandbox is worth. -/
noncomputable def Tryz.pinned : Pinned := { name := "ytbdokiecpmhjmaagreatdoor", sum := "e9fc33c47c6ebd718c19cf261d0eb589ce22dc8a05d8501c22ef2df85c941edf", checked := Tryz.checked }
namespace Rows
def none {H : Type} : Left H := { results := [], args := [] }

/- WHAT THE LISTED PACKAGE-LEVEL VARIABLES READ AS WHEN THE CALL BEGINS. Each datum BY PROGRAM (the guide's laid-datum.mjs) off the statement by which the dump's own 'gosem.cut.vars' lays the variable. In a bare row this is a premise. The card (YtbdokiecpmhjmaaGreatDoorCards.lean) ties it to the program's text. -/
def laid_unicode_utf8_acceptRanges {H : Type} : DataW H := .agg [.agg [.lit (.int .u8 128), .lit (.int .u8 191)], .agg [.lit (.int .u8 160), .lit (.int .u8 191)], .agg [.lit (.int .u8 128), .lit (.int .u8 159)], .agg [.lit (.int .u8 144), .lit (.int .u8 191)], .agg [.lit (.int .u8 128), .lit (.int .u8 143)], .agg [.lit (.int .u8 0), .lit (.int .u8 0)], .agg [.lit (.int .u8 0), .lit (.int .u8 0)], .agg [.lit (.int .u8 0), .lit (.int .u8 0)], .agg [.lit (.int .u8 0), .lit (.int .u8 0)], .agg [.lit (.int .u8 0), .lit (.int .u8 0)], .agg [.lit (.int .u8 0), .lit (.int .u8 0)], .agg [.lit (.int .u8 0), .lit (.int .u8 0)], .agg [.lit (.int .u8 0), .lit (.int .u8 0)], .agg [.lit (.int .u8 0), .lit (.int .u8 0)], .agg [.lit (.int .u8 0), .lit (.int .u8 0)], .agg [.lit (.int .u8 0), .lit (.int .u8 0)]]
/-- One of Go's own tables, pinned by name: the form's constant. -/
def laid_unicode_utf8_first : DataW Unit := Go.Pinned.utf8First

/-- 'laws.FnExactSourceNets': WHATEVER THE INPUT: true; the input reads as it did. -/
def fnExactSourceNetsSpec : ChangeSpec := { name := "fnExactSourceNets", fn := fun _ => fun
  | [d] => { results := [.lit (.bool true)], args := [d] }
  | _ => none }
def fnExactSourceNetsRow : OpenClaim := { program := "ytbdokiecpmhjmaagreatdoor", sum := "e9fc33c47c6ebd718c19cf261d0eb589ce22dc8a05d8501c22ef2df85c941edf", func := "loop.example/g00861/laws.FnExactSourceNets", spec := "fnExactSourceNets", inPlace := ["internal/bytealg.IndexByteString", "internal/bytealg.IndexString"], unfollowed := true, recurses := true, named := ["unicode/utf8.first", "unicode/utf8.acceptRanges", "internal/bytealg.MaxLen"], apart := false, laid := [("unicode/utf8.acceptRanges", laid_unicode_utf8_acceptRanges), ("unicode/utf8.first", laid_unicode_utf8_first)] }
def FnExactSourceNetsSaid : Prop := fnExactSourceNetsRow.holds Tryz.pinned (OpenSpec.ofChange fnExactSourceNetsSpec)

/-- ITS FALSE NEIGHBOUR: 'it returns false'. Refute it at one input. -/
def fnExactSourceNetsWrong : ChangeSpec := { name := "fnExactSourceNets", fn := fun _ => fun
  | [d] => { results := [.lit (.bool false)], args := [d] }
  | _ => none }
def FnExactSourceNetsWrongFalsely : Prop := fnExactSourceNetsRow.holds Tryz.pinned (OpenSpec.ofChange fnExactSourceNetsWrong)

/-- 'laws.FnExactValuesFor': WHATEVER THE INPUT: true; the input reads as it did. -/
def fnExactValuesForSpec : ChangeSpec := { name := "fnExactValuesFor", fn := fun _ => fun
  | [d1, d2] => { results := [.lit (.bool true)], args := [d1, d2] }
  | _ => none }
def fnExactValuesForRow : OpenClaim := { program := "ytbdokiecpmhjmaagreatdoor", sum := "e9fc33c47c6ebd718c19cf261d0eb589ce22dc8a05d8501c22ef2df85c941edf", func := "loop.example/g00861/laws.FnExactValuesFor", spec := "fnExactValuesFor", inPlace := ["internal/bytealg.IndexByteString", "internal/bytealg.IndexString"], unfollowed := true, recurses := true, named := ["unicode/utf8.first", "unicode/utf8.acceptRanges", "internal/bytealg.MaxLen"], apart := false, laid := [("unicode/utf8.acceptRanges", laid_unicode_utf8_acceptRanges), ("unicode/utf8.first", laid_unicode_utf8_first)] }
def FnExactValuesForSaid : Prop := fnExactValuesForRow.holds Tryz.pinned (OpenSpec.ofChange fnExactValuesForSpec)

/-- ITS FALSE NEIGHBOUR: 'it returns false'. Refute it at one input. -/
def fnExactValuesForWrong : ChangeSpec := { name := "fnExactValuesFor", fn := fun _ => fun
  | [d1, d2] => { results := [.lit (.bool false)], args := [d1, d2] }
  | _ => none }
def FnExactValuesForWrongFalsely : Prop := fnExactValuesForRow.holds Tryz.pinned (OpenSpec.ofChange fnExactValuesForWrong)

/-- 'laws.FnExactExpiredWaivers': WHATEVER THE INPUT: true; the input reads as it did. -/
def fnExactExpiredWaiversSpec : ChangeSpec := { name := "fnExactExpiredWaivers", fn := fun _ => fun
  | [d1, d2, d3] => { results := [.lit (.bool true)], args := [d1, d2, d3] }
  | _ => none }
def fnExactExpiredWaiversRow : OpenClaim := { program := "ytbdokiecpmhjmaagreatdoor", sum := "e9fc33c47c6ebd718c19cf261d0eb589ce22dc8a05d8501c22ef2df85c941edf", func := "loop.example/g00861/laws.FnExactExpiredWaivers", spec := "fnExactExpiredWaivers", inPlace := ["internal/bytealg.IndexByteString", "internal/bytealg.IndexString"], unfollowed := true, recurses := true, named := ["unicode/utf8.first", "unicode/utf8.acceptRanges", "internal/bytealg.MaxLen"], apart := false, laid := [("unicode/utf8.acceptRanges", laid_unicode_utf8_acceptRanges), ("unicode/utf8.first", laid_unicode_utf8_first)] }
def FnExactExpiredWaiversSaid : Prop := fnExactExpiredWaiversRow.holds Tryz.pinned (OpenSpec.ofChange fnExactExpiredWaiversSpec)

/-- ITS FALSE NEIGHBOUR: 'it returns false'. Refute it at one input. -/
def fnExactExpiredWaiversWrong : ChangeSpec := { name := "fnExactExpiredWaivers", fn := fun _ => fun
  | [d1, d2, d3] => { results := [.lit (.bool false)], args := [d1, d2, d3] }
  | _ => none }
def FnExactExpiredWaiversWrongFalsely : Prop := fnExactExpiredWaiversRow.holds Tryz.pinned (OpenSpec.ofChange fnExactExpiredWaiversWrong)

/-- 'laws.FnExactUnusedWaivers': WHATEVER THE INPUT: true; the input reads as it did. -/
def fnExactUnusedWaiversSpec : ChangeSpec := { name := "fnExactUnusedWaivers", fn := fun _ => fun
  | [d1, d2, d3, d4] => { results := [.lit (.bool true)], args := [d1, d2, d3, d4] }
  | _ => none }
def fnExactUnusedWaiversRow : OpenClaim := { program := "ytbdokiecpmhjmaagreatdoor", sum := "e9fc33c47c6ebd718c19cf261d0eb589ce22dc8a05d8501c22ef2df85c941edf", func := "loop.example/g00861/laws.FnExactUnusedWaivers", spec := "fnExactUnusedWaivers", inPlace := ["internal/bytealg.IndexByteString", "internal/bytealg.IndexString"], unfollowed := true, recurses := true, named := ["unicode/utf8.first", "unicode/utf8.acceptRanges", "internal/bytealg.MaxLen"], apart := false, laid := [("unicode/utf8.acceptRanges", laid_unicode_utf8_acceptRanges), ("unicode/utf8.first", laid_unicode_utf8_first)] }
def FnExactUnusedWaiversSaid : Prop := fnExactUnusedWaiversRow.holds Tryz.pinned (OpenSpec.ofChange fnExactUnusedWaiversSpec)

/-- ITS FALSE NEIGHBOUR: 'it returns false'. Refute it at one input. -/
def fnExactUnusedWaiversWrong : ChangeSpec := { name := "fnExactUnusedWaivers", fn := fun _ => fun
  | [d1, d2, d3, d4] => { results := [.lit (.bool false)], args := [d1, d2, d3, d4] }
  | _ => none }
def FnExactUnusedWaiversWrongFalsely : Prop := fnExactUnusedWaiversRow.holds Tryz.pinned (OpenSpec.ofChange fnExactUnusedWaiversWrong)

/-- 'laws.FnExactHullTiming': WHATEVER THE INPUT: true; the input reads as it did. -/
def fnExactHullTimingSpec : ChangeSpec := { name := "fnExactHullTiming", fn := fun _ => fun
  | [d1, d2] => { results := [.lit (.bool true)], args := [d1, d2] }
  | _ => none }
def fnExactHullTimingRow : OpenClaim := { program := "ytbdokiecpmhjmaagreatdoor", sum := "e9fc33c47c6ebd718c19cf261d0eb589ce22dc8a05d8501c22ef2df85c941edf", func := "loop.example/g00861/laws.FnExactHullTiming", spec := "fnExactHullTiming", inPlace := ["internal/bytealg.IndexByteString", "internal/bytealg.IndexString"], unfollowed := true, recurses := true, named := ["unicode/utf8.first", "unicode/utf8.acceptRanges", "internal/bytealg.MaxLen"], apart := false, laid := [("unicode/utf8.acceptRanges", laid_unicode_utf8_acceptRanges), ("unicode/utf8.first", laid_unicode_utf8_first)] }
def FnExactHullTimingSaid : Prop := fnExactHullTimingRow.holds Tryz.pinned (OpenSpec.ofChange fnExactHullTimingSpec)

/-- ITS FALSE NEIGHBOUR: 'it returns false'. Refute it at one input. -/
def fnExactHullTimingWrong : ChangeSpec := { name := "fnExactHullTiming", fn := fun _ => fun
  | [d1, d2] => { results := [.lit (.bool false)], args := [d1, d2] }
  | _ => none }
def FnExactHullTimingWrongFalsely : Prop := fnExactHullTimingRow.holds Tryz.pinned (OpenSpec.ofChange fnExactHullTimingWrong)

/-- 'laws.FnExactOpenViolations': WHATEVER THE INPUT: true; the input reads as it did. -/
def fnExactOpenViolationsSpec : ChangeSpec := { name := "fnExactOpenViolations", fn := fun _ => fun
  | [d1, d2, d3, d4] => { results := [.lit (.bool true)], args := [d1, d2, d3, d4] }
  | _ => none }
def fnExactOpenViolationsRow : OpenClaim := { program := "ytbdokiecpmhjmaagreatdoor", sum := "e9fc33c47c6ebd718c19cf261d0eb589ce22dc8a05d8501c22ef2df85c941edf", func := "loop.example/g00861/laws.FnExactOpenViolations", spec := "fnExactOpenViolations", inPlace := ["internal/bytealg.IndexByteString", "internal/bytealg.IndexString"], unfollowed := true, recurses := true, named := ["unicode/utf8.first", "unicode/utf8.acceptRanges", "internal/bytealg.MaxLen"], apart := false, laid := [("unicode/utf8.acceptRanges", laid_unicode_utf8_acceptRanges), ("unicode/utf8.first", laid_unicode_utf8_first)] }
def FnExactOpenViolationsSaid : Prop := fnExactOpenViolationsRow.holds Tryz.pinned (OpenSpec.ofChange fnExactOpenViolationsSpec)

/-- ITS FALSE NEIGHBOUR: 'it returns false'. Refute it at one input. -/
def fnExactOpenViolationsWrong : ChangeSpec := { name := "fnExactOpenViolations", fn := fun _ => fun
  | [d1, d2, d3, d4] => { results := [.lit (.bool false)], args := [d1, d2, d3, d4] }
  | _ => none }
def FnExactOpenViolationsWrongFalsely : Prop := fnExactOpenViolationsRow.holds Tryz.pinned (OpenSpec.ofChange fnExactOpenViolationsWrong)

/-- 'laws.FnExactSurplusWaivers': WHATEVER THE INPUT: true; the input reads as it did. -/
def fnExactSurplusWaiversSpec : ChangeSpec := { name := "fnExactSurplusWaivers", fn := fun _ => fun
  | [d1, d2, d3, d4] => { results := [.lit (.bool true)], args := [d1, d2, d3, d4] }
  | _ => none }
def fnExactSurplusWaiversRow : OpenClaim := { program := "ytbdokiecpmhjmaagreatdoor", sum := "e9fc33c47c6ebd718c19cf261d0eb589ce22dc8a05d8501c22ef2df85c941edf", func := "loop.example/g00861/laws.FnExactSurplusWaivers", spec := "fnExactSurplusWaivers", inPlace := ["internal/bytealg.IndexByteString", "internal/bytealg.IndexString"], unfollowed := true, recurses := true, named := ["unicode/utf8.first", "unicode/utf8.acceptRanges", "internal/bytealg.MaxLen"], apart := false, laid := [("unicode/utf8.acceptRanges", laid_unicode_utf8_acceptRanges), ("unicode/utf8.first", laid_unicode_utf8_first)] }
def FnExactSurplusWaiversSaid : Prop := fnExactSurplusWaiversRow.holds Tryz.pinned (OpenSpec.ofChange fnExactSurplusWaiversSpec)

/-- ITS FALSE NEIGHBOUR: 'it returns false'. Refute it at one input. -/
def fnExactSurplusWaiversWrong : ChangeSpec := { name := "fnExactSurplusWaivers", fn := fun _ => fun
  | [d1, d2, d3, d4] => { results := [.lit (.bool false)], args := [d1, d2, d3, d4] }
  | _ => none }
def FnExactSurplusWaiversWrongFalsely : Prop := fnExactSurplusWaiversRow.holds Tryz.pinned (OpenSpec.ofChange fnExactSurplusWaiversWrong)

/- THE SECOND FORM. 'bulk': how many values and letters a reading holds, each counted each time it is reached (what is shared counts as often as it is met; a slice's spare places count too). A statement '..UptoSaid' is the law's where the arguments, and the package variables that the reading takes, are together of bulk at most 1048576: NARROWER than '..Said'. Prove '..Said' where nothing that the law and all that it calls make is longer than what came in: it says more and counts as full. Else prove '..UptoSaid'. A law counts once. -/
mutual
def uptoBulk {H : Type} : DataW H → Nat
  | .lit (.string bytes) => bytes.length + 1
  | .lit _ => 1
  | .nil => 1
  | .ptr d => uptoBulk d + 1
  | .slice elems spare => uptoBulkAll elems + uptoBulkAll spare + 1
  | .agg parts => uptoBulkAll parts + 1
  | .iface _ d => uptoBulk d + 1
  | .map entries => uptoBulkEntries entries + 1
  | .held _ => 1
def uptoBulkAll {H : Type} : List (DataW H) → Nat
  | [] => 0
  | d :: r => uptoBulk d + uptoBulkAll r
def uptoBulkEntries {H : Type} : List (Lit × DataW H) → Nat
  | [] => 0
  | x :: r => uptoBulkEntry x + uptoBulkEntries r
def uptoBulkEntry {H : Type} : Lit × DataW H → Nat
  | (.string bytes, d) => bytes.length + uptoBulk d + 1
  | (_, d) => uptoBulk d + 1
 end
def uptoSmall : (H : Type) → List (DataW H) → Bool := fun _ ds => decide (uptoBulkAll ds ≤ 1048576)
def OpenSpec.upto (s : _root_.Go.ChangeSpec) : _root_.Go.OpenSpec := { _root_.Go.OpenSpec.ofChange s with cond := some uptoSmall }

/-- 'laws.FnExactSourceNets', WHERE WHAT IT READS IS OF BULK AT MOST 1048576: true; the input reads as it did. -/
def fnExactSourceNetsUptoRow : OpenClaim := { program := "ytbdokiecpmhjmaagreatdoor", sum := "e9fc33c47c6ebd718c19cf261d0eb589ce22dc8a05d8501c22ef2df85c941edf", func := "loop.example/g00861/laws.FnExactSourceNets", spec := "fnExactSourceNets", inPlace := ["internal/bytealg.IndexByteString", "internal/bytealg.IndexString"], unfollowed := true, recurses := true, named := ["unicode/utf8.first", "unicode/utf8.acceptRanges", "internal/bytealg.MaxLen"], apart := false, laid := [("unicode/utf8.acceptRanges", laid_unicode_utf8_acceptRanges), ("unicode/utf8.first", laid_unicode_utf8_first)], narrowed := true }
def FnExactSourceNetsUptoSaid : Prop := fnExactSourceNetsUptoRow.holds Tryz.pinned (OpenSpec.upto fnExactSourceNetsSpec)

/-- 'laws.FnExactValuesFor', WHERE WHAT IT READS IS OF BULK AT MOST 1048576: true; the input reads as it did. -/
def fnExactValuesForUptoRow : OpenClaim := { program := "ytbdokiecpmhjmaagreatdoor", sum := "e9fc33c47c6ebd718c19cf261d0eb589ce22dc8a05d8501c22ef2df85c941edf", func := "loop.example/g00861/laws.FnExactValuesFor", spec := "fnExactValuesFor", inPlace := ["internal/bytealg.IndexByteString", "internal/bytealg.IndexString"], unfollowed := true, recurses := true, named := ["unicode/utf8.first", "unicode/utf8.acceptRanges", "internal/bytealg.MaxLen"], apart := false, laid := [("unicode/utf8.acceptRanges", laid_unicode_utf8_acceptRanges), ("unicode/utf8.first", laid_unicode_utf8_first)], narrowed := true }
def FnExactValuesForUptoSaid : Prop := fnExactValuesForUptoRow.holds Tryz.pinned (OpenSpec.upto fnExactValuesForSpec)

/-- 'laws.FnExactExpiredWaivers', WHERE WHAT IT READS IS OF BULK AT MOST 1048576: true; the input reads as it did. -/
def fnExactExpiredWaiversUptoRow : OpenClaim := { program := "ytbdokiecpmhjmaagreatdoor", sum := "e9fc33c47c6ebd718c19cf261d0eb589ce22dc8a05d8501c22ef2df85c941edf", func := "loop.example/g00861/laws.FnExactExpiredWaivers", spec := "fnExactExpiredWaivers", inPlace := ["internal/bytealg.IndexByteString", "internal/bytealg.IndexString"], unfollowed := true, recurses := true, named := ["unicode/utf8.first", "unicode/utf8.acceptRanges", "internal/bytealg.MaxLen"], apart := false, laid := [("unicode/utf8.acceptRanges", laid_unicode_utf8_acceptRanges), ("unicode/utf8.first", laid_unicode_utf8_first)], narrowed := true }
def FnExactExpiredWaiversUptoSaid : Prop := fnExactExpiredWaiversUptoRow.holds Tryz.pinned (OpenSpec.upto fnExactExpiredWaiversSpec)

/-- 'laws.FnExactUnusedWaivers', WHERE WHAT IT READS IS OF BULK AT MOST 1048576: true; the input reads as it did. -/
def fnExactUnusedWaiversUptoRow : OpenClaim := { program := "ytbdokiecpmhjmaagreatdoor", sum := "e9fc33c47c6ebd718c19cf261d0eb589ce22dc8a05d8501c22ef2df85c941edf", func := "loop.example/g00861/laws.FnExactUnusedWaivers", spec := "fnExactUnusedWaivers", inPlace := ["internal/bytealg.IndexByteString", "internal/bytealg.IndexString"], unfollowed := true, recurses := true, named := ["unicode/utf8.first", "unicode/utf8.acceptRanges", "internal/bytealg.MaxLen"], apart := false, laid := [("unicode/utf8.acceptRanges", laid_unicode_utf8_acceptRanges), ("unicode/utf8.first", laid_unicode_utf8_first)], narrowed := true }
def FnExactUnusedWaiversUptoSaid : Prop := fnExactUnusedWaiversUptoRow.holds Tryz.pinned (OpenSpec.upto fnExactUnusedWaiversSpec)

/-- 'laws.FnExactHullTiming', WHERE WHAT IT READS IS OF BULK AT MOST 1048576: true; the input reads as it did. -/
def fnExactHullTimingUptoRow : OpenClaim := { program := "ytbdokiecpmhjmaagreatdoor", sum := "e9fc33c47c6ebd718c19cf261d0eb589ce22dc8a05d8501c22ef2df85c941edf", func := "loop.example/g00861/laws.FnExactHullTiming", spec := "fnExactHullTiming", inPlace := ["internal/bytealg.IndexByteString", "internal/bytealg.IndexString"], unfollowed := true, recurses := true, named := ["unicode/utf8.first", "unicode/utf8.acceptRanges", "internal/bytealg.MaxLen"], apart := false, laid := [("unicode/utf8.acceptRanges", laid_unicode_utf8_acceptRanges), ("unicode/utf8.first", laid_unicode_utf8_first)], narrowed := true }
def FnExactHullTimingUptoSaid : Prop := fnExactHullTimingUptoRow.holds Tryz.pinned (OpenSpec.upto fnExactHullTimingSpec)

/-- 'laws.FnExactOpenViolations', WHERE WHAT IT READS IS OF BULK AT MOST 1048576: true; the input reads as it did. -/
def fnExactOpenViolationsUptoRow : OpenClaim := { program := "ytbdokiecpmhjmaagreatdoor", sum := "e9fc33c47c6ebd718c19cf261d0eb589ce22dc8a05d8501c22ef2df85c941edf", func := "loop.example/g00861/laws.FnExactOpenViolations", spec := "fnExactOpenViolations", inPlace := ["internal/bytealg.IndexByteString", "internal/bytealg.IndexString"], unfollowed := true, recurses := true, named := ["unicode/utf8.first", "unicode/utf8.acceptRanges", "internal/bytealg.MaxLen"], apart := false, laid := [("unicode/utf8.acceptRanges", laid_unicode_utf8_acceptRanges), ("unicode/utf8.first", laid_unicode_utf8_first)], narrowed := true }
def FnExactOpenViolationsUptoSaid : Prop := fnExactOpenViolationsUptoRow.holds Tryz.pinned (OpenSpec.upto fnExactOpenViolationsSpec)

/-- 'laws.FnExactSurplusWaivers', WHERE WHAT IT READS IS OF BULK AT MOST 1048576: true; the input reads as it did. -/
def fnExactSurplusWaiversUptoRow : OpenClaim := { program := "ytbdokiecpmhjmaagreatdoor", sum := "e9fc33c47c6ebd718c19cf261d0eb589ce22dc8a05d8501c22ef2df85c941edf", func := "loop.example/g00861/laws.FnExactSurplusWaivers", spec := "fnExactSurplusWaivers", inPlace := ["internal/bytealg.IndexByteString", "internal/bytealg.IndexString"], unfollowed := true, recurses := true, named := ["unicode/utf8.first", "unicode/utf8.acceptRanges", "internal/bytealg.MaxLen"], apart := false, laid := [("unicode/utf8.acceptRanges", laid_unicode_utf8_acceptRanges), ("unicode/utf8.first", laid_unicode_utf8_first)], narrowed := true }
def FnExactSurplusWaiversUptoSaid : Prop := fnExactSurplusWaiversUptoRow.holds Tryz.pinned (OpenSpec.upto fnExactSurplusWaiversSpec)

end Rows
end Go.Proofs.YtbdokiecpmhjmaaGreatDoor
