/-
  NARROWER THAN 'FOR EVERY INPUT', by the rows' own cells (each row's printed sentence says how): FnExactValuesFor: laid · FnExactFunctionOf: laid · FnExactSameFunction: laid · FnExactDependsOn: laid · FnExactIntervalOf: laid · FnExactTreeProbability: laid · FnExactProbabilityOf: laid · FnExactSensitivityOf: laid · FnExactDensityOf: laid.
  DERIVED. THE GIVEN ROWS OF THIS SEAT. 9 by the template 'for every input the law returns true; each argument reads behind the call as it read before'; 0 by the template 'total and deterministic' (their statements: YtdbmhfpphobmpaaGreatDoorTotals.lean).
  GIVEN WITH THE SEED: the statements are not yours to turn. If you find one false, say at which input.
  Laid BY PROGRAM, IN A SANDBOX (cutbox-rows.mjs): the forced cells as the released guide's own fill.sh prints them over the translation 31d1b7812855882e… (all of the seat's roots in one cut). By AI agents, Wed Nov 11 2026. No macro, syntax, notation, axiom, sorry.
-/
import Derived.Test.YtdbmhfpphobmpaaGreatDoorChecked
import GoSem.PinnedTables
import GoSem.Claim
import GoSem.ClaimJoined
import GoSem.ClaimMapViews
import Derived.JoinedTies
import Derived.KernelRfl
namespace Go.Proofs.YtdbmhfpphobmpaaGreatDoor
/- THE CELL 'sum', in the pinned program and in every row, IS THE sha256 OF THE DUMP (.gsa) THAT YtdbmhfpphobmpaaGreatDoorProg.lean LOADS. Nothing in Lean hashes anything: it is a label: what it is worth is what the hold of that sum in a sandbox is worth. -/
noncomputable def Tryz.pinned : Pinned := { name := "ytdbmhfpphobmpaagreatdoor", sum := "31d1b7812855882efe59dba7d87b502685695f423ca367aa9e13bfe8922c3ae2", checked := Tryz.checked }
namespace Rows
def none {H : Type} : Left H := { results := [], args := [] }

/- WHAT THE LISTED PACKAGE-LEVEL VARIABLES READ AS WHEN THE CALL BEGINS. Each datum BY PROGRAM (the guide's laid-datum.mjs) off the statement by which the dump's own 'gosem.cut.vars' lays the variable. In a bare row this is a premise. The card (YtdbmhfpphobmpaaGreatDoorCards.lean) ties it to the program's text. -/
def laid_unicode_utf8_acceptRanges {H : Type} : DataW H := .agg [.agg [.lit (.int .u8 128), .lit (.int .u8 191)], .agg [.lit (.int .u8 160), .lit (.int .u8 191)], .agg [.lit (.int .u8 128), .lit (.int .u8 159)], .agg [.lit (.int .u8 144), .lit (.int .u8 191)], .agg [.lit (.int .u8 128), .lit (.int .u8 143)], .agg [.lit (.int .u8 0), .lit (.int .u8 0)], .agg [.lit (.int .u8 0), .lit (.int .u8 0)], .agg [.lit (.int .u8 0), .lit (.int .u8 0)], .agg [.lit (.int .u8 0), .lit (.int .u8 0)], .agg [.lit (.int .u8 0), .lit (.int .u8 0)], .agg [.lit (.int .u8 0), .lit (.int .u8 0)], .agg [.lit (.int .u8 0), .lit (.int .u8 0)], .agg [.lit (.int .u8 0), .lit (.int .u8 0)], .agg [.lit (.int .u8 0), .lit (.int .u8 0)], .agg [.lit (.int .u8 0), .lit (.int .u8 0)], .agg [.lit (.int .u8 0), .lit (.int .u8 0)]]
/-- One of Go's own tables, pinned by name: the form's constant. -/
def laid_unicode_utf8_first : DataW Unit := Go.Pinned.utf8First

/-- 'laws.FnExactValuesFor': WHATEVER THE INPUT: true; the input reads as it did. -/
def fnExactValuesForSpec : ChangeSpec := { name := "fnExactValuesFor", fn := fun _ => fun
  | [d1, d2] => { results := [.lit (.bool true)], args := [d1, d2] }
  | _ => none }
def fnExactValuesForRow : OpenClaim := { program := "ytdbmhfpphobmpaagreatdoor", sum := "31d1b7812855882efe59dba7d87b502685695f423ca367aa9e13bfe8922c3ae2", func := "loop.example/g00861/laws.FnExactValuesFor", spec := "fnExactValuesFor", inPlace := ["internal/bytealg.IndexByteString", "internal/bytealg.IndexString"], unfollowed := true, recurses := true, named := ["unicode/utf8.first", "unicode/utf8.acceptRanges", "internal/bytealg.MaxLen"], apart := false, laid := [("unicode/utf8.acceptRanges", laid_unicode_utf8_acceptRanges), ("unicode/utf8.first", laid_unicode_utf8_first)] }
def FnExactValuesForSaid : Prop := fnExactValuesForRow.holds Tryz.pinned (OpenSpec.ofChange fnExactValuesForSpec)

/-- ITS FALSE NEIGHBOUR: 'it returns false'. Refute it at one input. -/
def fnExactValuesForWrong : ChangeSpec := { name := "fnExactValuesFor", fn := fun _ => fun
  | [d1, d2] => { results := [.lit (.bool false)], args := [d1, d2] }
  | _ => none }
def FnExactValuesForWrongFalsely : Prop := fnExactValuesForRow.holds Tryz.pinned (OpenSpec.ofChange fnExactValuesForWrong)

/-- 'laws.FnExactFunctionOf': WHATEVER THE INPUT: true; the input reads as it did. -/
def fnExactFunctionOfSpec : ChangeSpec := { name := "fnExactFunctionOf", fn := fun _ => fun
  | [d1, d2] => { results := [.lit (.bool true)], args := [d1, d2] }
  | _ => none }
def fnExactFunctionOfRow : OpenClaim := { program := "ytdbmhfpphobmpaagreatdoor", sum := "31d1b7812855882efe59dba7d87b502685695f423ca367aa9e13bfe8922c3ae2", func := "loop.example/g00861/laws.FnExactFunctionOf", spec := "fnExactFunctionOf", inPlace := ["internal/bytealg.IndexByteString", "internal/bytealg.IndexString"], unfollowed := true, recurses := true, named := ["unicode/utf8.first", "unicode/utf8.acceptRanges", "internal/bytealg.MaxLen"], apart := false, laid := [("unicode/utf8.acceptRanges", laid_unicode_utf8_acceptRanges), ("unicode/utf8.first", laid_unicode_utf8_first)] }
def FnExactFunctionOfSaid : Prop := fnExactFunctionOfRow.holds Tryz.pinned (OpenSpec.ofChange fnExactFunctionOfSpec)

/-- ITS FALSE NEIGHBOUR: 'it returns false'. Refute it at one input. -/
def fnExactFunctionOfWrong : ChangeSpec := { name := "fnExactFunctionOf", fn := fun _ => fun
  | [d1, d2] => { results := [.lit (.bool false)], args := [d1, d2] }
  | _ => none }
def FnExactFunctionOfWrongFalsely : Prop := fnExactFunctionOfRow.holds Tryz.pinned (OpenSpec.ofChange fnExactFunctionOfWrong)

/-- 'laws.FnExactSameFunction': WHATEVER THE INPUT: true; the input reads as it did. -/
def fnExactSameFunctionSpec : ChangeSpec := { name := "fnExactSameFunction", fn := fun _ => fun
  | [d1, d2, d3] => { results := [.lit (.bool true)], args := [d1, d2, d3] }
  | _ => none }
def fnExactSameFunctionRow : OpenClaim := { program := "ytdbmhfpphobmpaagreatdoor", sum := "31d1b7812855882efe59dba7d87b502685695f423ca367aa9e13bfe8922c3ae2", func := "loop.example/g00861/laws.FnExactSameFunction", spec := "fnExactSameFunction", inPlace := ["internal/bytealg.IndexByteString", "internal/bytealg.IndexString"], unfollowed := true, recurses := true, named := ["unicode/utf8.first", "unicode/utf8.acceptRanges", "internal/bytealg.MaxLen"], apart := false, laid := [("unicode/utf8.acceptRanges", laid_unicode_utf8_acceptRanges), ("unicode/utf8.first", laid_unicode_utf8_first)] }
def FnExactSameFunctionSaid : Prop := fnExactSameFunctionRow.holds Tryz.pinned (OpenSpec.ofChange fnExactSameFunctionSpec)

/-- ITS FALSE NEIGHBOUR: 'it returns false'. Refute it at one input. -/
def fnExactSameFunctionWrong : ChangeSpec := { name := "fnExactSameFunction", fn := fun _ => fun
  | [d1, d2, d3] => { results := [.lit (.bool false)], args := [d1, d2, d3] }
  | _ => none }
def FnExactSameFunctionWrongFalsely : Prop := fnExactSameFunctionRow.holds Tryz.pinned (OpenSpec.ofChange fnExactSameFunctionWrong)

/-- 'laws.FnExactDependsOn': WHATEVER THE INPUT: true; the input reads as it did. -/
def fnExactDependsOnSpec : ChangeSpec := { name := "fnExactDependsOn", fn := fun _ => fun
  | [d1, d2, d3] => { results := [.lit (.bool true)], args := [d1, d2, d3] }
  | _ => none }
def fnExactDependsOnRow : OpenClaim := { program := "ytdbmhfpphobmpaagreatdoor", sum := "31d1b7812855882efe59dba7d87b502685695f423ca367aa9e13bfe8922c3ae2", func := "loop.example/g00861/laws.FnExactDependsOn", spec := "fnExactDependsOn", inPlace := ["internal/bytealg.IndexByteString", "internal/bytealg.IndexString"], unfollowed := true, recurses := true, named := ["unicode/utf8.first", "unicode/utf8.acceptRanges", "internal/bytealg.MaxLen"], apart := false, laid := [("unicode/utf8.acceptRanges", laid_unicode_utf8_acceptRanges), ("unicode/utf8.first", laid_unicode_utf8_first)] }
def FnExactDependsOnSaid : Prop := fnExactDependsOnRow.holds Tryz.pinned (OpenSpec.ofChange fnExactDependsOnSpec)

/-- ITS FALSE NEIGHBOUR: 'it returns false'. Refute it at one input. -/
def fnExactDependsOnWrong : ChangeSpec := { name := "fnExactDependsOn", fn := fun _ => fun
  | [d1, d2, d3] => { results := [.lit (.bool false)], args := [d1, d2, d3] }
  | _ => none }
def FnExactDependsOnWrongFalsely : Prop := fnExactDependsOnRow.holds Tryz.pinned (OpenSpec.ofChange fnExactDependsOnWrong)

/-- 'laws.FnExactIntervalOf': WHATEVER THE INPUT: true; the input reads as it did. -/
def fnExactIntervalOfSpec : ChangeSpec := { name := "fnExactIntervalOf", fn := fun _ => fun
  | [d1, d2, d3] => { results := [.lit (.bool true)], args := [d1, d2, d3] }
  | _ => none }
def fnExactIntervalOfRow : OpenClaim := { program := "ytdbmhfpphobmpaagreatdoor", sum := "31d1b7812855882efe59dba7d87b502685695f423ca367aa9e13bfe8922c3ae2", func := "loop.example/g00861/laws.FnExactIntervalOf", spec := "fnExactIntervalOf", inPlace := ["internal/bytealg.IndexByteString", "internal/bytealg.IndexString"], unfollowed := true, recurses := true, named := ["unicode/utf8.first", "unicode/utf8.acceptRanges", "internal/bytealg.MaxLen"], apart := false, laid := [("unicode/utf8.acceptRanges", laid_unicode_utf8_acceptRanges), ("unicode/utf8.first", laid_unicode_utf8_first)] }
def FnExactIntervalOfSaid : Prop := fnExactIntervalOfRow.holds Tryz.pinned (OpenSpec.ofChange fnExactIntervalOfSpec)

/-- ITS FALSE NEIGHBOUR: 'it returns false'. Refute it at one input. -/
def fnExactIntervalOfWrong : ChangeSpec := { name := "fnExactIntervalOf", fn := fun _ => fun
  | [d1, d2, d3] => { results := [.lit (.bool false)], args := [d1, d2, d3] }
  | _ => none }
def FnExactIntervalOfWrongFalsely : Prop := fnExactIntervalOfRow.holds Tryz.pinned (OpenSpec.ofChange fnExactIntervalOfWrong)

/-- 'laws.FnExactTreeProbability': WHATEVER THE INPUT: true; the input reads as it did. -/
def fnExactTreeProbabilitySpec : ChangeSpec := { name := "fnExactTreeProbability", fn := fun _ => fun
  | [d1, d2, d3] => { results := [.lit (.bool true)], args := [d1, d2, d3] }
  | _ => none }
def fnExactTreeProbabilityRow : OpenClaim := { program := "ytdbmhfpphobmpaagreatdoor", sum := "31d1b7812855882efe59dba7d87b502685695f423ca367aa9e13bfe8922c3ae2", func := "loop.example/g00861/laws.FnExactTreeProbability", spec := "fnExactTreeProbability", inPlace := ["internal/bytealg.IndexByteString", "internal/bytealg.IndexString"], unfollowed := true, recurses := true, named := ["unicode/utf8.first", "unicode/utf8.acceptRanges", "internal/bytealg.MaxLen"], apart := false, laid := [("unicode/utf8.acceptRanges", laid_unicode_utf8_acceptRanges), ("unicode/utf8.first", laid_unicode_utf8_first)] }
def FnExactTreeProbabilitySaid : Prop := fnExactTreeProbabilityRow.holds Tryz.pinned (OpenSpec.ofChange fnExactTreeProbabilitySpec)

/-- ITS FALSE NEIGHBOUR: 'it returns false'. Refute it at one input. -/
def fnExactTreeProbabilityWrong : ChangeSpec := { name := "fnExactTreeProbability", fn := fun _ => fun
  | [d1, d2, d3] => { results := [.lit (.bool false)], args := [d1, d2, d3] }
  | _ => none }
def FnExactTreeProbabilityWrongFalsely : Prop := fnExactTreeProbabilityRow.holds Tryz.pinned (OpenSpec.ofChange fnExactTreeProbabilityWrong)

/-- 'laws.FnExactProbabilityOf': WHATEVER THE INPUT: true; the input reads as it did. -/
def fnExactProbabilityOfSpec : ChangeSpec := { name := "fnExactProbabilityOf", fn := fun _ => fun
  | [d1, d2, d3] => { results := [.lit (.bool true)], args := [d1, d2, d3] }
  | _ => none }
def fnExactProbabilityOfRow : OpenClaim := { program := "ytdbmhfpphobmpaagreatdoor", sum := "31d1b7812855882efe59dba7d87b502685695f423ca367aa9e13bfe8922c3ae2", func := "loop.example/g00861/laws.FnExactProbabilityOf", spec := "fnExactProbabilityOf", inPlace := ["internal/bytealg.IndexByteString", "internal/bytealg.IndexString"], unfollowed := true, recurses := true, named := ["unicode/utf8.first", "unicode/utf8.acceptRanges", "internal/bytealg.MaxLen"], apart := false, laid := [("unicode/utf8.acceptRanges", laid_unicode_utf8_acceptRanges), ("unicode/utf8.first", laid_unicode_utf8_first)] }
def FnExactProbabilityOfSaid : Prop := fnExactProbabilityOfRow.holds Tryz.pinned (OpenSpec.ofChange fnExactProbabilityOfSpec)

/-- ITS FALSE NEIGHBOUR: 'it returns false'. Refute it at one input. -/
def fnExactProbabilityOfWrong : ChangeSpec := { name := "fnExactProbabilityOf", fn := fun _ => fun
  | [d1, d2, d3] => { results := [.lit (.bool false)], args := [d1, d2, d3] }
  | _ => none }
def FnExactProbabilityOfWrongFalsely : Prop := fnExactProbabilityOfRow.holds Tryz.pinned (OpenSpec.ofChange fnExactProbabilityOfWrong)

/-- 'laws.FnExactSensitivityOf': WHATEVER THE INPUT: true; the input reads as it did. -/
def fnExactSensitivityOfSpec : ChangeSpec := { name := "fnExactSensitivityOf", fn := fun _ => fun
  | [d1, d2, d3, d4] => { results := [.lit (.bool true)], args := [d1, d2, d3, d4] }
  | _ => none }
def fnExactSensitivityOfRow : OpenClaim := { program := "ytdbmhfpphobmpaagreatdoor", sum := "31d1b7812855882efe59dba7d87b502685695f423ca367aa9e13bfe8922c3ae2", func := "loop.example/g00861/laws.FnExactSensitivityOf", spec := "fnExactSensitivityOf", inPlace := ["internal/bytealg.IndexByteString", "internal/bytealg.IndexString"], unfollowed := true, recurses := true, named := ["unicode/utf8.first", "unicode/utf8.acceptRanges", "internal/bytealg.MaxLen"], apart := false, laid := [("unicode/utf8.acceptRanges", laid_unicode_utf8_acceptRanges), ("unicode/utf8.first", laid_unicode_utf8_first)] }
def FnExactSensitivityOfSaid : Prop := fnExactSensitivityOfRow.holds Tryz.pinned (OpenSpec.ofChange fnExactSensitivityOfSpec)

/-- ITS FALSE NEIGHBOUR: 'it returns false'. Refute it at one input. -/
def fnExactSensitivityOfWrong : ChangeSpec := { name := "fnExactSensitivityOf", fn := fun _ => fun
  | [d1, d2, d3, d4] => { results := [.lit (.bool false)], args := [d1, d2, d3, d4] }
  | _ => none }
def FnExactSensitivityOfWrongFalsely : Prop := fnExactSensitivityOfRow.holds Tryz.pinned (OpenSpec.ofChange fnExactSensitivityOfWrong)

/-- 'laws.FnExactDensityOf': WHATEVER THE INPUT: true; the input reads as it did. -/
def fnExactDensityOfSpec : ChangeSpec := { name := "fnExactDensityOf", fn := fun _ => fun
  | [d1, d2, d3] => { results := [.lit (.bool true)], args := [d1, d2, d3] }
  | _ => none }
def fnExactDensityOfRow : OpenClaim := { program := "ytdbmhfpphobmpaagreatdoor", sum := "31d1b7812855882efe59dba7d87b502685695f423ca367aa9e13bfe8922c3ae2", func := "loop.example/g00861/laws.FnExactDensityOf", spec := "fnExactDensityOf", inPlace := ["internal/bytealg.IndexByteString", "internal/bytealg.IndexString"], unfollowed := true, recurses := true, named := ["unicode/utf8.first", "unicode/utf8.acceptRanges", "internal/bytealg.MaxLen"], apart := false, laid := [("unicode/utf8.acceptRanges", laid_unicode_utf8_acceptRanges), ("unicode/utf8.first", laid_unicode_utf8_first)] }
def FnExactDensityOfSaid : Prop := fnExactDensityOfRow.holds Tryz.pinned (OpenSpec.ofChange fnExactDensityOfSpec)

/-- ITS FALSE NEIGHBOUR: 'it returns false'. Refute it at one input. -/
def fnExactDensityOfWrong : ChangeSpec := { name := "fnExactDensityOf", fn := fun _ => fun
  | [d1, d2, d3] => { results := [.lit (.bool false)], args := [d1, d2, d3] }
  | _ => none }
def FnExactDensityOfWrongFalsely : Prop := fnExactDensityOfRow.holds Tryz.pinned (OpenSpec.ofChange fnExactDensityOfWrong)

/- THE SECOND FORM. 'bulk': how many values and letters a reading holds, each counted each time it is reached (what is shared counts as often as it is met; a slice's spare places count too). A statement '..UptoSaid' is the law's where the arguments, and the package variables that the reading takes, are together of bulk at most 1048576: NARROWER than '..Said'. Prove '..Said' where nothing that the law and all that it calls make is longer than what came in: it says more and counts as full. Else prove '..UptoSaid'. A law counts once. -/
mutual
def uptoBulk {H : Type} : DataW H → Nat
  | .lit (.string bytes) => bytes.length + 1
  | .lit _ => 1
  | .nil => 1
  | .ptr d => uptoBulk d + 1
  | .slice elems spare => uptoBulkAll elems + uptoBulkAll spare + 1
  | .agg parts => uptoBulkAll parts + 1
  | .iface _ d => uptoBulk d + 1
  | .map entries => uptoBulkEntries entries + 1
  | .held _ => 1
def uptoBulkAll {H : Type} : List (DataW H) → Nat
  | [] => 0
  | d :: r => uptoBulk d + uptoBulkAll r
def uptoBulkEntries {H : Type} : List (Lit × DataW H) → Nat
  | [] => 0
  | x :: r => uptoBulkEntry x + uptoBulkEntries r
def uptoBulkEntry {H : Type} : Lit × DataW H → Nat
  | (.string bytes, d) => bytes.length + uptoBulk d + 1
  | (_, d) => uptoBulk d + 1
 end
def uptoSmall : (H : Type) → List (DataW H) → Bool := fun _ ds => decide (uptoBulkAll ds ≤ 1048576)
def OpenSpec.upto (s : _root_.Go.ChangeSpec) : _root_.Go.OpenSpec := { _root_.Go.OpenSpec.ofChange s with cond := some uptoSmall }

/-- 'laws.FnExactValuesFor', WHERE WHAT IT READS IS OF BULK AT MOST 1048576: true; the input reads as it did. -/
def fnExactValuesForUptoRow : OpenClaim := { program := "ytdbmhfpphobmpaagreatdoor", sum := "31d1b7812855882efe59dba7d87b502685695f423ca367aa9e13bfe8922c3ae2", func := "loop.example/g00861/laws.FnExactValuesFor", spec := "fnExactValuesFor", inPlace := ["internal/bytealg.IndexByteString", "internal/bytealg.IndexString"], unfollowed := true, recurses := true, named := ["unicode/utf8.first", "unicode/utf8.acceptRanges", "internal/bytealg.MaxLen"], apart := false, laid := [("unicode/utf8.acceptRanges", laid_unicode_utf8_acceptRanges), ("unicode/utf8.first", laid_unicode_utf8_first)], narrowed := true }
def FnExactValuesForUptoSaid : Prop := fnExactValuesForUptoRow.holds Tryz.pinned (OpenSpec.upto fnExactValuesForSpec)

/-- 'laws.FnExactFunctionOf', WHERE WHAT IT READS IS OF BULK AT MOST 1048576: true; the input reads as it did. -/
def fnExactFunctionOfUptoRow : OpenClaim := { program := "ytdbmhfpphobmpaagreatdoor", sum := "31d1b7812855882efe59dba7d87b502685695f423ca367aa9e13bfe8922c3ae2", func := "loop.example/g00861/laws.FnExactFunctionOf", spec := "fnExactFunctionOf", inPlace := ["internal/bytealg.IndexByteString", "internal/bytealg.IndexString"], unfollowed := true, recurses := true, named := ["unicode/utf8.first", "unicode/utf8.acceptRanges", "internal/bytealg.MaxLen"], apart := false, laid := [("unicode/utf8.acceptRanges", laid_unicode_utf8_acceptRanges), ("unicode/utf8.first", laid_unicode_utf8_first)], narrowed := true }
def FnExactFunctionOfUptoSaid : Prop := fnExactFunctionOfUptoRow.holds Tryz.pinned (OpenSpec.upto fnExactFunctionOfSpec)

/-- 'laws.FnExactSameFunction', WHERE WHAT IT READS IS OF BULK AT MOST 1048576: true; the input reads as it did. -/
def fnExactSameFunctionUptoRow : OpenClaim := { program := "ytdbmhfpphobmpaagreatdoor", sum := "31d1b7812855882efe59dba7d87b502685695f423ca367aa9e13bfe8922c3ae2", func := "loop.example/g00861/laws.FnExactSameFunction", spec := "fnExactSameFunction", inPlace := ["internal/bytealg.IndexByteString", "internal/bytealg.IndexString"], unfollowed := true, recurses := true, named := ["unicode/utf8.first", "unicode/utf8.acceptRanges", "internal/bytealg.MaxLen"], apart := false, laid := [("unicode/utf8.acceptRanges", laid_unicode_utf8_acceptRanges), ("unicode/utf8.first", laid_unicode_utf8_first)], narrowed := true }
def FnExactSameFunctionUptoSaid : Prop := fnExactSameFunctionUptoRow.holds Tryz.pinned (OpenSpec.upto fnExactSameFunctionSpec)

/-- 'laws.FnExactDependsOn', WHERE WHAT IT READS IS OF BULK AT MOST 1048576: true; the input reads as it did. -/
def fnExactDependsOnUptoRow : OpenClaim := { program := "ytdbmhfpphobmpaagreatdoor", sum := "31d1b7812855882efe59dba7d87b502685695f423ca367aa9e13bfe8922c3ae2", func := "loop.example/g00861/laws.FnExactDependsOn", spec := "fnExactDependsOn", inPlace := ["internal/bytealg.IndexByteString", "internal/bytealg.IndexString"], unfollowed := true, recurses := true, named := ["unicode/utf8.first", "unicode/utf8.acceptRanges", "internal/bytealg.MaxLen"], apart := false, laid := [("unicode/utf8.acceptRanges", laid_unicode_utf8_acceptRanges), ("unicode/utf8.first", laid_unicode_utf8_first)], narrowed := true }
def FnExactDependsOnUptoSaid : Prop := fnExactDependsOnUptoRow.holds Tryz.pinned (OpenSpec.upto fnExactDependsOnSpec)

/-- 'laws.FnExactIntervalOf', WHERE WHAT IT READS IS OF BULK AT MOST 1048576: true; the input reads as it did. -/
def fnExactIntervalOfUptoRow : OpenClaim := { program := "ytdbmhfpphobmpaagreatdoor", sum := "31d1b7812855882efe59dba7d87b502685695f423ca367aa9e13bfe8922c3ae2", func := "loop.example/g00861/laws.FnExactIntervalOf", spec := "fnExactIntervalOf", inPlace := ["internal/bytealg.IndexByteString", "internal/bytealg.IndexString"], unfollowed := true, recurses := true, named := ["unicode/utf8.first", "unicode/utf8.acceptRanges", "internal/bytealg.MaxLen"], apart := false, laid := [("unicode/utf8.acceptRanges", laid_unicode_utf8_acceptRanges), ("unicode/utf8.first", laid_unicode_utf8_first)], narrowed := true }
def FnExactIntervalOfUptoSaid : Prop := fnExactIntervalOfUptoRow.holds Tryz.pinned (OpenSpec.upto fnExactIntervalOfSpec)

/-- 'laws.FnExactTreeProbability', WHERE WHAT IT READS IS OF BULK AT MOST 1048576: true; the input reads as it did. -/
def fnExactTreeProbabilityUptoRow : OpenClaim := { program := "ytdbmhfpphobmpaagreatdoor", sum := "31d1b7812855882efe59dba7d87b502685695f423ca367aa9e13bfe8922c3ae2", func := "loop.example/g00861/laws.FnExactTreeProbability", spec := "fnExactTreeProbability", inPlace := ["internal/bytealg.IndexByteString", "internal/bytealg.IndexString"], unfollowed := true, recurses := true, named := ["unicode/utf8.first", "unicode/utf8.acceptRanges", "internal/bytealg.MaxLen"], apart := false, laid := [("unicode/utf8.acceptRanges", laid_unicode_utf8_acceptRanges), ("unicode/utf8.first", laid_unicode_utf8_first)], narrowed := true }
def FnExactTreeProbabilityUptoSaid : Prop := fnExactTreeProbabilityUptoRow.holds Tryz.pinned (OpenSpec.upto fnExactTreeProbabilitySpec)

/-- 'laws.FnExactProbabilityOf', WHERE WHAT IT READS IS OF BULK AT MOST 1048576: true; the input reads as it did. -/
def fnExactProbabilityOfUptoRow : OpenClaim := { program := "ytdbmhfpphobmpaagreatdoor", sum := "31d1b7812855882efe59dba7d87b502685695f423ca367aa9e13bfe8922c3ae2", func := "loop.example/g00861/laws.FnExactProbabilityOf", spec := "fnExactProbabilityOf", inPlace := ["internal/bytealg.IndexByteString", "internal/bytealg.IndexString"], unfollowed := true, recurses := true, named := ["unicode/utf8.first", "unicode/utf8.acceptRanges", "internal/bytealg.MaxLen"], apart := false, laid := [("unicode/utf8.acceptRanges", laid_unicode_utf8_acceptRanges), ("unicode/utf8.first", laid_unicode_utf8_first)], narrowed := true }
def FnExactProbabilityOfUptoSaid : Prop := fnExactProbabilityOfUptoRow.holds Tryz.pinned (OpenSpec.upto fnExactProbabilityOfSpec)

/-- 'laws.FnExactSensitivityOf', WHERE WHAT IT READS IS OF BULK AT MOST 1048576: true; the input reads as it did. -/
def fnExactSensitivityOfUptoRow : OpenClaim := { program := "ytdbmhfpphobmpaagreatdoor", sum := "31d1b7812855882efe59dba7d87b502685695f423ca367aa9e13bfe8922c3ae2", func := "loop.example/g00861/laws.FnExactSensitivityOf", spec := "fnExactSensitivityOf", inPlace := ["internal/bytealg.IndexByteString", "internal/bytealg.IndexString"], unfollowed := true, recurses := true, named := ["unicode/utf8.first", "unicode/utf8.acceptRanges", "internal/bytealg.MaxLen"], apart := false, laid := [("unicode/utf8.acceptRanges", laid_unicode_utf8_acceptRanges), ("unicode/utf8.first", laid_unicode_utf8_first)], narrowed := true }
def FnExactSensitivityOfUptoSaid : Prop := fnExactSensitivityOfUptoRow.holds Tryz.pinned (OpenSpec.upto fnExactSensitivityOfSpec)

/-- 'laws.FnExactDensityOf', WHERE WHAT IT READS IS OF BULK AT MOST 1048576: true; the input reads as it did. -/
def fnExactDensityOfUptoRow : OpenClaim := { program := "ytdbmhfpphobmpaagreatdoor", sum := "31d1b7812855882efe59dba7d87b502685695f423ca367aa9e13bfe8922c3ae2", func := "loop.example/g00861/laws.FnExactDensityOf", spec := "fnExactDensityOf", inPlace := ["internal/bytealg.IndexByteString", "internal/bytealg.IndexString"], unfollowed := true, recurses := true, named := ["unicode/utf8.first", "unicode/utf8.acceptRanges", "internal/bytealg.MaxLen"], apart := false, laid := [("unicode/utf8.acceptRanges", laid_unicode_utf8_acceptRanges), ("unicode/utf8.first", laid_unicode_utf8_first)], narrowed := true }
def FnExactDensityOfUptoSaid : Prop := fnExactDensityOfUptoRow.holds Tryz.pinned (OpenSpec.upto fnExactDensityOfSpec)

end Rows
end Go.Proofs.YtdbmhfpphobmpaaGreatDoor
