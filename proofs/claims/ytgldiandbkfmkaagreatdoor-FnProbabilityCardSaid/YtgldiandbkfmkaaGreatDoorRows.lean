/-
  NARROWER THAN 'FOR EVERY INPUT', by the rows' own cells (each row's printed sentence says how): FnLogic: laid · FnSameFunction: laid · FnDepends: laid · FnCorners: laid · FnDensity: laid · FnProbability: laid.
  DERIVED. THE GIVEN ROWS OF THIS SEAT. 6 by the template 'for every input the law returns true; each argument reads behind the call as it read before'; 0 by the template 'total and deterministic' (their statements: YtgldiandbkfmkaaGreatDoorTotals.lean).
  GIVEN WITH THE SEED: the statements are not yours to turn. If you find one false, say at which input.
  Laid BY PROGRAM, IN A SANDBOX (cutbox-rows.mjs): the forced cells as the released guide's own fill.sh prints them over the translation a1fcec29e242ee32… (all of the seat's roots in one cut). By AI agents, Wed Nov 11 2026. No macro, syntax, notation, axiom, sorry.
-/
import Derived.Test.YtgldiandbkfmkaaGreatDoorChecked
import GoSem.PinnedTables
import GoSem.Claim
import GoSem.ClaimJoined
import GoSem.ClaimMapViews
import Derived.JoinedTies
import Derived.KernelRfl
namespace Go.Proofs.YtgldiandbkfmkaaGreatDoor
/- THE CELL 'sum', in the pinned program and in every row, IS THE sha256 OF THE DUMP (.gsa) THAT YtgldiandbkfmkaaGreatDoorProg.lean LOADS. Nothing in Lean hashes anything: it is a label: what it is worth is what the hold of that sum in a sandbox is worth. -/
noncomputable def Tryz.pinned : Pinned := { name := "ytgldiandbkfmkaagreatdoor", sum := "a1fcec29e242ee32819c23a91e1f4ae42d02544d8b3866b3512e3f068fc75743", checked := Tryz.checked }
namespace Rows
def none {H : Type} : Left H := { results := [], args := [] }

/- WHAT THE LISTED PACKAGE-LEVEL VARIABLES READ AS WHEN THE CALL BEGINS. Each datum BY PROGRAM (the guide's laid-datum.mjs) off the statement by which the dump's own 'gosem.cut.vars' lays the variable. In a bare row this is a premise. The card (YtgldiandbkfmkaaGreatDoorCards.lean) ties it to the program's text. -/
def laid_unicode_utf8_acceptRanges {H : Type} : DataW H := .agg [.agg [.lit (.int .u8 128), .lit (.int .u8 191)], .agg [.lit (.int .u8 160), .lit (.int .u8 191)], .agg [.lit (.int .u8 128), .lit (.int .u8 159)], .agg [.lit (.int .u8 144), .lit (.int .u8 191)], .agg [.lit (.int .u8 128), .lit (.int .u8 143)], .agg [.lit (.int .u8 0), .lit (.int .u8 0)], .agg [.lit (.int .u8 0), .lit (.int .u8 0)], .agg [.lit (.int .u8 0), .lit (.int .u8 0)], .agg [.lit (.int .u8 0), .lit (.int .u8 0)], .agg [.lit (.int .u8 0), .lit (.int .u8 0)], .agg [.lit (.int .u8 0), .lit (.int .u8 0)], .agg [.lit (.int .u8 0), .lit (.int .u8 0)], .agg [.lit (.int .u8 0), .lit (.int .u8 0)], .agg [.lit (.int .u8 0), .lit (.int .u8 0)], .agg [.lit (.int .u8 0), .lit (.int .u8 0)], .agg [.lit (.int .u8 0), .lit (.int .u8 0)]]
/-- One of Go's own tables, pinned by name: the form's constant. -/
def laid_unicode_utf8_first : DataW Unit := Go.Pinned.utf8First

/-- 'laws.FnLogic': WHATEVER THE INPUT: true; the input reads as it did. -/
def fnLogicSpec : ChangeSpec := { name := "fnLogic", fn := fun _ => fun
  | [d] => { results := [.lit (.bool true)], args := [d] }
  | _ => none }
def fnLogicRow : OpenClaim := { program := "ytgldiandbkfmkaagreatdoor", sum := "a1fcec29e242ee32819c23a91e1f4ae42d02544d8b3866b3512e3f068fc75743", func := "loop.example/g00861/laws.FnLogic", spec := "fnLogic", inPlace := ["internal/bytealg.IndexByteString", "internal/bytealg.IndexString"], unfollowed := true, recurses := true, named := ["unicode/utf8.first", "unicode/utf8.acceptRanges", "internal/bytealg.MaxLen"], apart := false, laid := [("unicode/utf8.acceptRanges", laid_unicode_utf8_acceptRanges), ("unicode/utf8.first", laid_unicode_utf8_first)] }
def FnLogicSaid : Prop := fnLogicRow.holds Tryz.pinned (OpenSpec.ofChange fnLogicSpec)

/-- ITS FALSE NEIGHBOUR: 'it returns false'. Refute it at one input. -/
def fnLogicWrong : ChangeSpec := { name := "fnLogic", fn := fun _ => fun
  | [d] => { results := [.lit (.bool false)], args := [d] }
  | _ => none }
def FnLogicWrongFalsely : Prop := fnLogicRow.holds Tryz.pinned (OpenSpec.ofChange fnLogicWrong)

/-- 'laws.FnSameFunction': WHATEVER THE INPUT: true; the input reads as it did. -/
def fnSameFunctionSpec : ChangeSpec := { name := "fnSameFunction", fn := fun _ => fun
  | [d] => { results := [.lit (.bool true)], args := [d] }
  | _ => none }
def fnSameFunctionRow : OpenClaim := { program := "ytgldiandbkfmkaagreatdoor", sum := "a1fcec29e242ee32819c23a91e1f4ae42d02544d8b3866b3512e3f068fc75743", func := "loop.example/g00861/laws.FnSameFunction", spec := "fnSameFunction", inPlace := ["internal/bytealg.IndexByteString", "internal/bytealg.IndexString"], unfollowed := true, recurses := true, named := ["unicode/utf8.first", "unicode/utf8.acceptRanges", "internal/bytealg.MaxLen"], apart := false, laid := [("unicode/utf8.acceptRanges", laid_unicode_utf8_acceptRanges), ("unicode/utf8.first", laid_unicode_utf8_first)] }
def FnSameFunctionSaid : Prop := fnSameFunctionRow.holds Tryz.pinned (OpenSpec.ofChange fnSameFunctionSpec)

/-- ITS FALSE NEIGHBOUR: 'it returns false'. Refute it at one input. -/
def fnSameFunctionWrong : ChangeSpec := { name := "fnSameFunction", fn := fun _ => fun
  | [d] => { results := [.lit (.bool false)], args := [d] }
  | _ => none }
def FnSameFunctionWrongFalsely : Prop := fnSameFunctionRow.holds Tryz.pinned (OpenSpec.ofChange fnSameFunctionWrong)

/-- 'laws.FnDepends': WHATEVER THE INPUT: true; the input reads as it did. -/
def fnDependsSpec : ChangeSpec := { name := "fnDepends", fn := fun _ => fun
  | [d] => { results := [.lit (.bool true)], args := [d] }
  | _ => none }
def fnDependsRow : OpenClaim := { program := "ytgldiandbkfmkaagreatdoor", sum := "a1fcec29e242ee32819c23a91e1f4ae42d02544d8b3866b3512e3f068fc75743", func := "loop.example/g00861/laws.FnDepends", spec := "fnDepends", inPlace := ["internal/bytealg.IndexByteString", "internal/bytealg.IndexString"], unfollowed := true, recurses := true, named := ["unicode/utf8.first", "unicode/utf8.acceptRanges", "internal/bytealg.MaxLen"], apart := false, laid := [("unicode/utf8.acceptRanges", laid_unicode_utf8_acceptRanges), ("unicode/utf8.first", laid_unicode_utf8_first)] }
def FnDependsSaid : Prop := fnDependsRow.holds Tryz.pinned (OpenSpec.ofChange fnDependsSpec)

/-- ITS FALSE NEIGHBOUR: 'it returns false'. Refute it at one input. -/
def fnDependsWrong : ChangeSpec := { name := "fnDepends", fn := fun _ => fun
  | [d] => { results := [.lit (.bool false)], args := [d] }
  | _ => none }
def FnDependsWrongFalsely : Prop := fnDependsRow.holds Tryz.pinned (OpenSpec.ofChange fnDependsWrong)

/-- 'laws.FnCorners': WHATEVER THE INPUT: true; the input reads as it did. -/
def fnCornersSpec : ChangeSpec := { name := "fnCorners", fn := fun _ => fun
  | [d] => { results := [.lit (.bool true)], args := [d] }
  | _ => none }
def fnCornersRow : OpenClaim := { program := "ytgldiandbkfmkaagreatdoor", sum := "a1fcec29e242ee32819c23a91e1f4ae42d02544d8b3866b3512e3f068fc75743", func := "loop.example/g00861/laws.FnCorners", spec := "fnCorners", inPlace := ["internal/bytealg.IndexByteString", "internal/bytealg.IndexString"], unfollowed := true, recurses := true, named := ["unicode/utf8.first", "unicode/utf8.acceptRanges", "internal/bytealg.MaxLen"], apart := false, laid := [("unicode/utf8.acceptRanges", laid_unicode_utf8_acceptRanges), ("unicode/utf8.first", laid_unicode_utf8_first)] }
def FnCornersSaid : Prop := fnCornersRow.holds Tryz.pinned (OpenSpec.ofChange fnCornersSpec)

/-- ITS FALSE NEIGHBOUR: 'it returns false'. Refute it at one input. -/
def fnCornersWrong : ChangeSpec := { name := "fnCorners", fn := fun _ => fun
  | [d] => { results := [.lit (.bool false)], args := [d] }
  | _ => none }
def FnCornersWrongFalsely : Prop := fnCornersRow.holds Tryz.pinned (OpenSpec.ofChange fnCornersWrong)

/-- 'laws.FnDensity': WHATEVER THE INPUT: true; the input reads as it did. -/
def fnDensitySpec : ChangeSpec := { name := "fnDensity", fn := fun _ => fun
  | [d] => { results := [.lit (.bool true)], args := [d] }
  | _ => none }
def fnDensityRow : OpenClaim := { program := "ytgldiandbkfmkaagreatdoor", sum := "a1fcec29e242ee32819c23a91e1f4ae42d02544d8b3866b3512e3f068fc75743", func := "loop.example/g00861/laws.FnDensity", spec := "fnDensity", inPlace := ["internal/bytealg.IndexByteString", "internal/bytealg.IndexString"], unfollowed := true, recurses := true, named := ["unicode/utf8.first", "unicode/utf8.acceptRanges", "internal/bytealg.MaxLen"], apart := false, laid := [("unicode/utf8.acceptRanges", laid_unicode_utf8_acceptRanges), ("unicode/utf8.first", laid_unicode_utf8_first)] }
def FnDensitySaid : Prop := fnDensityRow.holds Tryz.pinned (OpenSpec.ofChange fnDensitySpec)

/-- ITS FALSE NEIGHBOUR: 'it returns false'. Refute it at one input. -/
def fnDensityWrong : ChangeSpec := { name := "fnDensity", fn := fun _ => fun
  | [d] => { results := [.lit (.bool false)], args := [d] }
  | _ => none }
def FnDensityWrongFalsely : Prop := fnDensityRow.holds Tryz.pinned (OpenSpec.ofChange fnDensityWrong)

/-- 'laws.FnProbability': WHATEVER THE INPUT: true; the input reads as it did. -/
def fnProbabilitySpec : ChangeSpec := { name := "fnProbability", fn := fun _ => fun
  | [d] => { results := [.lit (.bool true)], args := [d] }
  | _ => none }
def fnProbabilityRow : OpenClaim := { program := "ytgldiandbkfmkaagreatdoor", sum := "a1fcec29e242ee32819c23a91e1f4ae42d02544d8b3866b3512e3f068fc75743", func := "loop.example/g00861/laws.FnProbability", spec := "fnProbability", inPlace := ["internal/bytealg.IndexByteString", "internal/bytealg.IndexString"], unfollowed := true, recurses := true, named := ["unicode/utf8.first", "unicode/utf8.acceptRanges", "internal/bytealg.MaxLen"], apart := false, laid := [("unicode/utf8.acceptRanges", laid_unicode_utf8_acceptRanges), ("unicode/utf8.first", laid_unicode_utf8_first)] }
def FnProbabilitySaid : Prop := fnProbabilityRow.holds Tryz.pinned (OpenSpec.ofChange fnProbabilitySpec)

/-- ITS FALSE NEIGHBOUR: 'it returns false'. Refute it at one input. -/
def fnProbabilityWrong : ChangeSpec := { name := "fnProbability", fn := fun _ => fun
  | [d] => { results := [.lit (.bool false)], args := [d] }
  | _ => none }
def FnProbabilityWrongFalsely : Prop := fnProbabilityRow.holds Tryz.pinned (OpenSpec.ofChange fnProbabilityWrong)

/- THE SECOND FORM. 'bulk': how many values and letters a reading holds, each counted each time it is reached (what is shared counts as often as it is met; a slice's spare places count too). A statement '..UptoSaid' is the law's where the arguments, and the package variables that the reading takes, are together of bulk at most 1048576: NARROWER than '..Said'. Prove '..Said' where nothing that the law and all that it calls make is longer than what came in: it says more and counts as full. Else prove '..UptoSaid'. A law counts once. -/
mutual
def uptoBulk {H : Type} : DataW H → Nat
  | .lit (.string bytes) => bytes.length + 1
  | .lit _ => 1
  | .nil => 1
  | .ptr d => uptoBulk d + 1
  | .slice elems spare => uptoBulkAll elems + uptoBulkAll spare + 1
  | .agg parts => uptoBulkAll parts + 1
  | .iface _ d => uptoBulk d + 1
  | .map entries => uptoBulkEntries entries + 1
  | .held _ => 1
def uptoBulkAll {H : Type} : List (DataW H) → Nat
  | [] => 0
  | d :: r => uptoBulk d + uptoBulkAll r
def uptoBulkEntries {H : Type} : List (Lit × DataW H) → Nat
  | [] => 0
  | x :: r => uptoBulkEntry x + uptoBulkEntries r
def uptoBulkEntry {H : Type} : Lit × DataW H → Nat
  | (.string bytes, d) => bytes.length + uptoBulk d + 1
  | (_, d) => uptoBulk d + 1
 end
def uptoSmall : (H : Type) → List (DataW H) → Bool := fun _ ds => decide (uptoBulkAll ds ≤ 1048576)
def OpenSpec.upto (s : _root_.Go.ChangeSpec) : _root_.Go.OpenSpec := { _root_.Go.OpenSpec.ofChange s with cond := some uptoSmall }

/-- 'laws.FnLogic', WHERE WHAT IT READS IS OF BULK AT MOST 1048576: true; the input reads as it did. -/
def fnLogicUptoRow : OpenClaim := { program := "ytgldiandbkfmkaagreatdoor", sum := "a1fcec29e242ee32819c23a91e1f4ae42d02544d8b3866b3512e3f068fc75743", func := "loop.example/g00861/laws.FnLogic", spec := "fnLogic", inPlace := ["internal/bytealg.IndexByteString", "internal/bytealg.IndexString"], unfollowed := true, recurses := true, named := ["unicode/utf8.first", "unicode/utf8.acceptRanges", "internal/bytealg.MaxLen"], apart := false, laid := [("unicode/utf8.acceptRanges", laid_unicode_utf8_acceptRanges), ("unicode/utf8.first", laid_unicode_utf8_first)], narrowed := true }
def FnLogicUptoSaid : Prop := fnLogicUptoRow.holds Tryz.pinned (OpenSpec.upto fnLogicSpec)

/-- 'laws.FnSameFunction', WHERE WHAT IT READS IS OF BULK AT MOST 1048576: true; the input reads as it did. -/
def fnSameFunctionUptoRow : OpenClaim := { program := "ytgldiandbkfmkaagreatdoor", sum := "a1fcec29e242ee32819c23a91e1f4ae42d02544d8b3866b3512e3f068fc75743", func := "loop.example/g00861/laws.FnSameFunction", spec := "fnSameFunction", inPlace := ["internal/bytealg.IndexByteString", "internal/bytealg.IndexString"], unfollowed := true, recurses := true, named := ["unicode/utf8.first", "unicode/utf8.acceptRanges", "internal/bytealg.MaxLen"], apart := false, laid := [("unicode/utf8.acceptRanges", laid_unicode_utf8_acceptRanges), ("unicode/utf8.first", laid_unicode_utf8_first)], narrowed := true }
def FnSameFunctionUptoSaid : Prop := fnSameFunctionUptoRow.holds Tryz.pinned (OpenSpec.upto fnSameFunctionSpec)

/-- 'laws.FnDepends', WHERE WHAT IT READS IS OF BULK AT MOST 1048576: true; the input reads as it did. -/
def fnDependsUptoRow : OpenClaim := { program := "ytgldiandbkfmkaagreatdoor", sum := "a1fcec29e242ee32819c23a91e1f4ae42d02544d8b3866b3512e3f068fc75743", func := "loop.example/g00861/laws.FnDepends", spec := "fnDepends", inPlace := ["internal/bytealg.IndexByteString", "internal/bytealg.IndexString"], unfollowed := true, recurses := true, named := ["unicode/utf8.first", "unicode/utf8.acceptRanges", "internal/bytealg.MaxLen"], apart := false, laid := [("unicode/utf8.acceptRanges", laid_unicode_utf8_acceptRanges), ("unicode/utf8.first", laid_unicode_utf8_first)], narrowed := true }
def FnDependsUptoSaid : Prop := fnDependsUptoRow.holds Tryz.pinned (OpenSpec.upto fnDependsSpec)

/-- 'laws.FnCorners', WHERE WHAT IT READS IS OF BULK AT MOST 1048576: true; the input reads as it did. -/
def fnCornersUptoRow : OpenClaim := { program := "ytgldiandbkfmkaagreatdoor", sum := "a1fcec29e242ee32819c23a91e1f4ae42d02544d8b3866b3512e3f068fc75743", func := "loop.example/g00861/laws.FnCorners", spec := "fnCorners", inPlace := ["internal/bytealg.IndexByteString", "internal/bytealg.IndexString"], unfollowed := true, recurses := true, named := ["unicode/utf8.first", "unicode/utf8.acceptRanges", "internal/bytealg.MaxLen"], apart := false, laid := [("unicode/utf8.acceptRanges", laid_unicode_utf8_acceptRanges), ("unicode/utf8.first", laid_unicode_utf8_first)], narrowed := true }
def FnCornersUptoSaid : Prop := fnCornersUptoRow.holds Tryz.pinned (OpenSpec.upto fnCornersSpec)

/-- 'laws.FnDensity', WHERE WHAT IT READS IS OF BULK AT MOST 1048576: true; the input reads as it did. -/
def fnDensityUptoRow : OpenClaim := { program := "ytgldiandbkfmkaagreatdoor", sum := "a1fcec29e242ee32819c23a91e1f4ae42d02544d8b3866b3512e3f068fc75743", func := "loop.example/g00861/laws.FnDensity", spec := "fnDensity", inPlace := ["internal/bytealg.IndexByteString", "internal/bytealg.IndexString"], unfollowed := true, recurses := true, named := ["unicode/utf8.first", "unicode/utf8.acceptRanges", "internal/bytealg.MaxLen"], apart := false, laid := [("unicode/utf8.acceptRanges", laid_unicode_utf8_acceptRanges), ("unicode/utf8.first", laid_unicode_utf8_first)], narrowed := true }
def FnDensityUptoSaid : Prop := fnDensityUptoRow.holds Tryz.pinned (OpenSpec.upto fnDensitySpec)

/-- 'laws.FnProbability', WHERE WHAT IT READS IS OF BULK AT MOST 1048576: true; the input reads as it did. -/
def fnProbabilityUptoRow : OpenClaim := { program := "ytgldiandbkfmkaagreatdoor", sum := "a1fcec29e242ee32819c23a91e1f4ae42d02544d8b3866b3512e3f068fc75743", func := "loop.example/g00861/laws.FnProbability", spec := "fnProbability", inPlace := ["internal/bytealg.IndexByteString", "internal/bytealg.IndexString"], unfollowed := true, recurses := true, named := ["unicode/utf8.first", "unicode/utf8.acceptRanges", "internal/bytealg.MaxLen"], apart := false, laid := [("unicode/utf8.acceptRanges", laid_unicode_utf8_acceptRanges), ("unicode/utf8.first", laid_unicode_utf8_first)], narrowed := true }
def FnProbabilityUptoSaid : Prop := fnProbabilityUptoRow.holds Tryz.pinned (OpenSpec.upto fnProbabilitySpec)

end Rows
end Go.Proofs.YtgldiandbkfmkaaGreatDoor
