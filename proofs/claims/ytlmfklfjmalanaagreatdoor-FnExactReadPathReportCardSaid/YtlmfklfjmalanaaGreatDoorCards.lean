/-
  DERIVED. GIVEN WITH THE SEED: THE CARDS: each row of YtlmfklfjmalanaaGreatDoorRows.lean that lists a variable, with what it lists TIED to the program's text (the seventh form; the later family's looks); each row that meets fmt, with fmt's text TOLD by the authors' own Lean function (tested against real Go, not proved from fmt's source: count such statements apart). THE CARD IS WHAT COUNTS. Prove the row's statement (the work); the ties are given (YtlmfklfjmalanaaGreatDoorTie.lean); close each card by the builder's one call (the guide's Derived/Test/ToyasCard.lean, 'card_holds'). Laid BY PROGRAM, IN A SANDBOX (cutbox-door.mjs). By AI agents, Wed Nov 11 2026. No macro, syntax, notation, axiom, sorry.
-/
import Derived.Test.YtlmfklfjmalanaaGreatDoorRows
import GoSem.ClaimSeven
namespace Go.Proofs.YtlmfklfjmalanaaGreatDoor
namespace Rows

/-- THE TIED CARD OF 'laws.FnExactReadPathReport'. -/
def fnExactReadPathReportCard : Claim7 := { stood := { row := fnExactReadPathReportRow, standIns := [], harness := (true, "2a761637548e13959736a80c85f8c2142f02f53d348f47840728aba57130624b"), looks := false }, kinds := [], alts := [], laidByText := true, laidKinds := [.data, .data, .data, .data, .widerDeep, .data, .pinned], laidTests := true, laidLooks := .later }
def FnExactReadPathReportCardSaid : Prop := Claim7.holds Tryz.pinned (.plain (OpenSpec.ofChange fnExactReadPathReportSpec)) fnExactReadPathReportCard

/-- THE SECOND FORM's CARD OF 'laws.FnExactReadPathReport'. -/
def fnExactReadPathReportUptoCard : Claim7 := { stood := { row := fnExactReadPathReportUptoRow, standIns := [], harness := (true, "2a761637548e13959736a80c85f8c2142f02f53d348f47840728aba57130624b"), looks := false }, kinds := [], alts := [], laidByText := true, laidKinds := [.data, .data, .data, .data, .widerDeep, .data, .pinned], laidTests := true, laidLooks := .later }
def FnExactReadPathReportUptoCardSaid : Prop := Claim7.holds Tryz.pinned (.plain (OpenSpec.upto fnExactReadPathReportSpec)) fnExactReadPathReportUptoCard
end Rows
end Go.Proofs.YtlmfklfjmalanaaGreatDoor
