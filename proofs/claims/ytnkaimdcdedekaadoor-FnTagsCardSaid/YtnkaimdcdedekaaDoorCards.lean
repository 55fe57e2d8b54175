/-
  DERIVED. GIVEN WITH THE SEED: THE CARDS: each row of YtnkaimdcdedekaaDoorRows.lean that lists a variable, with what it lists TIED to the program's text (the seventh form; the later family's looks); each row that meets fmt, with fmt's text TOLD by the authors' own Lean function (tested against real Go, not proved from fmt's source: count such statements apart). THE CARD IS WHAT COUNTS. Prove the row's statement (the work); the ties are given (YtnkaimdcdedekaaDoorTie.lean); close each card by the builder's one call (the guide's Derived/Test/ToyasCard.lean, 'card_holds'). Laid BY PROGRAM, IN A SANDBOX (cutbox-door.mjs). By AI agents, Wed Nov 11 2026. No macro, syntax, notation, axiom, sorry.
-/
import Derived.Test.YtnkaimdcdedekaaDoorRows
import GoSem.ClaimSeven
namespace Go.Proofs.YtnkaimdcdedekaaDoor
namespace Rows

/-- THE TIED CARD OF 'laws.FnExactFormatTag'. -/
def fnExactFormatTagCard : Claim7 := { stood := { row := fnExactFormatTagRow, standIns := [], harness := (true, "dd49c380f4f90f701e0baf9ee7cd217734e541e35467ac45fee5ad9ecefbfa9c"), looks := true }, kinds := [], alts := [], laidByText := true, laidKinds := [.data, .data, .data], laidTests := true, laidLooks := .later }
def FnExactFormatTagCardSaid : Prop := Claim7.holds Tryd.pinned (.plain (OpenSpec.ofChange fnExactFormatTagSpec)) fnExactFormatTagCard

/-- THE TIED CARD OF 'laws.FnExactParseTag'. -/
def fnExactParseTagCard : Claim7 := { stood := { row := fnExactParseTagRow, standIns := [], harness := (true, "dd49c380f4f90f701e0baf9ee7cd217734e541e35467ac45fee5ad9ecefbfa9c"), looks := true }, kinds := [], alts := [], laidByText := true, laidKinds := [.data, .data, .data], laidTests := true, laidLooks := .later }
def FnExactParseTagCardSaid : Prop := Claim7.holds Tryd.pinned (.plain (OpenSpec.ofChange fnExactParseTagSpec)) fnExactParseTagCard

/-- THE TIED CARD OF 'laws.FnExactRepairTag'. -/
def fnExactRepairTagCard : Claim7 := { stood := { row := fnExactRepairTagRow, standIns := [], harness := (true, "dd49c380f4f90f701e0baf9ee7cd217734e541e35467ac45fee5ad9ecefbfa9c"), looks := true }, kinds := [], alts := [], laidByText := true, laidKinds := [.data, .data, .data], laidTests := true, laidLooks := .later }
def FnExactRepairTagCardSaid : Prop := Claim7.holds Tryd.pinned (.plain (OpenSpec.ofChange fnExactRepairTagSpec)) fnExactRepairTagCard

/-- THE TIED CARD OF 'laws.FnExactCandidates'. -/
def fnExactCandidatesCard : Claim7 := { stood := { row := fnExactCandidatesRow, standIns := [], harness := (true, "dd49c380f4f90f701e0baf9ee7cd217734e541e35467ac45fee5ad9ecefbfa9c"), looks := true }, kinds := [], alts := [], laidByText := true, laidKinds := [.data, .data, .data], laidTests := true, laidLooks := .later }
def FnExactCandidatesCardSaid : Prop := Claim7.holds Tryd.pinned (.plain (OpenSpec.ofChange fnExactCandidatesSpec)) fnExactCandidatesCard

/-- THE TIED CARD OF 'laws.FnCandidates'. -/
def fnCandidatesCard : Claim7 := { stood := { row := fnCandidatesRow, standIns := [], harness := (true, "dd49c380f4f90f701e0baf9ee7cd217734e541e35467ac45fee5ad9ecefbfa9c"), looks := true }, kinds := [], alts := [], laidByText := true, laidKinds := [.data, .data, .data], laidTests := true, laidLooks := .later }
def FnCandidatesCardSaid : Prop := Claim7.holds Tryd.pinned (.plain (OpenSpec.ofChange fnCandidatesSpec)) fnCandidatesCard

/-- THE TIED CARD OF 'laws.FnNearTags'. -/
def fnNearTagsCard : Claim7 := { stood := { row := fnNearTagsRow, standIns := [], harness := (true, "dd49c380f4f90f701e0baf9ee7cd217734e541e35467ac45fee5ad9ecefbfa9c"), looks := true }, kinds := [], alts := [], laidByText := true, laidKinds := [.data, .data, .data], laidTests := true, laidLooks := .later }
def FnNearTagsCardSaid : Prop := Claim7.holds Tryd.pinned (.plain (OpenSpec.ofChange fnNearTagsSpec)) fnNearTagsCard

/-- THE TIED CARD OF 'laws.FnTags'. -/
def fnTagsCard : Claim7 := { stood := { row := fnTagsRow, standIns := [], harness := (true, "dd49c380f4f90f701e0baf9ee7cd217734e541e35467ac45fee5ad9ecefbfa9c"), looks := true }, kinds := [], alts := [], laidByText := true, laidKinds := [.data, .data, .data], laidTests := true, laidLooks := .later }
def FnTagsCardSaid : Prop := Claim7.holds Tryd.pinned (.plain (OpenSpec.ofChange fnTagsSpec)) fnTagsCard

/-- THE TIED CARD OF 'laws.FnExactParseUint'. -/
def fnExactParseUintCard : Claim7 := { stood := { row := fnExactParseUintRow, standIns := [], harness := (true, "dd49c380f4f90f701e0baf9ee7cd217734e541e35467ac45fee5ad9ecefbfa9c"), looks := true }, kinds := [], alts := [], laidByText := true, laidKinds := [.data, .data, .data, .sentinel, .sentinel], laidTests := true, laidLooks := .later }
def FnExactParseUintCardSaid : Prop := Claim7.holds Tryd.pinned (.plain (OpenSpec.ofChange fnExactParseUintSpec)) fnExactParseUintCard

/-- THE TIED CARD OF 'laws.FnNumbers'. -/
def fnNumbersCard : Claim7 := { stood := { row := fnNumbersRow, standIns := [], harness := (true, "dd49c380f4f90f701e0baf9ee7cd217734e541e35467ac45fee5ad9ecefbfa9c"), looks := true }, kinds := [], alts := [], laidByText := true, laidKinds := [.data, .data, .data, .sentinel, .sentinel], laidTests := true, laidLooks := .later }
def FnNumbersCardSaid : Prop := Claim7.holds Tryd.pinned (.plain (OpenSpec.ofChange fnNumbersSpec)) fnNumbersCard

/-- THE SECOND FORM's CARD OF 'laws.FnExactFormatTag'. -/
def fnExactFormatTagUptoCard : Claim7 := { stood := { row := fnExactFormatTagUptoRow, standIns := [], harness := (true, "dd49c380f4f90f701e0baf9ee7cd217734e541e35467ac45fee5ad9ecefbfa9c"), looks := true }, kinds := [], alts := [], laidByText := true, laidKinds := [.data, .data, .data], laidTests := true, laidLooks := .later }
def FnExactFormatTagUptoCardSaid : Prop := Claim7.holds Tryd.pinned (.plain (OpenSpec.upto fnExactFormatTagSpec)) fnExactFormatTagUptoCard

/-- THE SECOND FORM's CARD OF 'laws.FnExactParseTag'. -/
def fnExactParseTagUptoCard : Claim7 := { stood := { row := fnExactParseTagUptoRow, standIns := [], harness := (true, "dd49c380f4f90f701e0baf9ee7cd217734e541e35467ac45fee5ad9ecefbfa9c"), looks := true }, kinds := [], alts := [], laidByText := true, laidKinds := [.data, .data, .data], laidTests := true, laidLooks := .later }
def FnExactParseTagUptoCardSaid : Prop := Claim7.holds Tryd.pinned (.plain (OpenSpec.upto fnExactParseTagSpec)) fnExactParseTagUptoCard

/-- THE SECOND FORM's CARD OF 'laws.FnExactRepairTag'. -/
def fnExactRepairTagUptoCard : Claim7 := { stood := { row := fnExactRepairTagUptoRow, standIns := [], harness := (true, "dd49c380f4f90f701e0baf9ee7cd217734e541e35467ac45fee5ad9ecefbfa9c"), looks := true }, kinds := [], alts := [], laidByText := true, laidKinds := [.data, .data, .data], laidTests := true, laidLooks := .later }
def FnExactRepairTagUptoCardSaid : Prop := Claim7.holds Tryd.pinned (.plain (OpenSpec.upto fnExactRepairTagSpec)) fnExactRepairTagUptoCard

/-- THE SECOND FORM's CARD OF 'laws.FnExactCandidates'. -/
def fnExactCandidatesUptoCard : Claim7 := { stood := { row := fnExactCandidatesUptoRow, standIns := [], harness := (true, "dd49c380f4f90f701e0baf9ee7cd217734e541e35467ac45fee5ad9ecefbfa9c"), looks := true }, kinds := [], alts := [], laidByText := true, laidKinds := [.data, .data, .data], laidTests := true, laidLooks := .later }
def FnExactCandidatesUptoCardSaid : Prop := Claim7.holds Tryd.pinned (.plain (OpenSpec.upto fnExactCandidatesSpec)) fnExactCandidatesUptoCard

/-- THE SECOND FORM's CARD OF 'laws.FnCandidates'. -/
def fnCandidatesUptoCard : Claim7 := { stood := { row := fnCandidatesUptoRow, standIns := [], harness := (true, "dd49c380f4f90f701e0baf9ee7cd217734e541e35467ac45fee5ad9ecefbfa9c"), looks := true }, kinds := [], alts := [], laidByText := true, laidKinds := [.data, .data, .data], laidTests := true, laidLooks := .later }
def FnCandidatesUptoCardSaid : Prop := Claim7.holds Tryd.pinned (.plain (OpenSpec.upto fnCandidatesSpec)) fnCandidatesUptoCard

/-- THE SECOND FORM's CARD OF 'laws.FnNearTags'. -/
def fnNearTagsUptoCard : Claim7 := { stood := { row := fnNearTagsUptoRow, standIns := [], harness := (true, "dd49c380f4f90f701e0baf9ee7cd217734e541e35467ac45fee5ad9ecefbfa9c"), looks := true }, kinds := [], alts := [], laidByText := true, laidKinds := [.data, .data, .data], laidTests := true, laidLooks := .later }
def FnNearTagsUptoCardSaid : Prop := Claim7.holds Tryd.pinned (.plain (OpenSpec.upto fnNearTagsSpec)) fnNearTagsUptoCard

/-- THE SECOND FORM's CARD OF 'laws.FnTags'. -/
def fnTagsUptoCard : Claim7 := { stood := { row := fnTagsUptoRow, standIns := [], harness := (true, "dd49c380f4f90f701e0baf9ee7cd217734e541e35467ac45fee5ad9ecefbfa9c"), looks := true }, kinds := [], alts := [], laidByText := true, laidKinds := [.data, .data, .data], laidTests := true, laidLooks := .later }
def FnTagsUptoCardSaid : Prop := Claim7.holds Tryd.pinned (.plain (OpenSpec.upto fnTagsSpec)) fnTagsUptoCard

/-- THE SECOND FORM's CARD OF 'laws.FnExactParseUint'. -/
def fnExactParseUintUptoCard : Claim7 := { stood := { row := fnExactParseUintUptoRow, standIns := [], harness := (true, "dd49c380f4f90f701e0baf9ee7cd217734e541e35467ac45fee5ad9ecefbfa9c"), looks := true }, kinds := [], alts := [], laidByText := true, laidKinds := [.data, .data, .data, .sentinel, .sentinel], laidTests := true, laidLooks := .later }
def FnExactParseUintUptoCardSaid : Prop := Claim7.holds Tryd.pinned (.plain (OpenSpec.upto fnExactParseUintSpec)) fnExactParseUintUptoCard

/-- THE SECOND FORM's CARD OF 'laws.FnNumbers'. -/
def fnNumbersUptoCard : Claim7 := { stood := { row := fnNumbersUptoRow, standIns := [], harness := (true, "dd49c380f4f90f701e0baf9ee7cd217734e541e35467ac45fee5ad9ecefbfa9c"), looks := true }, kinds := [], alts := [], laidByText := true, laidKinds := [.data, .data, .data, .sentinel, .sentinel], laidTests := true, laidLooks := .later }
def FnNumbersUptoCardSaid : Prop := Claim7.holds Tryd.pinned (.plain (OpenSpec.upto fnNumbersSpec)) fnNumbersUptoCard
end Rows
end Go.Proofs.YtnkaimdcdedekaaDoor
