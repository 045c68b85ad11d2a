/-
  DERIVED. GIVEN WITH THE SEED: THE CARDS: each row of YtclkbedbocnpkaaGreatDoorRows.lean that lists a variable, with what it lists TIED to the program's text (the seventh form; the later family's looks); each row that meets fmt, with fmt's text TOLD by the authors' own Lean function (tested against real Go, not proved from fmt's source: count such statements apart). THE CARD IS WHAT COUNTS. Prove the row's statement (the work); the ties are given (YtclkbedbocnpkaaGreatDoorTie.lean); close each card by the builder's one call (the guide's Derived/Test/ToyasCard.lean, 'card_holds'). Laid BY PROGRAM, IN A SANDBOX (cutbox-door.mjs). By AI agents, Wed Nov 11 2026. No macro, syntax, notation, axiom, sorry.
-/
import Derived.Test.YtclkbedbocnpkaaGreatDoorRows
import GoSem.ClaimSeven
namespace Go.Proofs.YtclkbedbocnpkaaGreatDoor
namespace Rows

/-- THE TIED CARD OF 'quinarialaw08.GateFeeds'. -/
def gateFeedsCard : Claim7 := { stood := { row := gateFeedsRow, standIns := [], harness := (true, "61fcfdd1937572af59d1a77957404d18142c871cf64214084660f86b992de563"), looks := true }, kinds := [], alts := [], laidByText := true, laidKinds := [.data, .data, .data, .data, .pinned], laidTests := true, laidLooks := .later }
def GateFeedsCardSaid : Prop := Claim7.holds Tryz.pinned (.plain (OpenSpec.ofChange gateFeedsSpec)) gateFeedsCard

/-- THE TIED CARD OF 'quinarialaw08.GateFlow'. -/
def gateFlowCard : Claim7 := { stood := { row := gateFlowRow, standIns := [], harness := (true, "61fcfdd1937572af59d1a77957404d18142c871cf64214084660f86b992de563"), looks := true }, kinds := [], alts := [], laidByText := true, laidKinds := [.data, .data, .data, .data, .pinned], laidTests := true, laidLooks := .later }
def GateFlowCardSaid : Prop := Claim7.holds Tryz.pinned (.plain (OpenSpec.ofChange gateFlowSpec)) gateFlowCard

/-- THE TIED CARD OF 'quinarialaw08.GateCuts'. -/
def gateCutsCard : Claim7 := { stood := { row := gateCutsRow, standIns := [], harness := (true, "61fcfdd1937572af59d1a77957404d18142c871cf64214084660f86b992de563"), looks := true }, kinds := [], alts := [], laidByText := true, laidKinds := [.data, .data, .data, .data, .pinned], laidTests := true, laidLooks := .later }
def GateCutsCardSaid : Prop := Claim7.holds Tryz.pinned (.plain (OpenSpec.ofChange gateCutsSpec)) gateCutsCard

/-- THE TIED CARD OF 'quinarialaw08.GateShort'. -/
def gateShortCard : Claim7 := { stood := { row := gateShortRow, standIns := [], harness := (true, "61fcfdd1937572af59d1a77957404d18142c871cf64214084660f86b992de563"), looks := true }, kinds := [], alts := [], laidByText := true, laidKinds := [.data, .data, .data, .data, .pinned], laidTests := true, laidLooks := .later }
def GateShortCardSaid : Prop := Claim7.holds Tryz.pinned (.plain (OpenSpec.ofChange gateShortSpec)) gateShortCard

/-- THE TIED CARD OF 'quinarialaw08.GateMosts'. -/
def gateMostsCard : Claim7 := { stood := { row := gateMostsRow, standIns := [], harness := (true, "61fcfdd1937572af59d1a77957404d18142c871cf64214084660f86b992de563"), looks := true }, kinds := [], alts := [], laidByText := true, laidKinds := [.data, .data, .data, .data, .pinned], laidTests := true, laidLooks := .later }
def GateMostsCardSaid : Prop := Claim7.holds Tryz.pinned (.plain (OpenSpec.ofChange gateMostsSpec)) gateMostsCard

/-- THE TIED CARD OF 'quinarialaw08.GateNeeds'. -/
def gateNeedsCard : Claim7 := { stood := { row := gateNeedsRow, standIns := [], harness := (true, "61fcfdd1937572af59d1a77957404d18142c871cf64214084660f86b992de563"), looks := true }, kinds := [], alts := [], laidByText := true, laidKinds := [.data, .data, .data, .data, .pinned], laidTests := true, laidLooks := .later }
def GateNeedsCardSaid : Prop := Claim7.holds Tryz.pinned (.plain (OpenSpec.ofChange gateNeedsSpec)) gateNeedsCard

/-- THE TIED CARD OF 'quinarialaw08.GateFewests'. -/
def gateFewestsCard : Claim7 := { stood := { row := gateFewestsRow, standIns := [], harness := (true, "61fcfdd1937572af59d1a77957404d18142c871cf64214084660f86b992de563"), looks := true }, kinds := [], alts := [], laidByText := true, laidKinds := [.data, .data, .data, .data, .pinned], laidTests := true, laidLooks := .later }
def GateFewestsCardSaid : Prop := Claim7.holds Tryz.pinned (.plain (OpenSpec.ofChange gateFewestsSpec)) gateFewestsCard

/-- THE TIED CARD OF 'quinarialaw08.GateProofs'. -/
def gateProofsCard : Claim7 := { stood := { row := gateProofsRow, standIns := [], harness := (true, "61fcfdd1937572af59d1a77957404d18142c871cf64214084660f86b992de563"), looks := true }, kinds := [], alts := [], laidByText := true, laidKinds := [.data, .data, .data, .data, .pinned], laidTests := true, laidLooks := .later }
def GateProofsCardSaid : Prop := Claim7.holds Tryz.pinned (.plain (OpenSpec.ofChange gateProofsSpec)) gateProofsCard

/-- THE TIED CARD OF 'quinarialaw08.GateProven'. -/
def gateProvenCard : Claim7 := { stood := { row := gateProvenRow, standIns := [], harness := (true, "61fcfdd1937572af59d1a77957404d18142c871cf64214084660f86b992de563"), looks := true }, kinds := [], alts := [], laidByText := true, laidKinds := [.data, .data, .data, .data, .pinned], laidTests := true, laidLooks := .later }
def GateProvenCardSaid : Prop := Claim7.holds Tryz.pinned (.plain (OpenSpec.ofChange gateProvenSpec)) gateProvenCard

/-- THE TIED CARD OF 'quinarialaw08.GateLess'. -/
def gateLessCard : Claim7 := { stood := { row := gateLessRow, standIns := [], harness := (true, "61fcfdd1937572af59d1a77957404d18142c871cf64214084660f86b992de563"), looks := true }, kinds := [], alts := [], laidByText := true, laidKinds := [.data, .data, .data, .data, .pinned], laidTests := true, laidLooks := .later }
def GateLessCardSaid : Prop := Claim7.holds Tryz.pinned (.plain (OpenSpec.ofChange gateLessSpec)) gateLessCard

/-- THE TIED CARD OF 'quinarialaw08.GateFeds'. -/
def gateFedsCard : Claim7 := { stood := { row := gateFedsRow, standIns := [], harness := (true, "61fcfdd1937572af59d1a77957404d18142c871cf64214084660f86b992de563"), looks := true }, kinds := [], alts := [], laidByText := true, laidKinds := [.data, .data, .data, .data, .pinned], laidTests := true, laidLooks := .later }
def GateFedsCardSaid : Prop := Claim7.holds Tryz.pinned (.plain (OpenSpec.ofChange gateFedsSpec)) gateFedsCard

/-- THE SECOND FORM's CARD OF 'quinarialaw08.GateFeeds'. -/
def gateFeedsUptoCard : Claim7 := { stood := { row := gateFeedsUptoRow, standIns := [], harness := (true, "61fcfdd1937572af59d1a77957404d18142c871cf64214084660f86b992de563"), looks := true }, kinds := [], alts := [], laidByText := true, laidKinds := [.data, .data, .data, .data, .pinned], laidTests := true, laidLooks := .later }
def GateFeedsUptoCardSaid : Prop := Claim7.holds Tryz.pinned (.plain (OpenSpec.upto gateFeedsSpec)) gateFeedsUptoCard

/-- THE SECOND FORM's CARD OF 'quinarialaw08.GateFlow'. -/
def gateFlowUptoCard : Claim7 := { stood := { row := gateFlowUptoRow, standIns := [], harness := (true, "61fcfdd1937572af59d1a77957404d18142c871cf64214084660f86b992de563"), looks := true }, kinds := [], alts := [], laidByText := true, laidKinds := [.data, .data, .data, .data, .pinned], laidTests := true, laidLooks := .later }
def GateFlowUptoCardSaid : Prop := Claim7.holds Tryz.pinned (.plain (OpenSpec.upto gateFlowSpec)) gateFlowUptoCard

/-- THE SECOND FORM's CARD OF 'quinarialaw08.GateCuts'. -/
def gateCutsUptoCard : Claim7 := { stood := { row := gateCutsUptoRow, standIns := [], harness := (true, "61fcfdd1937572af59d1a77957404d18142c871cf64214084660f86b992de563"), looks := true }, kinds := [], alts := [], laidByText := true, laidKinds := [.data, .data, .data, .data, .pinned], laidTests := true, laidLooks := .later }
def GateCutsUptoCardSaid : Prop := Claim7.holds Tryz.pinned (.plain (OpenSpec.upto gateCutsSpec)) gateCutsUptoCard

/-- THE SECOND FORM's CARD OF 'quinarialaw08.GateShort'. -/
def gateShortUptoCard : Claim7 := { stood := { row := gateShortUptoRow, standIns := [], harness := (true, "61fcfdd1937572af59d1a77957404d18142c871cf64214084660f86b992de563"), looks := true }, kinds := [], alts := [], laidByText := true, laidKinds := [.data, .data, .data, .data, .pinned], laidTests := true, laidLooks := .later }
def GateShortUptoCardSaid : Prop := Claim7.holds Tryz.pinned (.plain (OpenSpec.upto gateShortSpec)) gateShortUptoCard

/-- THE SECOND FORM's CARD OF 'quinarialaw08.GateMosts'. -/
def gateMostsUptoCard : Claim7 := { stood := { row := gateMostsUptoRow, standIns := [], harness := (true, "61fcfdd1937572af59d1a77957404d18142c871cf64214084660f86b992de563"), looks := true }, kinds := [], alts := [], laidByText := true, laidKinds := [.data, .data, .data, .data, .pinned], laidTests := true, laidLooks := .later }
def GateMostsUptoCardSaid : Prop := Claim7.holds Tryz.pinned (.plain (OpenSpec.upto gateMostsSpec)) gateMostsUptoCard

/-- THE SECOND FORM's CARD OF 'quinarialaw08.GateNeeds'. -/
def gateNeedsUptoCard : Claim7 := { stood := { row := gateNeedsUptoRow, standIns := [], harness := (true, "61fcfdd1937572af59d1a77957404d18142c871cf64214084660f86b992de563"), looks := true }, kinds := [], alts := [], laidByText := true, laidKinds := [.data, .data, .data, .data, .pinned], laidTests := true, laidLooks := .later }
def GateNeedsUptoCardSaid : Prop := Claim7.holds Tryz.pinned (.plain (OpenSpec.upto gateNeedsSpec)) gateNeedsUptoCard

/-- THE SECOND FORM's CARD OF 'quinarialaw08.GateFewests'. -/
def gateFewestsUptoCard : Claim7 := { stood := { row := gateFewestsUptoRow, standIns := [], harness := (true, "61fcfdd1937572af59d1a77957404d18142c871cf64214084660f86b992de563"), looks := true }, kinds := [], alts := [], laidByText := true, laidKinds := [.data, .data, .data, .data, .pinned], laidTests := true, laidLooks := .later }
def GateFewestsUptoCardSaid : Prop := Claim7.holds Tryz.pinned (.plain (OpenSpec.upto gateFewestsSpec)) gateFewestsUptoCard

/-- THE SECOND FORM's CARD OF 'quinarialaw08.GateProofs'. -/
def gateProofsUptoCard : Claim7 := { stood := { row := gateProofsUptoRow, standIns := [], harness := (true, "61fcfdd1937572af59d1a77957404d18142c871cf64214084660f86b992de563"), looks := true }, kinds := [], alts := [], laidByText := true, laidKinds := [.data, .data, .data, .data, .pinned], laidTests := true, laidLooks := .later }
def GateProofsUptoCardSaid : Prop := Claim7.holds Tryz.pinned (.plain (OpenSpec.upto gateProofsSpec)) gateProofsUptoCard

/-- THE SECOND FORM's CARD OF 'quinarialaw08.GateProven'. -/
def gateProvenUptoCard : Claim7 := { stood := { row := gateProvenUptoRow, standIns := [], harness := (true, "61fcfdd1937572af59d1a77957404d18142c871cf64214084660f86b992de563"), looks := true }, kinds := [], alts := [], laidByText := true, laidKinds := [.data, .data, .data, .data, .pinned], laidTests := true, laidLooks := .later }
def GateProvenUptoCardSaid : Prop := Claim7.holds Tryz.pinned (.plain (OpenSpec.upto gateProvenSpec)) gateProvenUptoCard

/-- THE SECOND FORM's CARD OF 'quinarialaw08.GateLess'. -/
def gateLessUptoCard : Claim7 := { stood := { row := gateLessUptoRow, standIns := [], harness := (true, "61fcfdd1937572af59d1a77957404d18142c871cf64214084660f86b992de563"), looks := true }, kinds := [], alts := [], laidByText := true, laidKinds := [.data, .data, .data, .data, .pinned], laidTests := true, laidLooks := .later }
def GateLessUptoCardSaid : Prop := Claim7.holds Tryz.pinned (.plain (OpenSpec.upto gateLessSpec)) gateLessUptoCard

/-- THE SECOND FORM's CARD OF 'quinarialaw08.GateFeds'. -/
def gateFedsUptoCard : Claim7 := { stood := { row := gateFedsUptoRow, standIns := [], harness := (true, "61fcfdd1937572af59d1a77957404d18142c871cf64214084660f86b992de563"), looks := true }, kinds := [], alts := [], laidByText := true, laidKinds := [.data, .data, .data, .data, .pinned], laidTests := true, laidLooks := .later }
def GateFedsUptoCardSaid : Prop := Claim7.holds Tryz.pinned (.plain (OpenSpec.upto gateFedsSpec)) gateFedsUptoCard
end Rows
end Go.Proofs.YtclkbedbocnpkaaGreatDoor
