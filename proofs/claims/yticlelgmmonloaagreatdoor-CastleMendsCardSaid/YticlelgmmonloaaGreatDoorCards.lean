/-
  DERIVED. GIVEN WITH THE SEED: THE CARDS: each row of YticlelgmmonloaaGreatDoorRows.lean that lists a variable, with what it lists TIED to the program's text (the seventh form; the later family's looks); each row that meets fmt, with fmt's text TOLD by the authors' own Lean function (tested against real Go, not proved from fmt's source: count such statements apart). THE CARD IS WHAT COUNTS. Prove the row's statement (the work); the ties are given (YticlelgmmonloaaGreatDoorTie.lean); close each card by the builder's one call (the guide's Derived/Test/ToyasCard.lean, 'card_holds'). Laid BY PROGRAM, IN A SANDBOX (cutbox-door.mjs). By AI agents, Wed Nov 11 2026. No macro, syntax, notation, axiom, sorry.
-/
import Derived.Test.YticlelgmmonloaaGreatDoorRows
import GoSem.ClaimSeven
namespace Go.Proofs.YticlelgmmonloaaGreatDoor
namespace Rows

/-- THE TIED CARD OF 'quinarialaw04.CastleShares'. -/
def castleSharesCard : Claim7 := { stood := { row := castleSharesRow, standIns := [], harness := (true, "0817370c77ddbcab72987ba96892bfa7592336634a5fb1f509a46bd46417ab10"), looks := true }, kinds := [], alts := [], laidByText := true, laidKinds := [.data, .data, .data, .data, .pinned], laidTests := true, laidLooks := .later }
def CastleSharesCardSaid : Prop := Claim7.holds Tryz.pinned (.plain (OpenSpec.ofChange castleSharesSpec)) castleSharesCard

/-- THE TIED CARD OF 'quinarialaw04.CastleKept'. -/
def castleKeptCard : Claim7 := { stood := { row := castleKeptRow, standIns := [], harness := (true, "0817370c77ddbcab72987ba96892bfa7592336634a5fb1f509a46bd46417ab10"), looks := true }, kinds := [], alts := [], laidByText := true, laidKinds := [.data, .data, .data, .data, .pinned], laidTests := true, laidLooks := .later }
def CastleKeptCardSaid : Prop := Claim7.holds Tryz.pinned (.plain (OpenSpec.ofChange castleKeptSpec)) castleKeptCard

/-- THE TIED CARD OF 'quinarialaw04.CastleBounds'. -/
def castleBoundsCard : Claim7 := { stood := { row := castleBoundsRow, standIns := [], harness := (true, "0817370c77ddbcab72987ba96892bfa7592336634a5fb1f509a46bd46417ab10"), looks := true }, kinds := [], alts := [], laidByText := true, laidKinds := [.data, .data, .data, .data, .pinned], laidTests := true, laidLooks := .later }
def CastleBoundsCardSaid : Prop := Claim7.holds Tryz.pinned (.plain (OpenSpec.ofChange castleBoundsSpec)) castleBoundsCard

/-- THE TIED CARD OF 'quinarialaw04.CastleTrue'. -/
def castleTrueCard : Claim7 := { stood := { row := castleTrueRow, standIns := [], harness := (true, "0817370c77ddbcab72987ba96892bfa7592336634a5fb1f509a46bd46417ab10"), looks := true }, kinds := [], alts := [], laidByText := true, laidKinds := [.data, .data, .data, .data, .pinned], laidTests := true, laidLooks := .later }
def CastleTrueCardSaid : Prop := Claim7.holds Tryz.pinned (.plain (OpenSpec.ofChange castleTrueSpec)) castleTrueCard

/-- THE TIED CARD OF 'quinarialaw04.CastleProves'. -/
def castleProvesCard : Claim7 := { stood := { row := castleProvesRow, standIns := [], harness := (true, "0817370c77ddbcab72987ba96892bfa7592336634a5fb1f509a46bd46417ab10"), looks := true }, kinds := [], alts := [], laidByText := true, laidKinds := [.data, .data, .data, .data, .pinned], laidTests := true, laidLooks := .later }
def CastleProvesCardSaid : Prop := Claim7.holds Tryz.pinned (.plain (OpenSpec.ofChange castleProvesSpec)) castleProvesCard

/-- THE TIED CARD OF 'quinarialaw04.CastleSeen'. -/
def castleSeenCard : Claim7 := { stood := { row := castleSeenRow, standIns := [], harness := (true, "0817370c77ddbcab72987ba96892bfa7592336634a5fb1f509a46bd46417ab10"), looks := true }, kinds := [], alts := [], laidByText := true, laidKinds := [.data, .data, .data, .data, .pinned], laidTests := true, laidLooks := .later }
def CastleSeenCardSaid : Prop := Claim7.holds Tryz.pinned (.plain (OpenSpec.ofChange castleSeenSpec)) castleSeenCard

/-- THE TIED CARD OF 'quinarialaw04.CastleGains'. -/
def castleGainsCard : Claim7 := { stood := { row := castleGainsRow, standIns := [], harness := (true, "0817370c77ddbcab72987ba96892bfa7592336634a5fb1f509a46bd46417ab10"), looks := true }, kinds := [], alts := [], laidByText := true, laidKinds := [.data, .data, .data, .data, .pinned], laidTests := true, laidLooks := .later }
def CastleGainsCardSaid : Prop := Claim7.holds Tryz.pinned (.plain (OpenSpec.ofChange castleGainsSpec)) castleGainsCard

/-- THE TIED CARD OF 'quinarialaw04.CastleLow'. -/
def castleLowCard : Claim7 := { stood := { row := castleLowRow, standIns := [], harness := (true, "0817370c77ddbcab72987ba96892bfa7592336634a5fb1f509a46bd46417ab10"), looks := true }, kinds := [], alts := [], laidByText := true, laidKinds := [.data, .data, .data, .data, .pinned], laidTests := true, laidLooks := .later }
def CastleLowCardSaid : Prop := Claim7.holds Tryz.pinned (.plain (OpenSpec.ofChange castleLowSpec)) castleLowCard

/-- THE TIED CARD OF 'quinarialaw04.CastleMends'. -/
def castleMendsCard : Claim7 := { stood := { row := castleMendsRow, standIns := [], harness := (true, "0817370c77ddbcab72987ba96892bfa7592336634a5fb1f509a46bd46417ab10"), looks := true }, kinds := [], alts := [], laidByText := true, laidKinds := [.data, .data, .data, .data, .pinned], laidTests := true, laidLooks := .later }
def CastleMendsCardSaid : Prop := Claim7.holds Tryz.pinned (.plain (OpenSpec.ofChange castleMendsSpec)) castleMendsCard

/-- THE TIED CARD OF 'quinarialaw04.CastleLesser'. -/
def castleLesserCard : Claim7 := { stood := { row := castleLesserRow, standIns := [], harness := (true, "0817370c77ddbcab72987ba96892bfa7592336634a5fb1f509a46bd46417ab10"), looks := true }, kinds := [], alts := [], laidByText := true, laidKinds := [.data, .data, .data, .data, .pinned], laidTests := true, laidLooks := .later }
def CastleLesserCardSaid : Prop := Claim7.holds Tryz.pinned (.plain (OpenSpec.ofChange castleLesserSpec)) castleLesserCard

/-- THE TIED CARD OF 'quinarialaw04.CastleLowered'. -/
def castleLoweredCard : Claim7 := { stood := { row := castleLoweredRow, standIns := [], harness := (true, "0817370c77ddbcab72987ba96892bfa7592336634a5fb1f509a46bd46417ab10"), looks := true }, kinds := [], alts := [], laidByText := true, laidKinds := [.data, .data, .data, .data, .pinned], laidTests := true, laidLooks := .later }
def CastleLoweredCardSaid : Prop := Claim7.holds Tryz.pinned (.plain (OpenSpec.ofChange castleLoweredSpec)) castleLoweredCard

/-- THE SECOND FORM's CARD OF 'quinarialaw04.CastleShares'. -/
def castleSharesUptoCard : Claim7 := { stood := { row := castleSharesUptoRow, standIns := [], harness := (true, "0817370c77ddbcab72987ba96892bfa7592336634a5fb1f509a46bd46417ab10"), looks := true }, kinds := [], alts := [], laidByText := true, laidKinds := [.data, .data, .data, .data, .pinned], laidTests := true, laidLooks := .later }
def CastleSharesUptoCardSaid : Prop := Claim7.holds Tryz.pinned (.plain (OpenSpec.upto castleSharesSpec)) castleSharesUptoCard

/-- THE SECOND FORM's CARD OF 'quinarialaw04.CastleKept'. -/
def castleKeptUptoCard : Claim7 := { stood := { row := castleKeptUptoRow, standIns := [], harness := (true, "0817370c77ddbcab72987ba96892bfa7592336634a5fb1f509a46bd46417ab10"), looks := true }, kinds := [], alts := [], laidByText := true, laidKinds := [.data, .data, .data, .data, .pinned], laidTests := true, laidLooks := .later }
def CastleKeptUptoCardSaid : Prop := Claim7.holds Tryz.pinned (.plain (OpenSpec.upto castleKeptSpec)) castleKeptUptoCard

/-- THE SECOND FORM's CARD OF 'quinarialaw04.CastleBounds'. -/
def castleBoundsUptoCard : Claim7 := { stood := { row := castleBoundsUptoRow, standIns := [], harness := (true, "0817370c77ddbcab72987ba96892bfa7592336634a5fb1f509a46bd46417ab10"), looks := true }, kinds := [], alts := [], laidByText := true, laidKinds := [.data, .data, .data, .data, .pinned], laidTests := true, laidLooks := .later }
def CastleBoundsUptoCardSaid : Prop := Claim7.holds Tryz.pinned (.plain (OpenSpec.upto castleBoundsSpec)) castleBoundsUptoCard

/-- THE SECOND FORM's CARD OF 'quinarialaw04.CastleTrue'. -/
def castleTrueUptoCard : Claim7 := { stood := { row := castleTrueUptoRow, standIns := [], harness := (true, "0817370c77ddbcab72987ba96892bfa7592336634a5fb1f509a46bd46417ab10"), looks := true }, kinds := [], alts := [], laidByText := true, laidKinds := [.data, .data, .data, .data, .pinned], laidTests := true, laidLooks := .later }
def CastleTrueUptoCardSaid : Prop := Claim7.holds Tryz.pinned (.plain (OpenSpec.upto castleTrueSpec)) castleTrueUptoCard

/-- THE SECOND FORM's CARD OF 'quinarialaw04.CastleProves'. -/
def castleProvesUptoCard : Claim7 := { stood := { row := castleProvesUptoRow, standIns := [], harness := (true, "0817370c77ddbcab72987ba96892bfa7592336634a5fb1f509a46bd46417ab10"), looks := true }, kinds := [], alts := [], laidByText := true, laidKinds := [.data, .data, .data, .data, .pinned], laidTests := true, laidLooks := .later }
def CastleProvesUptoCardSaid : Prop := Claim7.holds Tryz.pinned (.plain (OpenSpec.upto castleProvesSpec)) castleProvesUptoCard

/-- THE SECOND FORM's CARD OF 'quinarialaw04.CastleSeen'. -/
def castleSeenUptoCard : Claim7 := { stood := { row := castleSeenUptoRow, standIns := [], harness := (true, "0817370c77ddbcab72987ba96892bfa7592336634a5fb1f509a46bd46417ab10"), looks := true }, kinds := [], alts := [], laidByText := true, laidKinds := [.data, .data, .data, .data, .pinned], laidTests := true, laidLooks := .later }
def CastleSeenUptoCardSaid : Prop := Claim7.holds Tryz.pinned (.plain (OpenSpec.upto castleSeenSpec)) castleSeenUptoCard

/-- THE SECOND FORM's CARD OF 'quinarialaw04.CastleGains'. -/
def castleGainsUptoCard : Claim7 := { stood := { row := castleGainsUptoRow, standIns := [], harness := (true, "0817370c77ddbcab72987ba96892bfa7592336634a5fb1f509a46bd46417ab10"), looks := true }, kinds := [], alts := [], laidByText := true, laidKinds := [.data, .data, .data, .data, .pinned], laidTests := true, laidLooks := .later }
def CastleGainsUptoCardSaid : Prop := Claim7.holds Tryz.pinned (.plain (OpenSpec.upto castleGainsSpec)) castleGainsUptoCard

/-- THE SECOND FORM's CARD OF 'quinarialaw04.CastleLow'. -/
def castleLowUptoCard : Claim7 := { stood := { row := castleLowUptoRow, standIns := [], harness := (true, "0817370c77ddbcab72987ba96892bfa7592336634a5fb1f509a46bd46417ab10"), looks := true }, kinds := [], alts := [], laidByText := true, laidKinds := [.data, .data, .data, .data, .pinned], laidTests := true, laidLooks := .later }
def CastleLowUptoCardSaid : Prop := Claim7.holds Tryz.pinned (.plain (OpenSpec.upto castleLowSpec)) castleLowUptoCard

/-- THE SECOND FORM's CARD OF 'quinarialaw04.CastleMends'. -/
def castleMendsUptoCard : Claim7 := { stood := { row := castleMendsUptoRow, standIns := [], harness := (true, "0817370c77ddbcab72987ba96892bfa7592336634a5fb1f509a46bd46417ab10"), looks := true }, kinds := [], alts := [], laidByText := true, laidKinds := [.data, .data, .data, .data, .pinned], laidTests := true, laidLooks := .later }
def CastleMendsUptoCardSaid : Prop := Claim7.holds Tryz.pinned (.plain (OpenSpec.upto castleMendsSpec)) castleMendsUptoCard

/-- THE SECOND FORM's CARD OF 'quinarialaw04.CastleLesser'. -/
def castleLesserUptoCard : Claim7 := { stood := { row := castleLesserUptoRow, standIns := [], harness := (true, "0817370c77ddbcab72987ba96892bfa7592336634a5fb1f509a46bd46417ab10"), looks := true }, kinds := [], alts := [], laidByText := true, laidKinds := [.data, .data, .data, .data, .pinned], laidTests := true, laidLooks := .later }
def CastleLesserUptoCardSaid : Prop := Claim7.holds Tryz.pinned (.plain (OpenSpec.upto castleLesserSpec)) castleLesserUptoCard

/-- THE SECOND FORM's CARD OF 'quinarialaw04.CastleLowered'. -/
def castleLoweredUptoCard : Claim7 := { stood := { row := castleLoweredUptoRow, standIns := [], harness := (true, "0817370c77ddbcab72987ba96892bfa7592336634a5fb1f509a46bd46417ab10"), looks := true }, kinds := [], alts := [], laidByText := true, laidKinds := [.data, .data, .data, .data, .pinned], laidTests := true, laidLooks := .later }
def CastleLoweredUptoCardSaid : Prop := Claim7.holds Tryz.pinned (.plain (OpenSpec.upto castleLoweredSpec)) castleLoweredUptoCard
end Rows
end Go.Proofs.YticlelgmmonloaaGreatDoor
