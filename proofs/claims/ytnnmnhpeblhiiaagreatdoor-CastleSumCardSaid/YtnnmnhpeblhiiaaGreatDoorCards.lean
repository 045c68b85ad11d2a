/-
  DERIVED. GIVEN WITH THE SEED: THE CARDS: each row of YtnnmnhpeblhiiaaGreatDoorRows.lean that lists a variable, with what it lists TIED to the program's text (the seventh form; the later family's looks); each row that meets fmt, with fmt's text TOLD by the authors' own Lean function (tested against real Go, not proved from fmt's source: count such statements apart). THE CARD IS WHAT COUNTS. Prove the row's statement (the work); the ties are given (YtnnmnhpeblhiiaaGreatDoorTie.lean); close each card by the builder's one call (the guide's Derived/Test/ToyasCard.lean, 'card_holds'). Laid BY PROGRAM, IN A SANDBOX (cutbox-door.mjs). By AI agents, Wed Nov 11 2026. No macro, syntax, notation, axiom, sorry.
-/
import Derived.Test.YtnnmnhpeblhiiaaGreatDoorRows
import GoSem.ClaimSeven
namespace Go.Proofs.YtnnmnhpeblhiiaaGreatDoor
namespace Rows

/-- THE TIED CARD OF 'quinarialaw04.CastleLesser'. -/
def castleLesserCard : Claim7 := { stood := { row := castleLesserRow, standIns := [], harness := (true, "941dfb556f4e727858f5e7ea5860020f457b703f2592620943cd057f79f48254"), looks := true }, kinds := [], alts := [], laidByText := true, laidKinds := [.data, .data, .data, .data, .pinned], laidTests := true, laidLooks := .later }
def CastleLesserCardSaid : Prop := Claim7.holds Tryz.pinned (.plain (OpenSpec.ofChange castleLesserSpec)) castleLesserCard

/-- THE TIED CARD OF 'quinarialaw04.CastleFound'. -/
def castleFoundCard : Claim7 := { stood := { row := castleFoundRow, standIns := [], harness := (true, "941dfb556f4e727858f5e7ea5860020f457b703f2592620943cd057f79f48254"), looks := true }, kinds := [], alts := [], laidByText := true, laidKinds := [.data, .data, .data, .data, .pinned], laidTests := true, laidLooks := .later }
def CastleFoundCardSaid : Prop := Claim7.holds Tryz.pinned (.plain (OpenSpec.ofChange castleFoundSpec)) castleFoundCard

/-- THE TIED CARD OF 'quinarialaw04.CastleSum'. -/
def castleSumCard : Claim7 := { stood := { row := castleSumRow, standIns := [], harness := (true, "941dfb556f4e727858f5e7ea5860020f457b703f2592620943cd057f79f48254"), looks := true }, kinds := [], alts := [], laidByText := true, laidKinds := [.data, .data, .data, .data, .pinned], laidTests := true, laidLooks := .later }
def CastleSumCardSaid : Prop := Claim7.holds Tryz.pinned (.plain (OpenSpec.ofChange castleSumSpec)) castleSumCard

/-- THE TIED CARD OF 'quinarialaw04.CastleLeasts'. -/
def castleLeastsCard : Claim7 := { stood := { row := castleLeastsRow, standIns := [], harness := (true, "941dfb556f4e727858f5e7ea5860020f457b703f2592620943cd057f79f48254"), looks := true }, kinds := [], alts := [], laidByText := true, laidKinds := [.data, .data, .data, .data, .pinned], laidTests := true, laidLooks := .later }
def CastleLeastsCardSaid : Prop := Claim7.holds Tryz.pinned (.plain (OpenSpec.ofChange castleLeastsSpec)) castleLeastsCard

/-- THE TIED CARD OF 'quinarialaw04.CastleEnough'. -/
def castleEnoughCard : Claim7 := { stood := { row := castleEnoughRow, standIns := [], harness := (true, "941dfb556f4e727858f5e7ea5860020f457b703f2592620943cd057f79f48254"), looks := true }, kinds := [], alts := [], laidByText := true, laidKinds := [.data, .data, .data, .data, .pinned], laidTests := true, laidLooks := .later }
def CastleEnoughCardSaid : Prop := Claim7.holds Tryz.pinned (.plain (OpenSpec.ofChange castleEnoughSpec)) castleEnoughCard

/-- THE TIED CARD OF 'quinarialaw04.CastleMore'. -/
def castleMoreCard : Claim7 := { stood := { row := castleMoreRow, standIns := [], harness := (true, "941dfb556f4e727858f5e7ea5860020f457b703f2592620943cd057f79f48254"), looks := true }, kinds := [], alts := [], laidByText := true, laidKinds := [.data, .data, .data, .data, .pinned], laidTests := true, laidLooks := .later }
def CastleMoreCardSaid : Prop := Claim7.holds Tryz.pinned (.plain (OpenSpec.ofChange castleMoreSpec)) castleMoreCard

/-- THE TIED CARD OF 'quinarialaw04.CastleOuts'. -/
def castleOutsCard : Claim7 := { stood := { row := castleOutsRow, standIns := [], harness := (true, "941dfb556f4e727858f5e7ea5860020f457b703f2592620943cd057f79f48254"), looks := true }, kinds := [], alts := [], laidByText := true, laidKinds := [.data, .data, .data, .data, .pinned], laidTests := true, laidLooks := .later }
def CastleOutsCardSaid : Prop := Claim7.holds Tryz.pinned (.plain (OpenSpec.ofChange castleOutsSpec)) castleOutsCard

/-- THE TIED CARD OF 'quinarialaw04.CastleChains'. -/
def castleChainsCard : Claim7 := { stood := { row := castleChainsRow, standIns := [], harness := (true, "941dfb556f4e727858f5e7ea5860020f457b703f2592620943cd057f79f48254"), looks := true }, kinds := [], alts := [], laidByText := true, laidKinds := [.data, .data, .data, .data, .pinned], laidTests := true, laidLooks := .later }
def CastleChainsCardSaid : Prop := Claim7.holds Tryz.pinned (.plain (OpenSpec.ofChange castleChainsSpec)) castleChainsCard

/-- THE TIED CARD OF 'quinarialaw04.CastlePrints'. -/
def castlePrintsCard : Claim7 := { stood := { row := castlePrintsRow, standIns := [], harness := (true, "941dfb556f4e727858f5e7ea5860020f457b703f2592620943cd057f79f48254"), looks := true }, kinds := [], alts := [], laidByText := true, laidKinds := [.data, .data, .data, .data, .pinned], laidTests := true, laidLooks := .later }
def CastlePrintsCardSaid : Prop := Claim7.holds Tryz.pinned (.plain (OpenSpec.ofChange castlePrintsSpec)) castlePrintsCard

/-- THE TIED CARD OF 'quinarialaw04.CastleReads'. -/
def castleReadsCard : Claim7 := { stood := { row := castleReadsRow, standIns := [], harness := (true, "941dfb556f4e727858f5e7ea5860020f457b703f2592620943cd057f79f48254"), looks := true }, kinds := [], alts := [], laidByText := true, laidKinds := [.data, .data, .data, .data, .pinned], laidTests := true, laidLooks := .later }
def CastleReadsCardSaid : Prop := Claim7.holds Tryz.pinned (.plain (OpenSpec.ofChange castleReadsSpec)) castleReadsCard

/-- THE TIED CARD OF 'quinarialaw04.CastleSpoilt'. -/
def castleSpoiltCard : Claim7 := { stood := { row := castleSpoiltRow, standIns := [], harness := (true, "941dfb556f4e727858f5e7ea5860020f457b703f2592620943cd057f79f48254"), looks := true }, kinds := [], alts := [], laidByText := true, laidKinds := [.data, .data, .data, .data, .pinned], laidTests := true, laidLooks := .later }
def CastleSpoiltCardSaid : Prop := Claim7.holds Tryz.pinned (.plain (OpenSpec.ofChange castleSpoiltSpec)) castleSpoiltCard

/-- THE SECOND FORM's CARD OF 'quinarialaw04.CastleLesser'. -/
def castleLesserUptoCard : Claim7 := { stood := { row := castleLesserUptoRow, standIns := [], harness := (true, "941dfb556f4e727858f5e7ea5860020f457b703f2592620943cd057f79f48254"), looks := true }, kinds := [], alts := [], laidByText := true, laidKinds := [.data, .data, .data, .data, .pinned], laidTests := true, laidLooks := .later }
def CastleLesserUptoCardSaid : Prop := Claim7.holds Tryz.pinned (.plain (OpenSpec.upto castleLesserSpec)) castleLesserUptoCard

/-- THE SECOND FORM's CARD OF 'quinarialaw04.CastleFound'. -/
def castleFoundUptoCard : Claim7 := { stood := { row := castleFoundUptoRow, standIns := [], harness := (true, "941dfb556f4e727858f5e7ea5860020f457b703f2592620943cd057f79f48254"), looks := true }, kinds := [], alts := [], laidByText := true, laidKinds := [.data, .data, .data, .data, .pinned], laidTests := true, laidLooks := .later }
def CastleFoundUptoCardSaid : Prop := Claim7.holds Tryz.pinned (.plain (OpenSpec.upto castleFoundSpec)) castleFoundUptoCard

/-- THE SECOND FORM's CARD OF 'quinarialaw04.CastleSum'. -/
def castleSumUptoCard : Claim7 := { stood := { row := castleSumUptoRow, standIns := [], harness := (true, "941dfb556f4e727858f5e7ea5860020f457b703f2592620943cd057f79f48254"), looks := true }, kinds := [], alts := [], laidByText := true, laidKinds := [.data, .data, .data, .data, .pinned], laidTests := true, laidLooks := .later }
def CastleSumUptoCardSaid : Prop := Claim7.holds Tryz.pinned (.plain (OpenSpec.upto castleSumSpec)) castleSumUptoCard

/-- THE SECOND FORM's CARD OF 'quinarialaw04.CastleLeasts'. -/
def castleLeastsUptoCard : Claim7 := { stood := { row := castleLeastsUptoRow, standIns := [], harness := (true, "941dfb556f4e727858f5e7ea5860020f457b703f2592620943cd057f79f48254"), looks := true }, kinds := [], alts := [], laidByText := true, laidKinds := [.data, .data, .data, .data, .pinned], laidTests := true, laidLooks := .later }
def CastleLeastsUptoCardSaid : Prop := Claim7.holds Tryz.pinned (.plain (OpenSpec.upto castleLeastsSpec)) castleLeastsUptoCard

/-- THE SECOND FORM's CARD OF 'quinarialaw04.CastleEnough'. -/
def castleEnoughUptoCard : Claim7 := { stood := { row := castleEnoughUptoRow, standIns := [], harness := (true, "941dfb556f4e727858f5e7ea5860020f457b703f2592620943cd057f79f48254"), looks := true }, kinds := [], alts := [], laidByText := true, laidKinds := [.data, .data, .data, .data, .pinned], laidTests := true, laidLooks := .later }
def CastleEnoughUptoCardSaid : Prop := Claim7.holds Tryz.pinned (.plain (OpenSpec.upto castleEnoughSpec)) castleEnoughUptoCard

/-- THE SECOND FORM's CARD OF 'quinarialaw04.CastleMore'. -/
def castleMoreUptoCard : Claim7 := { stood := { row := castleMoreUptoRow, standIns := [], harness := (true, "941dfb556f4e727858f5e7ea5860020f457b703f2592620943cd057f79f48254"), looks := true }, kinds := [], alts := [], laidByText := true, laidKinds := [.data, .data, .data, .data, .pinned], laidTests := true, laidLooks := .later }
def CastleMoreUptoCardSaid : Prop := Claim7.holds Tryz.pinned (.plain (OpenSpec.upto castleMoreSpec)) castleMoreUptoCard

/-- THE SECOND FORM's CARD OF 'quinarialaw04.CastleOuts'. -/
def castleOutsUptoCard : Claim7 := { stood := { row := castleOutsUptoRow, standIns := [], harness := (true, "941dfb556f4e727858f5e7ea5860020f457b703f2592620943cd057f79f48254"), looks := true }, kinds := [], alts := [], laidByText := true, laidKinds := [.data, .data, .data, .data, .pinned], laidTests := true, laidLooks := .later }
def CastleOutsUptoCardSaid : Prop := Claim7.holds Tryz.pinned (.plain (OpenSpec.upto castleOutsSpec)) castleOutsUptoCard

/-- THE SECOND FORM's CARD OF 'quinarialaw04.CastleChains'. -/
def castleChainsUptoCard : Claim7 := { stood := { row := castleChainsUptoRow, standIns := [], harness := (true, "941dfb556f4e727858f5e7ea5860020f457b703f2592620943cd057f79f48254"), looks := true }, kinds := [], alts := [], laidByText := true, laidKinds := [.data, .data, .data, .data, .pinned], laidTests := true, laidLooks := .later }
def CastleChainsUptoCardSaid : Prop := Claim7.holds Tryz.pinned (.plain (OpenSpec.upto castleChainsSpec)) castleChainsUptoCard

/-- THE SECOND FORM's CARD OF 'quinarialaw04.CastlePrints'. -/
def castlePrintsUptoCard : Claim7 := { stood := { row := castlePrintsUptoRow, standIns := [], harness := (true, "941dfb556f4e727858f5e7ea5860020f457b703f2592620943cd057f79f48254"), looks := true }, kinds := [], alts := [], laidByText := true, laidKinds := [.data, .data, .data, .data, .pinned], laidTests := true, laidLooks := .later }
def CastlePrintsUptoCardSaid : Prop := Claim7.holds Tryz.pinned (.plain (OpenSpec.upto castlePrintsSpec)) castlePrintsUptoCard

/-- THE SECOND FORM's CARD OF 'quinarialaw04.CastleReads'. -/
def castleReadsUptoCard : Claim7 := { stood := { row := castleReadsUptoRow, standIns := [], harness := (true, "941dfb556f4e727858f5e7ea5860020f457b703f2592620943cd057f79f48254"), looks := true }, kinds := [], alts := [], laidByText := true, laidKinds := [.data, .data, .data, .data, .pinned], laidTests := true, laidLooks := .later }
def CastleReadsUptoCardSaid : Prop := Claim7.holds Tryz.pinned (.plain (OpenSpec.upto castleReadsSpec)) castleReadsUptoCard

/-- THE SECOND FORM's CARD OF 'quinarialaw04.CastleSpoilt'. -/
def castleSpoiltUptoCard : Claim7 := { stood := { row := castleSpoiltUptoRow, standIns := [], harness := (true, "941dfb556f4e727858f5e7ea5860020f457b703f2592620943cd057f79f48254"), looks := true }, kinds := [], alts := [], laidByText := true, laidKinds := [.data, .data, .data, .data, .pinned], laidTests := true, laidLooks := .later }
def CastleSpoiltUptoCardSaid : Prop := Claim7.holds Tryz.pinned (.plain (OpenSpec.upto castleSpoiltSpec)) castleSpoiltUptoCard
end Rows
end Go.Proofs.YtnnmnhpeblhiiaaGreatDoor
