/-
  DERIVED. GIVEN WITH THE SEED: THE CARDS: each row of YtjghdbdiejaacaaGreatDoorRows.lean that lists a variable, with what it lists TIED to the program's text (the seventh form; the later family's looks); each row that meets fmt, with fmt's text TOLD by the authors' own Lean function (tested against real Go, not proved from fmt's source: count such statements apart). THE CARD IS WHAT COUNTS. Prove the row's statement (the work); the ties are given (YtjghdbdiejaacaaGreatDoorTie.lean); close each card by the builder's one call (the guide's Derived/Test/ToyasCard.lean, 'card_holds'). Laid BY PROGRAM, IN A SANDBOX (cutbox-door.mjs). By AI agents, Wed Nov 11 2026. No macro, syntax, notation, axiom, sorry.
-/
import Derived.Test.YtjghdbdiejaacaaGreatDoorRows
import GoSem.ClaimSeven
namespace Go.Proofs.YtjghdbdiejaacaaGreatDoor
namespace Rows

/-- THE TIED CARD OF 'kelirlaw03.NightChoices'. -/
def nightChoicesCard : Claim7 := { stood := { row := nightChoicesRow, standIns := [], harness := (true, "74a8139ff595d19f3c24d1c9decb52ccf53e191f25182bc469424f21afcee56c"), looks := true }, kinds := [], alts := [], laidByText := true, laidKinds := [.data, .data, .data, .data, .pinned], laidTests := true, laidLooks := .later }
def NightChoicesCardSaid : Prop := Claim7.holds Tryz.pinned (.plain (OpenSpec.ofChange nightChoicesSpec)) nightChoicesCard

/-- THE TIED CARD OF 'kelirlaw03.NightTimes'. -/
def nightTimesCard : Claim7 := { stood := { row := nightTimesRow, standIns := [], harness := (true, "74a8139ff595d19f3c24d1c9decb52ccf53e191f25182bc469424f21afcee56c"), looks := true }, kinds := [], alts := [], laidByText := true, laidKinds := [.data, .data, .data, .data, .pinned], laidTests := true, laidLooks := .later }
def NightTimesCardSaid : Prop := Claim7.holds Tryz.pinned (.plain (OpenSpec.ofChange nightTimesSpec)) nightTimesCard

/-- THE TIED CARD OF 'kelirlaw03.NightEnds'. -/
def nightEndsCard : Claim7 := { stood := { row := nightEndsRow, standIns := [], harness := (true, "74a8139ff595d19f3c24d1c9decb52ccf53e191f25182bc469424f21afcee56c"), looks := true }, kinds := [], alts := [], laidByText := true, laidKinds := [.data, .data, .data, .data, .pinned], laidTests := true, laidLooks := .later }
def NightEndsCardSaid : Prop := Claim7.holds Tryz.pinned (.plain (OpenSpec.ofChange nightEndsSpec)) nightEndsCard

/-- THE TIED CARD OF 'kelirlaw03.NightPlayed'. -/
def nightPlayedCard : Claim7 := { stood := { row := nightPlayedRow, standIns := [], harness := (true, "74a8139ff595d19f3c24d1c9decb52ccf53e191f25182bc469424f21afcee56c"), looks := true }, kinds := [], alts := [], laidByText := true, laidKinds := [.data, .data, .data, .data, .pinned], laidTests := true, laidLooks := .later }
def NightPlayedCardSaid : Prop := Claim7.holds Tryz.pinned (.plain (OpenSpec.ofChange nightPlayedSpec)) nightPlayedCard

/-- THE TIED CARD OF 'kelirlaw03.NightFails'. -/
def nightFailsCard : Claim7 := { stood := { row := nightFailsRow, standIns := [], harness := (true, "74a8139ff595d19f3c24d1c9decb52ccf53e191f25182bc469424f21afcee56c"), looks := true }, kinds := [], alts := [], laidByText := true, laidKinds := [.data, .data, .data, .data, .pinned], laidTests := true, laidLooks := .later }
def NightFailsCardSaid : Prop := Claim7.holds Tryz.pinned (.plain (OpenSpec.ofChange nightFailsSpec)) nightFailsCard

/-- THE TIED CARD OF 'kelirlaw03.NightPrints'. -/
def nightPrintsCard : Claim7 := { stood := { row := nightPrintsRow, standIns := [], harness := (true, "74a8139ff595d19f3c24d1c9decb52ccf53e191f25182bc469424f21afcee56c"), looks := true }, kinds := [], alts := [], laidByText := true, laidKinds := [.data, .data, .data, .data, .pinned], laidTests := true, laidLooks := .later }
def NightPrintsCardSaid : Prop := Claim7.holds Tryz.pinned (.plain (OpenSpec.ofChange nightPrintsSpec)) nightPrintsCard

/-- THE TIED CARD OF 'kelirlaw03.NightReads'. -/
def nightReadsCard : Claim7 := { stood := { row := nightReadsRow, standIns := [], harness := (true, "74a8139ff595d19f3c24d1c9decb52ccf53e191f25182bc469424f21afcee56c"), looks := true }, kinds := [], alts := [], laidByText := true, laidKinds := [.data, .data, .data, .data, .pinned], laidTests := true, laidLooks := .later }
def NightReadsCardSaid : Prop := Claim7.holds Tryz.pinned (.plain (OpenSpec.ofChange nightReadsSpec)) nightReadsCard

/-- THE TIED CARD OF 'kelirlaw03.NightSpoilt'. -/
def nightSpoiltCard : Claim7 := { stood := { row := nightSpoiltRow, standIns := [], harness := (true, "74a8139ff595d19f3c24d1c9decb52ccf53e191f25182bc469424f21afcee56c"), looks := true }, kinds := [], alts := [], laidByText := true, laidKinds := [.data, .data, .data, .data, .pinned], laidTests := true, laidLooks := .later }
def NightSpoiltCardSaid : Prop := Claim7.holds Tryz.pinned (.plain (OpenSpec.ofChange nightSpoiltSpec)) nightSpoiltCard

/-- THE TIED CARD OF 'kelirlaw03.NightMore'. -/
def nightMoreCard : Claim7 := { stood := { row := nightMoreRow, standIns := [], harness := (true, "74a8139ff595d19f3c24d1c9decb52ccf53e191f25182bc469424f21afcee56c"), looks := true }, kinds := [], alts := [], laidByText := true, laidKinds := [.data, .data, .data, .data, .pinned], laidTests := true, laidLooks := .later }
def NightMoreCardSaid : Prop := Claim7.holds Tryz.pinned (.plain (OpenSpec.ofChange nightMoreSpec)) nightMoreCard

/-- THE TIED CARD OF 'kelirlaw03.NightWithin'. -/
def nightWithinCard : Claim7 := { stood := { row := nightWithinRow, standIns := [], harness := (true, "74a8139ff595d19f3c24d1c9decb52ccf53e191f25182bc469424f21afcee56c"), looks := true }, kinds := [], alts := [], laidByText := true, laidKinds := [.data, .data, .data, .data, .pinned], laidTests := true, laidLooks := .later }
def NightWithinCardSaid : Prop := Claim7.holds Tryz.pinned (.plain (OpenSpec.ofChange nightWithinSpec)) nightWithinCard

/-- THE TIED CARD OF 'kelirlaw03.NightBest'. -/
def nightBestCard : Claim7 := { stood := { row := nightBestRow, standIns := [], harness := (true, "74a8139ff595d19f3c24d1c9decb52ccf53e191f25182bc469424f21afcee56c"), looks := true }, kinds := [], alts := [], laidByText := true, laidKinds := [.data, .data, .data, .data, .pinned], laidTests := true, laidLooks := .later }
def NightBestCardSaid : Prop := Claim7.holds Tryz.pinned (.plain (OpenSpec.ofChange nightBestSpec)) nightBestCard

/-- THE TIED CARD OF 'kelirlaw03.NightProof'. -/
def nightProofCard : Claim7 := { stood := { row := nightProofRow, standIns := [], harness := (true, "74a8139ff595d19f3c24d1c9decb52ccf53e191f25182bc469424f21afcee56c"), looks := true }, kinds := [], alts := [], laidByText := true, laidKinds := [.data, .data, .data, .data, .pinned], laidTests := true, laidLooks := .later }
def NightProofCardSaid : Prop := Claim7.holds Tryz.pinned (.plain (OpenSpec.ofChange nightProofSpec)) nightProofCard

/-- THE TIED CARD OF 'kelirlaw03.NightSures'. -/
def nightSuresCard : Claim7 := { stood := { row := nightSuresRow, standIns := [], harness := (true, "74a8139ff595d19f3c24d1c9decb52ccf53e191f25182bc469424f21afcee56c"), looks := true }, kinds := [], alts := [], laidByText := true, laidKinds := [.data, .data, .data, .data, .pinned], laidTests := true, laidLooks := .later }
def NightSuresCardSaid : Prop := Claim7.holds Tryz.pinned (.plain (OpenSpec.ofChange nightSuresSpec)) nightSuresCard

/-- THE TIED CARD OF 'kelirlaw03.NightLongers'. -/
def nightLongersCard : Claim7 := { stood := { row := nightLongersRow, standIns := [], harness := (true, "74a8139ff595d19f3c24d1c9decb52ccf53e191f25182bc469424f21afcee56c"), looks := true }, kinds := [], alts := [], laidByText := true, laidKinds := [.data, .data, .data, .data, .pinned], laidTests := true, laidLooks := .later }
def NightLongersCardSaid : Prop := Claim7.holds Tryz.pinned (.plain (OpenSpec.ofChange nightLongersSpec)) nightLongersCard

/-- THE TIED CARD OF 'kelirlaw03.NightEnough'. -/
def nightEnoughCard : Claim7 := { stood := { row := nightEnoughRow, standIns := [], harness := (true, "74a8139ff595d19f3c24d1c9decb52ccf53e191f25182bc469424f21afcee56c"), looks := true }, kinds := [], alts := [], laidByText := true, laidKinds := [.data, .data, .data, .data, .pinned], laidTests := true, laidLooks := .later }
def NightEnoughCardSaid : Prop := Claim7.holds Tryz.pinned (.plain (OpenSpec.ofChange nightEnoughSpec)) nightEnoughCard

/-- THE TIED CARD OF 'kelirlaw03.NightFits'. -/
def nightFitsCard : Claim7 := { stood := { row := nightFitsRow, standIns := [], harness := (true, "74a8139ff595d19f3c24d1c9decb52ccf53e191f25182bc469424f21afcee56c"), looks := true }, kinds := [], alts := [], laidByText := true, laidKinds := [.data, .data, .data, .data, .pinned], laidTests := true, laidLooks := .later }
def NightFitsCardSaid : Prop := Claim7.holds Tryz.pinned (.plain (OpenSpec.ofChange nightFitsSpec)) nightFitsCard

/-- THE TIED CARD OF 'kelirlaw03.NightStars'. -/
def nightStarsCard : Claim7 := { stood := { row := nightStarsRow, standIns := [], harness := (true, "74a8139ff595d19f3c24d1c9decb52ccf53e191f25182bc469424f21afcee56c"), looks := true }, kinds := [], alts := [], laidByText := true, laidKinds := [.data, .data, .data, .data, .pinned], laidTests := true, laidLooks := .later }
def NightStarsCardSaid : Prop := Claim7.holds Tryz.pinned (.plain (OpenSpec.ofChange nightStarsSpec)) nightStarsCard

/-- THE SECOND FORM's CARD OF 'kelirlaw03.NightChoices'. -/
def nightChoicesUptoCard : Claim7 := { stood := { row := nightChoicesUptoRow, standIns := [], harness := (true, "74a8139ff595d19f3c24d1c9decb52ccf53e191f25182bc469424f21afcee56c"), looks := true }, kinds := [], alts := [], laidByText := true, laidKinds := [.data, .data, .data, .data, .pinned], laidTests := true, laidLooks := .later }
def NightChoicesUptoCardSaid : Prop := Claim7.holds Tryz.pinned (.plain (OpenSpec.upto nightChoicesSpec)) nightChoicesUptoCard

/-- THE SECOND FORM's CARD OF 'kelirlaw03.NightTimes'. -/
def nightTimesUptoCard : Claim7 := { stood := { row := nightTimesUptoRow, standIns := [], harness := (true, "74a8139ff595d19f3c24d1c9decb52ccf53e191f25182bc469424f21afcee56c"), looks := true }, kinds := [], alts := [], laidByText := true, laidKinds := [.data, .data, .data, .data, .pinned], laidTests := true, laidLooks := .later }
def NightTimesUptoCardSaid : Prop := Claim7.holds Tryz.pinned (.plain (OpenSpec.upto nightTimesSpec)) nightTimesUptoCard

/-- THE SECOND FORM's CARD OF 'kelirlaw03.NightEnds'. -/
def nightEndsUptoCard : Claim7 := { stood := { row := nightEndsUptoRow, standIns := [], harness := (true, "74a8139ff595d19f3c24d1c9decb52ccf53e191f25182bc469424f21afcee56c"), looks := true }, kinds := [], alts := [], laidByText := true, laidKinds := [.data, .data, .data, .data, .pinned], laidTests := true, laidLooks := .later }
def NightEndsUptoCardSaid : Prop := Claim7.holds Tryz.pinned (.plain (OpenSpec.upto nightEndsSpec)) nightEndsUptoCard

/-- THE SECOND FORM's CARD OF 'kelirlaw03.NightPlayed'. -/
def nightPlayedUptoCard : Claim7 := { stood := { row := nightPlayedUptoRow, standIns := [], harness := (true, "74a8139ff595d19f3c24d1c9decb52ccf53e191f25182bc469424f21afcee56c"), looks := true }, kinds := [], alts := [], laidByText := true, laidKinds := [.data, .data, .data, .data, .pinned], laidTests := true, laidLooks := .later }
def NightPlayedUptoCardSaid : Prop := Claim7.holds Tryz.pinned (.plain (OpenSpec.upto nightPlayedSpec)) nightPlayedUptoCard

/-- THE SECOND FORM's CARD OF 'kelirlaw03.NightFails'. -/
def nightFailsUptoCard : Claim7 := { stood := { row := nightFailsUptoRow, standIns := [], harness := (true, "74a8139ff595d19f3c24d1c9decb52ccf53e191f25182bc469424f21afcee56c"), looks := true }, kinds := [], alts := [], laidByText := true, laidKinds := [.data, .data, .data, .data, .pinned], laidTests := true, laidLooks := .later }
def NightFailsUptoCardSaid : Prop := Claim7.holds Tryz.pinned (.plain (OpenSpec.upto nightFailsSpec)) nightFailsUptoCard

/-- THE SECOND FORM's CARD OF 'kelirlaw03.NightPrints'. -/
def nightPrintsUptoCard : Claim7 := { stood := { row := nightPrintsUptoRow, standIns := [], harness := (true, "74a8139ff595d19f3c24d1c9decb52ccf53e191f25182bc469424f21afcee56c"), looks := true }, kinds := [], alts := [], laidByText := true, laidKinds := [.data, .data, .data, .data, .pinned], laidTests := true, laidLooks := .later }
def NightPrintsUptoCardSaid : Prop := Claim7.holds Tryz.pinned (.plain (OpenSpec.upto nightPrintsSpec)) nightPrintsUptoCard

/-- THE SECOND FORM's CARD OF 'kelirlaw03.NightReads'. -/
def nightReadsUptoCard : Claim7 := { stood := { row := nightReadsUptoRow, standIns := [], harness := (true, "74a8139ff595d19f3c24d1c9decb52ccf53e191f25182bc469424f21afcee56c"), looks := true }, kinds := [], alts := [], laidByText := true, laidKinds := [.data, .data, .data, .data, .pinned], laidTests := true, laidLooks := .later }
def NightReadsUptoCardSaid : Prop := Claim7.holds Tryz.pinned (.plain (OpenSpec.upto nightReadsSpec)) nightReadsUptoCard

/-- THE SECOND FORM's CARD OF 'kelirlaw03.NightSpoilt'. -/
def nightSpoiltUptoCard : Claim7 := { stood := { row := nightSpoiltUptoRow, standIns := [], harness := (true, "74a8139ff595d19f3c24d1c9decb52ccf53e191f25182bc469424f21afcee56c"), looks := true }, kinds := [], alts := [], laidByText := true, laidKinds := [.data, .data, .data, .data, .pinned], laidTests := true, laidLooks := .later }
def NightSpoiltUptoCardSaid : Prop := Claim7.holds Tryz.pinned (.plain (OpenSpec.upto nightSpoiltSpec)) nightSpoiltUptoCard

/-- THE SECOND FORM's CARD OF 'kelirlaw03.NightMore'. -/
def nightMoreUptoCard : Claim7 := { stood := { row := nightMoreUptoRow, standIns := [], harness := (true, "74a8139ff595d19f3c24d1c9decb52ccf53e191f25182bc469424f21afcee56c"), looks := true }, kinds := [], alts := [], laidByText := true, laidKinds := [.data, .data, .data, .data, .pinned], laidTests := true, laidLooks := .later }
def NightMoreUptoCardSaid : Prop := Claim7.holds Tryz.pinned (.plain (OpenSpec.upto nightMoreSpec)) nightMoreUptoCard

/-- THE SECOND FORM's CARD OF 'kelirlaw03.NightWithin'. -/
def nightWithinUptoCard : Claim7 := { stood := { row := nightWithinUptoRow, standIns := [], harness := (true, "74a8139ff595d19f3c24d1c9decb52ccf53e191f25182bc469424f21afcee56c"), looks := true }, kinds := [], alts := [], laidByText := true, laidKinds := [.data, .data, .data, .data, .pinned], laidTests := true, laidLooks := .later }
def NightWithinUptoCardSaid : Prop := Claim7.holds Tryz.pinned (.plain (OpenSpec.upto nightWithinSpec)) nightWithinUptoCard

/-- THE SECOND FORM's CARD OF 'kelirlaw03.NightBest'. -/
def nightBestUptoCard : Claim7 := { stood := { row := nightBestUptoRow, standIns := [], harness := (true, "74a8139ff595d19f3c24d1c9decb52ccf53e191f25182bc469424f21afcee56c"), looks := true }, kinds := [], alts := [], laidByText := true, laidKinds := [.data, .data, .data, .data, .pinned], laidTests := true, laidLooks := .later }
def NightBestUptoCardSaid : Prop := Claim7.holds Tryz.pinned (.plain (OpenSpec.upto nightBestSpec)) nightBestUptoCard

/-- THE SECOND FORM's CARD OF 'kelirlaw03.NightProof'. -/
def nightProofUptoCard : Claim7 := { stood := { row := nightProofUptoRow, standIns := [], harness := (true, "74a8139ff595d19f3c24d1c9decb52ccf53e191f25182bc469424f21afcee56c"), looks := true }, kinds := [], alts := [], laidByText := true, laidKinds := [.data, .data, .data, .data, .pinned], laidTests := true, laidLooks := .later }
def NightProofUptoCardSaid : Prop := Claim7.holds Tryz.pinned (.plain (OpenSpec.upto nightProofSpec)) nightProofUptoCard

/-- THE SECOND FORM's CARD OF 'kelirlaw03.NightSures'. -/
def nightSuresUptoCard : Claim7 := { stood := { row := nightSuresUptoRow, standIns := [], harness := (true, "74a8139ff595d19f3c24d1c9decb52ccf53e191f25182bc469424f21afcee56c"), looks := true }, kinds := [], alts := [], laidByText := true, laidKinds := [.data, .data, .data, .data, .pinned], laidTests := true, laidLooks := .later }
def NightSuresUptoCardSaid : Prop := Claim7.holds Tryz.pinned (.plain (OpenSpec.upto nightSuresSpec)) nightSuresUptoCard

/-- THE SECOND FORM's CARD OF 'kelirlaw03.NightLongers'. -/
def nightLongersUptoCard : Claim7 := { stood := { row := nightLongersUptoRow, standIns := [], harness := (true, "74a8139ff595d19f3c24d1c9decb52ccf53e191f25182bc469424f21afcee56c"), looks := true }, kinds := [], alts := [], laidByText := true, laidKinds := [.data, .data, .data, .data, .pinned], laidTests := true, laidLooks := .later }
def NightLongersUptoCardSaid : Prop := Claim7.holds Tryz.pinned (.plain (OpenSpec.upto nightLongersSpec)) nightLongersUptoCard

/-- THE SECOND FORM's CARD OF 'kelirlaw03.NightEnough'. -/
def nightEnoughUptoCard : Claim7 := { stood := { row := nightEnoughUptoRow, standIns := [], harness := (true, "74a8139ff595d19f3c24d1c9decb52ccf53e191f25182bc469424f21afcee56c"), looks := true }, kinds := [], alts := [], laidByText := true, laidKinds := [.data, .data, .data, .data, .pinned], laidTests := true, laidLooks := .later }
def NightEnoughUptoCardSaid : Prop := Claim7.holds Tryz.pinned (.plain (OpenSpec.upto nightEnoughSpec)) nightEnoughUptoCard

/-- THE SECOND FORM's CARD OF 'kelirlaw03.NightFits'. -/
def nightFitsUptoCard : Claim7 := { stood := { row := nightFitsUptoRow, standIns := [], harness := (true, "74a8139ff595d19f3c24d1c9decb52ccf53e191f25182bc469424f21afcee56c"), looks := true }, kinds := [], alts := [], laidByText := true, laidKinds := [.data, .data, .data, .data, .pinned], laidTests := true, laidLooks := .later }
def NightFitsUptoCardSaid : Prop := Claim7.holds Tryz.pinned (.plain (OpenSpec.upto nightFitsSpec)) nightFitsUptoCard

/-- THE SECOND FORM's CARD OF 'kelirlaw03.NightStars'. -/
def nightStarsUptoCard : Claim7 := { stood := { row := nightStarsUptoRow, standIns := [], harness := (true, "74a8139ff595d19f3c24d1c9decb52ccf53e191f25182bc469424f21afcee56c"), looks := true }, kinds := [], alts := [], laidByText := true, laidKinds := [.data, .data, .data, .data, .pinned], laidTests := true, laidLooks := .later }
def NightStarsUptoCardSaid : Prop := Claim7.holds Tryz.pinned (.plain (OpenSpec.upto nightStarsSpec)) nightStarsUptoCard
end Rows
end Go.Proofs.YtjghdbdiejaacaaGreatDoor
