/-
  DERIVED. GIVEN WITH THE SEED: THE CARDS: each row of YtfmpabgblbbcdaaGreatDoorRows.lean that lists a variable, with what it lists TIED to the program's text (the seventh form; the later family's looks); each row that meets fmt, with fmt's text TOLD by the authors' own Lean function (tested against real Go, not proved from fmt's source: count such statements apart). THE CARD IS WHAT COUNTS. Prove the row's statement (the work); the ties are given (YtfmpabgblbbcdaaGreatDoorTie.lean); close each card by the builder's one call (the guide's Derived/Test/ToyasCard.lean, 'card_holds'). Laid BY PROGRAM, IN A SANDBOX (cutbox-door.mjs). By AI agents, Wed Nov 11 2026. No macro, syntax, notation, axiom, sorry.
-/
import Derived.Test.YtfmpabgblbbcdaaGreatDoorRows
import GoSem.ClaimSeven
namespace Go.Proofs.YtfmpabgblbbcdaaGreatDoor
namespace Rows

/-- THE TIED CARD OF 'kelirlaw05.StemFails'. -/
def stemFailsCard : Claim7 := { stood := { row := stemFailsRow, standIns := [], harness := (true, "f347a99ef07297f450240669f03e914035bf3bb3ba3cc0d5a8e1310068d9aca6"), looks := true }, kinds := [], alts := [], laidByText := true, laidKinds := [.data, .data, .data, .data, .pinned], laidTests := true, laidLooks := .later }
def StemFailsCardSaid : Prop := Claim7.holds Tryz.pinned (.plain (OpenSpec.ofChange stemFailsSpec)) stemFailsCard

/-- THE TIED CARD OF 'kelirlaw05.StemWheres'. -/
def stemWheresCard : Claim7 := { stood := { row := stemWheresRow, standIns := [], harness := (true, "f347a99ef07297f450240669f03e914035bf3bb3ba3cc0d5a8e1310068d9aca6"), looks := true }, kinds := [], alts := [], laidByText := true, laidKinds := [.data, .data, .data, .data, .pinned], laidTests := true, laidLooks := .later }
def StemWheresCardSaid : Prop := Claim7.holds Tryz.pinned (.plain (OpenSpec.ofChange stemWheresSpec)) stemWheresCard

/-- THE TIED CARD OF 'kelirlaw05.StemAdds'. -/
def stemAddsCard : Claim7 := { stood := { row := stemAddsRow, standIns := [], harness := (true, "f347a99ef07297f450240669f03e914035bf3bb3ba3cc0d5a8e1310068d9aca6"), looks := true }, kinds := [], alts := [], laidByText := true, laidKinds := [.data, .data, .data, .data, .pinned], laidTests := true, laidLooks := .later }
def StemAddsCardSaid : Prop := Claim7.holds Tryz.pinned (.plain (OpenSpec.ofChange stemAddsSpec)) stemAddsCard

/-- THE TIED CARD OF 'kelirlaw05.StemLowers'. -/
def stemLowersCard : Claim7 := { stood := { row := stemLowersRow, standIns := [], harness := (true, "f347a99ef07297f450240669f03e914035bf3bb3ba3cc0d5a8e1310068d9aca6"), looks := true }, kinds := [], alts := [], laidByText := true, laidKinds := [.data, .data, .data, .data, .pinned], laidTests := true, laidLooks := .later }
def StemLowersCardSaid : Prop := Claim7.holds Tryz.pinned (.plain (OpenSpec.ofChange stemLowersSpec)) stemLowersCard

/-- THE TIED CARD OF 'kelirlaw05.StemLeft'. -/
def stemLeftCard : Claim7 := { stood := { row := stemLeftRow, standIns := [], harness := (true, "f347a99ef07297f450240669f03e914035bf3bb3ba3cc0d5a8e1310068d9aca6"), looks := true }, kinds := [], alts := [], laidByText := true, laidKinds := [.data, .data, .data, .data, .pinned], laidTests := true, laidLooks := .later }
def StemLeftCardSaid : Prop := Claim7.holds Tryz.pinned (.plain (OpenSpec.ofChange stemLeftSpec)) stemLeftCard

/-- THE TIED CARD OF 'kelirlaw05.StemCounts'. -/
def stemCountsCard : Claim7 := { stood := { row := stemCountsRow, standIns := [], harness := (true, "f347a99ef07297f450240669f03e914035bf3bb3ba3cc0d5a8e1310068d9aca6"), looks := true }, kinds := [], alts := [], laidByText := true, laidKinds := [.data, .data, .data, .data, .pinned], laidTests := true, laidLooks := .later }
def StemCountsCardSaid : Prop := Claim7.holds Tryz.pinned (.plain (OpenSpec.ofChange stemCountsSpec)) stemCountsCard

/-- THE TIED CARD OF 'kelirlaw05.StemAdded'. -/
def stemAddedCard : Claim7 := { stood := { row := stemAddedRow, standIns := [], harness := (true, "f347a99ef07297f450240669f03e914035bf3bb3ba3cc0d5a8e1310068d9aca6"), looks := true }, kinds := [], alts := [], laidByText := true, laidKinds := [.data, .data, .data, .data, .pinned], laidTests := true, laidLooks := .later }
def StemAddedCardSaid : Prop := Claim7.holds Tryz.pinned (.plain (OpenSpec.ofChange stemAddedSpec)) stemAddedCard

/-- THE TIED CARD OF 'kelirlaw05.StemPrints'. -/
def stemPrintsCard : Claim7 := { stood := { row := stemPrintsRow, standIns := [], harness := (true, "f347a99ef07297f450240669f03e914035bf3bb3ba3cc0d5a8e1310068d9aca6"), looks := true }, kinds := [], alts := [], laidByText := true, laidKinds := [.data, .data, .data, .data, .pinned], laidTests := true, laidLooks := .later }
def StemPrintsCardSaid : Prop := Claim7.holds Tryz.pinned (.plain (OpenSpec.ofChange stemPrintsSpec)) stemPrintsCard

/-- THE TIED CARD OF 'kelirlaw05.StemReads'. -/
def stemReadsCard : Claim7 := { stood := { row := stemReadsRow, standIns := [], harness := (true, "f347a99ef07297f450240669f03e914035bf3bb3ba3cc0d5a8e1310068d9aca6"), looks := true }, kinds := [], alts := [], laidByText := true, laidKinds := [.data, .data, .data, .data, .pinned], laidTests := true, laidLooks := .later }
def StemReadsCardSaid : Prop := Claim7.holds Tryz.pinned (.plain (OpenSpec.ofChange stemReadsSpec)) stemReadsCard

/-- THE TIED CARD OF 'kelirlaw05.StemSpoilt'. -/
def stemSpoiltCard : Claim7 := { stood := { row := stemSpoiltRow, standIns := [], harness := (true, "f347a99ef07297f450240669f03e914035bf3bb3ba3cc0d5a8e1310068d9aca6"), looks := true }, kinds := [], alts := [], laidByText := true, laidKinds := [.data, .data, .data, .data, .pinned], laidTests := true, laidLooks := .later }
def StemSpoiltCardSaid : Prop := Claim7.holds Tryz.pinned (.plain (OpenSpec.ofChange stemSpoiltSpec)) stemSpoiltCard

/-- THE TIED CARD OF 'kelirlaw05.StemNamed'. -/
def stemNamedCard : Claim7 := { stood := { row := stemNamedRow, standIns := [], harness := (true, "f347a99ef07297f450240669f03e914035bf3bb3ba3cc0d5a8e1310068d9aca6"), looks := true }, kinds := [], alts := [], laidByText := true, laidKinds := [.data, .data, .data, .data, .pinned], laidTests := true, laidLooks := .later }
def StemNamedCardSaid : Prop := Claim7.holds Tryz.pinned (.plain (OpenSpec.ofChange stemNamedSpec)) stemNamedCard

/-- THE TIED CARD OF 'kelirlaw05.StemMore'. -/
def stemMoreCard : Claim7 := { stood := { row := stemMoreRow, standIns := [], harness := (true, "f347a99ef07297f450240669f03e914035bf3bb3ba3cc0d5a8e1310068d9aca6"), looks := true }, kinds := [], alts := [], laidByText := true, laidKinds := [.data, .data, .data, .data, .pinned], laidTests := true, laidLooks := .later }
def StemMoreCardSaid : Prop := Claim7.holds Tryz.pinned (.plain (OpenSpec.ofChange stemMoreSpec)) stemMoreCard

/-- THE TIED CARD OF 'kelirlaw05.StemPlans'. -/
def stemPlansCard : Claim7 := { stood := { row := stemPlansRow, standIns := [], harness := (true, "f347a99ef07297f450240669f03e914035bf3bb3ba3cc0d5a8e1310068d9aca6"), looks := true }, kinds := [], alts := [], laidByText := true, laidKinds := [.data, .data, .data, .data, .pinned], laidTests := true, laidLooks := .later }
def StemPlansCardSaid : Prop := Claim7.holds Tryz.pinned (.plain (OpenSpec.ofChange stemPlansSpec)) stemPlansCard

/-- THE TIED CARD OF 'kelirlaw05.StemFewest'. -/
def stemFewestCard : Claim7 := { stood := { row := stemFewestRow, standIns := [], harness := (true, "f347a99ef07297f450240669f03e914035bf3bb3ba3cc0d5a8e1310068d9aca6"), looks := true }, kinds := [], alts := [], laidByText := true, laidKinds := [.data, .data, .data, .data, .pinned], laidTests := true, laidLooks := .later }
def StemFewestCardSaid : Prop := Claim7.holds Tryz.pinned (.plain (OpenSpec.ofChange stemFewestSpec)) stemFewestCard

/-- THE TIED CARD OF 'kelirlaw05.StemRests'. -/
def stemRestsCard : Claim7 := { stood := { row := stemRestsRow, standIns := [], harness := (true, "f347a99ef07297f450240669f03e914035bf3bb3ba3cc0d5a8e1310068d9aca6"), looks := true }, kinds := [], alts := [], laidByText := true, laidKinds := [.data, .data, .data, .data, .pinned], laidTests := true, laidLooks := .later }
def StemRestsCardSaid : Prop := Claim7.holds Tryz.pinned (.plain (OpenSpec.ofChange stemRestsSpec)) stemRestsCard

/-- THE TIED CARD OF 'kelirlaw05.StemFirst'. -/
def stemFirstCard : Claim7 := { stood := { row := stemFirstRow, standIns := [], harness := (true, "f347a99ef07297f450240669f03e914035bf3bb3ba3cc0d5a8e1310068d9aca6"), looks := true }, kinds := [], alts := [], laidByText := true, laidKinds := [.data, .data, .data, .data, .pinned], laidTests := true, laidLooks := .later }
def StemFirstCardSaid : Prop := Claim7.holds Tryz.pinned (.plain (OpenSpec.ofChange stemFirstSpec)) stemFirstCard

/-- THE SECOND FORM's CARD OF 'kelirlaw05.StemFails'. -/
def stemFailsUptoCard : Claim7 := { stood := { row := stemFailsUptoRow, standIns := [], harness := (true, "f347a99ef07297f450240669f03e914035bf3bb3ba3cc0d5a8e1310068d9aca6"), looks := true }, kinds := [], alts := [], laidByText := true, laidKinds := [.data, .data, .data, .data, .pinned], laidTests := true, laidLooks := .later }
def StemFailsUptoCardSaid : Prop := Claim7.holds Tryz.pinned (.plain (OpenSpec.upto stemFailsSpec)) stemFailsUptoCard

/-- THE SECOND FORM's CARD OF 'kelirlaw05.StemWheres'. -/
def stemWheresUptoCard : Claim7 := { stood := { row := stemWheresUptoRow, standIns := [], harness := (true, "f347a99ef07297f450240669f03e914035bf3bb3ba3cc0d5a8e1310068d9aca6"), looks := true }, kinds := [], alts := [], laidByText := true, laidKinds := [.data, .data, .data, .data, .pinned], laidTests := true, laidLooks := .later }
def StemWheresUptoCardSaid : Prop := Claim7.holds Tryz.pinned (.plain (OpenSpec.upto stemWheresSpec)) stemWheresUptoCard

/-- THE SECOND FORM's CARD OF 'kelirlaw05.StemAdds'. -/
def stemAddsUptoCard : Claim7 := { stood := { row := stemAddsUptoRow, standIns := [], harness := (true, "f347a99ef07297f450240669f03e914035bf3bb3ba3cc0d5a8e1310068d9aca6"), looks := true }, kinds := [], alts := [], laidByText := true, laidKinds := [.data, .data, .data, .data, .pinned], laidTests := true, laidLooks := .later }
def StemAddsUptoCardSaid : Prop := Claim7.holds Tryz.pinned (.plain (OpenSpec.upto stemAddsSpec)) stemAddsUptoCard

/-- THE SECOND FORM's CARD OF 'kelirlaw05.StemLowers'. -/
def stemLowersUptoCard : Claim7 := { stood := { row := stemLowersUptoRow, standIns := [], harness := (true, "f347a99ef07297f450240669f03e914035bf3bb3ba3cc0d5a8e1310068d9aca6"), looks := true }, kinds := [], alts := [], laidByText := true, laidKinds := [.data, .data, .data, .data, .pinned], laidTests := true, laidLooks := .later }
def StemLowersUptoCardSaid : Prop := Claim7.holds Tryz.pinned (.plain (OpenSpec.upto stemLowersSpec)) stemLowersUptoCard

/-- THE SECOND FORM's CARD OF 'kelirlaw05.StemLeft'. -/
def stemLeftUptoCard : Claim7 := { stood := { row := stemLeftUptoRow, standIns := [], harness := (true, "f347a99ef07297f450240669f03e914035bf3bb3ba3cc0d5a8e1310068d9aca6"), looks := true }, kinds := [], alts := [], laidByText := true, laidKinds := [.data, .data, .data, .data, .pinned], laidTests := true, laidLooks := .later }
def StemLeftUptoCardSaid : Prop := Claim7.holds Tryz.pinned (.plain (OpenSpec.upto stemLeftSpec)) stemLeftUptoCard

/-- THE SECOND FORM's CARD OF 'kelirlaw05.StemCounts'. -/
def stemCountsUptoCard : Claim7 := { stood := { row := stemCountsUptoRow, standIns := [], harness := (true, "f347a99ef07297f450240669f03e914035bf3bb3ba3cc0d5a8e1310068d9aca6"), looks := true }, kinds := [], alts := [], laidByText := true, laidKinds := [.data, .data, .data, .data, .pinned], laidTests := true, laidLooks := .later }
def StemCountsUptoCardSaid : Prop := Claim7.holds Tryz.pinned (.plain (OpenSpec.upto stemCountsSpec)) stemCountsUptoCard

/-- THE SECOND FORM's CARD OF 'kelirlaw05.StemAdded'. -/
def stemAddedUptoCard : Claim7 := { stood := { row := stemAddedUptoRow, standIns := [], harness := (true, "f347a99ef07297f450240669f03e914035bf3bb3ba3cc0d5a8e1310068d9aca6"), looks := true }, kinds := [], alts := [], laidByText := true, laidKinds := [.data, .data, .data, .data, .pinned], laidTests := true, laidLooks := .later }
def StemAddedUptoCardSaid : Prop := Claim7.holds Tryz.pinned (.plain (OpenSpec.upto stemAddedSpec)) stemAddedUptoCard

/-- THE SECOND FORM's CARD OF 'kelirlaw05.StemPrints'. -/
def stemPrintsUptoCard : Claim7 := { stood := { row := stemPrintsUptoRow, standIns := [], harness := (true, "f347a99ef07297f450240669f03e914035bf3bb3ba3cc0d5a8e1310068d9aca6"), looks := true }, kinds := [], alts := [], laidByText := true, laidKinds := [.data, .data, .data, .data, .pinned], laidTests := true, laidLooks := .later }
def StemPrintsUptoCardSaid : Prop := Claim7.holds Tryz.pinned (.plain (OpenSpec.upto stemPrintsSpec)) stemPrintsUptoCard

/-- THE SECOND FORM's CARD OF 'kelirlaw05.StemReads'. -/
def stemReadsUptoCard : Claim7 := { stood := { row := stemReadsUptoRow, standIns := [], harness := (true, "f347a99ef07297f450240669f03e914035bf3bb3ba3cc0d5a8e1310068d9aca6"), looks := true }, kinds := [], alts := [], laidByText := true, laidKinds := [.data, .data, .data, .data, .pinned], laidTests := true, laidLooks := .later }
def StemReadsUptoCardSaid : Prop := Claim7.holds Tryz.pinned (.plain (OpenSpec.upto stemReadsSpec)) stemReadsUptoCard

/-- THE SECOND FORM's CARD OF 'kelirlaw05.StemSpoilt'. -/
def stemSpoiltUptoCard : Claim7 := { stood := { row := stemSpoiltUptoRow, standIns := [], harness := (true, "f347a99ef07297f450240669f03e914035bf3bb3ba3cc0d5a8e1310068d9aca6"), looks := true }, kinds := [], alts := [], laidByText := true, laidKinds := [.data, .data, .data, .data, .pinned], laidTests := true, laidLooks := .later }
def StemSpoiltUptoCardSaid : Prop := Claim7.holds Tryz.pinned (.plain (OpenSpec.upto stemSpoiltSpec)) stemSpoiltUptoCard

/-- THE SECOND FORM's CARD OF 'kelirlaw05.StemNamed'. -/
def stemNamedUptoCard : Claim7 := { stood := { row := stemNamedUptoRow, standIns := [], harness := (true, "f347a99ef07297f450240669f03e914035bf3bb3ba3cc0d5a8e1310068d9aca6"), looks := true }, kinds := [], alts := [], laidByText := true, laidKinds := [.data, .data, .data, .data, .pinned], laidTests := true, laidLooks := .later }
def StemNamedUptoCardSaid : Prop := Claim7.holds Tryz.pinned (.plain (OpenSpec.upto stemNamedSpec)) stemNamedUptoCard

/-- THE SECOND FORM's CARD OF 'kelirlaw05.StemMore'. -/
def stemMoreUptoCard : Claim7 := { stood := { row := stemMoreUptoRow, standIns := [], harness := (true, "f347a99ef07297f450240669f03e914035bf3bb3ba3cc0d5a8e1310068d9aca6"), looks := true }, kinds := [], alts := [], laidByText := true, laidKinds := [.data, .data, .data, .data, .pinned], laidTests := true, laidLooks := .later }
def StemMoreUptoCardSaid : Prop := Claim7.holds Tryz.pinned (.plain (OpenSpec.upto stemMoreSpec)) stemMoreUptoCard

/-- THE SECOND FORM's CARD OF 'kelirlaw05.StemPlans'. -/
def stemPlansUptoCard : Claim7 := { stood := { row := stemPlansUptoRow, standIns := [], harness := (true, "f347a99ef07297f450240669f03e914035bf3bb3ba3cc0d5a8e1310068d9aca6"), looks := true }, kinds := [], alts := [], laidByText := true, laidKinds := [.data, .data, .data, .data, .pinned], laidTests := true, laidLooks := .later }
def StemPlansUptoCardSaid : Prop := Claim7.holds Tryz.pinned (.plain (OpenSpec.upto stemPlansSpec)) stemPlansUptoCard

/-- THE SECOND FORM's CARD OF 'kelirlaw05.StemFewest'. -/
def stemFewestUptoCard : Claim7 := { stood := { row := stemFewestUptoRow, standIns := [], harness := (true, "f347a99ef07297f450240669f03e914035bf3bb3ba3cc0d5a8e1310068d9aca6"), looks := true }, kinds := [], alts := [], laidByText := true, laidKinds := [.data, .data, .data, .data, .pinned], laidTests := true, laidLooks := .later }
def StemFewestUptoCardSaid : Prop := Claim7.holds Tryz.pinned (.plain (OpenSpec.upto stemFewestSpec)) stemFewestUptoCard

/-- THE SECOND FORM's CARD OF 'kelirlaw05.StemRests'. -/
def stemRestsUptoCard : Claim7 := { stood := { row := stemRestsUptoRow, standIns := [], harness := (true, "f347a99ef07297f450240669f03e914035bf3bb3ba3cc0d5a8e1310068d9aca6"), looks := true }, kinds := [], alts := [], laidByText := true, laidKinds := [.data, .data, .data, .data, .pinned], laidTests := true, laidLooks := .later }
def StemRestsUptoCardSaid : Prop := Claim7.holds Tryz.pinned (.plain (OpenSpec.upto stemRestsSpec)) stemRestsUptoCard

/-- THE SECOND FORM's CARD OF 'kelirlaw05.StemFirst'. -/
def stemFirstUptoCard : Claim7 := { stood := { row := stemFirstUptoRow, standIns := [], harness := (true, "f347a99ef07297f450240669f03e914035bf3bb3ba3cc0d5a8e1310068d9aca6"), looks := true }, kinds := [], alts := [], laidByText := true, laidKinds := [.data, .data, .data, .data, .pinned], laidTests := true, laidLooks := .later }
def StemFirstUptoCardSaid : Prop := Claim7.holds Tryz.pinned (.plain (OpenSpec.upto stemFirstSpec)) stemFirstUptoCard
end Rows
end Go.Proofs.YtfmpabgblbbcdaaGreatDoor
