/-
  DERIVED. GIVEN WITH THE SEED: THE CARDS: each row of YtjpokekbjmdgmaaGreatDoorRows.lean that lists a variable, with what it lists TIED to the program's text (the seventh form; the later family's looks); each row that meets fmt, with fmt's text TOLD by the authors' own Lean function (tested against real Go, not proved from fmt's source: count such statements apart). THE CARD IS WHAT COUNTS. Prove the row's statement (the work); the ties are given (YtjpokekbjmdgmaaGreatDoorTie.lean); close each card by the builder's one call (the guide's Derived/Test/ToyasCard.lean, 'card_holds'). Laid BY PROGRAM, IN A SANDBOX (cutbox-door.mjs). By AI agents, Wed Nov 11 2026. No macro, syntax, notation, axiom, sorry.
-/
import Derived.Test.YtjpokekbjmdgmaaGreatDoorRows
import GoSem.ClaimSeven
namespace Go.Proofs.YtjpokekbjmdgmaaGreatDoor
namespace Rows

/-- THE TIED CARD OF 'kelirlaw07.HideClose'. -/
def hideCloseCard : Claim7 := { stood := { row := hideCloseRow, standIns := [], harness := (true, "03e586fe2c82cc0284e5c2d0be2c21b838019abef5aeac445fbb2a5058bfbd0f"), looks := true }, kinds := [], alts := [], laidByText := true, laidKinds := [.data, .data, .data, .data, .pinned], laidTests := true, laidLooks := .later }
def HideCloseCardSaid : Prop := Claim7.holds Tryz.pinned (.plain (OpenSpec.ofChange hideCloseSpec)) hideCloseCard

/-- THE TIED CARD OF 'kelirlaw07.HideFews'. -/
def hideFewsCard : Claim7 := { stood := { row := hideFewsRow, standIns := [], harness := (true, "03e586fe2c82cc0284e5c2d0be2c21b838019abef5aeac445fbb2a5058bfbd0f"), looks := true }, kinds := [], alts := [], laidByText := true, laidKinds := [.data, .data, .data, .data, .pinned], laidTests := true, laidLooks := .later }
def HideFewsCardSaid : Prop := Claim7.holds Tryz.pinned (.plain (OpenSpec.ofChange hideFewsSpec)) hideFewsCard

/-- THE TIED CARD OF 'kelirlaw07.HideLeast'. -/
def hideLeastCard : Claim7 := { stood := { row := hideLeastRow, standIns := [], harness := (true, "03e586fe2c82cc0284e5c2d0be2c21b838019abef5aeac445fbb2a5058bfbd0f"), looks := true }, kinds := [], alts := [], laidByText := true, laidKinds := [.data, .data, .data, .data, .pinned], laidTests := true, laidLooks := .later }
def HideLeastCardSaid : Prop := Claim7.holds Tryz.pinned (.plain (OpenSpec.ofChange hideLeastSpec)) hideLeastCard

/-- THE TIED CARD OF 'kelirlaw07.HideWho'. -/
def hideWhoCard : Claim7 := { stood := { row := hideWhoRow, standIns := [], harness := (true, "03e586fe2c82cc0284e5c2d0be2c21b838019abef5aeac445fbb2a5058bfbd0f"), looks := true }, kinds := [], alts := [], laidByText := true, laidKinds := [.data, .data, .data, .data, .pinned], laidTests := true, laidLooks := .later }
def HideWhoCardSaid : Prop := Claim7.holds Tryz.pinned (.plain (OpenSpec.ofChange hideWhoSpec)) hideWhoCard

/-- THE TIED CARD OF 'kelirlaw07.HideLent'. -/
def hideLentCard : Claim7 := { stood := { row := hideLentRow, standIns := [], harness := (true, "03e586fe2c82cc0284e5c2d0be2c21b838019abef5aeac445fbb2a5058bfbd0f"), looks := true }, kinds := [], alts := [], laidByText := true, laidKinds := [.data, .data, .data, .data, .pinned], laidTests := true, laidLooks := .later }
def HideLentCardSaid : Prop := Claim7.holds Tryz.pinned (.plain (OpenSpec.ofChange hideLentSpec)) hideLentCard

/-- THE TIED CARD OF 'kelirlaw07.HideRated'. -/
def hideRatedCard : Claim7 := { stood := { row := hideRatedRow, standIns := [], harness := (true, "03e586fe2c82cc0284e5c2d0be2c21b838019abef5aeac445fbb2a5058bfbd0f"), looks := true }, kinds := [], alts := [], laidByText := true, laidKinds := [.data, .data, .data, .data, .pinned], laidTests := true, laidLooks := .later }
def HideRatedCardSaid : Prop := Claim7.holds Tryz.pinned (.plain (OpenSpec.ofChange hideRatedSpec)) hideRatedCard

/-- THE TIED CARD OF 'kelirlaw07.HideWithin'. -/
def hideWithinCard : Claim7 := { stood := { row := hideWithinRow, standIns := [], harness := (true, "03e586fe2c82cc0284e5c2d0be2c21b838019abef5aeac445fbb2a5058bfbd0f"), looks := true }, kinds := [], alts := [], laidByText := true, laidKinds := [.data, .data, .data, .data, .pinned], laidTests := true, laidLooks := .later }
def HideWithinCardSaid : Prop := Claim7.holds Tryz.pinned (.plain (OpenSpec.ofChange hideWithinSpec)) hideWithinCard

/-- THE TIED CARD OF 'kelirlaw07.HideNexts'. -/
def hideNextsCard : Claim7 := { stood := { row := hideNextsRow, standIns := [], harness := (true, "03e586fe2c82cc0284e5c2d0be2c21b838019abef5aeac445fbb2a5058bfbd0f"), looks := true }, kinds := [], alts := [], laidByText := true, laidKinds := [.data, .data, .data, .data, .pinned], laidTests := true, laidLooks := .later }
def HideNextsCardSaid : Prop := Claim7.holds Tryz.pinned (.plain (OpenSpec.ofChange hideNextsSpec)) hideNextsCard

/-- THE TIED CARD OF 'kelirlaw07.HideLooks'. -/
def hideLooksCard : Claim7 := { stood := { row := hideLooksRow, standIns := [], harness := (true, "03e586fe2c82cc0284e5c2d0be2c21b838019abef5aeac445fbb2a5058bfbd0f"), looks := true }, kinds := [], alts := [], laidByText := true, laidKinds := [.data, .data, .data, .data, .pinned], laidTests := true, laidLooks := .later }
def HideLooksCardSaid : Prop := Claim7.holds Tryz.pinned (.plain (OpenSpec.ofChange hideLooksSpec)) hideLooksCard

/-- THE TIED CARD OF 'kelirlaw07.HideDries'. -/
def hideDriesCard : Claim7 := { stood := { row := hideDriesRow, standIns := [], harness := (true, "03e586fe2c82cc0284e5c2d0be2c21b838019abef5aeac445fbb2a5058bfbd0f"), looks := true }, kinds := [], alts := [], laidByText := true, laidKinds := [.data, .data, .data, .data, .pinned], laidTests := true, laidLooks := .later }
def HideDriesCardSaid : Prop := Claim7.holds Tryz.pinned (.plain (OpenSpec.ofChange hideDriesSpec)) hideDriesCard

/-- THE TIED CARD OF 'kelirlaw07.HideWarps'. -/
def hideWarpsCard : Claim7 := { stood := { row := hideWarpsRow, standIns := [], harness := (true, "03e586fe2c82cc0284e5c2d0be2c21b838019abef5aeac445fbb2a5058bfbd0f"), looks := true }, kinds := [], alts := [], laidByText := true, laidKinds := [.data, .data, .data, .data, .pinned], laidTests := true, laidLooks := .later }
def HideWarpsCardSaid : Prop := Claim7.holds Tryz.pinned (.plain (OpenSpec.ofChange hideWarpsSpec)) hideWarpsCard

/-- THE TIED CARD OF 'kelirlaw07.HidePrints'. -/
def hidePrintsCard : Claim7 := { stood := { row := hidePrintsRow, standIns := [], harness := (true, "03e586fe2c82cc0284e5c2d0be2c21b838019abef5aeac445fbb2a5058bfbd0f"), looks := true }, kinds := [], alts := [], laidByText := true, laidKinds := [.data, .data, .data, .data, .pinned], laidTests := true, laidLooks := .later }
def HidePrintsCardSaid : Prop := Claim7.holds Tryz.pinned (.plain (OpenSpec.ofChange hidePrintsSpec)) hidePrintsCard

/-- THE TIED CARD OF 'kelirlaw07.HideReads'. -/
def hideReadsCard : Claim7 := { stood := { row := hideReadsRow, standIns := [], harness := (true, "03e586fe2c82cc0284e5c2d0be2c21b838019abef5aeac445fbb2a5058bfbd0f"), looks := true }, kinds := [], alts := [], laidByText := true, laidKinds := [.data, .data, .data, .data, .pinned], laidTests := true, laidLooks := .later }
def HideReadsCardSaid : Prop := Claim7.holds Tryz.pinned (.plain (OpenSpec.ofChange hideReadsSpec)) hideReadsCard

/-- THE TIED CARD OF 'kelirlaw07.HideSpoilt'. -/
def hideSpoiltCard : Claim7 := { stood := { row := hideSpoiltRow, standIns := [], harness := (true, "03e586fe2c82cc0284e5c2d0be2c21b838019abef5aeac445fbb2a5058bfbd0f"), looks := true }, kinds := [], alts := [], laidByText := true, laidKinds := [.data, .data, .data, .data, .pinned], laidTests := true, laidLooks := .later }
def HideSpoiltCardSaid : Prop := Claim7.holds Tryz.pinned (.plain (OpenSpec.ofChange hideSpoiltSpec)) hideSpoiltCard

/-- THE TIED CARD OF 'kelirlaw07.HideTwins'. -/
def hideTwinsCard : Claim7 := { stood := { row := hideTwinsRow, standIns := [], harness := (true, "03e586fe2c82cc0284e5c2d0be2c21b838019abef5aeac445fbb2a5058bfbd0f"), looks := true }, kinds := [], alts := [], laidByText := true, laidKinds := [.data, .data, .data, .data, .pinned], laidTests := true, laidLooks := .later }
def HideTwinsCardSaid : Prop := Claim7.holds Tryz.pinned (.plain (OpenSpec.ofChange hideTwinsSpec)) hideTwinsCard

/-- THE TIED CARD OF 'kelirlaw07.HideTold'. -/
def hideToldCard : Claim7 := { stood := { row := hideToldRow, standIns := [], harness := (true, "03e586fe2c82cc0284e5c2d0be2c21b838019abef5aeac445fbb2a5058bfbd0f"), looks := true }, kinds := [], alts := [], laidByText := true, laidKinds := [.data, .data, .data, .data, .pinned], laidTests := true, laidLooks := .later }
def HideToldCardSaid : Prop := Claim7.holds Tryz.pinned (.plain (OpenSpec.ofChange hideToldSpec)) hideToldCard

/-- THE TIED CARD OF 'kelirlaw07.HideMore'. -/
def hideMoreCard : Claim7 := { stood := { row := hideMoreRow, standIns := [], harness := (true, "03e586fe2c82cc0284e5c2d0be2c21b838019abef5aeac445fbb2a5058bfbd0f"), looks := true }, kinds := [], alts := [], laidByText := true, laidKinds := [.data, .data, .data, .data, .pinned], laidTests := true, laidLooks := .later }
def HideMoreCardSaid : Prop := Claim7.holds Tryz.pinned (.plain (OpenSpec.ofChange hideMoreSpec)) hideMoreCard

/-- THE SECOND FORM's CARD OF 'kelirlaw07.HideClose'. -/
def hideCloseUptoCard : Claim7 := { stood := { row := hideCloseUptoRow, standIns := [], harness := (true, "03e586fe2c82cc0284e5c2d0be2c21b838019abef5aeac445fbb2a5058bfbd0f"), looks := true }, kinds := [], alts := [], laidByText := true, laidKinds := [.data, .data, .data, .data, .pinned], laidTests := true, laidLooks := .later }
def HideCloseUptoCardSaid : Prop := Claim7.holds Tryz.pinned (.plain (OpenSpec.upto hideCloseSpec)) hideCloseUptoCard

/-- THE SECOND FORM's CARD OF 'kelirlaw07.HideFews'. -/
def hideFewsUptoCard : Claim7 := { stood := { row := hideFewsUptoRow, standIns := [], harness := (true, "03e586fe2c82cc0284e5c2d0be2c21b838019abef5aeac445fbb2a5058bfbd0f"), looks := true }, kinds := [], alts := [], laidByText := true, laidKinds := [.data, .data, .data, .data, .pinned], laidTests := true, laidLooks := .later }
def HideFewsUptoCardSaid : Prop := Claim7.holds Tryz.pinned (.plain (OpenSpec.upto hideFewsSpec)) hideFewsUptoCard

/-- THE SECOND FORM's CARD OF 'kelirlaw07.HideLeast'. -/
def hideLeastUptoCard : Claim7 := { stood := { row := hideLeastUptoRow, standIns := [], harness := (true, "03e586fe2c82cc0284e5c2d0be2c21b838019abef5aeac445fbb2a5058bfbd0f"), looks := true }, kinds := [], alts := [], laidByText := true, laidKinds := [.data, .data, .data, .data, .pinned], laidTests := true, laidLooks := .later }
def HideLeastUptoCardSaid : Prop := Claim7.holds Tryz.pinned (.plain (OpenSpec.upto hideLeastSpec)) hideLeastUptoCard

/-- THE SECOND FORM's CARD OF 'kelirlaw07.HideWho'. -/
def hideWhoUptoCard : Claim7 := { stood := { row := hideWhoUptoRow, standIns := [], harness := (true, "03e586fe2c82cc0284e5c2d0be2c21b838019abef5aeac445fbb2a5058bfbd0f"), looks := true }, kinds := [], alts := [], laidByText := true, laidKinds := [.data, .data, .data, .data, .pinned], laidTests := true, laidLooks := .later }
def HideWhoUptoCardSaid : Prop := Claim7.holds Tryz.pinned (.plain (OpenSpec.upto hideWhoSpec)) hideWhoUptoCard

/-- THE SECOND FORM's CARD OF 'kelirlaw07.HideLent'. -/
def hideLentUptoCard : Claim7 := { stood := { row := hideLentUptoRow, standIns := [], harness := (true, "03e586fe2c82cc0284e5c2d0be2c21b838019abef5aeac445fbb2a5058bfbd0f"), looks := true }, kinds := [], alts := [], laidByText := true, laidKinds := [.data, .data, .data, .data, .pinned], laidTests := true, laidLooks := .later }
def HideLentUptoCardSaid : Prop := Claim7.holds Tryz.pinned (.plain (OpenSpec.upto hideLentSpec)) hideLentUptoCard

/-- THE SECOND FORM's CARD OF 'kelirlaw07.HideRated'. -/
def hideRatedUptoCard : Claim7 := { stood := { row := hideRatedUptoRow, standIns := [], harness := (true, "03e586fe2c82cc0284e5c2d0be2c21b838019abef5aeac445fbb2a5058bfbd0f"), looks := true }, kinds := [], alts := [], laidByText := true, laidKinds := [.data, .data, .data, .data, .pinned], laidTests := true, laidLooks := .later }
def HideRatedUptoCardSaid : Prop := Claim7.holds Tryz.pinned (.plain (OpenSpec.upto hideRatedSpec)) hideRatedUptoCard

/-- THE SECOND FORM's CARD OF 'kelirlaw07.HideWithin'. -/
def hideWithinUptoCard : Claim7 := { stood := { row := hideWithinUptoRow, standIns := [], harness := (true, "03e586fe2c82cc0284e5c2d0be2c21b838019abef5aeac445fbb2a5058bfbd0f"), looks := true }, kinds := [], alts := [], laidByText := true, laidKinds := [.data, .data, .data, .data, .pinned], laidTests := true, laidLooks := .later }
def HideWithinUptoCardSaid : Prop := Claim7.holds Tryz.pinned (.plain (OpenSpec.upto hideWithinSpec)) hideWithinUptoCard

/-- THE SECOND FORM's CARD OF 'kelirlaw07.HideNexts'. -/
def hideNextsUptoCard : Claim7 := { stood := { row := hideNextsUptoRow, standIns := [], harness := (true, "03e586fe2c82cc0284e5c2d0be2c21b838019abef5aeac445fbb2a5058bfbd0f"), looks := true }, kinds := [], alts := [], laidByText := true, laidKinds := [.data, .data, .data, .data, .pinned], laidTests := true, laidLooks := .later }
def HideNextsUptoCardSaid : Prop := Claim7.holds Tryz.pinned (.plain (OpenSpec.upto hideNextsSpec)) hideNextsUptoCard

/-- THE SECOND FORM's CARD OF 'kelirlaw07.HideLooks'. -/
def hideLooksUptoCard : Claim7 := { stood := { row := hideLooksUptoRow, standIns := [], harness := (true, "03e586fe2c82cc0284e5c2d0be2c21b838019abef5aeac445fbb2a5058bfbd0f"), looks := true }, kinds := [], alts := [], laidByText := true, laidKinds := [.data, .data, .data, .data, .pinned], laidTests := true, laidLooks := .later }
def HideLooksUptoCardSaid : Prop := Claim7.holds Tryz.pinned (.plain (OpenSpec.upto hideLooksSpec)) hideLooksUptoCard

/-- THE SECOND FORM's CARD OF 'kelirlaw07.HideDries'. -/
def hideDriesUptoCard : Claim7 := { stood := { row := hideDriesUptoRow, standIns := [], harness := (true, "03e586fe2c82cc0284e5c2d0be2c21b838019abef5aeac445fbb2a5058bfbd0f"), looks := true }, kinds := [], alts := [], laidByText := true, laidKinds := [.data, .data, .data, .data, .pinned], laidTests := true, laidLooks := .later }
def HideDriesUptoCardSaid : Prop := Claim7.holds Tryz.pinned (.plain (OpenSpec.upto hideDriesSpec)) hideDriesUptoCard

/-- THE SECOND FORM's CARD OF 'kelirlaw07.HideWarps'. -/
def hideWarpsUptoCard : Claim7 := { stood := { row := hideWarpsUptoRow, standIns := [], harness := (true, "03e586fe2c82cc0284e5c2d0be2c21b838019abef5aeac445fbb2a5058bfbd0f"), looks := true }, kinds := [], alts := [], laidByText := true, laidKinds := [.data, .data, .data, .data, .pinned], laidTests := true, laidLooks := .later }
def HideWarpsUptoCardSaid : Prop := Claim7.holds Tryz.pinned (.plain (OpenSpec.upto hideWarpsSpec)) hideWarpsUptoCard

/-- THE SECOND FORM's CARD OF 'kelirlaw07.HidePrints'. -/
def hidePrintsUptoCard : Claim7 := { stood := { row := hidePrintsUptoRow, standIns := [], harness := (true, "03e586fe2c82cc0284e5c2d0be2c21b838019abef5aeac445fbb2a5058bfbd0f"), looks := true }, kinds := [], alts := [], laidByText := true, laidKinds := [.data, .data, .data, .data, .pinned], laidTests := true, laidLooks := .later }
def HidePrintsUptoCardSaid : Prop := Claim7.holds Tryz.pinned (.plain (OpenSpec.upto hidePrintsSpec)) hidePrintsUptoCard

/-- THE SECOND FORM's CARD OF 'kelirlaw07.HideReads'. -/
def hideReadsUptoCard : Claim7 := { stood := { row := hideReadsUptoRow, standIns := [], harness := (true, "03e586fe2c82cc0284e5c2d0be2c21b838019abef5aeac445fbb2a5058bfbd0f"), looks := true }, kinds := [], alts := [], laidByText := true, laidKinds := [.data, .data, .data, .data, .pinned], laidTests := true, laidLooks := .later }
def HideReadsUptoCardSaid : Prop := Claim7.holds Tryz.pinned (.plain (OpenSpec.upto hideReadsSpec)) hideReadsUptoCard

/-- THE SECOND FORM's CARD OF 'kelirlaw07.HideSpoilt'. -/
def hideSpoiltUptoCard : Claim7 := { stood := { row := hideSpoiltUptoRow, standIns := [], harness := (true, "03e586fe2c82cc0284e5c2d0be2c21b838019abef5aeac445fbb2a5058bfbd0f"), looks := true }, kinds := [], alts := [], laidByText := true, laidKinds := [.data, .data, .data, .data, .pinned], laidTests := true, laidLooks := .later }
def HideSpoiltUptoCardSaid : Prop := Claim7.holds Tryz.pinned (.plain (OpenSpec.upto hideSpoiltSpec)) hideSpoiltUptoCard

/-- THE SECOND FORM's CARD OF 'kelirlaw07.HideTwins'. -/
def hideTwinsUptoCard : Claim7 := { stood := { row := hideTwinsUptoRow, standIns := [], harness := (true, "03e586fe2c82cc0284e5c2d0be2c21b838019abef5aeac445fbb2a5058bfbd0f"), looks := true }, kinds := [], alts := [], laidByText := true, laidKinds := [.data, .data, .data, .data, .pinned], laidTests := true, laidLooks := .later }
def HideTwinsUptoCardSaid : Prop := Claim7.holds Tryz.pinned (.plain (OpenSpec.upto hideTwinsSpec)) hideTwinsUptoCard

/-- THE SECOND FORM's CARD OF 'kelirlaw07.HideTold'. -/
def hideToldUptoCard : Claim7 := { stood := { row := hideToldUptoRow, standIns := [], harness := (true, "03e586fe2c82cc0284e5c2d0be2c21b838019abef5aeac445fbb2a5058bfbd0f"), looks := true }, kinds := [], alts := [], laidByText := true, laidKinds := [.data, .data, .data, .data, .pinned], laidTests := true, laidLooks := .later }
def HideToldUptoCardSaid : Prop := Claim7.holds Tryz.pinned (.plain (OpenSpec.upto hideToldSpec)) hideToldUptoCard

/-- THE SECOND FORM's CARD OF 'kelirlaw07.HideMore'. -/
def hideMoreUptoCard : Claim7 := { stood := { row := hideMoreUptoRow, standIns := [], harness := (true, "03e586fe2c82cc0284e5c2d0be2c21b838019abef5aeac445fbb2a5058bfbd0f"), looks := true }, kinds := [], alts := [], laidByText := true, laidKinds := [.data, .data, .data, .data, .pinned], laidTests := true, laidLooks := .later }
def HideMoreUptoCardSaid : Prop := Claim7.holds Tryz.pinned (.plain (OpenSpec.upto hideMoreSpec)) hideMoreUptoCard
end Rows
end Go.Proofs.YtjpokekbjmdgmaaGreatDoor
