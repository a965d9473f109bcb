/-
  DERIVED. GIVEN WITH THE SEED: THE CARDS: each row of YtmbknoaneglilaaGreatDoorRows.lean that lists a variable, with what it lists TIED to the program's text (the seventh form; the later family's looks); each row that meets fmt, with fmt's text TOLD by the authors' own Lean function (tested against real Go, not proved from fmt's source: count such statements apart). THE CARD IS WHAT COUNTS. Prove the row's statement (the work); the ties are given (YtmbknoaneglilaaGreatDoorTie.lean); close each card by the builder's one call (the guide's Derived/Test/ToyasCard.lean, 'card_holds'). Laid BY PROGRAM, IN A SANDBOX (cutbox-door.mjs). By AI agents, Wed Nov 11 2026. No macro, syntax, notation, axiom, sorry.
-/
import Derived.Test.YtmbknoaneglilaaGreatDoorRows
import GoSem.ClaimSeven
namespace Go.Proofs.YtmbknoaneglilaaGreatDoor
namespace Rows

/-- THE TIED CARD OF 'kelirlaw01.OutlineRays'. -/
def outlineRaysCard : Claim7 := { stood := { row := outlineRaysRow, standIns := [], harness := (true, "edad1979f17136ffea6ff32855bb4d57fc7572879a9ca0c47130d5bfa8f32bf9"), looks := true }, kinds := [], alts := [], laidByText := true, laidKinds := [.data, .data, .data, .data, .pinned], laidTests := true, laidLooks := .later }
def OutlineRaysCardSaid : Prop := Claim7.holds Tryz.pinned (.plain (OpenSpec.ofChange outlineRaysSpec)) outlineRaysCard

/-- THE TIED CARD OF 'kelirlaw01.OutlineSelf'. -/
def outlineSelfCard : Claim7 := { stood := { row := outlineSelfRow, standIns := [], harness := (true, "edad1979f17136ffea6ff32855bb4d57fc7572879a9ca0c47130d5bfa8f32bf9"), looks := true }, kinds := [], alts := [], laidByText := true, laidKinds := [.data, .data, .data, .data, .pinned], laidTests := true, laidLooks := .later }
def OutlineSelfCardSaid : Prop := Claim7.holds Tryz.pinned (.plain (OpenSpec.ofChange outlineSelfSpec)) outlineSelfCard

/-- THE TIED CARD OF 'kelirlaw01.OutlineNexts'. -/
def outlineNextsCard : Claim7 := { stood := { row := outlineNextsRow, standIns := [], harness := (true, "edad1979f17136ffea6ff32855bb4d57fc7572879a9ca0c47130d5bfa8f32bf9"), looks := true }, kinds := [], alts := [], laidByText := true, laidKinds := [.data, .data, .data, .data, .pinned], laidTests := true, laidLooks := .later }
def OutlineNextsCardSaid : Prop := Claim7.holds Tryz.pinned (.plain (OpenSpec.ofChange outlineNextsSpec)) outlineNextsCard

/-- THE TIED CARD OF 'kelirlaw01.OutlineLooks'. -/
def outlineLooksCard : Claim7 := { stood := { row := outlineLooksRow, standIns := [], harness := (true, "edad1979f17136ffea6ff32855bb4d57fc7572879a9ca0c47130d5bfa8f32bf9"), looks := true }, kinds := [], alts := [], laidByText := true, laidKinds := [.data, .data, .data, .data, .pinned], laidTests := true, laidLooks := .later }
def OutlineLooksCardSaid : Prop := Claim7.holds Tryz.pinned (.plain (OpenSpec.ofChange outlineLooksSpec)) outlineLooksCard

/-- THE TIED CARD OF 'kelirlaw01.OutlineMistakes'. -/
def outlineMistakesCard : Claim7 := { stood := { row := outlineMistakesRow, standIns := [], harness := (true, "edad1979f17136ffea6ff32855bb4d57fc7572879a9ca0c47130d5bfa8f32bf9"), looks := true }, kinds := [], alts := [], laidByText := true, laidKinds := [.data, .data, .data, .data, .pinned], laidTests := true, laidLooks := .later }
def OutlineMistakesCardSaid : Prop := Claim7.holds Tryz.pinned (.plain (OpenSpec.ofChange outlineMistakesSpec)) outlineMistakesCard

/-- THE TIED CARD OF 'kelirlaw01.OutlineTold'. -/
def outlineToldCard : Claim7 := { stood := { row := outlineToldRow, standIns := [], harness := (true, "edad1979f17136ffea6ff32855bb4d57fc7572879a9ca0c47130d5bfa8f32bf9"), looks := true }, kinds := [], alts := [], laidByText := true, laidKinds := [.data, .data, .data, .data, .pinned], laidTests := true, laidLooks := .later }
def OutlineToldCardSaid : Prop := Claim7.holds Tryz.pinned (.plain (OpenSpec.ofChange outlineToldSpec)) outlineToldCard

/-- THE TIED CARD OF 'kelirlaw01.OutlineMore'. -/
def outlineMoreCard : Claim7 := { stood := { row := outlineMoreRow, standIns := [], harness := (true, "edad1979f17136ffea6ff32855bb4d57fc7572879a9ca0c47130d5bfa8f32bf9"), looks := true }, kinds := [], alts := [], laidByText := true, laidKinds := [.data, .data, .data, .data, .pinned], laidTests := true, laidLooks := .later }
def OutlineMoreCardSaid : Prop := Claim7.holds Tryz.pinned (.plain (OpenSpec.ofChange outlineMoreSpec)) outlineMoreCard

/-- THE TIED CARD OF 'kelirlaw01.OutlinePrints'. -/
def outlinePrintsCard : Claim7 := { stood := { row := outlinePrintsRow, standIns := [], harness := (true, "edad1979f17136ffea6ff32855bb4d57fc7572879a9ca0c47130d5bfa8f32bf9"), looks := true }, kinds := [], alts := [], laidByText := true, laidKinds := [.data, .data, .data, .data, .pinned], laidTests := true, laidLooks := .later }
def OutlinePrintsCardSaid : Prop := Claim7.holds Tryz.pinned (.plain (OpenSpec.ofChange outlinePrintsSpec)) outlinePrintsCard

/-- THE TIED CARD OF 'kelirlaw01.OutlineBooks'. -/
def outlineBooksCard : Claim7 := { stood := { row := outlineBooksRow, standIns := [], harness := (true, "edad1979f17136ffea6ff32855bb4d57fc7572879a9ca0c47130d5bfa8f32bf9"), looks := true }, kinds := [], alts := [], laidByText := true, laidKinds := [.data, .data, .data, .data, .pinned], laidTests := true, laidLooks := .later }
def OutlineBooksCardSaid : Prop := Claim7.holds Tryz.pinned (.plain (OpenSpec.ofChange outlineBooksSpec)) outlineBooksCard

/-- THE TIED CARD OF 'kelirlaw01.OutlineSpoilt'. -/
def outlineSpoiltCard : Claim7 := { stood := { row := outlineSpoiltRow, standIns := [], harness := (true, "edad1979f17136ffea6ff32855bb4d57fc7572879a9ca0c47130d5bfa8f32bf9"), looks := true }, kinds := [], alts := [], laidByText := true, laidKinds := [.data, .data, .data, .data, .pinned], laidTests := true, laidLooks := .later }
def OutlineSpoiltCardSaid : Prop := Claim7.holds Tryz.pinned (.plain (OpenSpec.ofChange outlineSpoiltSpec)) outlineSpoiltCard

/-- THE TIED CARD OF 'kelirlaw01.OutlineFits'. -/
def outlineFitsCard : Claim7 := { stood := { row := outlineFitsRow, standIns := [], harness := (true, "edad1979f17136ffea6ff32855bb4d57fc7572879a9ca0c47130d5bfa8f32bf9"), looks := true }, kinds := [], alts := [], laidByText := true, laidKinds := [.data, .data, .data, .data, .pinned], laidTests := true, laidLooks := .later }
def OutlineFitsCardSaid : Prop := Claim7.holds Tryz.pinned (.plain (OpenSpec.ofChange outlineFitsSpec)) outlineFitsCard

/-- THE TIED CARD OF 'kelirlaw01.OutlineNear'. -/
def outlineNearCard : Claim7 := { stood := { row := outlineNearRow, standIns := [], harness := (true, "edad1979f17136ffea6ff32855bb4d57fc7572879a9ca0c47130d5bfa8f32bf9"), looks := true }, kinds := [], alts := [], laidByText := true, laidKinds := [.data, .data, .data, .data, .pinned], laidTests := true, laidLooks := .later }
def OutlineNearCardSaid : Prop := Claim7.holds Tryz.pinned (.plain (OpenSpec.ofChange outlineNearSpec)) outlineNearCard

/-- THE TIED CARD OF 'kelirlaw01.OutlineCells'. -/
def outlineCellsCard : Claim7 := { stood := { row := outlineCellsRow, standIns := [], harness := (true, "edad1979f17136ffea6ff32855bb4d57fc7572879a9ca0c47130d5bfa8f32bf9"), looks := true }, kinds := [], alts := [], laidByText := true, laidKinds := [.data, .data, .data, .data, .pinned], laidTests := true, laidLooks := .later }
def OutlineCellsCardSaid : Prop := Claim7.holds Tryz.pinned (.plain (OpenSpec.ofChange outlineCellsSpec)) outlineCellsCard

/-- THE TIED CARD OF 'kelirlaw01.OutlineProof'. -/
def outlineProofCard : Claim7 := { stood := { row := outlineProofRow, standIns := [], harness := (true, "edad1979f17136ffea6ff32855bb4d57fc7572879a9ca0c47130d5bfa8f32bf9"), looks := true }, kinds := [], alts := [], laidByText := true, laidKinds := [.data, .data, .data, .data, .pinned], laidTests := true, laidLooks := .later }
def OutlineProofCardSaid : Prop := Claim7.holds Tryz.pinned (.plain (OpenSpec.ofChange outlineProofSpec)) outlineProofCard

/-- THE TIED CARD OF 'kelirlaw01.OutlineFlames'. -/
def outlineFlamesCard : Claim7 := { stood := { row := outlineFlamesRow, standIns := [], harness := (true, "edad1979f17136ffea6ff32855bb4d57fc7572879a9ca0c47130d5bfa8f32bf9"), looks := true }, kinds := [], alts := [], laidByText := true, laidKinds := [.data, .data, .data, .data, .pinned], laidTests := true, laidLooks := .later }
def OutlineFlamesCardSaid : Prop := Claim7.holds Tryz.pinned (.plain (OpenSpec.ofChange outlineFlamesSpec)) outlineFlamesCard

/-- THE TIED CARD OF 'kelirlaw01.OutlineShadows'. -/
def outlineShadowsCard : Claim7 := { stood := { row := outlineShadowsRow, standIns := [], harness := (true, "edad1979f17136ffea6ff32855bb4d57fc7572879a9ca0c47130d5bfa8f32bf9"), looks := true }, kinds := [], alts := [], laidByText := true, laidKinds := [.data, .data, .data, .data, .pinned], laidTests := true, laidLooks := .later }
def OutlineShadowsCardSaid : Prop := Claim7.holds Tryz.pinned (.plain (OpenSpec.ofChange outlineShadowsSpec)) outlineShadowsCard

/-- THE TIED CARD OF 'kelirlaw01.OutlineReads'. -/
def outlineReadsCard : Claim7 := { stood := { row := outlineReadsRow, standIns := [], harness := (true, "edad1979f17136ffea6ff32855bb4d57fc7572879a9ca0c47130d5bfa8f32bf9"), looks := true }, kinds := [], alts := [], laidByText := true, laidKinds := [.data, .data, .data, .data, .pinned], laidTests := true, laidLooks := .later }
def OutlineReadsCardSaid : Prop := Claim7.holds Tryz.pinned (.plain (OpenSpec.ofChange outlineReadsSpec)) outlineReadsCard

/-- THE TIED CARD OF 'kelirlaw01.OutlineSeen'. -/
def outlineSeenCard : Claim7 := { stood := { row := outlineSeenRow, standIns := [], harness := (true, "edad1979f17136ffea6ff32855bb4d57fc7572879a9ca0c47130d5bfa8f32bf9"), looks := true }, kinds := [], alts := [], laidByText := true, laidKinds := [.data, .data, .data, .data, .pinned], laidTests := true, laidLooks := .later }
def OutlineSeenCardSaid : Prop := Claim7.holds Tryz.pinned (.plain (OpenSpec.ofChange outlineSeenSpec)) outlineSeenCard

/-- THE TIED CARD OF 'kelirlaw01.OutlineJoins'. -/
def outlineJoinsCard : Claim7 := { stood := { row := outlineJoinsRow, standIns := [], harness := (true, "edad1979f17136ffea6ff32855bb4d57fc7572879a9ca0c47130d5bfa8f32bf9"), looks := true }, kinds := [], alts := [], laidByText := true, laidKinds := [.data, .data, .data, .data, .pinned], laidTests := true, laidLooks := .later }
def OutlineJoinsCardSaid : Prop := Claim7.holds Tryz.pinned (.plain (OpenSpec.ofChange outlineJoinsSpec)) outlineJoinsCard

/-- THE TIED CARD OF 'kelirlaw01.OutlineMeeting'. -/
def outlineMeetingCard : Claim7 := { stood := { row := outlineMeetingRow, standIns := [], harness := (true, "edad1979f17136ffea6ff32855bb4d57fc7572879a9ca0c47130d5bfa8f32bf9"), looks := true }, kinds := [], alts := [], laidByText := true, laidKinds := [.data, .data, .data, .data, .pinned], laidTests := true, laidLooks := .later }
def OutlineMeetingCardSaid : Prop := Claim7.holds Tryz.pinned (.plain (OpenSpec.ofChange outlineMeetingSpec)) outlineMeetingCard

/-- THE SECOND FORM's CARD OF 'kelirlaw01.OutlineRays'. -/
def outlineRaysUptoCard : Claim7 := { stood := { row := outlineRaysUptoRow, standIns := [], harness := (true, "edad1979f17136ffea6ff32855bb4d57fc7572879a9ca0c47130d5bfa8f32bf9"), looks := true }, kinds := [], alts := [], laidByText := true, laidKinds := [.data, .data, .data, .data, .pinned], laidTests := true, laidLooks := .later }
def OutlineRaysUptoCardSaid : Prop := Claim7.holds Tryz.pinned (.plain (OpenSpec.upto outlineRaysSpec)) outlineRaysUptoCard

/-- THE SECOND FORM's CARD OF 'kelirlaw01.OutlineSelf'. -/
def outlineSelfUptoCard : Claim7 := { stood := { row := outlineSelfUptoRow, standIns := [], harness := (true, "edad1979f17136ffea6ff32855bb4d57fc7572879a9ca0c47130d5bfa8f32bf9"), looks := true }, kinds := [], alts := [], laidByText := true, laidKinds := [.data, .data, .data, .data, .pinned], laidTests := true, laidLooks := .later }
def OutlineSelfUptoCardSaid : Prop := Claim7.holds Tryz.pinned (.plain (OpenSpec.upto outlineSelfSpec)) outlineSelfUptoCard

/-- THE SECOND FORM's CARD OF 'kelirlaw01.OutlineNexts'. -/
def outlineNextsUptoCard : Claim7 := { stood := { row := outlineNextsUptoRow, standIns := [], harness := (true, "edad1979f17136ffea6ff32855bb4d57fc7572879a9ca0c47130d5bfa8f32bf9"), looks := true }, kinds := [], alts := [], laidByText := true, laidKinds := [.data, .data, .data, .data, .pinned], laidTests := true, laidLooks := .later }
def OutlineNextsUptoCardSaid : Prop := Claim7.holds Tryz.pinned (.plain (OpenSpec.upto outlineNextsSpec)) outlineNextsUptoCard

/-- THE SECOND FORM's CARD OF 'kelirlaw01.OutlineLooks'. -/
def outlineLooksUptoCard : Claim7 := { stood := { row := outlineLooksUptoRow, standIns := [], harness := (true, "edad1979f17136ffea6ff32855bb4d57fc7572879a9ca0c47130d5bfa8f32bf9"), looks := true }, kinds := [], alts := [], laidByText := true, laidKinds := [.data, .data, .data, .data, .pinned], laidTests := true, laidLooks := .later }
def OutlineLooksUptoCardSaid : Prop := Claim7.holds Tryz.pinned (.plain (OpenSpec.upto outlineLooksSpec)) outlineLooksUptoCard

/-- THE SECOND FORM's CARD OF 'kelirlaw01.OutlineMistakes'. -/
def outlineMistakesUptoCard : Claim7 := { stood := { row := outlineMistakesUptoRow, standIns := [], harness := (true, "edad1979f17136ffea6ff32855bb4d57fc7572879a9ca0c47130d5bfa8f32bf9"), looks := true }, kinds := [], alts := [], laidByText := true, laidKinds := [.data, .data, .data, .data, .pinned], laidTests := true, laidLooks := .later }
def OutlineMistakesUptoCardSaid : Prop := Claim7.holds Tryz.pinned (.plain (OpenSpec.upto outlineMistakesSpec)) outlineMistakesUptoCard

/-- THE SECOND FORM's CARD OF 'kelirlaw01.OutlineTold'. -/
def outlineToldUptoCard : Claim7 := { stood := { row := outlineToldUptoRow, standIns := [], harness := (true, "edad1979f17136ffea6ff32855bb4d57fc7572879a9ca0c47130d5bfa8f32bf9"), looks := true }, kinds := [], alts := [], laidByText := true, laidKinds := [.data, .data, .data, .data, .pinned], laidTests := true, laidLooks := .later }
def OutlineToldUptoCardSaid : Prop := Claim7.holds Tryz.pinned (.plain (OpenSpec.upto outlineToldSpec)) outlineToldUptoCard

/-- THE SECOND FORM's CARD OF 'kelirlaw01.OutlineMore'. -/
def outlineMoreUptoCard : Claim7 := { stood := { row := outlineMoreUptoRow, standIns := [], harness := (true, "edad1979f17136ffea6ff32855bb4d57fc7572879a9ca0c47130d5bfa8f32bf9"), looks := true }, kinds := [], alts := [], laidByText := true, laidKinds := [.data, .data, .data, .data, .pinned], laidTests := true, laidLooks := .later }
def OutlineMoreUptoCardSaid : Prop := Claim7.holds Tryz.pinned (.plain (OpenSpec.upto outlineMoreSpec)) outlineMoreUptoCard

/-- THE SECOND FORM's CARD OF 'kelirlaw01.OutlinePrints'. -/
def outlinePrintsUptoCard : Claim7 := { stood := { row := outlinePrintsUptoRow, standIns := [], harness := (true, "edad1979f17136ffea6ff32855bb4d57fc7572879a9ca0c47130d5bfa8f32bf9"), looks := true }, kinds := [], alts := [], laidByText := true, laidKinds := [.data, .data, .data, .data, .pinned], laidTests := true, laidLooks := .later }
def OutlinePrintsUptoCardSaid : Prop := Claim7.holds Tryz.pinned (.plain (OpenSpec.upto outlinePrintsSpec)) outlinePrintsUptoCard

/-- THE SECOND FORM's CARD OF 'kelirlaw01.OutlineBooks'. -/
def outlineBooksUptoCard : Claim7 := { stood := { row := outlineBooksUptoRow, standIns := [], harness := (true, "edad1979f17136ffea6ff32855bb4d57fc7572879a9ca0c47130d5bfa8f32bf9"), looks := true }, kinds := [], alts := [], laidByText := true, laidKinds := [.data, .data, .data, .data, .pinned], laidTests := true, laidLooks := .later }
def OutlineBooksUptoCardSaid : Prop := Claim7.holds Tryz.pinned (.plain (OpenSpec.upto outlineBooksSpec)) outlineBooksUptoCard

/-- THE SECOND FORM's CARD OF 'kelirlaw01.OutlineSpoilt'. -/
def outlineSpoiltUptoCard : Claim7 := { stood := { row := outlineSpoiltUptoRow, standIns := [], harness := (true, "edad1979f17136ffea6ff32855bb4d57fc7572879a9ca0c47130d5bfa8f32bf9"), looks := true }, kinds := [], alts := [], laidByText := true, laidKinds := [.data, .data, .data, .data, .pinned], laidTests := true, laidLooks := .later }
def OutlineSpoiltUptoCardSaid : Prop := Claim7.holds Tryz.pinned (.plain (OpenSpec.upto outlineSpoiltSpec)) outlineSpoiltUptoCard

/-- THE SECOND FORM's CARD OF 'kelirlaw01.OutlineFits'. -/
def outlineFitsUptoCard : Claim7 := { stood := { row := outlineFitsUptoRow, standIns := [], harness := (true, "edad1979f17136ffea6ff32855bb4d57fc7572879a9ca0c47130d5bfa8f32bf9"), looks := true }, kinds := [], alts := [], laidByText := true, laidKinds := [.data, .data, .data, .data, .pinned], laidTests := true, laidLooks := .later }
def OutlineFitsUptoCardSaid : Prop := Claim7.holds Tryz.pinned (.plain (OpenSpec.upto outlineFitsSpec)) outlineFitsUptoCard

/-- THE SECOND FORM's CARD OF 'kelirlaw01.OutlineNear'. -/
def outlineNearUptoCard : Claim7 := { stood := { row := outlineNearUptoRow, standIns := [], harness := (true, "edad1979f17136ffea6ff32855bb4d57fc7572879a9ca0c47130d5bfa8f32bf9"), looks := true }, kinds := [], alts := [], laidByText := true, laidKinds := [.data, .data, .data, .data, .pinned], laidTests := true, laidLooks := .later }
def OutlineNearUptoCardSaid : Prop := Claim7.holds Tryz.pinned (.plain (OpenSpec.upto outlineNearSpec)) outlineNearUptoCard

/-- THE SECOND FORM's CARD OF 'kelirlaw01.OutlineCells'. -/
def outlineCellsUptoCard : Claim7 := { stood := { row := outlineCellsUptoRow, standIns := [], harness := (true, "edad1979f17136ffea6ff32855bb4d57fc7572879a9ca0c47130d5bfa8f32bf9"), looks := true }, kinds := [], alts := [], laidByText := true, laidKinds := [.data, .data, .data, .data, .pinned], laidTests := true, laidLooks := .later }
def OutlineCellsUptoCardSaid : Prop := Claim7.holds Tryz.pinned (.plain (OpenSpec.upto outlineCellsSpec)) outlineCellsUptoCard

/-- THE SECOND FORM's CARD OF 'kelirlaw01.OutlineProof'. -/
def outlineProofUptoCard : Claim7 := { stood := { row := outlineProofUptoRow, standIns := [], harness := (true, "edad1979f17136ffea6ff32855bb4d57fc7572879a9ca0c47130d5bfa8f32bf9"), looks := true }, kinds := [], alts := [], laidByText := true, laidKinds := [.data, .data, .data, .data, .pinned], laidTests := true, laidLooks := .later }
def OutlineProofUptoCardSaid : Prop := Claim7.holds Tryz.pinned (.plain (OpenSpec.upto outlineProofSpec)) outlineProofUptoCard

/-- THE SECOND FORM's CARD OF 'kelirlaw01.OutlineFlames'. -/
def outlineFlamesUptoCard : Claim7 := { stood := { row := outlineFlamesUptoRow, standIns := [], harness := (true, "edad1979f17136ffea6ff32855bb4d57fc7572879a9ca0c47130d5bfa8f32bf9"), looks := true }, kinds := [], alts := [], laidByText := true, laidKinds := [.data, .data, .data, .data, .pinned], laidTests := true, laidLooks := .later }
def OutlineFlamesUptoCardSaid : Prop := Claim7.holds Tryz.pinned (.plain (OpenSpec.upto outlineFlamesSpec)) outlineFlamesUptoCard

/-- THE SECOND FORM's CARD OF 'kelirlaw01.OutlineShadows'. -/
def outlineShadowsUptoCard : Claim7 := { stood := { row := outlineShadowsUptoRow, standIns := [], harness := (true, "edad1979f17136ffea6ff32855bb4d57fc7572879a9ca0c47130d5bfa8f32bf9"), looks := true }, kinds := [], alts := [], laidByText := true, laidKinds := [.data, .data, .data, .data, .pinned], laidTests := true, laidLooks := .later }
def OutlineShadowsUptoCardSaid : Prop := Claim7.holds Tryz.pinned (.plain (OpenSpec.upto outlineShadowsSpec)) outlineShadowsUptoCard

/-- THE SECOND FORM's CARD OF 'kelirlaw01.OutlineReads'. -/
def outlineReadsUptoCard : Claim7 := { stood := { row := outlineReadsUptoRow, standIns := [], harness := (true, "edad1979f17136ffea6ff32855bb4d57fc7572879a9ca0c47130d5bfa8f32bf9"), looks := true }, kinds := [], alts := [], laidByText := true, laidKinds := [.data, .data, .data, .data, .pinned], laidTests := true, laidLooks := .later }
def OutlineReadsUptoCardSaid : Prop := Claim7.holds Tryz.pinned (.plain (OpenSpec.upto outlineReadsSpec)) outlineReadsUptoCard

/-- THE SECOND FORM's CARD OF 'kelirlaw01.OutlineSeen'. -/
def outlineSeenUptoCard : Claim7 := { stood := { row := outlineSeenUptoRow, standIns := [], harness := (true, "edad1979f17136ffea6ff32855bb4d57fc7572879a9ca0c47130d5bfa8f32bf9"), looks := true }, kinds := [], alts := [], laidByText := true, laidKinds := [.data, .data, .data, .data, .pinned], laidTests := true, laidLooks := .later }
def OutlineSeenUptoCardSaid : Prop := Claim7.holds Tryz.pinned (.plain (OpenSpec.upto outlineSeenSpec)) outlineSeenUptoCard

/-- THE SECOND FORM's CARD OF 'kelirlaw01.OutlineJoins'. -/
def outlineJoinsUptoCard : Claim7 := { stood := { row := outlineJoinsUptoRow, standIns := [], harness := (true, "edad1979f17136ffea6ff32855bb4d57fc7572879a9ca0c47130d5bfa8f32bf9"), looks := true }, kinds := [], alts := [], laidByText := true, laidKinds := [.data, .data, .data, .data, .pinned], laidTests := true, laidLooks := .later }
def OutlineJoinsUptoCardSaid : Prop := Claim7.holds Tryz.pinned (.plain (OpenSpec.upto outlineJoinsSpec)) outlineJoinsUptoCard

/-- THE SECOND FORM's CARD OF 'kelirlaw01.OutlineMeeting'. -/
def outlineMeetingUptoCard : Claim7 := { stood := { row := outlineMeetingUptoRow, standIns := [], harness := (true, "edad1979f17136ffea6ff32855bb4d57fc7572879a9ca0c47130d5bfa8f32bf9"), looks := true }, kinds := [], alts := [], laidByText := true, laidKinds := [.data, .data, .data, .data, .pinned], laidTests := true, laidLooks := .later }
def OutlineMeetingUptoCardSaid : Prop := Claim7.holds Tryz.pinned (.plain (OpenSpec.upto outlineMeetingSpec)) outlineMeetingUptoCard
end Rows
end Go.Proofs.YtmbknoaneglilaaGreatDoor
