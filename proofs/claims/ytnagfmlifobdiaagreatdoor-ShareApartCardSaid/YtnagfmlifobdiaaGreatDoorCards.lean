/-
  DERIVED. GIVEN WITH THE SEED: THE CARDS: each row of YtnagfmlifobdiaaGreatDoorRows.lean that lists a variable, with what it lists TIED to the program's text (the seventh form; the later family's looks); each row that meets fmt, with fmt's text TOLD by the authors' own Lean function (tested against real Go, not proved from fmt's source: count such statements apart). THE CARD IS WHAT COUNTS. Prove the row's statement (the work); the ties are given (YtnagfmlifobdiaaGreatDoorTie.lean); close each card by the builder's one call (the guide's Derived/Test/ToyasCard.lean, 'card_holds'). Laid BY PROGRAM, IN A SANDBOX (cutbox-door.mjs). By AI agents, Wed Nov 11 2026. No macro, syntax, notation, axiom, sorry.
-/
import Derived.Test.YtnagfmlifobdiaaGreatDoorRows
import GoSem.ClaimSeven
namespace Go.Proofs.YtnagfmlifobdiaaGreatDoor
namespace Rows

/-- THE TIED CARD OF 'arguslaw13.ShareClasses'. -/
def shareClassesCard : Claim7 := { stood := { row := shareClassesRow, standIns := [], harness := (true, "75d14588cc31fe30f9342cda7ccad666ac09e033460ee3949779b1d0ee95fad0"), looks := true }, kinds := [], alts := [], laidByText := true, laidKinds := [.data, .data, .data], laidTests := true, laidLooks := .later }
def ShareClassesCardSaid : Prop := Claim7.holds Tryz.pinned (.plain (OpenSpec.ofChange shareClassesSpec)) shareClassesCard

/-- THE TIED CARD OF 'arguslaw13.ShareMerges'. -/
def shareMergesCard : Claim7 := { stood := { row := shareMergesRow, standIns := [], harness := (true, "75d14588cc31fe30f9342cda7ccad666ac09e033460ee3949779b1d0ee95fad0"), looks := true }, kinds := [], alts := [], laidByText := true, laidKinds := [.data, .data, .data], laidTests := true, laidLooks := .later }
def ShareMergesCardSaid : Prop := Claim7.holds Tryz.pinned (.plain (OpenSpec.ofChange shareMergesSpec)) shareMergesCard

/-- THE TIED CARD OF 'arguslaw13.ShareCoarsest'. -/
def shareCoarsestCard : Claim7 := { stood := { row := shareCoarsestRow, standIns := [], harness := (true, "75d14588cc31fe30f9342cda7ccad666ac09e033460ee3949779b1d0ee95fad0"), looks := true }, kinds := [], alts := [], laidByText := true, laidKinds := [.data, .data, .data], laidTests := true, laidLooks := .later }
def ShareCoarsestCardSaid : Prop := Claim7.holds Tryz.pinned (.plain (OpenSpec.ofChange shareCoarsestSpec)) shareCoarsestCard

/-- THE TIED CARD OF 'arguslaw13.ShareOnce'. -/
def shareOnceCard : Claim7 := { stood := { row := shareOnceRow, standIns := [], harness := (true, "75d14588cc31fe30f9342cda7ccad666ac09e033460ee3949779b1d0ee95fad0"), looks := true }, kinds := [], alts := [], laidByText := true, laidKinds := [.data, .data, .data], laidTests := true, laidLooks := .later }
def ShareOnceCardSaid : Prop := Claim7.holds Tryz.pinned (.plain (OpenSpec.ofChange shareOnceSpec)) shareOnceCard

/-- THE TIED CARD OF 'arguslaw13.ShareNames'. -/
def shareNamesCard : Claim7 := { stood := { row := shareNamesRow, standIns := [], harness := (true, "75d14588cc31fe30f9342cda7ccad666ac09e033460ee3949779b1d0ee95fad0"), looks := true }, kinds := [], alts := [], laidByText := true, laidKinds := [.data, .data, .data], laidTests := true, laidLooks := .later }
def ShareNamesCardSaid : Prop := Claim7.holds Tryz.pinned (.plain (OpenSpec.ofChange shareNamesSpec)) shareNamesCard

/-- THE TIED CARD OF 'arguslaw13.ShareMemory'. -/
def shareMemoryCard : Claim7 := { stood := { row := shareMemoryRow, standIns := [], harness := (true, "75d14588cc31fe30f9342cda7ccad666ac09e033460ee3949779b1d0ee95fad0"), looks := true }, kinds := [], alts := [], laidByText := true, laidKinds := [.data, .data, .data], laidTests := true, laidLooks := .later }
def ShareMemoryCardSaid : Prop := Claim7.holds Tryz.pinned (.plain (OpenSpec.ofChange shareMemorySpec)) shareMemoryCard

/-- THE TIED CARD OF 'arguslaw13.ShareShapes'. -/
def shareShapesCard : Claim7 := { stood := { row := shareShapesRow, standIns := [], harness := (true, "75d14588cc31fe30f9342cda7ccad666ac09e033460ee3949779b1d0ee95fad0"), looks := true }, kinds := [], alts := [], laidByText := true, laidKinds := [.data, .data, .data], laidTests := true, laidLooks := .later }
def ShareShapesCardSaid : Prop := Claim7.holds Tryz.pinned (.plain (OpenSpec.ofChange shareShapesSpec)) shareShapesCard

/-- THE TIED CARD OF 'arguslaw13.ShareApart'. -/
def shareApartCard : Claim7 := { stood := { row := shareApartRow, standIns := [], harness := (true, "75d14588cc31fe30f9342cda7ccad666ac09e033460ee3949779b1d0ee95fad0"), looks := true }, kinds := [], alts := [], laidByText := true, laidKinds := [.data, .data, .data], laidTests := true, laidLooks := .later }
def ShareApartCardSaid : Prop := Claim7.holds Tryz.pinned (.plain (OpenSpec.ofChange shareApartSpec)) shareApartCard

/-- THE TIED CARD OF 'arguslaw13.ShareTells'. -/
def shareTellsCard : Claim7 := { stood := { row := shareTellsRow, standIns := [], harness := (true, "75d14588cc31fe30f9342cda7ccad666ac09e033460ee3949779b1d0ee95fad0"), looks := true }, kinds := [], alts := [], laidByText := true, laidKinds := [.data, .data, .data], laidTests := true, laidLooks := .later }
def ShareTellsCardSaid : Prop := Claim7.holds Tryz.pinned (.plain (OpenSpec.ofChange shareTellsSpec)) shareTellsCard

/-- THE TIED CARD OF 'arguslaw13.ShareRuns'. -/
def shareRunsCard : Claim7 := { stood := { row := shareRunsRow, standIns := [], harness := (true, "75d14588cc31fe30f9342cda7ccad666ac09e033460ee3949779b1d0ee95fad0"), looks := true }, kinds := [], alts := [], laidByText := true, laidKinds := [.data, .data, .data], laidTests := true, laidLooks := .later }
def ShareRunsCardSaid : Prop := Claim7.holds Tryz.pinned (.plain (OpenSpec.ofChange shareRunsSpec)) shareRunsCard

/-- THE SECOND FORM's CARD OF 'arguslaw13.ShareClasses'. -/
def shareClassesUptoCard : Claim7 := { stood := { row := shareClassesUptoRow, standIns := [], harness := (true, "75d14588cc31fe30f9342cda7ccad666ac09e033460ee3949779b1d0ee95fad0"), looks := true }, kinds := [], alts := [], laidByText := true, laidKinds := [.data, .data, .data], laidTests := true, laidLooks := .later }
def ShareClassesUptoCardSaid : Prop := Claim7.holds Tryz.pinned (.plain (OpenSpec.upto shareClassesSpec)) shareClassesUptoCard

/-- THE SECOND FORM's CARD OF 'arguslaw13.ShareMerges'. -/
def shareMergesUptoCard : Claim7 := { stood := { row := shareMergesUptoRow, standIns := [], harness := (true, "75d14588cc31fe30f9342cda7ccad666ac09e033460ee3949779b1d0ee95fad0"), looks := true }, kinds := [], alts := [], laidByText := true, laidKinds := [.data, .data, .data], laidTests := true, laidLooks := .later }
def ShareMergesUptoCardSaid : Prop := Claim7.holds Tryz.pinned (.plain (OpenSpec.upto shareMergesSpec)) shareMergesUptoCard

/-- THE SECOND FORM's CARD OF 'arguslaw13.ShareCoarsest'. -/
def shareCoarsestUptoCard : Claim7 := { stood := { row := shareCoarsestUptoRow, standIns := [], harness := (true, "75d14588cc31fe30f9342cda7ccad666ac09e033460ee3949779b1d0ee95fad0"), looks := true }, kinds := [], alts := [], laidByText := true, laidKinds := [.data, .data, .data], laidTests := true, laidLooks := .later }
def ShareCoarsestUptoCardSaid : Prop := Claim7.holds Tryz.pinned (.plain (OpenSpec.upto shareCoarsestSpec)) shareCoarsestUptoCard

/-- THE SECOND FORM's CARD OF 'arguslaw13.ShareOnce'. -/
def shareOnceUptoCard : Claim7 := { stood := { row := shareOnceUptoRow, standIns := [], harness := (true, "75d14588cc31fe30f9342cda7ccad666ac09e033460ee3949779b1d0ee95fad0"), looks := true }, kinds := [], alts := [], laidByText := true, laidKinds := [.data, .data, .data], laidTests := true, laidLooks := .later }
def ShareOnceUptoCardSaid : Prop := Claim7.holds Tryz.pinned (.plain (OpenSpec.upto shareOnceSpec)) shareOnceUptoCard

/-- THE SECOND FORM's CARD OF 'arguslaw13.ShareNames'. -/
def shareNamesUptoCard : Claim7 := { stood := { row := shareNamesUptoRow, standIns := [], harness := (true, "75d14588cc31fe30f9342cda7ccad666ac09e033460ee3949779b1d0ee95fad0"), looks := true }, kinds := [], alts := [], laidByText := true, laidKinds := [.data, .data, .data], laidTests := true, laidLooks := .later }
def ShareNamesUptoCardSaid : Prop := Claim7.holds Tryz.pinned (.plain (OpenSpec.upto shareNamesSpec)) shareNamesUptoCard

/-- THE SECOND FORM's CARD OF 'arguslaw13.ShareMemory'. -/
def shareMemoryUptoCard : Claim7 := { stood := { row := shareMemoryUptoRow, standIns := [], harness := (true, "75d14588cc31fe30f9342cda7ccad666ac09e033460ee3949779b1d0ee95fad0"), looks := true }, kinds := [], alts := [], laidByText := true, laidKinds := [.data, .data, .data], laidTests := true, laidLooks := .later }
def ShareMemoryUptoCardSaid : Prop := Claim7.holds Tryz.pinned (.plain (OpenSpec.upto shareMemorySpec)) shareMemoryUptoCard

/-- THE SECOND FORM's CARD OF 'arguslaw13.ShareShapes'. -/
def shareShapesUptoCard : Claim7 := { stood := { row := shareShapesUptoRow, standIns := [], harness := (true, "75d14588cc31fe30f9342cda7ccad666ac09e033460ee3949779b1d0ee95fad0"), looks := true }, kinds := [], alts := [], laidByText := true, laidKinds := [.data, .data, .data], laidTests := true, laidLooks := .later }
def ShareShapesUptoCardSaid : Prop := Claim7.holds Tryz.pinned (.plain (OpenSpec.upto shareShapesSpec)) shareShapesUptoCard

/-- THE SECOND FORM's CARD OF 'arguslaw13.ShareApart'. -/
def shareApartUptoCard : Claim7 := { stood := { row := shareApartUptoRow, standIns := [], harness := (true, "75d14588cc31fe30f9342cda7ccad666ac09e033460ee3949779b1d0ee95fad0"), looks := true }, kinds := [], alts := [], laidByText := true, laidKinds := [.data, .data, .data], laidTests := true, laidLooks := .later }
def ShareApartUptoCardSaid : Prop := Claim7.holds Tryz.pinned (.plain (OpenSpec.upto shareApartSpec)) shareApartUptoCard

/-- THE SECOND FORM's CARD OF 'arguslaw13.ShareTells'. -/
def shareTellsUptoCard : Claim7 := { stood := { row := shareTellsUptoRow, standIns := [], harness := (true, "75d14588cc31fe30f9342cda7ccad666ac09e033460ee3949779b1d0ee95fad0"), looks := true }, kinds := [], alts := [], laidByText := true, laidKinds := [.data, .data, .data], laidTests := true, laidLooks := .later }
def ShareTellsUptoCardSaid : Prop := Claim7.holds Tryz.pinned (.plain (OpenSpec.upto shareTellsSpec)) shareTellsUptoCard

/-- THE SECOND FORM's CARD OF 'arguslaw13.ShareRuns'. -/
def shareRunsUptoCard : Claim7 := { stood := { row := shareRunsUptoRow, standIns := [], harness := (true, "75d14588cc31fe30f9342cda7ccad666ac09e033460ee3949779b1d0ee95fad0"), looks := true }, kinds := [], alts := [], laidByText := true, laidKinds := [.data, .data, .data], laidTests := true, laidLooks := .later }
def ShareRunsUptoCardSaid : Prop := Claim7.holds Tryz.pinned (.plain (OpenSpec.upto shareRunsSpec)) shareRunsUptoCard
end Rows
end Go.Proofs.YtnagfmlifobdiaaGreatDoor
