/-
  DERIVED. GIVEN WITH THE SEED: THE CARDS: each row of YtccnflemopajcaaDoorRows.lean that lists a variable, with what it lists TIED to the program's text (the seventh form; the later family's looks); each row that meets fmt, with fmt's text TOLD by the authors' own Lean function (tested against real Go, not proved from fmt's source: count such statements apart). THE CARD IS WHAT COUNTS. Prove the row's statement (the work); the ties are given (YtccnflemopajcaaDoorTie.lean); close each card by the builder's one call (the guide's Derived/Test/ToyasCard.lean, 'card_holds'). Laid BY PROGRAM, IN A SANDBOX (cutbox-door.mjs). By AI agents, Wed Nov 11 2026. No macro, syntax, notation, axiom, sorry.
-/
import Derived.Test.YtccnflemopajcaaDoorRows
import GoSem.ClaimSeven
namespace Go.Proofs.YtccnflemopajcaaDoor
namespace Rows

/-- THE TIED CARD OF 'perilunelaw16.FixedProducts'. -/
def fixedProductsCard : Claim7 := { stood := { row := fixedProductsRow, standIns := [], harness := (true, "e44e2948def8f228f46e1bb6b89c1fe5e4fef8522221f990ab81355088b2647c"), looks := false }, kinds := [], alts := [], laidByText := true, laidKinds := [.data], laidTests := true, laidLooks := .later }
def FixedProductsCardSaid : Prop := Claim7.holds Tryd.pinned (.plain (OpenSpec.ofChange fixedProductsSpec)) fixedProductsCard

/-- THE TIED CARD OF 'perilunelaw16.FixedNearest'. -/
def fixedNearestCard : Claim7 := { stood := { row := fixedNearestRow, standIns := [], harness := (true, "e44e2948def8f228f46e1bb6b89c1fe5e4fef8522221f990ab81355088b2647c"), looks := false }, kinds := [], alts := [], laidByText := true, laidKinds := [.data], laidTests := true, laidLooks := .later }
def FixedNearestCardSaid : Prop := Claim7.holds Tryd.pinned (.plain (OpenSpec.ofChange fixedNearestSpec)) fixedNearestCard

/-- THE TIED CARD OF 'perilunelaw16.FixedQuotients'. -/
def fixedQuotientsCard : Claim7 := { stood := { row := fixedQuotientsRow, standIns := [], harness := (true, "e44e2948def8f228f46e1bb6b89c1fe5e4fef8522221f990ab81355088b2647c"), looks := false }, kinds := [], alts := [], laidByText := true, laidKinds := [.data], laidTests := true, laidLooks := .later }
def FixedQuotientsCardSaid : Prop := Claim7.holds Tryd.pinned (.plain (OpenSpec.ofChange fixedQuotientsSpec)) fixedQuotientsCard

/-- THE TIED CARD OF 'perilunelaw16.FixedDivides'. -/
def fixedDividesCard : Claim7 := { stood := { row := fixedDividesRow, standIns := [], harness := (true, "e44e2948def8f228f46e1bb6b89c1fe5e4fef8522221f990ab81355088b2647c"), looks := false }, kinds := [], alts := [], laidByText := true, laidKinds := [.data], laidTests := true, laidLooks := .later }
def FixedDividesCardSaid : Prop := Claim7.holds Tryd.pinned (.plain (OpenSpec.ofChange fixedDividesSpec)) fixedDividesCard

/-- THE TIED CARD OF 'perilunelaw16.FixedRoots'. -/
def fixedRootsCard : Claim7 := { stood := { row := fixedRootsRow, standIns := [], harness := (true, "e44e2948def8f228f46e1bb6b89c1fe5e4fef8522221f990ab81355088b2647c"), looks := false }, kinds := [], alts := [], laidByText := true, laidKinds := [.data], laidTests := true, laidLooks := .later }
def FixedRootsCardSaid : Prop := Claim7.holds Tryd.pinned (.plain (OpenSpec.ofChange fixedRootsSpec)) fixedRootsCard

/-- THE TIED CARD OF 'perilunelaw16.FixedPoly'. -/
def fixedPolyCard : Claim7 := { stood := { row := fixedPolyRow, standIns := [], harness := (true, "e44e2948def8f228f46e1bb6b89c1fe5e4fef8522221f990ab81355088b2647c"), looks := false }, kinds := [], alts := [], laidByText := true, laidKinds := [.data], laidTests := true, laidLooks := .later }
def FixedPolyCardSaid : Prop := Claim7.holds Tryd.pinned (.plain (OpenSpec.ofChange fixedPolySpec)) fixedPolyCard

/-- THE TIED CARD OF 'perilunelaw16.FixedSines'. -/
def fixedSinesCard : Claim7 := { stood := { row := fixedSinesRow, standIns := [], harness := (true, "e44e2948def8f228f46e1bb6b89c1fe5e4fef8522221f990ab81355088b2647c"), looks := false }, kinds := [], alts := [], laidByText := true, laidKinds := [.data], laidTests := true, laidLooks := .later }
def FixedSinesCardSaid : Prop := Claim7.holds Tryd.pinned (.plain (OpenSpec.ofChange fixedSinesSpec)) fixedSinesCard

/-- THE TIED CARD OF 'perilunelaw16.FixedTurns'. -/
def fixedTurnsCard : Claim7 := { stood := { row := fixedTurnsRow, standIns := [], harness := (true, "e44e2948def8f228f46e1bb6b89c1fe5e4fef8522221f990ab81355088b2647c"), looks := false }, kinds := [], alts := [], laidByText := true, laidKinds := [.data], laidTests := true, laidLooks := .later }
def FixedTurnsCardSaid : Prop := Claim7.holds Tryd.pinned (.plain (OpenSpec.ofChange fixedTurnsSpec)) fixedTurnsCard

/-- THE TIED CARD OF 'perilunelaw16.FixedCircle'. -/
def fixedCircleCard : Claim7 := { stood := { row := fixedCircleRow, standIns := [], harness := (true, "e44e2948def8f228f46e1bb6b89c1fe5e4fef8522221f990ab81355088b2647c"), looks := false }, kinds := [], alts := [], laidByText := true, laidKinds := [.data], laidTests := true, laidLooks := .later }
def FixedCircleCardSaid : Prop := Claim7.holds Tryd.pinned (.plain (OpenSpec.ofChange fixedCircleSpec)) fixedCircleCard

/-- THE TIED CARD OF 'perilunelaw16.FixedKnown'. -/
def fixedKnownCard : Claim7 := { stood := { row := fixedKnownRow, standIns := [], harness := (true, "e44e2948def8f228f46e1bb6b89c1fe5e4fef8522221f990ab81355088b2647c"), looks := false }, kinds := [], alts := [], laidByText := true, laidKinds := [.data], laidTests := true, laidLooks := .later }
def FixedKnownCardSaid : Prop := Claim7.holds Tryd.pinned (.plain (OpenSpec.ofChange fixedKnownSpec)) fixedKnownCard

/-- THE SECOND FORM's CARD OF 'perilunelaw16.FixedProducts'. -/
def fixedProductsUptoCard : Claim7 := { stood := { row := fixedProductsUptoRow, standIns := [], harness := (true, "e44e2948def8f228f46e1bb6b89c1fe5e4fef8522221f990ab81355088b2647c"), looks := false }, kinds := [], alts := [], laidByText := true, laidKinds := [.data], laidTests := true, laidLooks := .later }
def FixedProductsUptoCardSaid : Prop := Claim7.holds Tryd.pinned (.plain (OpenSpec.upto fixedProductsSpec)) fixedProductsUptoCard

/-- THE SECOND FORM's CARD OF 'perilunelaw16.FixedNearest'. -/
def fixedNearestUptoCard : Claim7 := { stood := { row := fixedNearestUptoRow, standIns := [], harness := (true, "e44e2948def8f228f46e1bb6b89c1fe5e4fef8522221f990ab81355088b2647c"), looks := false }, kinds := [], alts := [], laidByText := true, laidKinds := [.data], laidTests := true, laidLooks := .later }
def FixedNearestUptoCardSaid : Prop := Claim7.holds Tryd.pinned (.plain (OpenSpec.upto fixedNearestSpec)) fixedNearestUptoCard

/-- THE SECOND FORM's CARD OF 'perilunelaw16.FixedQuotients'. -/
def fixedQuotientsUptoCard : Claim7 := { stood := { row := fixedQuotientsUptoRow, standIns := [], harness := (true, "e44e2948def8f228f46e1bb6b89c1fe5e4fef8522221f990ab81355088b2647c"), looks := false }, kinds := [], alts := [], laidByText := true, laidKinds := [.data], laidTests := true, laidLooks := .later }
def FixedQuotientsUptoCardSaid : Prop := Claim7.holds Tryd.pinned (.plain (OpenSpec.upto fixedQuotientsSpec)) fixedQuotientsUptoCard

/-- THE SECOND FORM's CARD OF 'perilunelaw16.FixedDivides'. -/
def fixedDividesUptoCard : Claim7 := { stood := { row := fixedDividesUptoRow, standIns := [], harness := (true, "e44e2948def8f228f46e1bb6b89c1fe5e4fef8522221f990ab81355088b2647c"), looks := false }, kinds := [], alts := [], laidByText := true, laidKinds := [.data], laidTests := true, laidLooks := .later }
def FixedDividesUptoCardSaid : Prop := Claim7.holds Tryd.pinned (.plain (OpenSpec.upto fixedDividesSpec)) fixedDividesUptoCard

/-- THE SECOND FORM's CARD OF 'perilunelaw16.FixedRoots'. -/
def fixedRootsUptoCard : Claim7 := { stood := { row := fixedRootsUptoRow, standIns := [], harness := (true, "e44e2948def8f228f46e1bb6b89c1fe5e4fef8522221f990ab81355088b2647c"), looks := false }, kinds := [], alts := [], laidByText := true, laidKinds := [.data], laidTests := true, laidLooks := .later }
def FixedRootsUptoCardSaid : Prop := Claim7.holds Tryd.pinned (.plain (OpenSpec.upto fixedRootsSpec)) fixedRootsUptoCard

/-- THE SECOND FORM's CARD OF 'perilunelaw16.FixedPoly'. -/
def fixedPolyUptoCard : Claim7 := { stood := { row := fixedPolyUptoRow, standIns := [], harness := (true, "e44e2948def8f228f46e1bb6b89c1fe5e4fef8522221f990ab81355088b2647c"), looks := false }, kinds := [], alts := [], laidByText := true, laidKinds := [.data], laidTests := true, laidLooks := .later }
def FixedPolyUptoCardSaid : Prop := Claim7.holds Tryd.pinned (.plain (OpenSpec.upto fixedPolySpec)) fixedPolyUptoCard

/-- THE SECOND FORM's CARD OF 'perilunelaw16.FixedSines'. -/
def fixedSinesUptoCard : Claim7 := { stood := { row := fixedSinesUptoRow, standIns := [], harness := (true, "e44e2948def8f228f46e1bb6b89c1fe5e4fef8522221f990ab81355088b2647c"), looks := false }, kinds := [], alts := [], laidByText := true, laidKinds := [.data], laidTests := true, laidLooks := .later }
def FixedSinesUptoCardSaid : Prop := Claim7.holds Tryd.pinned (.plain (OpenSpec.upto fixedSinesSpec)) fixedSinesUptoCard

/-- THE SECOND FORM's CARD OF 'perilunelaw16.FixedTurns'. -/
def fixedTurnsUptoCard : Claim7 := { stood := { row := fixedTurnsUptoRow, standIns := [], harness := (true, "e44e2948def8f228f46e1bb6b89c1fe5e4fef8522221f990ab81355088b2647c"), looks := false }, kinds := [], alts := [], laidByText := true, laidKinds := [.data], laidTests := true, laidLooks := .later }
def FixedTurnsUptoCardSaid : Prop := Claim7.holds Tryd.pinned (.plain (OpenSpec.upto fixedTurnsSpec)) fixedTurnsUptoCard

/-- THE SECOND FORM's CARD OF 'perilunelaw16.FixedCircle'. -/
def fixedCircleUptoCard : Claim7 := { stood := { row := fixedCircleUptoRow, standIns := [], harness := (true, "e44e2948def8f228f46e1bb6b89c1fe5e4fef8522221f990ab81355088b2647c"), looks := false }, kinds := [], alts := [], laidByText := true, laidKinds := [.data], laidTests := true, laidLooks := .later }
def FixedCircleUptoCardSaid : Prop := Claim7.holds Tryd.pinned (.plain (OpenSpec.upto fixedCircleSpec)) fixedCircleUptoCard

/-- THE SECOND FORM's CARD OF 'perilunelaw16.FixedKnown'. -/
def fixedKnownUptoCard : Claim7 := { stood := { row := fixedKnownUptoRow, standIns := [], harness := (true, "e44e2948def8f228f46e1bb6b89c1fe5e4fef8522221f990ab81355088b2647c"), looks := false }, kinds := [], alts := [], laidByText := true, laidKinds := [.data], laidTests := true, laidLooks := .later }
def FixedKnownUptoCardSaid : Prop := Claim7.holds Tryd.pinned (.plain (OpenSpec.upto fixedKnownSpec)) fixedKnownUptoCard
end Rows
end Go.Proofs.YtccnflemopajcaaDoor
