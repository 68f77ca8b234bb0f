/-
  DERIVED. GIVEN WITH THE SEED: THE CARDS: each row of YtbbhppjamighdaaDoorRows.lean that lists a variable, with what it lists TIED to the program's text (the seventh form; the later family's looks); each row that meets fmt, with fmt's text TOLD by the authors' own Lean function (tested against real Go, not proved from fmt's source: count such statements apart). THE CARD IS WHAT COUNTS. Prove the row's statement (the work); the ties are given (YtbbhppjamighdaaDoorTie.lean); close each card by the builder's one call (the guide's Derived/Test/ToyasCard.lean, 'card_holds'). Laid BY PROGRAM, IN A SANDBOX (cutbox-door.mjs). By AI agents, Wed Nov 11 2026. No macro, syntax, notation, axiom, sorry.
-/
import Derived.Test.YtbbhppjamighdaaDoorRows
import GoSem.ClaimSeven
namespace Go.Proofs.YtbbhppjamighdaaDoor
namespace Rows

/-- THE TIED CARD OF 'perilunelaw34.AlignAngles'. -/
def alignAnglesCard : Claim7 := { stood := { row := alignAnglesRow, standIns := [], harness := (true, "eb1325b6ebbbcb92b330cd611406bf64526252fdffc4cd1aed32e50e98e5489a"), looks := false }, kinds := [], alts := [], laidByText := true, laidKinds := [.data], laidTests := true, laidLooks := .later }
def AlignAnglesCardSaid : Prop := Claim7.holds Tryd.pinned (.plain (OpenSpec.ofChange alignAnglesSpec)) alignAnglesCard

/-- THE TIED CARD OF 'perilunelaw34.AlignKnown'. -/
def alignKnownCard : Claim7 := { stood := { row := alignKnownRow, standIns := [], harness := (true, "eb1325b6ebbbcb92b330cd611406bf64526252fdffc4cd1aed32e50e98e5489a"), looks := false }, kinds := [], alts := [], laidByText := true, laidKinds := [.data], laidTests := true, laidLooks := .later }
def AlignKnownCardSaid : Prop := Claim7.holds Tryd.pinned (.plain (OpenSpec.ofChange alignKnownSpec)) alignKnownCard

/-- THE TIED CARD OF 'perilunelaw34.AlignTriads'. -/
def alignTriadsCard : Claim7 := { stood := { row := alignTriadsRow, standIns := [], harness := (true, "eb1325b6ebbbcb92b330cd611406bf64526252fdffc4cd1aed32e50e98e5489a"), looks := false }, kinds := [], alts := [], laidByText := true, laidKinds := [.data], laidTests := true, laidLooks := .later }
def AlignTriadsCardSaid : Prop := Claim7.holds Tryd.pinned (.plain (OpenSpec.ofChange alignTriadsSpec)) alignTriadsCard

/-- THE TIED CARD OF 'perilunelaw34.AlignFrames'. -/
def alignFramesCard : Claim7 := { stood := { row := alignFramesRow, standIns := [], harness := (true, "eb1325b6ebbbcb92b330cd611406bf64526252fdffc4cd1aed32e50e98e5489a"), looks := false }, kinds := [], alts := [], laidByText := true, laidKinds := [.data], laidTests := true, laidLooks := .later }
def AlignFramesCardSaid : Prop := Claim7.holds Tryd.pinned (.plain (OpenSpec.ofChange alignFramesSpec)) alignFramesCard

/-- THE TIED CARD OF 'perilunelaw34.AlignOrients'. -/
def alignOrientsCard : Claim7 := { stood := { row := alignOrientsRow, standIns := [], harness := (true, "eb1325b6ebbbcb92b330cd611406bf64526252fdffc4cd1aed32e50e98e5489a"), looks := false }, kinds := [], alts := [], laidByText := true, laidKinds := [.data], laidTests := true, laidLooks := .later }
def AlignOrientsCardSaid : Prop := Claim7.holds Tryd.pinned (.plain (OpenSpec.ofChange alignOrientsSpec)) alignOrientsCard

/-- THE TIED CARD OF 'perilunelaw34.AlignTurns'. -/
def alignTurnsCard : Claim7 := { stood := { row := alignTurnsRow, standIns := [], harness := (true, "eb1325b6ebbbcb92b330cd611406bf64526252fdffc4cd1aed32e50e98e5489a"), looks := false }, kinds := [], alts := [], laidByText := true, laidKinds := [.data], laidTests := true, laidLooks := .later }
def AlignTurnsCardSaid : Prop := Claim7.holds Tryd.pinned (.plain (OpenSpec.ofChange alignTurnsSpec)) alignTurnsCard

/-- THE TIED CARD OF 'perilunelaw34.AlignSmall'. -/
def alignSmallCard : Claim7 := { stood := { row := alignSmallRow, standIns := [], harness := (true, "eb1325b6ebbbcb92b330cd611406bf64526252fdffc4cd1aed32e50e98e5489a"), looks := false }, kinds := [], alts := [], laidByText := true, laidKinds := [.data], laidTests := true, laidLooks := .later }
def AlignSmallCardSaid : Prop := Claim7.holds Tryd.pinned (.plain (OpenSpec.ofChange alignSmallSpec)) alignSmallCard

/-- THE TIED CARD OF 'perilunelaw34.AlignSame'. -/
def alignSameCard : Claim7 := { stood := { row := alignSameRow, standIns := [], harness := (true, "eb1325b6ebbbcb92b330cd611406bf64526252fdffc4cd1aed32e50e98e5489a"), looks := false }, kinds := [], alts := [], laidByText := true, laidKinds := [.data], laidTests := true, laidLooks := .later }
def AlignSameCardSaid : Prop := Claim7.holds Tryd.pinned (.plain (OpenSpec.ofChange alignSameSpec)) alignSameCard

/-- THE SECOND FORM's CARD OF 'perilunelaw34.AlignAngles'. -/
def alignAnglesUptoCard : Claim7 := { stood := { row := alignAnglesUptoRow, standIns := [], harness := (true, "eb1325b6ebbbcb92b330cd611406bf64526252fdffc4cd1aed32e50e98e5489a"), looks := false }, kinds := [], alts := [], laidByText := true, laidKinds := [.data], laidTests := true, laidLooks := .later }
def AlignAnglesUptoCardSaid : Prop := Claim7.holds Tryd.pinned (.plain (OpenSpec.upto alignAnglesSpec)) alignAnglesUptoCard

/-- THE SECOND FORM's CARD OF 'perilunelaw34.AlignKnown'. -/
def alignKnownUptoCard : Claim7 := { stood := { row := alignKnownUptoRow, standIns := [], harness := (true, "eb1325b6ebbbcb92b330cd611406bf64526252fdffc4cd1aed32e50e98e5489a"), looks := false }, kinds := [], alts := [], laidByText := true, laidKinds := [.data], laidTests := true, laidLooks := .later }
def AlignKnownUptoCardSaid : Prop := Claim7.holds Tryd.pinned (.plain (OpenSpec.upto alignKnownSpec)) alignKnownUptoCard

/-- THE SECOND FORM's CARD OF 'perilunelaw34.AlignTriads'. -/
def alignTriadsUptoCard : Claim7 := { stood := { row := alignTriadsUptoRow, standIns := [], harness := (true, "eb1325b6ebbbcb92b330cd611406bf64526252fdffc4cd1aed32e50e98e5489a"), looks := false }, kinds := [], alts := [], laidByText := true, laidKinds := [.data], laidTests := true, laidLooks := .later }
def AlignTriadsUptoCardSaid : Prop := Claim7.holds Tryd.pinned (.plain (OpenSpec.upto alignTriadsSpec)) alignTriadsUptoCard

/-- THE SECOND FORM's CARD OF 'perilunelaw34.AlignFrames'. -/
def alignFramesUptoCard : Claim7 := { stood := { row := alignFramesUptoRow, standIns := [], harness := (true, "eb1325b6ebbbcb92b330cd611406bf64526252fdffc4cd1aed32e50e98e5489a"), looks := false }, kinds := [], alts := [], laidByText := true, laidKinds := [.data], laidTests := true, laidLooks := .later }
def AlignFramesUptoCardSaid : Prop := Claim7.holds Tryd.pinned (.plain (OpenSpec.upto alignFramesSpec)) alignFramesUptoCard

/-- THE SECOND FORM's CARD OF 'perilunelaw34.AlignOrients'. -/
def alignOrientsUptoCard : Claim7 := { stood := { row := alignOrientsUptoRow, standIns := [], harness := (true, "eb1325b6ebbbcb92b330cd611406bf64526252fdffc4cd1aed32e50e98e5489a"), looks := false }, kinds := [], alts := [], laidByText := true, laidKinds := [.data], laidTests := true, laidLooks := .later }
def AlignOrientsUptoCardSaid : Prop := Claim7.holds Tryd.pinned (.plain (OpenSpec.upto alignOrientsSpec)) alignOrientsUptoCard

/-- THE SECOND FORM's CARD OF 'perilunelaw34.AlignTurns'. -/
def alignTurnsUptoCard : Claim7 := { stood := { row := alignTurnsUptoRow, standIns := [], harness := (true, "eb1325b6ebbbcb92b330cd611406bf64526252fdffc4cd1aed32e50e98e5489a"), looks := false }, kinds := [], alts := [], laidByText := true, laidKinds := [.data], laidTests := true, laidLooks := .later }
def AlignTurnsUptoCardSaid : Prop := Claim7.holds Tryd.pinned (.plain (OpenSpec.upto alignTurnsSpec)) alignTurnsUptoCard

/-- THE SECOND FORM's CARD OF 'perilunelaw34.AlignSmall'. -/
def alignSmallUptoCard : Claim7 := { stood := { row := alignSmallUptoRow, standIns := [], harness := (true, "eb1325b6ebbbcb92b330cd611406bf64526252fdffc4cd1aed32e50e98e5489a"), looks := false }, kinds := [], alts := [], laidByText := true, laidKinds := [.data], laidTests := true, laidLooks := .later }
def AlignSmallUptoCardSaid : Prop := Claim7.holds Tryd.pinned (.plain (OpenSpec.upto alignSmallSpec)) alignSmallUptoCard

/-- THE SECOND FORM's CARD OF 'perilunelaw34.AlignSame'. -/
def alignSameUptoCard : Claim7 := { stood := { row := alignSameUptoRow, standIns := [], harness := (true, "eb1325b6ebbbcb92b330cd611406bf64526252fdffc4cd1aed32e50e98e5489a"), looks := false }, kinds := [], alts := [], laidByText := true, laidKinds := [.data], laidTests := true, laidLooks := .later }
def AlignSameUptoCardSaid : Prop := Claim7.holds Tryd.pinned (.plain (OpenSpec.upto alignSameSpec)) alignSameUptoCard
end Rows
end Go.Proofs.YtbbhppjamighdaaDoor
