/-
  DERIVED. GIVEN WITH THE SEED: THE CARDS: each row of YtgkkbkoiaccmfaaGreatDoorRows.lean that lists a variable, with what it lists TIED to the program's text (the seventh form; the later family's looks); each row that meets fmt, with fmt's text TOLD by the authors' own Lean function (tested against real Go, not proved from fmt's source: count such statements apart). THE CARD IS WHAT COUNTS. Prove the row's statement (the work); the ties are given (YtgkkbkoiaccmfaaGreatDoorTie.lean); close each card by the builder's one call (the guide's Derived/Test/ToyasCard.lean, 'card_holds'). Laid BY PROGRAM, IN A SANDBOX (cutbox-door.mjs). By AI agents, Wed Nov 11 2026. No macro, syntax, notation, axiom, sorry.
-/
import Derived.Test.YtgkkbkoiaccmfaaGreatDoorRows
import GoSem.ClaimSeven
namespace Go.Proofs.YtgkkbkoiaccmfaaGreatDoor
namespace Rows

/-- THE TIED CARD OF 'reckonerlaw04.PolysMakes'. -/
def polysMakesCard : Claim7 := { stood := { row := polysMakesRow, standIns := [], harness := (true, "0bd6649a65710bc3942271c2efb68b3a398c2d4e8e730c139816d290d7f652ee"), looks := false }, kinds := [], alts := [], laidByText := true, laidKinds := [.data, .data, .data], laidTests := true, laidLooks := .later }
def PolysMakesCardSaid : Prop := Claim7.holds Tryz.pinned (.plain (OpenSpec.ofChange polysMakesSpec)) polysMakesCard

/-- THE TIED CARD OF 'reckonerlaw04.PolysAt'. -/
def polysAtCard : Claim7 := { stood := { row := polysAtRow, standIns := [], harness := (true, "0bd6649a65710bc3942271c2efb68b3a398c2d4e8e730c139816d290d7f652ee"), looks := false }, kinds := [], alts := [], laidByText := true, laidKinds := [.data, .data, .data], laidTests := true, laidLooks := .later }
def PolysAtCardSaid : Prop := Claim7.holds Tryz.pinned (.plain (OpenSpec.ofChange polysAtSpec)) polysAtCard

/-- THE TIED CARD OF 'reckonerlaw07.PartsOf'. -/
def partsOfCard : Claim7 := { stood := { row := partsOfRow, standIns := [], harness := (true, "0bd6649a65710bc3942271c2efb68b3a398c2d4e8e730c139816d290d7f652ee"), looks := false }, kinds := [], alts := [], laidByText := true, laidKinds := [.data, .data, .data], laidTests := true, laidLooks := .later }
def PartsOfCardSaid : Prop := Claim7.holds Tryz.pinned (.plain (OpenSpec.ofChange partsOfSpec)) partsOfCard

/-- THE TIED CARD OF 'reckonerlaw04.PolysParts'. -/
def polysPartsCard : Claim7 := { stood := { row := polysPartsRow, standIns := [], harness := (true, "0bd6649a65710bc3942271c2efb68b3a398c2d4e8e730c139816d290d7f652ee"), looks := false }, kinds := [], alts := [], laidByText := true, laidKinds := [.data, .data, .data], laidTests := true, laidLooks := .later }
def PolysPartsCardSaid : Prop := Claim7.holds Tryz.pinned (.plain (OpenSpec.ofChange polysPartsSpec)) polysPartsCard

/-- THE TIED CARD OF 'reckonerlaw07.PartsMonic'. -/
def partsMonicCard : Claim7 := { stood := { row := partsMonicRow, standIns := [], harness := (true, "0bd6649a65710bc3942271c2efb68b3a398c2d4e8e730c139816d290d7f652ee"), looks := false }, kinds := [], alts := [], laidByText := true, laidKinds := [.data, .data, .data], laidTests := true, laidLooks := .later }
def PartsMonicCardSaid : Prop := Claim7.holds Tryz.pinned (.plain (OpenSpec.ofChange partsMonicSpec)) partsMonicCard

/-- THE TIED CARD OF 'reckonerlaw04.PolysPairs'. -/
def polysPairsCard : Claim7 := { stood := { row := polysPairsRow, standIns := [], harness := (true, "0bd6649a65710bc3942271c2efb68b3a398c2d4e8e730c139816d290d7f652ee"), looks := false }, kinds := [], alts := [], laidByText := true, laidKinds := [.data, .data, .data], laidTests := true, laidLooks := .later }
def PolysPairsCardSaid : Prop := Claim7.holds Tryz.pinned (.plain (OpenSpec.ofChange polysPairsSpec)) polysPairsCard

/-- THE TIED CARD OF 'reckonerlaw05.DividesOf'. -/
def dividesOfCard : Claim7 := { stood := { row := dividesOfRow, standIns := [], harness := (true, "0bd6649a65710bc3942271c2efb68b3a398c2d4e8e730c139816d290d7f652ee"), looks := false }, kinds := [], alts := [], laidByText := true, laidKinds := [.data, .data, .data], laidTests := true, laidLooks := .later }
def DividesOfCardSaid : Prop := Claim7.holds Tryz.pinned (.plain (OpenSpec.ofChange dividesOfSpec)) dividesOfCard

/-- THE SECOND FORM's CARD OF 'reckonerlaw04.PolysMakes'. -/
def polysMakesUptoCard : Claim7 := { stood := { row := polysMakesUptoRow, standIns := [], harness := (true, "0bd6649a65710bc3942271c2efb68b3a398c2d4e8e730c139816d290d7f652ee"), looks := false }, kinds := [], alts := [], laidByText := true, laidKinds := [.data, .data, .data], laidTests := true, laidLooks := .later }
def PolysMakesUptoCardSaid : Prop := Claim7.holds Tryz.pinned (.plain (OpenSpec.upto polysMakesSpec)) polysMakesUptoCard

/-- THE SECOND FORM's CARD OF 'reckonerlaw04.PolysAt'. -/
def polysAtUptoCard : Claim7 := { stood := { row := polysAtUptoRow, standIns := [], harness := (true, "0bd6649a65710bc3942271c2efb68b3a398c2d4e8e730c139816d290d7f652ee"), looks := false }, kinds := [], alts := [], laidByText := true, laidKinds := [.data, .data, .data], laidTests := true, laidLooks := .later }
def PolysAtUptoCardSaid : Prop := Claim7.holds Tryz.pinned (.plain (OpenSpec.upto polysAtSpec)) polysAtUptoCard

/-- THE SECOND FORM's CARD OF 'reckonerlaw07.PartsOf'. -/
def partsOfUptoCard : Claim7 := { stood := { row := partsOfUptoRow, standIns := [], harness := (true, "0bd6649a65710bc3942271c2efb68b3a398c2d4e8e730c139816d290d7f652ee"), looks := false }, kinds := [], alts := [], laidByText := true, laidKinds := [.data, .data, .data], laidTests := true, laidLooks := .later }
def PartsOfUptoCardSaid : Prop := Claim7.holds Tryz.pinned (.plain (OpenSpec.upto partsOfSpec)) partsOfUptoCard

/-- THE SECOND FORM's CARD OF 'reckonerlaw04.PolysParts'. -/
def polysPartsUptoCard : Claim7 := { stood := { row := polysPartsUptoRow, standIns := [], harness := (true, "0bd6649a65710bc3942271c2efb68b3a398c2d4e8e730c139816d290d7f652ee"), looks := false }, kinds := [], alts := [], laidByText := true, laidKinds := [.data, .data, .data], laidTests := true, laidLooks := .later }
def PolysPartsUptoCardSaid : Prop := Claim7.holds Tryz.pinned (.plain (OpenSpec.upto polysPartsSpec)) polysPartsUptoCard

/-- THE SECOND FORM's CARD OF 'reckonerlaw07.PartsMonic'. -/
def partsMonicUptoCard : Claim7 := { stood := { row := partsMonicUptoRow, standIns := [], harness := (true, "0bd6649a65710bc3942271c2efb68b3a398c2d4e8e730c139816d290d7f652ee"), looks := false }, kinds := [], alts := [], laidByText := true, laidKinds := [.data, .data, .data], laidTests := true, laidLooks := .later }
def PartsMonicUptoCardSaid : Prop := Claim7.holds Tryz.pinned (.plain (OpenSpec.upto partsMonicSpec)) partsMonicUptoCard

/-- THE SECOND FORM's CARD OF 'reckonerlaw04.PolysPairs'. -/
def polysPairsUptoCard : Claim7 := { stood := { row := polysPairsUptoRow, standIns := [], harness := (true, "0bd6649a65710bc3942271c2efb68b3a398c2d4e8e730c139816d290d7f652ee"), looks := false }, kinds := [], alts := [], laidByText := true, laidKinds := [.data, .data, .data], laidTests := true, laidLooks := .later }
def PolysPairsUptoCardSaid : Prop := Claim7.holds Tryz.pinned (.plain (OpenSpec.upto polysPairsSpec)) polysPairsUptoCard

/-- THE SECOND FORM's CARD OF 'reckonerlaw05.DividesOf'. -/
def dividesOfUptoCard : Claim7 := { stood := { row := dividesOfUptoRow, standIns := [], harness := (true, "0bd6649a65710bc3942271c2efb68b3a398c2d4e8e730c139816d290d7f652ee"), looks := false }, kinds := [], alts := [], laidByText := true, laidKinds := [.data, .data, .data], laidTests := true, laidLooks := .later }
def DividesOfUptoCardSaid : Prop := Claim7.holds Tryz.pinned (.plain (OpenSpec.upto dividesOfSpec)) dividesOfUptoCard
end Rows
end Go.Proofs.YtgkkbkoiaccmfaaGreatDoor
