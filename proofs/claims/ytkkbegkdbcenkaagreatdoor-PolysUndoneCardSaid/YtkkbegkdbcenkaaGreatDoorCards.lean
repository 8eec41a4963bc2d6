/-
  DERIVED. GIVEN WITH THE SEED: THE CARDS: each row of YtkkbegkdbcenkaaGreatDoorRows.lean that lists a variable, with what it lists TIED to the program's text (the seventh form; the later family's looks); each row that meets fmt, with fmt's text TOLD by the authors' own Lean function (tested against real Go, not proved from fmt's source: count such statements apart). THE CARD IS WHAT COUNTS. Prove the row's statement (the work); the ties are given (YtkkbegkdbcenkaaGreatDoorTie.lean); close each card by the builder's one call (the guide's Derived/Test/ToyasCard.lean, 'card_holds'). Laid BY PROGRAM, IN A SANDBOX (cutbox-door.mjs). By AI agents, Wed Nov 11 2026. No macro, syntax, notation, axiom, sorry.
-/
import Derived.Test.YtkkbegkdbcenkaaGreatDoorRows
import GoSem.ClaimSeven
namespace Go.Proofs.YtkkbegkdbcenkaaGreatDoor
namespace Rows

/-- THE TIED CARD OF 'reckonerlaw04.PolysRing'. -/
def polysRingCard : Claim7 := { stood := { row := polysRingRow, standIns := [], harness := (true, "9ef45e551af8a89bc9cb93b26f522e9bd11542b2da7e33700c81ae75575b2e8e"), looks := true }, kinds := [], alts := [], laidByText := true, laidKinds := [.data, .data, .data, .data, .sentinel, .sentinel, .pinned], laidTests := true, laidLooks := .later }
def PolysRingCardSaid : Prop := Claim7.holds Tryz.pinned (.plain (OpenSpec.ofChange polysRingSpec)) polysRingCard

/-- THE TIED CARD OF 'reckonerlaw04.PolysLeads'. -/
def polysLeadsCard : Claim7 := { stood := { row := polysLeadsRow, standIns := [], harness := (true, "9ef45e551af8a89bc9cb93b26f522e9bd11542b2da7e33700c81ae75575b2e8e"), looks := true }, kinds := [], alts := [], laidByText := true, laidKinds := [.data, .data, .data, .data, .sentinel, .sentinel, .pinned], laidTests := true, laidLooks := .later }
def PolysLeadsCardSaid : Prop := Claim7.holds Tryz.pinned (.plain (OpenSpec.ofChange polysLeadsSpec)) polysLeadsCard

/-- THE TIED CARD OF 'reckonerlaw04.PolysBuilt'. -/
def polysBuiltCard : Claim7 := { stood := { row := polysBuiltRow, standIns := [], harness := (true, "9ef45e551af8a89bc9cb93b26f522e9bd11542b2da7e33700c81ae75575b2e8e"), looks := true }, kinds := [], alts := [], laidByText := true, laidKinds := [.data, .data, .data, .data, .sentinel, .sentinel, .pinned], laidTests := true, laidLooks := .later }
def PolysBuiltCardSaid : Prop := Claim7.holds Tryz.pinned (.plain (OpenSpec.ofChange polysBuiltSpec)) polysBuiltCard

/-- THE TIED CARD OF 'reckonerlaw04.PolysPlaces'. -/
def polysPlacesCard : Claim7 := { stood := { row := polysPlacesRow, standIns := [], harness := (true, "9ef45e551af8a89bc9cb93b26f522e9bd11542b2da7e33700c81ae75575b2e8e"), looks := true }, kinds := [], alts := [], laidByText := true, laidKinds := [.data, .data, .data, .data, .sentinel, .sentinel, .pinned], laidTests := true, laidLooks := .later }
def PolysPlacesCardSaid : Prop := Claim7.holds Tryz.pinned (.plain (OpenSpec.ofChange polysPlacesSpec)) polysPlacesCard

/-- THE TIED CARD OF 'reckonerlaw04.PolysSlopes'. -/
def polysSlopesCard : Claim7 := { stood := { row := polysSlopesRow, standIns := [], harness := (true, "9ef45e551af8a89bc9cb93b26f522e9bd11542b2da7e33700c81ae75575b2e8e"), looks := true }, kinds := [], alts := [], laidByText := true, laidKinds := [.data, .data, .data, .data, .sentinel, .sentinel, .pinned], laidTests := true, laidLooks := .later }
def PolysSlopesCardSaid : Prop := Claim7.holds Tryz.pinned (.plain (OpenSpec.ofChange polysSlopesSpec)) polysSlopesCard

/-- THE TIED CARD OF 'reckonerlaw04.PolysUndone'. -/
def polysUndoneCard : Claim7 := { stood := { row := polysUndoneRow, standIns := [], harness := (true, "9ef45e551af8a89bc9cb93b26f522e9bd11542b2da7e33700c81ae75575b2e8e"), looks := true }, kinds := [], alts := [], laidByText := true, laidKinds := [.data, .data, .data, .data, .sentinel, .sentinel, .pinned], laidTests := true, laidLooks := .later }
def PolysUndoneCardSaid : Prop := Claim7.holds Tryz.pinned (.plain (OpenSpec.ofChange polysUndoneSpec)) polysUndoneCard

/-- THE SECOND FORM's CARD OF 'reckonerlaw04.PolysRing'. -/
def polysRingUptoCard : Claim7 := { stood := { row := polysRingUptoRow, standIns := [], harness := (true, "9ef45e551af8a89bc9cb93b26f522e9bd11542b2da7e33700c81ae75575b2e8e"), looks := true }, kinds := [], alts := [], laidByText := true, laidKinds := [.data, .data, .data, .data, .sentinel, .sentinel, .pinned], laidTests := true, laidLooks := .later }
def PolysRingUptoCardSaid : Prop := Claim7.holds Tryz.pinned (.plain (OpenSpec.upto polysRingSpec)) polysRingUptoCard

/-- THE SECOND FORM's CARD OF 'reckonerlaw04.PolysLeads'. -/
def polysLeadsUptoCard : Claim7 := { stood := { row := polysLeadsUptoRow, standIns := [], harness := (true, "9ef45e551af8a89bc9cb93b26f522e9bd11542b2da7e33700c81ae75575b2e8e"), looks := true }, kinds := [], alts := [], laidByText := true, laidKinds := [.data, .data, .data, .data, .sentinel, .sentinel, .pinned], laidTests := true, laidLooks := .later }
def PolysLeadsUptoCardSaid : Prop := Claim7.holds Tryz.pinned (.plain (OpenSpec.upto polysLeadsSpec)) polysLeadsUptoCard

/-- THE SECOND FORM's CARD OF 'reckonerlaw04.PolysBuilt'. -/
def polysBuiltUptoCard : Claim7 := { stood := { row := polysBuiltUptoRow, standIns := [], harness := (true, "9ef45e551af8a89bc9cb93b26f522e9bd11542b2da7e33700c81ae75575b2e8e"), looks := true }, kinds := [], alts := [], laidByText := true, laidKinds := [.data, .data, .data, .data, .sentinel, .sentinel, .pinned], laidTests := true, laidLooks := .later }
def PolysBuiltUptoCardSaid : Prop := Claim7.holds Tryz.pinned (.plain (OpenSpec.upto polysBuiltSpec)) polysBuiltUptoCard

/-- THE SECOND FORM's CARD OF 'reckonerlaw04.PolysPlaces'. -/
def polysPlacesUptoCard : Claim7 := { stood := { row := polysPlacesUptoRow, standIns := [], harness := (true, "9ef45e551af8a89bc9cb93b26f522e9bd11542b2da7e33700c81ae75575b2e8e"), looks := true }, kinds := [], alts := [], laidByText := true, laidKinds := [.data, .data, .data, .data, .sentinel, .sentinel, .pinned], laidTests := true, laidLooks := .later }
def PolysPlacesUptoCardSaid : Prop := Claim7.holds Tryz.pinned (.plain (OpenSpec.upto polysPlacesSpec)) polysPlacesUptoCard

/-- THE SECOND FORM's CARD OF 'reckonerlaw04.PolysSlopes'. -/
def polysSlopesUptoCard : Claim7 := { stood := { row := polysSlopesUptoRow, standIns := [], harness := (true, "9ef45e551af8a89bc9cb93b26f522e9bd11542b2da7e33700c81ae75575b2e8e"), looks := true }, kinds := [], alts := [], laidByText := true, laidKinds := [.data, .data, .data, .data, .sentinel, .sentinel, .pinned], laidTests := true, laidLooks := .later }
def PolysSlopesUptoCardSaid : Prop := Claim7.holds Tryz.pinned (.plain (OpenSpec.upto polysSlopesSpec)) polysSlopesUptoCard

/-- THE SECOND FORM's CARD OF 'reckonerlaw04.PolysUndone'. -/
def polysUndoneUptoCard : Claim7 := { stood := { row := polysUndoneUptoRow, standIns := [], harness := (true, "9ef45e551af8a89bc9cb93b26f522e9bd11542b2da7e33700c81ae75575b2e8e"), looks := true }, kinds := [], alts := [], laidByText := true, laidKinds := [.data, .data, .data, .data, .sentinel, .sentinel, .pinned], laidTests := true, laidLooks := .later }
def PolysUndoneUptoCardSaid : Prop := Claim7.holds Tryz.pinned (.plain (OpenSpec.upto polysUndoneSpec)) polysUndoneUptoCard
end Rows
end Go.Proofs.YtkkbegkdbcenkaaGreatDoor
