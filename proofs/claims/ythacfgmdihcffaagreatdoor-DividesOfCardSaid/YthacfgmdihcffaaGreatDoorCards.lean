/-
  DERIVED. GIVEN WITH THE SEED: THE CARDS: each row of YthacfgmdihcffaaGreatDoorRows.lean that lists a variable, with what it lists TIED to the program's text (the seventh form; the later family's looks); each row that meets fmt, with fmt's text TOLD by the authors' own Lean function (tested against real Go, not proved from fmt's source: count such statements apart). THE CARD IS WHAT COUNTS. Prove the row's statement (the work); the ties are given (YthacfgmdihcffaaGreatDoorTie.lean); close each card by the builder's one call (the guide's Derived/Test/ToyasCard.lean, 'card_holds'). Laid BY PROGRAM, IN A SANDBOX (cutbox-door.mjs). By AI agents, Wed Nov 11 2026. No macro, syntax, notation, axiom, sorry.
-/
import Derived.Test.YthacfgmdihcffaaGreatDoorRows
import GoSem.ClaimSeven
namespace Go.Proofs.YthacfgmdihcffaaGreatDoor
namespace Rows

/-- THE TIED CARD OF 'reckonerlaw04.PolysParts'. -/
def polysPartsCard : Claim7 := { stood := { row := polysPartsRow, standIns := [], harness := (true, "6bed845973f7e570a12cdbb85bf26f5b9fb6b411f0901f59416363c5f029191b"), looks := false }, kinds := [], alts := [], laidByText := true, laidKinds := [.data, .data, .data], laidTests := true, laidLooks := .later }
def PolysPartsCardSaid : Prop := Claim7.holds Tryz.pinned (.plain (OpenSpec.ofChange polysPartsSpec)) polysPartsCard

/-- THE TIED CARD OF 'reckonerlaw05.DividesOf'. -/
def dividesOfCard : Claim7 := { stood := { row := dividesOfRow, standIns := [], harness := (true, "6bed845973f7e570a12cdbb85bf26f5b9fb6b411f0901f59416363c5f029191b"), looks := false }, kinds := [], alts := [], laidByText := true, laidKinds := [.data, .data, .data], laidTests := true, laidLooks := .later }
def DividesOfCardSaid : Prop := Claim7.holds Tryz.pinned (.plain (OpenSpec.ofChange dividesOfSpec)) dividesOfCard

/-- THE SECOND FORM's CARD OF 'reckonerlaw04.PolysParts'. -/
def polysPartsUptoCard : Claim7 := { stood := { row := polysPartsUptoRow, standIns := [], harness := (true, "6bed845973f7e570a12cdbb85bf26f5b9fb6b411f0901f59416363c5f029191b"), looks := false }, kinds := [], alts := [], laidByText := true, laidKinds := [.data, .data, .data], laidTests := true, laidLooks := .later }
def PolysPartsUptoCardSaid : Prop := Claim7.holds Tryz.pinned (.plain (OpenSpec.upto polysPartsSpec)) polysPartsUptoCard

/-- THE SECOND FORM's CARD OF 'reckonerlaw05.DividesOf'. -/
def dividesOfUptoCard : Claim7 := { stood := { row := dividesOfUptoRow, standIns := [], harness := (true, "6bed845973f7e570a12cdbb85bf26f5b9fb6b411f0901f59416363c5f029191b"), looks := false }, kinds := [], alts := [], laidByText := true, laidKinds := [.data, .data, .data], laidTests := true, laidLooks := .later }
def DividesOfUptoCardSaid : Prop := Claim7.holds Tryz.pinned (.plain (OpenSpec.upto dividesOfSpec)) dividesOfUptoCard
end Rows
end Go.Proofs.YthacfgmdihcffaaGreatDoor
