/-
  DERIVED. GIVEN WITH THE SEED: THE CARDS: each row of YtkpajfjjhbbieaaGreatDoorRows.lean that lists a variable, with what it lists TIED to the program's text (the seventh form; the later family's looks); each row that meets fmt, with fmt's text TOLD by the authors' own Lean function (tested against real Go, not proved from fmt's source: count such statements apart). THE CARD IS WHAT COUNTS. Prove the row's statement (the work); the ties are given (YtkpajfjjhbbieaaGreatDoorTie.lean); close each card by the builder's one call (the guide's Derived/Test/ToyasCard.lean, 'card_holds'). Laid BY PROGRAM, IN A SANDBOX (cutbox-door.mjs). By AI agents, Wed Nov 11 2026. No macro, syntax, notation, axiom, sorry.
-/
import Derived.Test.YtkpajfjjhbbieaaGreatDoorRows
import GoSem.ClaimSeven
namespace Go.Proofs.YtkpajfjjhbbieaaGreatDoor
namespace Rows

/-- THE TIED CARD OF 'reckonerlaw01.LimbsTexts'. -/
def limbsTextsCard : Claim7 := { stood := { row := limbsTextsRow, standIns := [], harness := (true, "7b3620133f76cb2c457cf0d3dba04993fd0a28556049b998826fe0f311d1f608"), looks := true }, kinds := [], alts := [], laidByText := true, laidKinds := [.data, .data, .data, .data, .sentinel, .sentinel, .pinned], laidTests := true, laidLooks := .later }
def LimbsTextsCardSaid : Prop := Claim7.holds Tryz.pinned (.plain (OpenSpec.ofChange limbsTextsSpec)) limbsTextsCard

/-- THE TIED CARD OF 'reckonerlaw01.LimbsRing'. -/
def limbsRingCard : Claim7 := { stood := { row := limbsRingRow, standIns := [], harness := (true, "7b3620133f76cb2c457cf0d3dba04993fd0a28556049b998826fe0f311d1f608"), looks := true }, kinds := [], alts := [], laidByText := true, laidKinds := [.data, .data, .data, .data, .sentinel, .sentinel, .pinned], laidTests := true, laidLooks := .later }
def LimbsRingCardSaid : Prop := Claim7.holds Tryz.pinned (.plain (OpenSpec.ofChange limbsRingSpec)) limbsRingCard

/-- THE TIED CARD OF 'reckonerlaw01.LimbsShift'. -/
def limbsShiftCard : Claim7 := { stood := { row := limbsShiftRow, standIns := [], harness := (true, "7b3620133f76cb2c457cf0d3dba04993fd0a28556049b998826fe0f311d1f608"), looks := true }, kinds := [], alts := [], laidByText := true, laidKinds := [.data, .data, .data, .data, .sentinel, .sentinel, .pinned], laidTests := true, laidLooks := .later }
def LimbsShiftCardSaid : Prop := Claim7.holds Tryz.pinned (.plain (OpenSpec.ofChange limbsShiftSpec)) limbsShiftCard

/-- THE TIED CARD OF 'reckonerlaw01.LimbsOften'. -/
def limbsOftenCard : Claim7 := { stood := { row := limbsOftenRow, standIns := [], harness := (true, "7b3620133f76cb2c457cf0d3dba04993fd0a28556049b998826fe0f311d1f608"), looks := true }, kinds := [], alts := [], laidByText := true, laidKinds := [.data, .data, .data, .data, .sentinel, .sentinel, .pinned], laidTests := true, laidLooks := .later }
def LimbsOftenCardSaid : Prop := Claim7.holds Tryz.pinned (.plain (OpenSpec.ofChange limbsOftenSpec)) limbsOftenCard

/-- THE TIED CARD OF 'reckonerlaw01.LimbsGreatest'. -/
def limbsGreatestCard : Claim7 := { stood := { row := limbsGreatestRow, standIns := [], harness := (true, "7b3620133f76cb2c457cf0d3dba04993fd0a28556049b998826fe0f311d1f608"), looks := true }, kinds := [], alts := [], laidByText := true, laidKinds := [.data, .data, .data, .data, .sentinel, .sentinel, .pinned], laidTests := true, laidLooks := .later }
def LimbsGreatestCardSaid : Prop := Claim7.holds Tryz.pinned (.plain (OpenSpec.ofChange limbsGreatestSpec)) limbsGreatestCard

/-- THE TIED CARD OF 'reckonerlaw01.LimbsRead'. -/
def limbsReadCard : Claim7 := { stood := { row := limbsReadRow, standIns := [], harness := (true, "7b3620133f76cb2c457cf0d3dba04993fd0a28556049b998826fe0f311d1f608"), looks := true }, kinds := [], alts := [], laidByText := true, laidKinds := [.data, .data, .data, .data, .sentinel, .sentinel, .pinned], laidTests := true, laidLooks := .later }
def LimbsReadCardSaid : Prop := Claim7.holds Tryz.pinned (.plain (OpenSpec.ofChange limbsReadSpec)) limbsReadCard

/-- THE TIED CARD OF 'reckonerlaw01.LimbsSmall'. -/
def limbsSmallCard : Claim7 := { stood := { row := limbsSmallRow, standIns := [], harness := (true, "7b3620133f76cb2c457cf0d3dba04993fd0a28556049b998826fe0f311d1f608"), looks := true }, kinds := [], alts := [], laidByText := true, laidKinds := [.data, .data, .data, .data, .sentinel, .sentinel, .pinned], laidTests := true, laidLooks := .later }
def LimbsSmallCardSaid : Prop := Claim7.holds Tryz.pinned (.plain (OpenSpec.ofChange limbsSmallSpec)) limbsSmallCard

/-- THE TIED CARD OF 'reckonerlaw01.LimbsUndone'. -/
def limbsUndoneCard : Claim7 := { stood := { row := limbsUndoneRow, standIns := [], harness := (true, "7b3620133f76cb2c457cf0d3dba04993fd0a28556049b998826fe0f311d1f608"), looks := true }, kinds := [], alts := [], laidByText := true, laidKinds := [.data, .data, .data, .data, .sentinel, .sentinel, .pinned], laidTests := true, laidLooks := .later }
def LimbsUndoneCardSaid : Prop := Claim7.holds Tryz.pinned (.plain (OpenSpec.ofChange limbsUndoneSpec)) limbsUndoneCard

/-- THE TIED CARD OF 'reckonerlaw01.LimbsNone'. -/
def limbsNoneCard : Claim7 := { stood := { row := limbsNoneRow, standIns := [], harness := (true, "7b3620133f76cb2c457cf0d3dba04993fd0a28556049b998826fe0f311d1f608"), looks := true }, kinds := [], alts := [], laidByText := true, laidKinds := [.data, .data, .data, .data, .sentinel, .sentinel, .pinned], laidTests := true, laidLooks := .later }
def LimbsNoneCardSaid : Prop := Claim7.holds Tryz.pinned (.plain (OpenSpec.ofChange limbsNoneSpec)) limbsNoneCard

/-- THE SECOND FORM's CARD OF 'reckonerlaw01.LimbsTexts'. -/
def limbsTextsUptoCard : Claim7 := { stood := { row := limbsTextsUptoRow, standIns := [], harness := (true, "7b3620133f76cb2c457cf0d3dba04993fd0a28556049b998826fe0f311d1f608"), looks := true }, kinds := [], alts := [], laidByText := true, laidKinds := [.data, .data, .data, .data, .sentinel, .sentinel, .pinned], laidTests := true, laidLooks := .later }
def LimbsTextsUptoCardSaid : Prop := Claim7.holds Tryz.pinned (.plain (OpenSpec.upto limbsTextsSpec)) limbsTextsUptoCard

/-- THE SECOND FORM's CARD OF 'reckonerlaw01.LimbsRing'. -/
def limbsRingUptoCard : Claim7 := { stood := { row := limbsRingUptoRow, standIns := [], harness := (true, "7b3620133f76cb2c457cf0d3dba04993fd0a28556049b998826fe0f311d1f608"), looks := true }, kinds := [], alts := [], laidByText := true, laidKinds := [.data, .data, .data, .data, .sentinel, .sentinel, .pinned], laidTests := true, laidLooks := .later }
def LimbsRingUptoCardSaid : Prop := Claim7.holds Tryz.pinned (.plain (OpenSpec.upto limbsRingSpec)) limbsRingUptoCard

/-- THE SECOND FORM's CARD OF 'reckonerlaw01.LimbsShift'. -/
def limbsShiftUptoCard : Claim7 := { stood := { row := limbsShiftUptoRow, standIns := [], harness := (true, "7b3620133f76cb2c457cf0d3dba04993fd0a28556049b998826fe0f311d1f608"), looks := true }, kinds := [], alts := [], laidByText := true, laidKinds := [.data, .data, .data, .data, .sentinel, .sentinel, .pinned], laidTests := true, laidLooks := .later }
def LimbsShiftUptoCardSaid : Prop := Claim7.holds Tryz.pinned (.plain (OpenSpec.upto limbsShiftSpec)) limbsShiftUptoCard

/-- THE SECOND FORM's CARD OF 'reckonerlaw01.LimbsOften'. -/
def limbsOftenUptoCard : Claim7 := { stood := { row := limbsOftenUptoRow, standIns := [], harness := (true, "7b3620133f76cb2c457cf0d3dba04993fd0a28556049b998826fe0f311d1f608"), looks := true }, kinds := [], alts := [], laidByText := true, laidKinds := [.data, .data, .data, .data, .sentinel, .sentinel, .pinned], laidTests := true, laidLooks := .later }
def LimbsOftenUptoCardSaid : Prop := Claim7.holds Tryz.pinned (.plain (OpenSpec.upto limbsOftenSpec)) limbsOftenUptoCard

/-- THE SECOND FORM's CARD OF 'reckonerlaw01.LimbsGreatest'. -/
def limbsGreatestUptoCard : Claim7 := { stood := { row := limbsGreatestUptoRow, standIns := [], harness := (true, "7b3620133f76cb2c457cf0d3dba04993fd0a28556049b998826fe0f311d1f608"), looks := true }, kinds := [], alts := [], laidByText := true, laidKinds := [.data, .data, .data, .data, .sentinel, .sentinel, .pinned], laidTests := true, laidLooks := .later }
def LimbsGreatestUptoCardSaid : Prop := Claim7.holds Tryz.pinned (.plain (OpenSpec.upto limbsGreatestSpec)) limbsGreatestUptoCard

/-- THE SECOND FORM's CARD OF 'reckonerlaw01.LimbsRead'. -/
def limbsReadUptoCard : Claim7 := { stood := { row := limbsReadUptoRow, standIns := [], harness := (true, "7b3620133f76cb2c457cf0d3dba04993fd0a28556049b998826fe0f311d1f608"), looks := true }, kinds := [], alts := [], laidByText := true, laidKinds := [.data, .data, .data, .data, .sentinel, .sentinel, .pinned], laidTests := true, laidLooks := .later }
def LimbsReadUptoCardSaid : Prop := Claim7.holds Tryz.pinned (.plain (OpenSpec.upto limbsReadSpec)) limbsReadUptoCard

/-- THE SECOND FORM's CARD OF 'reckonerlaw01.LimbsSmall'. -/
def limbsSmallUptoCard : Claim7 := { stood := { row := limbsSmallUptoRow, standIns := [], harness := (true, "7b3620133f76cb2c457cf0d3dba04993fd0a28556049b998826fe0f311d1f608"), looks := true }, kinds := [], alts := [], laidByText := true, laidKinds := [.data, .data, .data, .data, .sentinel, .sentinel, .pinned], laidTests := true, laidLooks := .later }
def LimbsSmallUptoCardSaid : Prop := Claim7.holds Tryz.pinned (.plain (OpenSpec.upto limbsSmallSpec)) limbsSmallUptoCard

/-- THE SECOND FORM's CARD OF 'reckonerlaw01.LimbsUndone'. -/
def limbsUndoneUptoCard : Claim7 := { stood := { row := limbsUndoneUptoRow, standIns := [], harness := (true, "7b3620133f76cb2c457cf0d3dba04993fd0a28556049b998826fe0f311d1f608"), looks := true }, kinds := [], alts := [], laidByText := true, laidKinds := [.data, .data, .data, .data, .sentinel, .sentinel, .pinned], laidTests := true, laidLooks := .later }
def LimbsUndoneUptoCardSaid : Prop := Claim7.holds Tryz.pinned (.plain (OpenSpec.upto limbsUndoneSpec)) limbsUndoneUptoCard

/-- THE SECOND FORM's CARD OF 'reckonerlaw01.LimbsNone'. -/
def limbsNoneUptoCard : Claim7 := { stood := { row := limbsNoneUptoRow, standIns := [], harness := (true, "7b3620133f76cb2c457cf0d3dba04993fd0a28556049b998826fe0f311d1f608"), looks := true }, kinds := [], alts := [], laidByText := true, laidKinds := [.data, .data, .data, .data, .sentinel, .sentinel, .pinned], laidTests := true, laidLooks := .later }
def LimbsNoneUptoCardSaid : Prop := Claim7.holds Tryz.pinned (.plain (OpenSpec.upto limbsNoneSpec)) limbsNoneUptoCard
end Rows
end Go.Proofs.YtkpajfjjhbbieaaGreatDoor
