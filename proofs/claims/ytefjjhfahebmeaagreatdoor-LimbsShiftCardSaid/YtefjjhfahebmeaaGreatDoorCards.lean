/-
  DERIVED. GIVEN WITH THE SEED: THE CARDS: each row of YtefjjhfahebmeaaGreatDoorRows.lean that lists a variable, with what it lists TIED to the program's text (the seventh form; the later family's looks); each row that meets fmt, with fmt's text TOLD by the authors' own Lean function (tested against real Go, not proved from fmt's source: count such statements apart). THE CARD IS WHAT COUNTS. Prove the row's statement (the work); the ties are given (YtefjjhfahebmeaaGreatDoorTie.lean); close each card by the builder's one call (the guide's Derived/Test/ToyasCard.lean, 'card_holds'). Laid BY PROGRAM, IN A SANDBOX (cutbox-door.mjs). By AI agents, Wed Nov 11 2026. No macro, syntax, notation, axiom, sorry.
-/
import Derived.Test.YtefjjhfahebmeaaGreatDoorRows
import GoSem.ClaimSeven
namespace Go.Proofs.YtefjjhfahebmeaaGreatDoor
namespace Rows

/-- THE TIED CARD OF 'reckonerlaw01.LimbsTexts'. -/
def limbsTextsCard : Claim7 := { stood := { row := limbsTextsRow, standIns := [], harness := (true, "73dd99cc4c03893ea2d552ae77cfc69e6a1b6ff3aae992fb65004257ae658f48"), looks := true }, kinds := [], alts := [], laidByText := true, laidKinds := [.data, .data, .data, .data, .sentinel, .sentinel, .pinned], laidTests := true, laidLooks := .later }
def LimbsTextsCardSaid : Prop := Claim7.holds Tryz.pinned (.plain (OpenSpec.ofChange limbsTextsSpec)) limbsTextsCard

/-- THE TIED CARD OF 'reckonerlaw01.LimbsShift'. -/
def limbsShiftCard : Claim7 := { stood := { row := limbsShiftRow, standIns := [], harness := (true, "73dd99cc4c03893ea2d552ae77cfc69e6a1b6ff3aae992fb65004257ae658f48"), looks := true }, kinds := [], alts := [], laidByText := true, laidKinds := [.data, .data, .data, .data, .sentinel, .sentinel, .pinned], laidTests := true, laidLooks := .later }
def LimbsShiftCardSaid : Prop := Claim7.holds Tryz.pinned (.plain (OpenSpec.ofChange limbsShiftSpec)) limbsShiftCard

/-- THE TIED CARD OF 'reckonerlaw01.LimbsRead'. -/
def limbsReadCard : Claim7 := { stood := { row := limbsReadRow, standIns := [], harness := (true, "73dd99cc4c03893ea2d552ae77cfc69e6a1b6ff3aae992fb65004257ae658f48"), looks := true }, kinds := [], alts := [], laidByText := true, laidKinds := [.data, .data, .data, .data, .sentinel, .sentinel, .pinned], laidTests := true, laidLooks := .later }
def LimbsReadCardSaid : Prop := Claim7.holds Tryz.pinned (.plain (OpenSpec.ofChange limbsReadSpec)) limbsReadCard

/-- THE SECOND FORM's CARD OF 'reckonerlaw01.LimbsTexts'. -/
def limbsTextsUptoCard : Claim7 := { stood := { row := limbsTextsUptoRow, standIns := [], harness := (true, "73dd99cc4c03893ea2d552ae77cfc69e6a1b6ff3aae992fb65004257ae658f48"), looks := true }, kinds := [], alts := [], laidByText := true, laidKinds := [.data, .data, .data, .data, .sentinel, .sentinel, .pinned], laidTests := true, laidLooks := .later }
def LimbsTextsUptoCardSaid : Prop := Claim7.holds Tryz.pinned (.plain (OpenSpec.upto limbsTextsSpec)) limbsTextsUptoCard

/-- THE SECOND FORM's CARD OF 'reckonerlaw01.LimbsShift'. -/
def limbsShiftUptoCard : Claim7 := { stood := { row := limbsShiftUptoRow, standIns := [], harness := (true, "73dd99cc4c03893ea2d552ae77cfc69e6a1b6ff3aae992fb65004257ae658f48"), looks := true }, kinds := [], alts := [], laidByText := true, laidKinds := [.data, .data, .data, .data, .sentinel, .sentinel, .pinned], laidTests := true, laidLooks := .later }
def LimbsShiftUptoCardSaid : Prop := Claim7.holds Tryz.pinned (.plain (OpenSpec.upto limbsShiftSpec)) limbsShiftUptoCard

/-- THE SECOND FORM's CARD OF 'reckonerlaw01.LimbsRead'. -/
def limbsReadUptoCard : Claim7 := { stood := { row := limbsReadUptoRow, standIns := [], harness := (true, "73dd99cc4c03893ea2d552ae77cfc69e6a1b6ff3aae992fb65004257ae658f48"), looks := true }, kinds := [], alts := [], laidByText := true, laidKinds := [.data, .data, .data, .data, .sentinel, .sentinel, .pinned], laidTests := true, laidLooks := .later }
def LimbsReadUptoCardSaid : Prop := Claim7.holds Tryz.pinned (.plain (OpenSpec.upto limbsReadSpec)) limbsReadUptoCard
end Rows
end Go.Proofs.YtefjjhfahebmeaaGreatDoor
