/-
  DERIVED. GIVEN WITH THE SEED: THE CARDS: each row of YtebobpbcllideaaGreatDoorRows.lean that lists a variable, with what it lists TIED to the program's text (the seventh form; the later family's looks); each row that meets fmt, with fmt's text TOLD by the authors' own Lean function (tested against real Go, not proved from fmt's source: count such statements apart). THE CARD IS WHAT COUNTS. Prove the row's statement (the work); the ties are given (YtebobpbcllideaaGreatDoorTie.lean); close each card by the builder's one call (the guide's Derived/Test/ToyasCard.lean, 'card_holds'). Laid BY PROGRAM, IN A SANDBOX (cutbox-door.mjs). By AI agents, Wed Nov 11 2026. No macro, syntax, notation, axiom, sorry.
-/
import Derived.Test.YtebobpbcllideaaGreatDoorRows
import GoSem.ClaimSeven
namespace Go.Proofs.YtebobpbcllideaaGreatDoor
namespace Rows

/-- THE TIED CARD OF 'reckonerlaw01.LimbsPairs'. -/
def limbsPairsCard : Claim7 := { stood := { row := limbsPairsRow, standIns := [], harness := (true, "b57313498572d7b4f8c851615bdbae5480f06e5f7d5d2fc5e9d91fdb1924a96f"), looks := false }, kinds := [], alts := [], laidByText := true, laidKinds := [.data, .data, .data], laidTests := true, laidLooks := .later }
def LimbsPairsCardSaid : Prop := Claim7.holds Tryz.pinned (.plain (OpenSpec.ofChange limbsPairsSpec)) limbsPairsCard

/-- THE TIED CARD OF 'reckonerlaw01.LimbsDivs'. -/
def limbsDivsCard : Claim7 := { stood := { row := limbsDivsRow, standIns := [], harness := (true, "b57313498572d7b4f8c851615bdbae5480f06e5f7d5d2fc5e9d91fdb1924a96f"), looks := false }, kinds := [], alts := [], laidByText := true, laidKinds := [.data, .data, .data], laidTests := true, laidLooks := .later }
def LimbsDivsCardSaid : Prop := Claim7.holds Tryz.pinned (.plain (OpenSpec.ofChange limbsDivsSpec)) limbsDivsCard

/-- THE SECOND FORM's CARD OF 'reckonerlaw01.LimbsPairs'. -/
def limbsPairsUptoCard : Claim7 := { stood := { row := limbsPairsUptoRow, standIns := [], harness := (true, "b57313498572d7b4f8c851615bdbae5480f06e5f7d5d2fc5e9d91fdb1924a96f"), looks := false }, kinds := [], alts := [], laidByText := true, laidKinds := [.data, .data, .data], laidTests := true, laidLooks := .later }
def LimbsPairsUptoCardSaid : Prop := Claim7.holds Tryz.pinned (.plain (OpenSpec.upto limbsPairsSpec)) limbsPairsUptoCard

/-- THE SECOND FORM's CARD OF 'reckonerlaw01.LimbsDivs'. -/
def limbsDivsUptoCard : Claim7 := { stood := { row := limbsDivsUptoRow, standIns := [], harness := (true, "b57313498572d7b4f8c851615bdbae5480f06e5f7d5d2fc5e9d91fdb1924a96f"), looks := false }, kinds := [], alts := [], laidByText := true, laidKinds := [.data, .data, .data], laidTests := true, laidLooks := .later }
def LimbsDivsUptoCardSaid : Prop := Claim7.holds Tryz.pinned (.plain (OpenSpec.upto limbsDivsSpec)) limbsDivsUptoCard
end Rows
end Go.Proofs.YtebobpbcllideaaGreatDoor
