/-
  DERIVED. GIVEN WITH THE SEED: THE CARDS: each row of YtaagegcidbgjmaaGreatDoorRows.lean that lists a variable, with what it lists TIED to the program's text (the seventh form; the later family's looks); each row that meets fmt, with fmt's text TOLD by the authors' own Lean function (tested against real Go, not proved from fmt's source: count such statements apart). THE CARD IS WHAT COUNTS. Prove the row's statement (the work); the ties are given (YtaagegcidbgjmaaGreatDoorTie.lean); close each card by the builder's one call (the guide's Derived/Test/ToyasCard.lean, 'card_holds'). Laid BY PROGRAM, IN A SANDBOX (cutbox-door.mjs). By AI agents, Wed Nov 11 2026. No macro, syntax, notation, axiom, sorry.
-/
import Derived.Test.YtaagegcidbgjmaaGreatDoorRows
import GoSem.ClaimSeven
namespace Go.Proofs.YtaagegcidbgjmaaGreatDoor
namespace Rows

/-- THE TIED CARD OF 'reckonerlaw02.FracsMakes'. -/
def fracsMakesCard : Claim7 := { stood := { row := fracsMakesRow, standIns := [], harness := (true, "8ab0b63df9fb53981f5fbbcaf3f54bf26c0f5793995064cae684ea51ab1dfba7"), looks := false }, kinds := [], alts := [], laidByText := true, laidKinds := [.data, .data, .data], laidTests := true, laidLooks := .later }
def FracsMakesCardSaid : Prop := Claim7.holds Tryz.pinned (.plain (OpenSpec.ofChange fracsMakesSpec)) fracsMakesCard

/-- THE TIED CARD OF 'reckonerlaw02.FracsPairs'. -/
def fracsPairsCard : Claim7 := { stood := { row := fracsPairsRow, standIns := [], harness := (true, "8ab0b63df9fb53981f5fbbcaf3f54bf26c0f5793995064cae684ea51ab1dfba7"), looks := false }, kinds := [], alts := [], laidByText := true, laidKinds := [.data, .data, .data], laidTests := true, laidLooks := .later }
def FracsPairsCardSaid : Prop := Claim7.holds Tryz.pinned (.plain (OpenSpec.ofChange fracsPairsSpec)) fracsPairsCard

/-- THE SECOND FORM's CARD OF 'reckonerlaw02.FracsMakes'. -/
def fracsMakesUptoCard : Claim7 := { stood := { row := fracsMakesUptoRow, standIns := [], harness := (true, "8ab0b63df9fb53981f5fbbcaf3f54bf26c0f5793995064cae684ea51ab1dfba7"), looks := false }, kinds := [], alts := [], laidByText := true, laidKinds := [.data, .data, .data], laidTests := true, laidLooks := .later }
def FracsMakesUptoCardSaid : Prop := Claim7.holds Tryz.pinned (.plain (OpenSpec.upto fracsMakesSpec)) fracsMakesUptoCard

/-- THE SECOND FORM's CARD OF 'reckonerlaw02.FracsPairs'. -/
def fracsPairsUptoCard : Claim7 := { stood := { row := fracsPairsUptoRow, standIns := [], harness := (true, "8ab0b63df9fb53981f5fbbcaf3f54bf26c0f5793995064cae684ea51ab1dfba7"), looks := false }, kinds := [], alts := [], laidByText := true, laidKinds := [.data, .data, .data], laidTests := true, laidLooks := .later }
def FracsPairsUptoCardSaid : Prop := Claim7.holds Tryz.pinned (.plain (OpenSpec.upto fracsPairsSpec)) fracsPairsUptoCard
end Rows
end Go.Proofs.YtaagegcidbgjmaaGreatDoor
