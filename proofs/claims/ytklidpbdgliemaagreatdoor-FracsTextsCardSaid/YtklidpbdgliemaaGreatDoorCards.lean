/-
  DERIVED. GIVEN WITH THE SEED: THE CARDS: each row of YtklidpbdgliemaaGreatDoorRows.lean that lists a variable, with what it lists TIED to the program's text (the seventh form; the later family's looks); each row that meets fmt, with fmt's text TOLD by the authors' own Lean function (tested against real Go, not proved from fmt's source: count such statements apart). THE CARD IS WHAT COUNTS. Prove the row's statement (the work); the ties are given (YtklidpbdgliemaaGreatDoorTie.lean); close each card by the builder's one call (the guide's Derived/Test/ToyasCard.lean, 'card_holds'). Laid BY PROGRAM, IN A SANDBOX (cutbox-door.mjs). By AI agents, Wed Nov 11 2026. No macro, syntax, notation, axiom, sorry.
-/
import Derived.Test.YtklidpbdgliemaaGreatDoorRows
import GoSem.ClaimSeven
namespace Go.Proofs.YtklidpbdgliemaaGreatDoor
namespace Rows

/-- THE TIED CARD OF 'reckonerlaw02.FracsTexts'. -/
def fracsTextsCard : Claim7 := { stood := { row := fracsTextsRow, standIns := [], harness := (true, "03d36f4ab3b4ace964dfe8b7cb923de04a5082cc0ca76be7e706c4574456080b"), looks := true }, kinds := [], alts := [], laidByText := true, laidKinds := [.data, .data, .data, .data, .sentinel, .sentinel, .pinned], laidTests := true, laidLooks := .later }
def FracsTextsCardSaid : Prop := Claim7.holds Tryz.pinned (.plain (OpenSpec.ofChange fracsTextsSpec)) fracsTextsCard

/-- THE TIED CARD OF 'reckonerlaw02.FracsRead'. -/
def fracsReadCard : Claim7 := { stood := { row := fracsReadRow, standIns := [], harness := (true, "03d36f4ab3b4ace964dfe8b7cb923de04a5082cc0ca76be7e706c4574456080b"), looks := true }, kinds := [], alts := [], laidByText := true, laidKinds := [.data, .data, .data, .data, .sentinel, .sentinel, .pinned], laidTests := true, laidLooks := .later }
def FracsReadCardSaid : Prop := Claim7.holds Tryz.pinned (.plain (OpenSpec.ofChange fracsReadSpec)) fracsReadCard

/-- THE TIED CARD OF 'reckonerlaw02.FracsField'. -/
def fracsFieldCard : Claim7 := { stood := { row := fracsFieldRow, standIns := [], harness := (true, "03d36f4ab3b4ace964dfe8b7cb923de04a5082cc0ca76be7e706c4574456080b"), looks := true }, kinds := [], alts := [], laidByText := true, laidKinds := [.data, .data, .data, .data, .sentinel, .sentinel, .pinned], laidTests := true, laidLooks := .later }
def FracsFieldCardSaid : Prop := Claim7.holds Tryz.pinned (.plain (OpenSpec.ofChange fracsFieldSpec)) fracsFieldCard

/-- THE TIED CARD OF 'reckonerlaw02.FracsMade'. -/
def fracsMadeCard : Claim7 := { stood := { row := fracsMadeRow, standIns := [], harness := (true, "03d36f4ab3b4ace964dfe8b7cb923de04a5082cc0ca76be7e706c4574456080b"), looks := true }, kinds := [], alts := [], laidByText := true, laidKinds := [.data, .data, .data, .data, .sentinel, .sentinel, .pinned], laidTests := true, laidLooks := .later }
def FracsMadeCardSaid : Prop := Claim7.holds Tryz.pinned (.plain (OpenSpec.ofChange fracsMadeSpec)) fracsMadeCard

/-- THE TIED CARD OF 'reckonerlaw02.FracsUndone'. -/
def fracsUndoneCard : Claim7 := { stood := { row := fracsUndoneRow, standIns := [], harness := (true, "03d36f4ab3b4ace964dfe8b7cb923de04a5082cc0ca76be7e706c4574456080b"), looks := true }, kinds := [], alts := [], laidByText := true, laidKinds := [.data, .data, .data, .data, .sentinel, .sentinel, .pinned], laidTests := true, laidLooks := .later }
def FracsUndoneCardSaid : Prop := Claim7.holds Tryz.pinned (.plain (OpenSpec.ofChange fracsUndoneSpec)) fracsUndoneCard

/-- THE TIED CARD OF 'reckonerlaw02.FracsOrder'. -/
def fracsOrderCard : Claim7 := { stood := { row := fracsOrderRow, standIns := [], harness := (true, "03d36f4ab3b4ace964dfe8b7cb923de04a5082cc0ca76be7e706c4574456080b"), looks := true }, kinds := [], alts := [], laidByText := true, laidKinds := [.data, .data, .data, .data, .sentinel, .sentinel, .pinned], laidTests := true, laidLooks := .later }
def FracsOrderCardSaid : Prop := Claim7.holds Tryz.pinned (.plain (OpenSpec.ofChange fracsOrderSpec)) fracsOrderCard

/-- THE TIED CARD OF 'reckonerlaw02.FracsSmall'. -/
def fracsSmallCard : Claim7 := { stood := { row := fracsSmallRow, standIns := [], harness := (true, "03d36f4ab3b4ace964dfe8b7cb923de04a5082cc0ca76be7e706c4574456080b"), looks := true }, kinds := [], alts := [], laidByText := true, laidKinds := [.data, .data, .data, .data, .sentinel, .sentinel, .pinned], laidTests := true, laidLooks := .later }
def FracsSmallCardSaid : Prop := Claim7.holds Tryz.pinned (.plain (OpenSpec.ofChange fracsSmallSpec)) fracsSmallCard

/-- THE SECOND FORM's CARD OF 'reckonerlaw02.FracsTexts'. -/
def fracsTextsUptoCard : Claim7 := { stood := { row := fracsTextsUptoRow, standIns := [], harness := (true, "03d36f4ab3b4ace964dfe8b7cb923de04a5082cc0ca76be7e706c4574456080b"), looks := true }, kinds := [], alts := [], laidByText := true, laidKinds := [.data, .data, .data, .data, .sentinel, .sentinel, .pinned], laidTests := true, laidLooks := .later }
def FracsTextsUptoCardSaid : Prop := Claim7.holds Tryz.pinned (.plain (OpenSpec.upto fracsTextsSpec)) fracsTextsUptoCard

/-- THE SECOND FORM's CARD OF 'reckonerlaw02.FracsRead'. -/
def fracsReadUptoCard : Claim7 := { stood := { row := fracsReadUptoRow, standIns := [], harness := (true, "03d36f4ab3b4ace964dfe8b7cb923de04a5082cc0ca76be7e706c4574456080b"), looks := true }, kinds := [], alts := [], laidByText := true, laidKinds := [.data, .data, .data, .data, .sentinel, .sentinel, .pinned], laidTests := true, laidLooks := .later }
def FracsReadUptoCardSaid : Prop := Claim7.holds Tryz.pinned (.plain (OpenSpec.upto fracsReadSpec)) fracsReadUptoCard

/-- THE SECOND FORM's CARD OF 'reckonerlaw02.FracsField'. -/
def fracsFieldUptoCard : Claim7 := { stood := { row := fracsFieldUptoRow, standIns := [], harness := (true, "03d36f4ab3b4ace964dfe8b7cb923de04a5082cc0ca76be7e706c4574456080b"), looks := true }, kinds := [], alts := [], laidByText := true, laidKinds := [.data, .data, .data, .data, .sentinel, .sentinel, .pinned], laidTests := true, laidLooks := .later }
def FracsFieldUptoCardSaid : Prop := Claim7.holds Tryz.pinned (.plain (OpenSpec.upto fracsFieldSpec)) fracsFieldUptoCard

/-- THE SECOND FORM's CARD OF 'reckonerlaw02.FracsMade'. -/
def fracsMadeUptoCard : Claim7 := { stood := { row := fracsMadeUptoRow, standIns := [], harness := (true, "03d36f4ab3b4ace964dfe8b7cb923de04a5082cc0ca76be7e706c4574456080b"), looks := true }, kinds := [], alts := [], laidByText := true, laidKinds := [.data, .data, .data, .data, .sentinel, .sentinel, .pinned], laidTests := true, laidLooks := .later }
def FracsMadeUptoCardSaid : Prop := Claim7.holds Tryz.pinned (.plain (OpenSpec.upto fracsMadeSpec)) fracsMadeUptoCard

/-- THE SECOND FORM's CARD OF 'reckonerlaw02.FracsUndone'. -/
def fracsUndoneUptoCard : Claim7 := { stood := { row := fracsUndoneUptoRow, standIns := [], harness := (true, "03d36f4ab3b4ace964dfe8b7cb923de04a5082cc0ca76be7e706c4574456080b"), looks := true }, kinds := [], alts := [], laidByText := true, laidKinds := [.data, .data, .data, .data, .sentinel, .sentinel, .pinned], laidTests := true, laidLooks := .later }
def FracsUndoneUptoCardSaid : Prop := Claim7.holds Tryz.pinned (.plain (OpenSpec.upto fracsUndoneSpec)) fracsUndoneUptoCard

/-- THE SECOND FORM's CARD OF 'reckonerlaw02.FracsOrder'. -/
def fracsOrderUptoCard : Claim7 := { stood := { row := fracsOrderUptoRow, standIns := [], harness := (true, "03d36f4ab3b4ace964dfe8b7cb923de04a5082cc0ca76be7e706c4574456080b"), looks := true }, kinds := [], alts := [], laidByText := true, laidKinds := [.data, .data, .data, .data, .sentinel, .sentinel, .pinned], laidTests := true, laidLooks := .later }
def FracsOrderUptoCardSaid : Prop := Claim7.holds Tryz.pinned (.plain (OpenSpec.upto fracsOrderSpec)) fracsOrderUptoCard

/-- THE SECOND FORM's CARD OF 'reckonerlaw02.FracsSmall'. -/
def fracsSmallUptoCard : Claim7 := { stood := { row := fracsSmallUptoRow, standIns := [], harness := (true, "03d36f4ab3b4ace964dfe8b7cb923de04a5082cc0ca76be7e706c4574456080b"), looks := true }, kinds := [], alts := [], laidByText := true, laidKinds := [.data, .data, .data, .data, .sentinel, .sentinel, .pinned], laidTests := true, laidLooks := .later }
def FracsSmallUptoCardSaid : Prop := Claim7.holds Tryz.pinned (.plain (OpenSpec.upto fracsSmallSpec)) fracsSmallUptoCard
end Rows
end Go.Proofs.YtklidpbdgliemaaGreatDoor
