/-
  DERIVED. GIVEN WITH THE SEED: THE CARDS: each row of YthcccdjfedbnfaaGreatDoorRows.lean that lists a variable, with what it lists TIED to the program's text (the seventh form; the later family's looks); each row that meets fmt, with fmt's text TOLD by the authors' own Lean function (tested against real Go, not proved from fmt's source: count such statements apart). THE CARD IS WHAT COUNTS. Prove the row's statement (the work); the ties are given (YthcccdjfedbnfaaGreatDoorTie.lean); close each card by the builder's one call (the guide's Derived/Test/ToyasCard.lean, 'card_holds'). Laid BY PROGRAM, IN A SANDBOX (cutbox-door.mjs). By AI agents, Wed Nov 11 2026. No macro, syntax, notation, axiom, sorry.
-/
import Derived.Test.YthcccdjfedbnfaaGreatDoorRows
import GoSem.ClaimSeven
namespace Go.Proofs.YthcccdjfedbnfaaGreatDoor
namespace Rows

/-- THE TIED CARD OF 'reckonerlaw07.PartsTimes'. -/
def partsTimesCard : Claim7 := { stood := { row := partsTimesRow, standIns := [], harness := (true, "995fe17d72114ad3e1aec8412a9bd0a367687f982e33b8f1bb5f51cdf2908817"), looks := true }, kinds := [], alts := [], laidByText := true, laidKinds := [.data, .data, .data, .data, .sentinel, .sentinel, .pinned], laidTests := true, laidLooks := .later }
def PartsTimesCardSaid : Prop := Claim7.holds Tryz.pinned (.plain (OpenSpec.ofChange partsTimesSpec)) partsTimesCard

/-- THE TIED CARD OF 'reckonerlaw07.PartsProduct'. -/
def partsProductCard : Claim7 := { stood := { row := partsProductRow, standIns := [], harness := (true, "995fe17d72114ad3e1aec8412a9bd0a367687f982e33b8f1bb5f51cdf2908817"), looks := true }, kinds := [], alts := [], laidByText := true, laidKinds := [.data, .data, .data, .data, .sentinel, .sentinel, .pinned], laidTests := true, laidLooks := .later }
def PartsProductCardSaid : Prop := Claim7.holds Tryz.pinned (.plain (OpenSpec.ofChange partsProductSpec)) partsProductCard

/-- THE TIED CARD OF 'reckonerlaw07.PartsOne'. -/
def partsOneCard : Claim7 := { stood := { row := partsOneRow, standIns := [], harness := (true, "995fe17d72114ad3e1aec8412a9bd0a367687f982e33b8f1bb5f51cdf2908817"), looks := true }, kinds := [], alts := [], laidByText := true, laidKinds := [.data, .data, .data, .data, .sentinel, .sentinel, .pinned], laidTests := true, laidLooks := .later }
def PartsOneCardSaid : Prop := Claim7.holds Tryz.pinned (.plain (OpenSpec.ofChange partsOneSpec)) partsOneCard

/-- THE TIED CARD OF 'reckonerlaw07.PartsBack'. -/
def partsBackCard : Claim7 := { stood := { row := partsBackRow, standIns := [], harness := (true, "995fe17d72114ad3e1aec8412a9bd0a367687f982e33b8f1bb5f51cdf2908817"), looks := true }, kinds := [], alts := [], laidByText := true, laidKinds := [.data, .data, .data, .data, .sentinel, .sentinel, .pinned], laidTests := true, laidLooks := .later }
def PartsBackCardSaid : Prop := Claim7.holds Tryz.pinned (.plain (OpenSpec.ofChange partsBackSpec)) partsBackCard

/-- THE TIED CARD OF 'reckonerlaw04.PolysPlaces'. -/
def polysPlacesCard : Claim7 := { stood := { row := polysPlacesRow, standIns := [], harness := (true, "995fe17d72114ad3e1aec8412a9bd0a367687f982e33b8f1bb5f51cdf2908817"), looks := true }, kinds := [], alts := [], laidByText := true, laidKinds := [.data, .data, .data, .data, .sentinel, .sentinel, .pinned], laidTests := true, laidLooks := .later }
def PolysPlacesCardSaid : Prop := Claim7.holds Tryz.pinned (.plain (OpenSpec.ofChange polysPlacesSpec)) polysPlacesCard

/-- THE SECOND FORM's CARD OF 'reckonerlaw07.PartsTimes'. -/
def partsTimesUptoCard : Claim7 := { stood := { row := partsTimesUptoRow, standIns := [], harness := (true, "995fe17d72114ad3e1aec8412a9bd0a367687f982e33b8f1bb5f51cdf2908817"), looks := true }, kinds := [], alts := [], laidByText := true, laidKinds := [.data, .data, .data, .data, .sentinel, .sentinel, .pinned], laidTests := true, laidLooks := .later }
def PartsTimesUptoCardSaid : Prop := Claim7.holds Tryz.pinned (.plain (OpenSpec.upto partsTimesSpec)) partsTimesUptoCard

/-- THE SECOND FORM's CARD OF 'reckonerlaw07.PartsProduct'. -/
def partsProductUptoCard : Claim7 := { stood := { row := partsProductUptoRow, standIns := [], harness := (true, "995fe17d72114ad3e1aec8412a9bd0a367687f982e33b8f1bb5f51cdf2908817"), looks := true }, kinds := [], alts := [], laidByText := true, laidKinds := [.data, .data, .data, .data, .sentinel, .sentinel, .pinned], laidTests := true, laidLooks := .later }
def PartsProductUptoCardSaid : Prop := Claim7.holds Tryz.pinned (.plain (OpenSpec.upto partsProductSpec)) partsProductUptoCard

/-- THE SECOND FORM's CARD OF 'reckonerlaw07.PartsOne'. -/
def partsOneUptoCard : Claim7 := { stood := { row := partsOneUptoRow, standIns := [], harness := (true, "995fe17d72114ad3e1aec8412a9bd0a367687f982e33b8f1bb5f51cdf2908817"), looks := true }, kinds := [], alts := [], laidByText := true, laidKinds := [.data, .data, .data, .data, .sentinel, .sentinel, .pinned], laidTests := true, laidLooks := .later }
def PartsOneUptoCardSaid : Prop := Claim7.holds Tryz.pinned (.plain (OpenSpec.upto partsOneSpec)) partsOneUptoCard

/-- THE SECOND FORM's CARD OF 'reckonerlaw07.PartsBack'. -/
def partsBackUptoCard : Claim7 := { stood := { row := partsBackUptoRow, standIns := [], harness := (true, "995fe17d72114ad3e1aec8412a9bd0a367687f982e33b8f1bb5f51cdf2908817"), looks := true }, kinds := [], alts := [], laidByText := true, laidKinds := [.data, .data, .data, .data, .sentinel, .sentinel, .pinned], laidTests := true, laidLooks := .later }
def PartsBackUptoCardSaid : Prop := Claim7.holds Tryz.pinned (.plain (OpenSpec.upto partsBackSpec)) partsBackUptoCard

/-- THE SECOND FORM's CARD OF 'reckonerlaw04.PolysPlaces'. -/
def polysPlacesUptoCard : Claim7 := { stood := { row := polysPlacesUptoRow, standIns := [], harness := (true, "995fe17d72114ad3e1aec8412a9bd0a367687f982e33b8f1bb5f51cdf2908817"), looks := true }, kinds := [], alts := [], laidByText := true, laidKinds := [.data, .data, .data, .data, .sentinel, .sentinel, .pinned], laidTests := true, laidLooks := .later }
def PolysPlacesUptoCardSaid : Prop := Claim7.holds Tryz.pinned (.plain (OpenSpec.upto polysPlacesSpec)) polysPlacesUptoCard
end Rows
end Go.Proofs.YthcccdjfedbnfaaGreatDoor
