/-
  No cell of these rows narrows 'for every input' (looked for: loops, veiled, ifaces, maps, wideKeys, modest, calm, conditions, laid).
  DERIVED. THE GIVEN ROWS OF THIS SEAT. 5 by the template 'for every input the law returns true; each argument reads behind the call as it read before'; 0 by the template 'total and deterministic' (their statements: YthcccdjfedbnfaaGreatTotals.lean).
  GIVEN WITH THE SEED: the statements are not yours to turn. If you find one false, say at which input.
  Laid BY PROGRAM, IN A SANDBOX (cutbox-rows.mjs): the forced cells as the released guide's own fill.sh prints them over the translation b169357e3c81d298… (all of the seat's roots in one cut). By AI agents, Wed Nov 11 2026. No macro, syntax, notation, axiom, sorry.
-/
import Derived.Test.YthcccdjfedbnfaaGreatChecked
import GoSem.Claim
import GoSem.ClaimJoined
import GoSem.ClaimMapViews
import Derived.JoinedTies
import Derived.KernelRfl
namespace Go.Proofs.YthcccdjfedbnfaaGreat
/- THE CELL 'sum', in the pinned program and in every row, IS THE sha256 OF THE DUMP (.gsa) THAT YthcccdjfedbnfaaGreatProg.lean LOADS. Nothing in Lean hashes anything: it is a label: what it is worth is what the hold of that sum in a sandbox is worth. -/
noncomputable def Tryz.pinned : Pinned := { name := "ythcccdjfedbnfaagreat", sum := "b169357e3c81d29813c67484be8f791302e80c04b0459e3ef46e3033ee7e843b", checked := Tryz.checked }
namespace Rows
def none {H : Type} : Left H := { results := [], args := [] }

/-- 'reckonerlaw05.DividesBack': WHATEVER THE INPUT: true; the input reads as it did. -/
def dividesBackSpec : ChangeSpec := { name := "dividesBack", fn := fun _ => fun
  | [d1, d2, d3] => { results := [.lit (.bool true)], args := [d1, d2, d3] }
  | _ => none }
def dividesBackRow : OpenClaim := { program := "ythcccdjfedbnfaagreat", sum := "b169357e3c81d29813c67484be8f791302e80c04b0459e3ef46e3033ee7e843b", func := "reckoner/reckonerlaw05.DividesBack", spec := "dividesBack", unfollowed := true, recurses := true, plainKeys := false, apart := false }
def DividesBackSaid : Prop := dividesBackRow.holds Tryz.pinned (OpenSpec.ofChange dividesBackSpec)

/-- ITS FALSE NEIGHBOUR: 'it returns false'. Refute it at one input. -/
def dividesBackWrong : ChangeSpec := { name := "dividesBack", fn := fun _ => fun
  | [d1, d2, d3] => { results := [.lit (.bool false)], args := [d1, d2, d3] }
  | _ => none }
def DividesBackWrongFalsely : Prop := dividesBackRow.holds Tryz.pinned (OpenSpec.ofChange dividesBackWrong)

/-- 'reckonerlaw05.DividesWhole': WHATEVER THE INPUT: true; the input reads as it did. -/
def dividesWholeSpec : ChangeSpec := { name := "dividesWhole", fn := fun _ => fun
  | [d1, d2, d3] => { results := [.lit (.bool true)], args := [d1, d2, d3] }
  | _ => none }
def dividesWholeRow : OpenClaim := { program := "ythcccdjfedbnfaagreat", sum := "b169357e3c81d29813c67484be8f791302e80c04b0459e3ef46e3033ee7e843b", func := "reckoner/reckonerlaw05.DividesWhole", spec := "dividesWhole", unfollowed := true, recurses := true, plainKeys := false, apart := false }
def DividesWholeSaid : Prop := dividesWholeRow.holds Tryz.pinned (OpenSpec.ofChange dividesWholeSpec)

/-- ITS FALSE NEIGHBOUR: 'it returns false'. Refute it at one input. -/
def dividesWholeWrong : ChangeSpec := { name := "dividesWhole", fn := fun _ => fun
  | [d1, d2, d3] => { results := [.lit (.bool false)], args := [d1, d2, d3] }
  | _ => none }
def DividesWholeWrongFalsely : Prop := dividesWholeRow.holds Tryz.pinned (OpenSpec.ofChange dividesWholeWrong)

/-- 'reckonerlaw05.DividesLeast': WHATEVER THE INPUT: true; the input reads as it did. -/
def dividesLeastSpec : ChangeSpec := { name := "dividesLeast", fn := fun _ => fun
  | [d1, d2, d3] => { results := [.lit (.bool true)], args := [d1, d2, d3] }
  | _ => none }
def dividesLeastRow : OpenClaim := { program := "ythcccdjfedbnfaagreat", sum := "b169357e3c81d29813c67484be8f791302e80c04b0459e3ef46e3033ee7e843b", func := "reckoner/reckonerlaw05.DividesLeast", spec := "dividesLeast", unfollowed := true, recurses := true, plainKeys := false, apart := false }
def DividesLeastSaid : Prop := dividesLeastRow.holds Tryz.pinned (OpenSpec.ofChange dividesLeastSpec)

/-- ITS FALSE NEIGHBOUR: 'it returns false'. Refute it at one input. -/
def dividesLeastWrong : ChangeSpec := { name := "dividesLeast", fn := fun _ => fun
  | [d1, d2, d3] => { results := [.lit (.bool false)], args := [d1, d2, d3] }
  | _ => none }
def DividesLeastWrongFalsely : Prop := dividesLeastRow.holds Tryz.pinned (OpenSpec.ofChange dividesLeastWrong)

/-- 'reckonerlaw05.DividesSums': WHATEVER THE INPUT: true; the input reads as it did. -/
def dividesSumsSpec : ChangeSpec := { name := "dividesSums", fn := fun _ => fun
  | [d1, d2] => { results := [.lit (.bool true)], args := [d1, d2] }
  | _ => none }
def dividesSumsRow : OpenClaim := { program := "ythcccdjfedbnfaagreat", sum := "b169357e3c81d29813c67484be8f791302e80c04b0459e3ef46e3033ee7e843b", func := "reckoner/reckonerlaw05.DividesSums", spec := "dividesSums", unfollowed := true, recurses := true, plainKeys := false, apart := false }
def DividesSumsSaid : Prop := dividesSumsRow.holds Tryz.pinned (OpenSpec.ofChange dividesSumsSpec)

/-- ITS FALSE NEIGHBOUR: 'it returns false'. Refute it at one input. -/
def dividesSumsWrong : ChangeSpec := { name := "dividesSums", fn := fun _ => fun
  | [d1, d2] => { results := [.lit (.bool false)], args := [d1, d2] }
  | _ => none }
def DividesSumsWrongFalsely : Prop := dividesSumsRow.holds Tryz.pinned (OpenSpec.ofChange dividesSumsWrong)

/-- 'reckonerlaw05.DividesTwice': WHATEVER THE INPUT: true; the input reads as it did. -/
def dividesTwiceSpec : ChangeSpec := { name := "dividesTwice", fn := fun _ => fun
  | [d1, d2, d3] => { results := [.lit (.bool true)], args := [d1, d2, d3] }
  | _ => none }
def dividesTwiceRow : OpenClaim := { program := "ythcccdjfedbnfaagreat", sum := "b169357e3c81d29813c67484be8f791302e80c04b0459e3ef46e3033ee7e843b", func := "reckoner/reckonerlaw05.DividesTwice", spec := "dividesTwice", unfollowed := true, recurses := true, plainKeys := false, apart := false }
def DividesTwiceSaid : Prop := dividesTwiceRow.holds Tryz.pinned (OpenSpec.ofChange dividesTwiceSpec)

/-- ITS FALSE NEIGHBOUR: 'it returns false'. Refute it at one input. -/
def dividesTwiceWrong : ChangeSpec := { name := "dividesTwice", fn := fun _ => fun
  | [d1, d2, d3] => { results := [.lit (.bool false)], args := [d1, d2, d3] }
  | _ => none }
def DividesTwiceWrongFalsely : Prop := dividesTwiceRow.holds Tryz.pinned (OpenSpec.ofChange dividesTwiceWrong)

/- THE SECOND FORM. 'bulk': how many values and letters a reading holds, each counted each time it is reached (what is shared counts as often as it is met; a slice's spare places count too). A statement '..UptoSaid' is the law's where the arguments, and the package variables that the reading takes, are together of bulk at most 1048576: NARROWER than '..Said'. Prove '..Said' where nothing that the law and all that it calls make is longer than what came in: it says more and counts as full. Else prove '..UptoSaid'. A law counts once. -/
mutual
def uptoBulk {H : Type} : DataW H → Nat
  | .lit (.string bytes) => bytes.length + 1
  | .lit _ => 1
  | .nil => 1
  | .ptr d => uptoBulk d + 1
  | .slice elems spare => uptoBulkAll elems + uptoBulkAll spare + 1
  | .agg parts => uptoBulkAll parts + 1
  | .iface _ d => uptoBulk d + 1
  | .map entries => uptoBulkEntries entries + 1
  | .held _ => 1
def uptoBulkAll {H : Type} : List (DataW H) → Nat
  | [] => 0
  | d :: r => uptoBulk d + uptoBulkAll r
def uptoBulkEntries {H : Type} : List (Lit × DataW H) → Nat
  | [] => 0
  | x :: r => uptoBulkEntry x + uptoBulkEntries r
def uptoBulkEntry {H : Type} : Lit × DataW H → Nat
  | (.string bytes, d) => bytes.length + uptoBulk d + 1
  | (_, d) => uptoBulk d + 1
 end
def uptoSmall : (H : Type) → List (DataW H) → Bool := fun _ ds => decide (uptoBulkAll ds ≤ 1048576)
def OpenSpec.upto (s : _root_.Go.ChangeSpec) : _root_.Go.OpenSpec := { _root_.Go.OpenSpec.ofChange s with cond := some uptoSmall }

/-- 'reckonerlaw05.DividesBack', WHERE WHAT IT READS IS OF BULK AT MOST 1048576: true; the input reads as it did. -/
def dividesBackUptoRow : OpenClaim := { program := "ythcccdjfedbnfaagreat", sum := "b169357e3c81d29813c67484be8f791302e80c04b0459e3ef46e3033ee7e843b", func := "reckoner/reckonerlaw05.DividesBack", spec := "dividesBack", unfollowed := true, recurses := true, plainKeys := false, apart := false, narrowed := true }
def DividesBackUptoSaid : Prop := dividesBackUptoRow.holds Tryz.pinned (OpenSpec.upto dividesBackSpec)

/-- 'reckonerlaw05.DividesWhole', WHERE WHAT IT READS IS OF BULK AT MOST 1048576: true; the input reads as it did. -/
def dividesWholeUptoRow : OpenClaim := { program := "ythcccdjfedbnfaagreat", sum := "b169357e3c81d29813c67484be8f791302e80c04b0459e3ef46e3033ee7e843b", func := "reckoner/reckonerlaw05.DividesWhole", spec := "dividesWhole", unfollowed := true, recurses := true, plainKeys := false, apart := false, narrowed := true }
def DividesWholeUptoSaid : Prop := dividesWholeUptoRow.holds Tryz.pinned (OpenSpec.upto dividesWholeSpec)

/-- 'reckonerlaw05.DividesLeast', WHERE WHAT IT READS IS OF BULK AT MOST 1048576: true; the input reads as it did. -/
def dividesLeastUptoRow : OpenClaim := { program := "ythcccdjfedbnfaagreat", sum := "b169357e3c81d29813c67484be8f791302e80c04b0459e3ef46e3033ee7e843b", func := "reckoner/reckonerlaw05.DividesLeast", spec := "dividesLeast", unfollowed := true, recurses := true, plainKeys := false, apart := false, narrowed := true }
def DividesLeastUptoSaid : Prop := dividesLeastUptoRow.holds Tryz.pinned (OpenSpec.upto dividesLeastSpec)

/-- 'reckonerlaw05.DividesSums', WHERE WHAT IT READS IS OF BULK AT MOST 1048576: true; the input reads as it did. -/
def dividesSumsUptoRow : OpenClaim := { program := "ythcccdjfedbnfaagreat", sum := "b169357e3c81d29813c67484be8f791302e80c04b0459e3ef46e3033ee7e843b", func := "reckoner/reckonerlaw05.DividesSums", spec := "dividesSums", unfollowed := true, recurses := true, plainKeys := false, apart := false, narrowed := true }
def DividesSumsUptoSaid : Prop := dividesSumsUptoRow.holds Tryz.pinned (OpenSpec.upto dividesSumsSpec)

/-- 'reckonerlaw05.DividesTwice', WHERE WHAT IT READS IS OF BULK AT MOST 1048576: true; the input reads as it did. -/
def dividesTwiceUptoRow : OpenClaim := { program := "ythcccdjfedbnfaagreat", sum := "b169357e3c81d29813c67484be8f791302e80c04b0459e3ef46e3033ee7e843b", func := "reckoner/reckonerlaw05.DividesTwice", spec := "dividesTwice", unfollowed := true, recurses := true, plainKeys := false, apart := false, narrowed := true }
def DividesTwiceUptoSaid : Prop := dividesTwiceUptoRow.holds Tryz.pinned (OpenSpec.upto dividesTwiceSpec)

end Rows
end Go.Proofs.YthcccdjfedbnfaaGreat
