/-
  No cell of these rows narrows 'for every input' (looked for: loops, veiled, ifaces, maps, wideKeys, modest, calm, conditions, laid).
  DERIVED. THE GIVEN ROWS OF THIS SEAT. 8 by the template 'for every input the law returns true; each argument reads behind the call as it read before'; 0 by the template 'total and deterministic' (their statements: YtlhkiodgjcbjbaaTotals.lean).
  GIVEN WITH THE SEED: the statements are not yours to turn. If you find one false, say at which input.
  Laid BY PROGRAM, IN A SANDBOX (cutbox-rows.mjs): the forced cells as the released guide's own fill.sh prints them over the translation 6e8c8de8388fafb8… (all of the seat's roots in one cut). By AI agents, Wed Nov 11 2026. No macro, syntax, notation, axiom, sorry.
-/
import Derived.Test.YtlhkiodgjcbjbaaChecked
import GoSem.Claim
import GoSem.ClaimJoined
import GoSem.ClaimMapViews
import Derived.JoinedTies
import Derived.KernelRfl
namespace Go.Proofs.Ytlhkiodgjcbjbaa
/- THE CELL 'sum', in the pinned program and in every row, IS THE sha256 OF THE DUMP (.gsa) THAT YtlhkiodgjcbjbaaProg.lean LOADS. Nothing in Lean hashes anything: it is a label: what it is worth is what the hold of that sum in a sandbox is worth. -/
noncomputable def Try.pinned : Pinned := { name := "ytlhkiodgjcbjbaa", sum := "6e8c8de8388fafb80a8e2c01507e6b52b3749ad5bcdfe8b19b06982c16214213", checked := Try.checked }
namespace Rows
def none {H : Type} : Left H := { results := [], args := [] }

/-- 'reckonerlaw03.MonosPairs': WHATEVER THE INPUT: true; the input reads as it did. -/
def monosPairsSpec : ChangeSpec := { name := "monosPairs", fn := fun _ => fun
  | [d1, d2] => { results := [.lit (.bool true)], args := [d1, d2] }
  | _ => none }
def monosPairsRow : OpenClaim := { program := "ytlhkiodgjcbjbaa", sum := "6e8c8de8388fafb80a8e2c01507e6b52b3749ad5bcdfe8b19b06982c16214213", func := "reckoner/reckonerlaw03.MonosPairs", spec := "monosPairs", unfollowed := true, recurses := true, apart := false }
def MonosPairsSaid : Prop := monosPairsRow.holds Try.pinned (OpenSpec.ofChange monosPairsSpec)

/-- ITS FALSE NEIGHBOUR: 'it returns false'. Refute it at one input. -/
def monosPairsWrong : ChangeSpec := { name := "monosPairs", fn := fun _ => fun
  | [d1, d2] => { results := [.lit (.bool false)], args := [d1, d2] }
  | _ => none }
def MonosPairsWrongFalsely : Prop := monosPairsRow.holds Try.pinned (OpenSpec.ofChange monosPairsWrong)

/-- 'reckonerlaw03.MonosOrders': WHATEVER THE INPUT: true; the input reads as it did. -/
def monosOrdersSpec : ChangeSpec := { name := "monosOrders", fn := fun _ => fun
  | [d1, d2, d3] => { results := [.lit (.bool true)], args := [d1, d2, d3] }
  | _ => none }
def monosOrdersRow : OpenClaim := { program := "ytlhkiodgjcbjbaa", sum := "6e8c8de8388fafb80a8e2c01507e6b52b3749ad5bcdfe8b19b06982c16214213", func := "reckoner/reckonerlaw03.MonosOrders", spec := "monosOrders", unfollowed := true, recurses := true, apart := false }
def MonosOrdersSaid : Prop := monosOrdersRow.holds Try.pinned (OpenSpec.ofChange monosOrdersSpec)

/-- ITS FALSE NEIGHBOUR: 'it returns false'. Refute it at one input. -/
def monosOrdersWrong : ChangeSpec := { name := "monosOrders", fn := fun _ => fun
  | [d1, d2, d3] => { results := [.lit (.bool false)], args := [d1, d2, d3] }
  | _ => none }
def MonosOrdersWrongFalsely : Prop := monosOrdersRow.holds Try.pinned (OpenSpec.ofChange monosOrdersWrong)

/-- 'reckonerlaw03.MonosBack': WHATEVER THE INPUT: true; the input reads as it did. -/
def monosBackSpec : ChangeSpec := { name := "monosBack", fn := fun _ => fun
  | [d1, d2] => { results := [.lit (.bool true)], args := [d1, d2] }
  | _ => none }
def monosBackRow : OpenClaim := { program := "ytlhkiodgjcbjbaa", sum := "6e8c8de8388fafb80a8e2c01507e6b52b3749ad5bcdfe8b19b06982c16214213", func := "reckoner/reckonerlaw03.MonosBack", spec := "monosBack", unfollowed := true, recurses := true, apart := false }
def MonosBackSaid : Prop := monosBackRow.holds Try.pinned (OpenSpec.ofChange monosBackSpec)

/-- ITS FALSE NEIGHBOUR: 'it returns false'. Refute it at one input. -/
def monosBackWrong : ChangeSpec := { name := "monosBack", fn := fun _ => fun
  | [d1, d2] => { results := [.lit (.bool false)], args := [d1, d2] }
  | _ => none }
def MonosBackWrongFalsely : Prop := monosBackRow.holds Try.pinned (OpenSpec.ofChange monosBackWrong)

/-- 'reckonerlaw03.MonosLeast': WHATEVER THE INPUT: true; the input reads as it did. -/
def monosLeastSpec : ChangeSpec := { name := "monosLeast", fn := fun _ => fun
  | [d1, d2, d3] => { results := [.lit (.bool true)], args := [d1, d2, d3] }
  | _ => none }
def monosLeastRow : OpenClaim := { program := "ytlhkiodgjcbjbaa", sum := "6e8c8de8388fafb80a8e2c01507e6b52b3749ad5bcdfe8b19b06982c16214213", func := "reckoner/reckonerlaw03.MonosLeast", spec := "monosLeast", unfollowed := true, recurses := true, apart := false }
def MonosLeastSaid : Prop := monosLeastRow.holds Try.pinned (OpenSpec.ofChange monosLeastSpec)

/-- ITS FALSE NEIGHBOUR: 'it returns false'. Refute it at one input. -/
def monosLeastWrong : ChangeSpec := { name := "monosLeast", fn := fun _ => fun
  | [d1, d2, d3] => { results := [.lit (.bool false)], args := [d1, d2, d3] }
  | _ => none }
def MonosLeastWrongFalsely : Prop := monosLeastRow.holds Try.pinned (OpenSpec.ofChange monosLeastWrong)

/-- 'reckonerlaw03.MonosFall': WHATEVER THE INPUT: true; the input reads as it did. -/
def monosFallSpec : ChangeSpec := { name := "monosFall", fn := fun _ => fun
  | [d1, d2] => { results := [.lit (.bool true)], args := [d1, d2] }
  | _ => none }
def monosFallRow : OpenClaim := { program := "ytlhkiodgjcbjbaa", sum := "6e8c8de8388fafb80a8e2c01507e6b52b3749ad5bcdfe8b19b06982c16214213", func := "reckoner/reckonerlaw03.MonosFall", spec := "monosFall", unfollowed := true, recurses := true, apart := false }
def MonosFallSaid : Prop := monosFallRow.holds Try.pinned (OpenSpec.ofChange monosFallSpec)

/-- ITS FALSE NEIGHBOUR: 'it returns false'. Refute it at one input. -/
def monosFallWrong : ChangeSpec := { name := "monosFall", fn := fun _ => fun
  | [d1, d2] => { results := [.lit (.bool false)], args := [d1, d2] }
  | _ => none }
def MonosFallWrongFalsely : Prop := monosFallRow.holds Try.pinned (OpenSpec.ofChange monosFallWrong)

/-- 'reckonerlaw03.MonosTimes': WHATEVER THE INPUT: true; the input reads as it did. -/
def monosTimesSpec : ChangeSpec := { name := "monosTimes", fn := fun _ => fun
  | [d1, d2] => { results := [.lit (.bool true)], args := [d1, d2] }
  | _ => none }
def monosTimesRow : OpenClaim := { program := "ytlhkiodgjcbjbaa", sum := "6e8c8de8388fafb80a8e2c01507e6b52b3749ad5bcdfe8b19b06982c16214213", func := "reckoner/reckonerlaw03.MonosTimes", spec := "monosTimes", unfollowed := true, recurses := true, apart := false }
def MonosTimesSaid : Prop := monosTimesRow.holds Try.pinned (OpenSpec.ofChange monosTimesSpec)

/-- ITS FALSE NEIGHBOUR: 'it returns false'. Refute it at one input. -/
def monosTimesWrong : ChangeSpec := { name := "monosTimes", fn := fun _ => fun
  | [d1, d2] => { results := [.lit (.bool false)], args := [d1, d2] }
  | _ => none }
def MonosTimesWrongFalsely : Prop := monosTimesRow.holds Try.pinned (OpenSpec.ofChange monosTimesWrong)

/-- 'reckonerlaw03.MonosGraded': WHATEVER THE INPUT: true; the input reads as it did. -/
def monosGradedSpec : ChangeSpec := { name := "monosGraded", fn := fun _ => fun
  | [d1, d2, d3] => { results := [.lit (.bool true)], args := [d1, d2, d3] }
  | _ => none }
def monosGradedRow : OpenClaim := { program := "ytlhkiodgjcbjbaa", sum := "6e8c8de8388fafb80a8e2c01507e6b52b3749ad5bcdfe8b19b06982c16214213", func := "reckoner/reckonerlaw03.MonosGraded", spec := "monosGraded", unfollowed := true, recurses := true, apart := false }
def MonosGradedSaid : Prop := monosGradedRow.holds Try.pinned (OpenSpec.ofChange monosGradedSpec)

/-- ITS FALSE NEIGHBOUR: 'it returns false'. Refute it at one input. -/
def monosGradedWrong : ChangeSpec := { name := "monosGraded", fn := fun _ => fun
  | [d1, d2, d3] => { results := [.lit (.bool false)], args := [d1, d2, d3] }
  | _ => none }
def MonosGradedWrongFalsely : Prop := monosGradedRow.holds Try.pinned (OpenSpec.ofChange monosGradedWrong)

/-- 'reckonerlaw03.MonosSplit': WHATEVER THE INPUT: true; the input reads as it did. -/
def monosSplitSpec : ChangeSpec := { name := "monosSplit", fn := fun _ => fun
  | [d1, d2, d3] => { results := [.lit (.bool true)], args := [d1, d2, d3] }
  | _ => none }
def monosSplitRow : OpenClaim := { program := "ytlhkiodgjcbjbaa", sum := "6e8c8de8388fafb80a8e2c01507e6b52b3749ad5bcdfe8b19b06982c16214213", func := "reckoner/reckonerlaw03.MonosSplit", spec := "monosSplit", unfollowed := true, recurses := true, apart := false }
def MonosSplitSaid : Prop := monosSplitRow.holds Try.pinned (OpenSpec.ofChange monosSplitSpec)

/-- ITS FALSE NEIGHBOUR: 'it returns false'. Refute it at one input. -/
def monosSplitWrong : ChangeSpec := { name := "monosSplit", fn := fun _ => fun
  | [d1, d2, d3] => { results := [.lit (.bool false)], args := [d1, d2, d3] }
  | _ => none }
def MonosSplitWrongFalsely : Prop := monosSplitRow.holds Try.pinned (OpenSpec.ofChange monosSplitWrong)

/- THE SECOND FORM. 'bulk': how many values and letters a reading holds, each counted each time it is reached (what is shared counts as often as it is met; a slice's spare places count too). A statement '..UptoSaid' is the law's where the arguments, and the package variables that the reading takes, are together of bulk at most 1048576: NARROWER than '..Said'. Prove '..Said' where nothing that the law and all that it calls make is longer than what came in: it says more and counts as full. Else prove '..UptoSaid'. A law counts once. -/
mutual
def uptoBulk {H : Type} : DataW H → Nat
  | .lit (.string bytes) => bytes.length + 1
  | .lit _ => 1
  | .nil => 1
  | .ptr d => uptoBulk d + 1
  | .slice elems spare => uptoBulkAll elems + uptoBulkAll spare + 1
  | .agg parts => uptoBulkAll parts + 1
  | .iface _ d => uptoBulk d + 1
  | .map entries => uptoBulkEntries entries + 1
  | .held _ => 1
def uptoBulkAll {H : Type} : List (DataW H) → Nat
  | [] => 0
  | d :: r => uptoBulk d + uptoBulkAll r
def uptoBulkEntries {H : Type} : List (Lit × DataW H) → Nat
  | [] => 0
  | x :: r => uptoBulkEntry x + uptoBulkEntries r
def uptoBulkEntry {H : Type} : Lit × DataW H → Nat
  | (.string bytes, d) => bytes.length + uptoBulk d + 1
  | (_, d) => uptoBulk d + 1
 end
def uptoSmall : (H : Type) → List (DataW H) → Bool := fun _ ds => decide (uptoBulkAll ds ≤ 1048576)
def OpenSpec.upto (s : _root_.Go.ChangeSpec) : _root_.Go.OpenSpec := { _root_.Go.OpenSpec.ofChange s with cond := some uptoSmall }

/-- 'reckonerlaw03.MonosPairs', WHERE WHAT IT READS IS OF BULK AT MOST 1048576: true; the input reads as it did. -/
def monosPairsUptoRow : OpenClaim := { program := "ytlhkiodgjcbjbaa", sum := "6e8c8de8388fafb80a8e2c01507e6b52b3749ad5bcdfe8b19b06982c16214213", func := "reckoner/reckonerlaw03.MonosPairs", spec := "monosPairs", unfollowed := true, recurses := true, apart := false, narrowed := true }
def MonosPairsUptoSaid : Prop := monosPairsUptoRow.holds Try.pinned (OpenSpec.upto monosPairsSpec)

/-- 'reckonerlaw03.MonosOrders', WHERE WHAT IT READS IS OF BULK AT MOST 1048576: true; the input reads as it did. -/
def monosOrdersUptoRow : OpenClaim := { program := "ytlhkiodgjcbjbaa", sum := "6e8c8de8388fafb80a8e2c01507e6b52b3749ad5bcdfe8b19b06982c16214213", func := "reckoner/reckonerlaw03.MonosOrders", spec := "monosOrders", unfollowed := true, recurses := true, apart := false, narrowed := true }
def MonosOrdersUptoSaid : Prop := monosOrdersUptoRow.holds Try.pinned (OpenSpec.upto monosOrdersSpec)

/-- 'reckonerlaw03.MonosBack', WHERE WHAT IT READS IS OF BULK AT MOST 1048576: true; the input reads as it did. -/
def monosBackUptoRow : OpenClaim := { program := "ytlhkiodgjcbjbaa", sum := "6e8c8de8388fafb80a8e2c01507e6b52b3749ad5bcdfe8b19b06982c16214213", func := "reckoner/reckonerlaw03.MonosBack", spec := "monosBack", unfollowed := true, recurses := true, apart := false, narrowed := true }
def MonosBackUptoSaid : Prop := monosBackUptoRow.holds Try.pinned (OpenSpec.upto monosBackSpec)

/-- 'reckonerlaw03.MonosLeast', WHERE WHAT IT READS IS OF BULK AT MOST 1048576: true; the input reads as it did. -/
def monosLeastUptoRow : OpenClaim := { program := "ytlhkiodgjcbjbaa", sum := "6e8c8de8388fafb80a8e2c01507e6b52b3749ad5bcdfe8b19b06982c16214213", func := "reckoner/reckonerlaw03.MonosLeast", spec := "monosLeast", unfollowed := true, recurses := true, apart := false, narrowed := true }
def MonosLeastUptoSaid : Prop := monosLeastUptoRow.holds Try.pinned (OpenSpec.upto monosLeastSpec)

/-- 'reckonerlaw03.MonosFall', WHERE WHAT IT READS IS OF BULK AT MOST 1048576: true; the input reads as it did. -/
def monosFallUptoRow : OpenClaim := { program := "ytlhkiodgjcbjbaa", sum := "6e8c8de8388fafb80a8e2c01507e6b52b3749ad5bcdfe8b19b06982c16214213", func := "reckoner/reckonerlaw03.MonosFall", spec := "monosFall", unfollowed := true, recurses := true, apart := false, narrowed := true }
def MonosFallUptoSaid : Prop := monosFallUptoRow.holds Try.pinned (OpenSpec.upto monosFallSpec)

/-- 'reckonerlaw03.MonosTimes', WHERE WHAT IT READS IS OF BULK AT MOST 1048576: true; the input reads as it did. -/
def monosTimesUptoRow : OpenClaim := { program := "ytlhkiodgjcbjbaa", sum := "6e8c8de8388fafb80a8e2c01507e6b52b3749ad5bcdfe8b19b06982c16214213", func := "reckoner/reckonerlaw03.MonosTimes", spec := "monosTimes", unfollowed := true, recurses := true, apart := false, narrowed := true }
def MonosTimesUptoSaid : Prop := monosTimesUptoRow.holds Try.pinned (OpenSpec.upto monosTimesSpec)

/-- 'reckonerlaw03.MonosGraded', WHERE WHAT IT READS IS OF BULK AT MOST 1048576: true; the input reads as it did. -/
def monosGradedUptoRow : OpenClaim := { program := "ytlhkiodgjcbjbaa", sum := "6e8c8de8388fafb80a8e2c01507e6b52b3749ad5bcdfe8b19b06982c16214213", func := "reckoner/reckonerlaw03.MonosGraded", spec := "monosGraded", unfollowed := true, recurses := true, apart := false, narrowed := true }
def MonosGradedUptoSaid : Prop := monosGradedUptoRow.holds Try.pinned (OpenSpec.upto monosGradedSpec)

/-- 'reckonerlaw03.MonosSplit', WHERE WHAT IT READS IS OF BULK AT MOST 1048576: true; the input reads as it did. -/
def monosSplitUptoRow : OpenClaim := { program := "ytlhkiodgjcbjbaa", sum := "6e8c8de8388fafb80a8e2c01507e6b52b3749ad5bcdfe8b19b06982c16214213", func := "reckoner/reckonerlaw03.MonosSplit", spec := "monosSplit", unfollowed := true, recurses := true, apart := false, narrowed := true }
def MonosSplitUptoSaid : Prop := monosSplitUptoRow.holds Try.pinned (OpenSpec.upto monosSplitSpec)

end Rows
end Go.Proofs.Ytlhkiodgjcbjbaa
