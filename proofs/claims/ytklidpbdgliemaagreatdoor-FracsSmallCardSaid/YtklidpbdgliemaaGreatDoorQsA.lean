/-
  The check of a great drawn region, in pieces.
-/
import Derived.Test.YtklidpbdgliemaaGreatDoorQoI
import Derived.WalkKit
set_option linter.unusedSimpArgs false
set_option linter.unusedVariables false
namespace Go.Proofs.YtklidpbdgliemaaGreatDoor.Limb
open Go
noncomputable def smOps : Array Oper := ((((Tryz.f9.body.getD .skip) |> codeRegs).filter (fun r => r.1 == 10)).map (fun r => r.2)).headD #[]
def smM (k : Nat) : Array Bool := (List.replicate k true ++ List.replicate (99 - k) false).toArray
theorem smA : Region.noSelect smOps = true := by kernel_rfl
theorem smB : decide (98 < smOps.size) = true := by kernel_rfl
theorem smC : Region.sinkB .any smOps 98 = true := by kernel_rfl
theorem smD : Region.chainB .any smOps 98 = true := by kernel_rfl
theorem smE : smOps.size - 98 = 1 := by kernel_rfl
theorem smE2 : Array.replicate smOps.size false = smM 0 := by kernel_rfl
theorem smS : Region.seqB .any smOps 1 98 (smM 98) = true := by kernel_rfl
theorem smP0 : Region.headTo .any smOps 8 0 (smM 0) = true := by kernel_rfl
theorem smQ0 : Region.after 8 0 (smM 0) = smM 8 := by kernel_rfl
theorem smP8 : Region.headTo .any smOps 8 8 (smM 8) = true := by kernel_rfl
theorem smQ8 : Region.after 8 8 (smM 8) = smM 16 := by kernel_rfl
theorem smP16 : Region.headTo .any smOps 8 16 (smM 16) = true := by kernel_rfl
theorem smQ16 : Region.after 8 16 (smM 16) = smM 24 := by kernel_rfl
theorem smP24 : Region.headTo .any smOps 8 24 (smM 24) = true := by kernel_rfl
theorem smQ24 : Region.after 8 24 (smM 24) = smM 32 := by kernel_rfl
theorem smP32 : Region.headTo .any smOps 8 32 (smM 32) = true := by kernel_rfl
theorem smQ32 : Region.after 8 32 (smM 32) = smM 40 := by kernel_rfl
theorem smP40 : Region.headTo .any smOps 8 40 (smM 40) = true := by kernel_rfl
theorem smQ40 : Region.after 8 40 (smM 40) = smM 48 := by kernel_rfl
theorem smP48 : Region.headTo .any smOps 8 48 (smM 48) = true := by kernel_rfl
theorem smQ48 : Region.after 8 48 (smM 48) = smM 56 := by kernel_rfl
theorem smP56 : Region.headTo .any smOps 8 56 (smM 56) = true := by kernel_rfl
theorem smQ56 : Region.after 8 56 (smM 56) = smM 64 := by kernel_rfl
theorem smP64 : Region.headTo .any smOps 8 64 (smM 64) = true := by kernel_rfl
theorem smQ64 : Region.after 8 64 (smM 64) = smM 72 := by kernel_rfl
theorem smP72 : Region.headTo .any smOps 8 72 (smM 72) = true := by kernel_rfl
theorem smQ72 : Region.after 8 72 (smM 72) = smM 80 := by kernel_rfl
theorem smP80 : Region.headTo .any smOps 8 80 (smM 80) = true := by kernel_rfl
theorem smQ80 : Region.after 8 80 (smM 80) = smM 88 := by kernel_rfl
theorem smP88 : Region.headTo .any smOps 8 88 (smM 88) = true := by kernel_rfl
theorem smQ88 : Region.after 8 88 (smM 88) = smM 96 := by kernel_rfl
theorem smP96 : Region.headTo .any smOps 2 96 (smM 96) = true := by kernel_rfl
theorem smQ96 : Region.after 2 96 (smM 96) = smM 98 := by kernel_rfl
theorem smH98 : Region.lexHead .any smOps 1 0 98 (smM 98) = true := smS
theorem smH96 : Region.lexHead .any smOps 1 2 96 (smM 96) = true := Region.lexHead_step 2 0 96 _ smP96 (by rw [smQ96]; exact smH98)
theorem smH88 : Region.lexHead .any smOps 1 10 88 (smM 88) = true := Region.lexHead_step 8 2 88 _ smP88 (by rw [smQ88]; exact smH96)
theorem smH80 : Region.lexHead .any smOps 1 18 80 (smM 80) = true := Region.lexHead_step 8 10 80 _ smP80 (by rw [smQ80]; exact smH88)
theorem smH72 : Region.lexHead .any smOps 1 26 72 (smM 72) = true := Region.lexHead_step 8 18 72 _ smP72 (by rw [smQ72]; exact smH80)
theorem smH64 : Region.lexHead .any smOps 1 34 64 (smM 64) = true := Region.lexHead_step 8 26 64 _ smP64 (by rw [smQ64]; exact smH72)
theorem smH56 : Region.lexHead .any smOps 1 42 56 (smM 56) = true := Region.lexHead_step 8 34 56 _ smP56 (by rw [smQ56]; exact smH64)
theorem smH48 : Region.lexHead .any smOps 1 50 48 (smM 48) = true := Region.lexHead_step 8 42 48 _ smP48 (by rw [smQ48]; exact smH56)
theorem smH40 : Region.lexHead .any smOps 1 58 40 (smM 40) = true := Region.lexHead_step 8 50 40 _ smP40 (by rw [smQ40]; exact smH48)
theorem smH32 : Region.lexHead .any smOps 1 66 32 (smM 32) = true := Region.lexHead_step 8 58 32 _ smP32 (by rw [smQ32]; exact smH40)
theorem smH24 : Region.lexHead .any smOps 1 74 24 (smM 24) = true := Region.lexHead_step 8 66 24 _ smP24 (by rw [smQ24]; exact smH32)
theorem smH16 : Region.lexHead .any smOps 1 82 16 (smM 16) = true := Region.lexHead_step 8 74 16 _ smP16 (by rw [smQ16]; exact smH24)
theorem smH8 : Region.lexHead .any smOps 1 90 8 (smM 8) = true := Region.lexHead_step 8 82 8 _ smP8 (by rw [smQ8]; exact smH16)
theorem smH0 : Region.lexHead .any smOps 1 98 0 (smM 0) = true := Region.lexHead_step 8 90 0 _ smP0 (by rw [smQ0]; exact smH8)
theorem smChk : Region.lexTailB .any smOps 98 = true := by
  unfold Region.lexTailB
  rw [smA, smB, smC, smD, smE, smE2, smH0]
  rfl
end Go.Proofs.YtklidpbdgliemaaGreatDoor.Limb
