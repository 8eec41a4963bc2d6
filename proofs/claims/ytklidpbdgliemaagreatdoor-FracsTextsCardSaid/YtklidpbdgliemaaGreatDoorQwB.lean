/-
  The walks of Sub, Neg, Cmp, Sign of package limbs.
-/
import Derived.Test.YtklidpbdgliemaaGreatDoorQwA
import Derived.Lib.ItoaMem
import Derived.Lib.SliceRun
import Derived.Deep.DeepCutAuto
import Derived.Deep.RegionHeld3
set_option linter.unusedSimpArgs false
set_option linter.unusedVariables false
namespace Go.Proofs.YtklidpbdgliemaaGreatDoor.Book
open Go.RowKit Go.Sort
set_option maxHeartbeats 400000 in
theorem fillByte (b : Nat) (w : World) (h : w.cell? ⟨b, 1, none⟩ = some (.slice none 0 0)) : Calls Tryz.prog 58 #[.pointer (some ⟨b, 0, none⟩)] w fun e w' => (∃ v, e = .returned v) ∧ w' = w := by
  go_enter Tryz.func58, Tryz.ntmps58
  go_wp2_with fail
  go_loopw [2] (fun i wr => i = .int .i64 0 ∧ wr = w) (fun _ _ => 0)
  case atStart => exact ⟨rfl, rfl⟩
  case round =>
    obtain ⟨rfl, rfl⟩ := hrel
    go_wp2
    (try simp only [Exit.inBlock, Exit.then])
    refine bodyPost_end (results_none rfl _ _ _) rfl ?_
    exact ⟨⟨_, rfl⟩, rfl⟩
set_option maxHeartbeats 400000 in
theorem growByte (b : Nat) (w : World) (h : w.cell? ⟨b, 1, none⟩ = some (.slice none 0 0)) : Calls Tryz.prog 70 #[.pointer (some ⟨b, 0, none⟩)] w fun e w' => (∃ v, e = .returned v) ∧ w' = w := by
  go_enter Tryz.func70, Tryz.ntmps70
  go_wp2_with fail
  go_loopw [2] (fun i wr => i = .int .i64 0 ∧ wr = w) (fun _ _ => 0)
  case atStart => exact ⟨rfl, rfl⟩
  case round =>
    obtain ⟨rfl, rfl⟩ := hrel
    go_wp2
    (try simp only [Exit.inBlock, Exit.then])
    refine bodyPost_end (results_none rfl _ _ _) rfl ?_
    exact ⟨⟨_, rfl⟩, rfl⟩
set_option maxHeartbeats 400000 in
theorem lookByte (b : Nat) (w : World) (h : w.cell? ⟨b, 1, none⟩ = some (.slice none 0 0)) : Calls Tryz.prog 82 #[.pointer (some ⟨b, 0, none⟩)] w fun e w' => e = .returned (.bool true) ∧ w' = w := by
  go_enter Tryz.func82, Tryz.ntmps82
  go_wp2_with fail
  go_loopw [3] (fun i wr => i = .int .i64 0 ∧ wr = w) (fun _ _ => 0)
  case atStart => exact ⟨rfl, rfl⟩
  case round =>
    obtain ⟨rfl, rfl⟩ := hrel
    go_wp2
    go_ret
    exact ⟨rfl, rfl⟩
set_option maxHeartbeats 400000 in
theorem fillText (b : Nat) (w : World) (h : w.cell? ⟨b, 3, none⟩ = some (.slice none 0 0)) : Calls Tryz.prog 60 #[.pointer (some ⟨b, 0, none⟩)] w fun e w' => (∃ v, e = .returned v) ∧ w' = w := by
  go_enter Tryz.func60, Tryz.ntmps60
  go_wp2_with fail
  go_loopw [2] (fun i wr => i = .int .i64 0 ∧ wr = w) (fun _ _ => 0)
  case atStart => exact ⟨rfl, rfl⟩
  case round =>
    obtain ⟨rfl, rfl⟩ := hrel
    go_wp2
    (try simp only [Exit.inBlock, Exit.then])
    refine bodyPost_end (results_none rfl _ _ _) rfl ?_
    exact ⟨⟨_, rfl⟩, rfl⟩
set_option maxHeartbeats 400000 in
theorem growText (b : Nat) (w : World) (h : w.cell? ⟨b, 3, none⟩ = some (.slice none 0 0)) : Calls Tryz.prog 72 #[.pointer (some ⟨b, 0, none⟩)] w fun e w' => (∃ v, e = .returned v) ∧ w' = w := by
  go_enter Tryz.func72, Tryz.ntmps72
  go_wp2_with fail
  go_loopw [2] (fun i wr => i = .int .i64 0 ∧ wr = w) (fun _ _ => 0)
  case atStart => exact ⟨rfl, rfl⟩
  case round =>
    obtain ⟨rfl, rfl⟩ := hrel
    go_wp2
    (try simp only [Exit.inBlock, Exit.then])
    refine bodyPost_end (results_none rfl _ _ _) rfl ?_
    exact ⟨⟨_, rfl⟩, rfl⟩
set_option maxHeartbeats 400000 in
theorem lookText (b : Nat) (w : World) (h : w.cell? ⟨b, 3, none⟩ = some (.slice none 0 0)) : Calls Tryz.prog 84 #[.pointer (some ⟨b, 0, none⟩)] w fun e w' => e = .returned (.bool true) ∧ w' = w := by
  go_enter Tryz.func84, Tryz.ntmps84
  go_wp2_with fail
  go_loopw [3] (fun i wr => i = .int .i64 0 ∧ wr = w) (fun _ _ => 0)
  case atStart => exact ⟨rfl, rfl⟩
  case round =>
    obtain ⟨rfl, rfl⟩ := hrel
    go_wp2
    go_ret
    exact ⟨rfl, rfl⟩
set_option maxHeartbeats 400000 in
theorem fillToken (b : Nat) (w : World) (h : w.cell? ⟨b, 4, none⟩ = some (.slice none 0 0)) : Calls Tryz.prog 61 #[.pointer (some ⟨b, 0, none⟩)] w fun e w' => (∃ v, e = .returned v) ∧ w' = w := by
  go_enter Tryz.func61, Tryz.ntmps61
  go_wp2_with fail
  go_loopw [2] (fun i wr => i = .int .i64 0 ∧ wr = w) (fun _ _ => 0)
  case atStart => exact ⟨rfl, rfl⟩
  case round =>
    obtain ⟨rfl, rfl⟩ := hrel
    go_wp2
    (try simp only [Exit.inBlock, Exit.then])
    refine bodyPost_end (results_none rfl _ _ _) rfl ?_
    exact ⟨⟨_, rfl⟩, rfl⟩
set_option maxHeartbeats 400000 in
theorem growToken (b : Nat) (w : World) (h : w.cell? ⟨b, 4, none⟩ = some (.slice none 0 0)) : Calls Tryz.prog 73 #[.pointer (some ⟨b, 0, none⟩)] w fun e w' => (∃ v, e = .returned v) ∧ w' = w := by
  go_enter Tryz.func73, Tryz.ntmps73
  go_wp2_with fail
  go_loopw [2] (fun i wr => i = .int .i64 0 ∧ wr = w) (fun _ _ => 0)
  case atStart => exact ⟨rfl, rfl⟩
  case round =>
    obtain ⟨rfl, rfl⟩ := hrel
    go_wp2
    (try simp only [Exit.inBlock, Exit.then])
    refine bodyPost_end (results_none rfl _ _ _) rfl ?_
    exact ⟨⟨_, rfl⟩, rfl⟩
set_option maxHeartbeats 400000 in
theorem lookToken (b : Nat) (w : World) (h : w.cell? ⟨b, 4, none⟩ = some (.slice none 0 0)) : Calls Tryz.prog 85 #[.pointer (some ⟨b, 0, none⟩)] w fun e w' => e = .returned (.bool true) ∧ w' = w := by
  go_enter Tryz.func85, Tryz.ntmps85
  go_wp2_with fail
  go_loopw [3] (fun i wr => i = .int .i64 0 ∧ wr = w) (fun _ _ => 0)
  case atStart => exact ⟨rfl, rfl⟩
  case round =>
    obtain ⟨rfl, rfl⟩ := hrel
    go_wp2
    go_ret
    exact ⟨rfl, rfl⟩
set_option maxHeartbeats 400000 in
theorem fillNum (b : Nat) (w : World) (h : w.cell? ⟨b, 5, none⟩ = some (.slice none 0 0)) : Calls Tryz.prog 62 #[.pointer (some ⟨b, 0, none⟩)] w fun e w' => (∃ v, e = .returned v) ∧ w' = w := by
  go_enter Tryz.func62, Tryz.ntmps62
  go_wp2_with fail
  go_loopw [2] (fun i wr => i = .int .i64 0 ∧ wr = w) (fun _ _ => 0)
  case atStart => exact ⟨rfl, rfl⟩
  case round =>
    obtain ⟨rfl, rfl⟩ := hrel
    go_wp2
    (try simp only [Exit.inBlock, Exit.then])
    refine bodyPost_end (results_none rfl _ _ _) rfl ?_
    exact ⟨⟨_, rfl⟩, rfl⟩
set_option maxHeartbeats 400000 in
theorem growNum (b : Nat) (w : World) (h : w.cell? ⟨b, 5, none⟩ = some (.slice none 0 0)) : Calls Tryz.prog 74 #[.pointer (some ⟨b, 0, none⟩)] w fun e w' => (∃ v, e = .returned v) ∧ w' = w := by
  go_enter Tryz.func74, Tryz.ntmps74
  go_wp2_with fail
  go_loopw [2] (fun i wr => i = .int .i64 0 ∧ wr = w) (fun _ _ => 0)
  case atStart => exact ⟨rfl, rfl⟩
  case round =>
    obtain ⟨rfl, rfl⟩ := hrel
    go_wp2
    (try simp only [Exit.inBlock, Exit.then])
    refine bodyPost_end (results_none rfl _ _ _) rfl ?_
    exact ⟨⟨_, rfl⟩, rfl⟩
set_option maxHeartbeats 400000 in
theorem lookNum (b : Nat) (w : World) (h : w.cell? ⟨b, 5, none⟩ = some (.slice none 0 0)) : Calls Tryz.prog 86 #[.pointer (some ⟨b, 0, none⟩)] w fun e w' => e = .returned (.bool true) ∧ w' = w := by
  go_enter Tryz.func86, Tryz.ntmps86
  go_wp2_with fail
  go_loopw [3] (fun i wr => i = .int .i64 0 ∧ wr = w) (fun _ _ => 0)
  case atStart => exact ⟨rfl, rfl⟩
  case round =>
    obtain ⟨rfl, rfl⟩ := hrel
    go_wp2
    go_ret
    exact ⟨rfl, rfl⟩
set_option maxHeartbeats 400000 in
theorem fillTerm (b : Nat) (w : World) (h : w.cell? ⟨b, 6, none⟩ = some (.slice none 0 0)) : Calls Tryz.prog 63 #[.pointer (some ⟨b, 0, none⟩)] w fun e w' => (∃ v, e = .returned v) ∧ w' = w := by
  go_enter Tryz.func63, Tryz.ntmps63
  go_wp2_with fail
  go_loopw [2] (fun i wr => i = .int .i64 0 ∧ wr = w) (fun _ _ => 0)
  case atStart => exact ⟨rfl, rfl⟩
  case round =>
    obtain ⟨rfl, rfl⟩ := hrel
    go_wp2
    (try simp only [Exit.inBlock, Exit.then])
    refine bodyPost_end (results_none rfl _ _ _) rfl ?_
    exact ⟨⟨_, rfl⟩, rfl⟩
set_option maxHeartbeats 400000 in
theorem growTerm (b : Nat) (w : World) (h : w.cell? ⟨b, 6, none⟩ = some (.slice none 0 0)) : Calls Tryz.prog 75 #[.pointer (some ⟨b, 0, none⟩)] w fun e w' => (∃ v, e = .returned v) ∧ w' = w := by
  go_enter Tryz.func75, Tryz.ntmps75
  go_wp2_with fail
  go_loopw [2] (fun i wr => i = .int .i64 0 ∧ wr = w) (fun _ _ => 0)
  case atStart => exact ⟨rfl, rfl⟩
  case round =>
    obtain ⟨rfl, rfl⟩ := hrel
    go_wp2
    (try simp only [Exit.inBlock, Exit.then])
    refine bodyPost_end (results_none rfl _ _ _) rfl ?_
    exact ⟨⟨_, rfl⟩, rfl⟩
set_option maxHeartbeats 400000 in
theorem lookTerm (b : Nat) (w : World) (h : w.cell? ⟨b, 6, none⟩ = some (.slice none 0 0)) : Calls Tryz.prog 87 #[.pointer (some ⟨b, 0, none⟩)] w fun e w' => e = .returned (.bool true) ∧ w' = w := by
  go_enter Tryz.func87, Tryz.ntmps87
  go_wp2_with fail
  go_loopw [3] (fun i wr => i = .int .i64 0 ∧ wr = w) (fun _ _ => 0)
  case atStart => exact ⟨rfl, rfl⟩
  case round =>
    obtain ⟨rfl, rfl⟩ := hrel
    go_wp2
    go_ret
    exact ⟨rfl, rfl⟩
set_option maxHeartbeats 400000 in
theorem fillFactor (b : Nat) (w : World) (h : w.cell? ⟨b, 7, none⟩ = some (.slice none 0 0)) : Calls Tryz.prog 64 #[.pointer (some ⟨b, 0, none⟩)] w fun e w' => (∃ v, e = .returned v) ∧ w' = w := by
  go_enter Tryz.func64, Tryz.ntmps64
  go_wp2_with fail
  go_loopw [2] (fun i wr => i = .int .i64 0 ∧ wr = w) (fun _ _ => 0)
  case atStart => exact ⟨rfl, rfl⟩
  case round =>
    obtain ⟨rfl, rfl⟩ := hrel
    go_wp2
    (try simp only [Exit.inBlock, Exit.then])
    refine bodyPost_end (results_none rfl _ _ _) rfl ?_
    exact ⟨⟨_, rfl⟩, rfl⟩
set_option maxHeartbeats 400000 in
theorem growFactor (b : Nat) (w : World) (h : w.cell? ⟨b, 7, none⟩ = some (.slice none 0 0)) : Calls Tryz.prog 76 #[.pointer (some ⟨b, 0, none⟩)] w fun e w' => (∃ v, e = .returned v) ∧ w' = w := by
  go_enter Tryz.func76, Tryz.ntmps76
  go_wp2_with fail
  go_loopw [2] (fun i wr => i = .int .i64 0 ∧ wr = w) (fun _ _ => 0)
  case atStart => exact ⟨rfl, rfl⟩
  case round =>
    obtain ⟨rfl, rfl⟩ := hrel
    go_wp2
    (try simp only [Exit.inBlock, Exit.then])
    refine bodyPost_end (results_none rfl _ _ _) rfl ?_
    exact ⟨⟨_, rfl⟩, rfl⟩
set_option maxHeartbeats 400000 in
theorem lookFactor (b : Nat) (w : World) (h : w.cell? ⟨b, 7, none⟩ = some (.slice none 0 0)) : Calls Tryz.prog 88 #[.pointer (some ⟨b, 0, none⟩)] w fun e w' => e = .returned (.bool true) ∧ w' = w := by
  go_enter Tryz.func88, Tryz.ntmps88
  go_wp2_with fail
  go_loopw [3] (fun i wr => i = .int .i64 0 ∧ wr = w) (fun _ _ => 0)
  case atStart => exact ⟨rfl, rfl⟩
  case round =>
    obtain ⟨rfl, rfl⟩ := hrel
    go_wp2
    go_ret
    exact ⟨rfl, rfl⟩
set_option maxHeartbeats 400000 in
theorem fillNode (b : Nat) (w : World) (h : w.cell? ⟨b, 8, none⟩ = some (.slice none 0 0)) : Calls Tryz.prog 65 #[.pointer (some ⟨b, 0, none⟩)] w fun e w' => (∃ v, e = .returned v) ∧ w' = w := by
  go_enter Tryz.func65, Tryz.ntmps65
  go_wp2_with fail
  go_loopw [2] (fun i wr => i = .int .i64 0 ∧ wr = w) (fun _ _ => 0)
  case atStart => exact ⟨rfl, rfl⟩
  case round =>
    obtain ⟨rfl, rfl⟩ := hrel
    go_wp2
    (try simp only [Exit.inBlock, Exit.then])
    refine bodyPost_end (results_none rfl _ _ _) rfl ?_
    exact ⟨⟨_, rfl⟩, rfl⟩
set_option maxHeartbeats 400000 in
theorem growNode (b : Nat) (w : World) (h : w.cell? ⟨b, 8, none⟩ = some (.slice none 0 0)) : Calls Tryz.prog 77 #[.pointer (some ⟨b, 0, none⟩)] w fun e w' => (∃ v, e = .returned v) ∧ w' = w := by
  go_enter Tryz.func77, Tryz.ntmps77
  go_wp2_with fail
  go_loopw [2] (fun i wr => i = .int .i64 0 ∧ wr = w) (fun _ _ => 0)
  case atStart => exact ⟨rfl, rfl⟩
  case round =>
    obtain ⟨rfl, rfl⟩ := hrel
    go_wp2
    (try simp only [Exit.inBlock, Exit.then])
    refine bodyPost_end (results_none rfl _ _ _) rfl ?_
    exact ⟨⟨_, rfl⟩, rfl⟩
set_option maxHeartbeats 400000 in
theorem lookNode (b : Nat) (w : World) (h : w.cell? ⟨b, 8, none⟩ = some (.slice none 0 0)) : Calls Tryz.prog 89 #[.pointer (some ⟨b, 0, none⟩)] w fun e w' => e = .returned (.bool true) ∧ w' = w := by
  go_enter Tryz.func89, Tryz.ntmps89
  go_wp2_with fail
  go_loopw [3] (fun i wr => i = .int .i64 0 ∧ wr = w) (fun _ _ => 0)
  case atStart => exact ⟨rfl, rfl⟩
  case round =>
    obtain ⟨rfl, rfl⟩ := hrel
    go_wp2
    go_ret
    exact ⟨rfl, rfl⟩
set_option maxHeartbeats 400000 in
theorem fillFunc (b : Nat) (w : World) (h : w.cell? ⟨b, 9, none⟩ = some (.slice none 0 0)) : Calls Tryz.prog 66 #[.pointer (some ⟨b, 0, none⟩)] w fun e w' => (∃ v, e = .returned v) ∧ w' = w := by
  go_enter Tryz.func66, Tryz.ntmps66
  go_wp2_with fail
  go_loopw [2] (fun i wr => i = .int .i64 0 ∧ wr = w) (fun _ _ => 0)
  case atStart => exact ⟨rfl, rfl⟩
  case round =>
    obtain ⟨rfl, rfl⟩ := hrel
    go_wp2
    (try simp only [Exit.inBlock, Exit.then])
    refine bodyPost_end (results_none rfl _ _ _) rfl ?_
    exact ⟨⟨_, rfl⟩, rfl⟩
set_option maxHeartbeats 400000 in
theorem growFunc (b : Nat) (w : World) (h : w.cell? ⟨b, 9, none⟩ = some (.slice none 0 0)) : Calls Tryz.prog 78 #[.pointer (some ⟨b, 0, none⟩)] w fun e w' => (∃ v, e = .returned v) ∧ w' = w := by
  go_enter Tryz.func78, Tryz.ntmps78
  go_wp2_with fail
  go_loopw [2] (fun i wr => i = .int .i64 0 ∧ wr = w) (fun _ _ => 0)
  case atStart => exact ⟨rfl, rfl⟩
  case round =>
    obtain ⟨rfl, rfl⟩ := hrel
    go_wp2
    (try simp only [Exit.inBlock, Exit.then])
    refine bodyPost_end (results_none rfl _ _ _) rfl ?_
    exact ⟨⟨_, rfl⟩, rfl⟩
set_option maxHeartbeats 400000 in
theorem lookFunc (b : Nat) (w : World) (h : w.cell? ⟨b, 9, none⟩ = some (.slice none 0 0)) : Calls Tryz.prog 90 #[.pointer (some ⟨b, 0, none⟩)] w fun e w' => e = .returned (.bool true) ∧ w' = w := by
  go_enter Tryz.func90, Tryz.ntmps90
  go_wp2_with fail
  go_loopw [3] (fun i wr => i = .int .i64 0 ∧ wr = w) (fun _ _ => 0)
  case atStart => exact ⟨rfl, rfl⟩
  case round =>
    obtain ⟨rfl, rfl⟩ := hrel
    go_wp2
    go_ret
    exact ⟨rfl, rfl⟩
set_option maxHeartbeats 400000 in
theorem fillValue (b : Nat) (w : World) (h : w.cell? ⟨b, 10, none⟩ = some (.slice none 0 0)) : Calls Tryz.prog 67 #[.pointer (some ⟨b, 0, none⟩)] w fun e w' => (∃ v, e = .returned v) ∧ w' = w := by
  go_enter Tryz.func67, Tryz.ntmps67
  go_wp2_with fail
  go_loopw [2] (fun i wr => i = .int .i64 0 ∧ wr = w) (fun _ _ => 0)
  case atStart => exact ⟨rfl, rfl⟩
  case round =>
    obtain ⟨rfl, rfl⟩ := hrel
    go_wp2
    (try simp only [Exit.inBlock, Exit.then])
    refine bodyPost_end (results_none rfl _ _ _) rfl ?_
    exact ⟨⟨_, rfl⟩, rfl⟩
set_option maxHeartbeats 400000 in
theorem growValue (b : Nat) (w : World) (h : w.cell? ⟨b, 10, none⟩ = some (.slice none 0 0)) : Calls Tryz.prog 79 #[.pointer (some ⟨b, 0, none⟩)] w fun e w' => (∃ v, e = .returned v) ∧ w' = w := by
  go_enter Tryz.func79, Tryz.ntmps79
  go_wp2_with fail
  go_loopw [2] (fun i wr => i = .int .i64 0 ∧ wr = w) (fun _ _ => 0)
  case atStart => exact ⟨rfl, rfl⟩
  case round =>
    obtain ⟨rfl, rfl⟩ := hrel
    go_wp2
    (try simp only [Exit.inBlock, Exit.then])
    refine bodyPost_end (results_none rfl _ _ _) rfl ?_
    exact ⟨⟨_, rfl⟩, rfl⟩
set_option maxHeartbeats 400000 in
theorem lookValue (b : Nat) (w : World) (h : w.cell? ⟨b, 10, none⟩ = some (.slice none 0 0)) : Calls Tryz.prog 91 #[.pointer (some ⟨b, 0, none⟩)] w fun e w' => e = .returned (.bool true) ∧ w' = w := by
  go_enter Tryz.func91, Tryz.ntmps91
  go_wp2_with fail
  go_loopw [3] (fun i wr => i = .int .i64 0 ∧ wr = w) (fun _ _ => 0)
  case atStart => exact ⟨rfl, rfl⟩
  case round =>
    obtain ⟨rfl, rfl⟩ := hrel
    go_wp2
    go_ret
    exact ⟨rfl, rfl⟩
set_option maxHeartbeats 400000 in
theorem fillInstr (b : Nat) (w : World) (h : w.cell? ⟨b, 11, none⟩ = some (.slice none 0 0)) : Calls Tryz.prog 68 #[.pointer (some ⟨b, 0, none⟩)] w fun e w' => (∃ v, e = .returned v) ∧ w' = w := by
  go_enter Tryz.func68, Tryz.ntmps68
  go_wp2_with fail
  go_loopw [2] (fun i wr => i = .int .i64 0 ∧ wr = w) (fun _ _ => 0)
  case atStart => exact ⟨rfl, rfl⟩
  case round =>
    obtain ⟨rfl, rfl⟩ := hrel
    go_wp2
    (try simp only [Exit.inBlock, Exit.then])
    refine bodyPost_end (results_none rfl _ _ _) rfl ?_
    exact ⟨⟨_, rfl⟩, rfl⟩
set_option maxHeartbeats 400000 in
theorem growInstr (b : Nat) (w : World) (h : w.cell? ⟨b, 11, none⟩ = some (.slice none 0 0)) : Calls Tryz.prog 80 #[.pointer (some ⟨b, 0, none⟩)] w fun e w' => (∃ v, e = .returned v) ∧ w' = w := by
  go_enter Tryz.func80, Tryz.ntmps80
  go_wp2_with fail
  go_loopw [2] (fun i wr => i = .int .i64 0 ∧ wr = w) (fun _ _ => 0)
  case atStart => exact ⟨rfl, rfl⟩
  case round =>
    obtain ⟨rfl, rfl⟩ := hrel
    go_wp2
    (try simp only [Exit.inBlock, Exit.then])
    refine bodyPost_end (results_none rfl _ _ _) rfl ?_
    exact ⟨⟨_, rfl⟩, rfl⟩
set_option maxHeartbeats 400000 in
theorem lookInstr (b : Nat) (w : World) (h : w.cell? ⟨b, 11, none⟩ = some (.slice none 0 0)) : Calls Tryz.prog 92 #[.pointer (some ⟨b, 0, none⟩)] w fun e w' => e = .returned (.bool true) ∧ w' = w := by
  go_enter Tryz.func92, Tryz.ntmps92
  go_wp2_with fail
  go_loopw [3] (fun i wr => i = .int .i64 0 ∧ wr = w) (fun _ _ => 0)
  case atStart => exact ⟨rfl, rfl⟩
  case round =>
    obtain ⟨rfl, rfl⟩ := hrel
    go_wp2
    go_ret
    exact ⟨rfl, rfl⟩
set_option maxHeartbeats 400000 in
theorem fillChunk (b : Nat) (w : World) (h : w.cell? ⟨b, 12, none⟩ = some (.slice none 0 0)) : Calls Tryz.prog 69 #[.pointer (some ⟨b, 0, none⟩)] w fun e w' => (∃ v, e = .returned v) ∧ w' = w := by
  go_enter Tryz.func69, Tryz.ntmps69
  go_wp2_with fail
  go_loopw [2] (fun i wr => i = .int .i64 0 ∧ wr = w) (fun _ _ => 0)
  case atStart => exact ⟨rfl, rfl⟩
  case round =>
    obtain ⟨rfl, rfl⟩ := hrel
    go_wp2
    (try simp only [Exit.inBlock, Exit.then])
    refine bodyPost_end (results_none rfl _ _ _) rfl ?_
    exact ⟨⟨_, rfl⟩, rfl⟩
set_option maxHeartbeats 400000 in
theorem growChunk (b : Nat) (w : World) (h : w.cell? ⟨b, 12, none⟩ = some (.slice none 0 0)) : Calls Tryz.prog 81 #[.pointer (some ⟨b, 0, none⟩)] w fun e w' => (∃ v, e = .returned v) ∧ w' = w := by
  go_enter Tryz.func81, Tryz.ntmps81
  go_wp2_with fail
  go_loopw [2] (fun i wr => i = .int .i64 0 ∧ wr = w) (fun _ _ => 0)
  case atStart => exact ⟨rfl, rfl⟩
  case round =>
    obtain ⟨rfl, rfl⟩ := hrel
    go_wp2
    (try simp only [Exit.inBlock, Exit.then])
    refine bodyPost_end (results_none rfl _ _ _) rfl ?_
    exact ⟨⟨_, rfl⟩, rfl⟩
set_option maxHeartbeats 400000 in
theorem lookChunk (b : Nat) (w : World) (h : w.cell? ⟨b, 12, none⟩ = some (.slice none 0 0)) : Calls Tryz.prog 93 #[.pointer (some ⟨b, 0, none⟩)] w fun e w' => e = .returned (.bool true) ∧ w' = w := by
  go_enter Tryz.func93, Tryz.ntmps93
  go_wp2_with fail
  go_loopw [3] (fun i wr => i = .int .i64 0 ∧ wr = w) (fun _ _ => 0)
  case atStart => exact ⟨rfl, rfl⟩
  case round =>
    obtain ⟨rfl, rfl⟩ := hrel
    go_wp2
    go_ret
    exact ⟨rfl, rfl⟩
end Go.Proofs.YtklidpbdgliemaaGreatDoor.Book
namespace Go.Proofs.YtklidpbdgliemaaGreatDoor.Limb
open Go.RowKit Go.Sort
set_option maxHeartbeats 400000 in
theorem cmp32_any (x y : Int) (w : World) :
    Calls Tryz.prog 187 #[.int .u32 x, .int .u32 y] w fun e w' => e = .returned (.int .i64 (cmpZ x y)) ∧ w' = w := by
  rcases Int.lt_trichotomy x y with h | h | h
  · have E := Lib.hid (cmpZ_lt h)
    go_enter Tryz.func187, Tryz.ntmps187
    go_wp2
    go_ret
    exact ⟨by rw [E.out]; rfl, rfl⟩
  · have E := Lib.hid (cmpZ_eq h)
    subst h
    go_enter Tryz.func187, Tryz.ntmps187
    go_wp2
    go_ret
    exact ⟨by rw [E.out]; rfl, rfl⟩
  · have E := Lib.hid (cmpZ_gt h)
    go_enter Tryz.func187, Tryz.ntmps187
    go_wp2
    go_ret
    exact ⟨by rw [E.out]; rfl, rfl⟩
set_option maxHeartbeats 400000 in
theorem cmp64_any (x y : Int) (w : World) :
    Calls Tryz.prog 186 #[.int .i64 x, .int .i64 y] w fun e w' => e = .returned (.int .i64 (cmpZ x y)) ∧ w' = w := by
  rcases Int.lt_trichotomy x y with h | h | h
  · have E := Lib.hid (cmpZ_lt h)
    go_enter Tryz.func186, Tryz.ntmps186
    go_wp2
    go_ret
    exact ⟨by rw [E.out]; rfl, rfl⟩
  · have E := Lib.hid (cmpZ_eq h)
    subst h
    go_enter Tryz.func186, Tryz.ntmps186
    go_wp2
    go_ret
    exact ⟨by rw [E.out]; rfl, rfl⟩
  · have E := Lib.hid (cmpZ_gt h)
    go_enter Tryz.func186, Tryz.ntmps186
    go_wp2
    go_ret
    exact ⟨by rw [E.out]; rfl, rfl⟩
set_option maxHeartbeats 400000 in
theorem part_any (a : Option Addr) (n cap : Nat) (o : Nat → Int) (i : Nat) (w : World) (h : Rd w a n o) (hn : n ≤ 1000000000) (hi : i ≤ 1000000000) :
    Calls Tryz.prog 158 #[.slice a n cap, .int .i64 i] w fun e w' => e = .returned (.int .i64 (part o n i)) ∧ w' = w := by
  by_cases hlt : i < n
  · have E := Lib.hid (show part o n i = o i by unfold part; rw [if_pos hlt])
    obtain ⟨b, off, rfl, hc⟩ := h.cells (by omega)
    have c1 := hc i hlt
    have r1 := h.rng i hlt
    have e1 := IntWalk.i64_in (o i) (by omega)
    clear hc h
    go_enter Tryz.func158, Tryz.ntmps158
    go_wp2
    go_ret
    exact ⟨by rw [E.out]; rfl, rfl⟩
  · have E := Lib.hid (show part o n i = 0 by unfold part; rw [if_neg hlt])
    clear h
    go_enter Tryz.func158, Tryz.ntmps158
    go_wp2
    go_ret
    exact ⟨by rw [E.out]; rfl, rfl⟩
end Go.Proofs.YtklidpbdgliemaaGreatDoor.Limb
namespace Go.Proofs.YtklidpbdgliemaaGreatDoor.Limb
theorem div_step {by' Q rest o : Int} (h0 : 0 < by') (hr : 0 ≤ rest ∧ rest < by') : (o + 1000000000 * (by' * Q + rest)) / by' = (rest * 1000000000 + o) / by' + 1000000000 * Q ∧ (o + 1000000000 * (by' * Q + rest)) % by' = (rest * 1000000000 + o) % by' := by
  have e : o + 1000000000 * (by' * Q + rest) = (rest * 1000000000 + o) + by' * (1000000000 * Q) := by
    have : by' * (1000000000 * Q) = 1000000000 * (by' * Q) := by rw [← Int.mul_assoc, Int.mul_comm by', Int.mul_assoc]
    rw [this, Int.mul_add]; omega
  rw [e]
  exact ⟨Int.add_mul_ediv_left _ _ (by omega), Int.add_mul_emod_self_left _ _ _⟩
theorem part_bd {by' rest o : Int} (h0 : 0 < by') (hr : 0 ≤ rest ∧ rest < by') (ho : 0 ≤ o ∧ o < 1000000000) : 0 ≤ (rest * 1000000000 + o) / by' ∧ (rest * 1000000000 + o) / by' < 1000000000 := by
  refine ⟨Int.ediv_nonneg (by omega) (by omega), Int.ediv_lt_of_lt_mul h0 ?_⟩
  have : rest * 1000000000 ≤ (by' - 1) * 1000000000 := Int.mul_le_mul_of_nonneg_right (by omega) (by omega)
  rw [Int.mul_comm]
  omega
structure ShortIn (o : Nat → Int) (n : Nat) (by' : Int) (i : Nat) (p : Nat → Int) (rest : Int) : Prop where
  quo : sumB (fun k => p (i + k)) (n - i) = sumB (fun k => o (i + k)) (n - i) / by'
  rst : rest = sumB (fun k => o (i + k)) (n - i) % by'
  dig : Dig p n
theorem ShortIn.start (o : Nat → Int) (n : Nat) (by' : Int) : ShortIn o n by' n (fun _ => 0) 0 := by
  refine ⟨?_, ?_, fun i _ => ⟨by omega, by omega⟩⟩
  · rw [Nat.sub_self, sumB, sumB]; simp
  · rw [Nat.sub_self, sumB]; simp
theorem ShortIn.bd {o p : Nat → Int} {n i : Nat} {by' rest : Int} (h : ShortIn o n by' i p rest) (h0 : 0 < by') : 0 ≤ rest ∧ rest < by' := by
  rw [h.rst]; exact ⟨Int.emod_nonneg _ (by omega), Int.emod_lt_of_pos _ h0⟩
theorem ShortIn.step {o p : Nat → Int} {n i : Nat} {by' rest : Int} (h : ShortIn o n by' (i + 1) p rest) (h0 : 0 < by') (hd : Dig o n) (hi : i < n) : ShortIn o n by' i (upd p i ((rest * 1000000000 + o i) / by')) ((rest * 1000000000 + o i) % by') := by
  have hb := h.bd h0
  have hs : ∀ f : Nat → Int, sumB (fun k => f (i + k)) (n - i) = f i + 1000000000 * sumB (fun k => f (i + 1 + k)) (n - (i + 1)) := by
    intro f
    rw [show n - i = (n - (i + 1)) + 1 by omega, sumB_shift]
    have e : (fun k => f (i + (k + 1))) = fun k => f (i + 1 + k) := by funext k; rw [show i + (k + 1) = i + 1 + k by omega]
    rw [e]; rfl
  have hq := h.quo
  have hr := h.rst
  generalize hA : sumB (fun k => o (i + 1 + k)) (n - (i + 1)) = A at hq hr
  have hA2 : A = by' * (A / by') + rest := by rw [hr]; exact (Int.mul_ediv_add_emod A by').symm
  obtain ⟨d1, d2⟩ := div_step (o := o i) (Q := A / by') h0 hb
  refine ⟨?_, ?_, upd_Dig h.dig i (part_bd h0 hb (hd i hi))⟩
  · rw [hs o, hs (upd p i _), hA]
    have e : (fun k => upd p i ((rest * 1000000000 + o i) / by') (i + 1 + k)) = fun k => p (i + 1 + k) := by funext k; exact upd_ne _ _ (by omega)
    rw [e, hq, upd_same]
    conv => rhs; rw [hA2]
    rw [d1]
  · rw [hs o, hA]
    conv => rhs; rw [hA2]
    rw [d2]
theorem ShortIn.done {o p : Nat → Int} {n : Nat} {by' rest : Int} (h : ShortIn o n by' 0 p rest) : sumB p n = sumB o n / by' ∧ rest = sumB o n % by' := by
  have e : ∀ f : Nat → Int, (fun k => f (0 + k)) = f := fun f => by funext k; rw [Nat.zero_add]
  have h1 := h.quo
  have h2 := h.rst
  rw [e, e] at h1
  rw [e] at h2
  exact ⟨h1, h2⟩
end Go.Proofs.YtklidpbdgliemaaGreatDoor.Limb
namespace Go.Proofs.YtklidpbdgliemaaGreatDoor.Limb
open Go.RowKit Go.Sort
set_option maxHeartbeats 1000000 in
theorem amounts_any (x y : Nat) (a b : Option Addr) (ca cb : Nat) (w : World) (ha : Rd w a (lenB x) (dgi x)) (hb : Rd w b (lenB y) (dgi y)) (hx : lenB x ≤ 1000000000) (hy : lenB y ≤ 1000000000) :
    Calls Tryz.prog 155 #[.slice a (lenB x) ca, .slice b (lenB y) cb] w fun e w' => e = .returned (.int .i64 (cmpZ x y)) ∧ ∃ m, w' = w.drewN m := by
  rcases Nat.lt_trichotomy (lenB x) (lenB y) with h | h | h
  · have E := Lib.hid (show cmpZ x y = -1 from cmpZ_lt (by have := cmp_len h; omega))
    have E2 := Lib.hid (show cmpZ (lenB x : Int) (lenB y) = -1 from cmpZ_lt (by omega))
    go_enter Tryz.func155, Tryz.ntmps155
    go_wp2_with fail
    refine (cmp64_any _ _ _).mono ?_
    rintro e w' ⟨rfl, hw⟩
    subst w'
    rw [E2.out]
    go_wp2
    go_ret
    exact ⟨by rw [E.out]; rfl, 0, rfl⟩
  · obtain ⟨k0, hD⟩ := topDiff_any (dgi x) (dgi y) (lenB x)
    have hC := topDiff_cmp (dgi_Dig x _) (dgi_Dig y _) hD
    rw [sumB_dgi, show sumB (dgi y) (lenB x) = y by rw [h]; exact sumB_dgi y] at hC
    have E := Lib.hid hC
    have E2 := Lib.hid (show cmpZ (lenB x : Int) (lenB y) = 0 from cmpZ_eq (by omega))
    obtain ⟨hk0, heq, hne⟩ := hD
    have EQ := Lib.hid heq
    have NE := Lib.hid hne
    have HL := Lib.hid h
    clear hC heq hne h
    go_enter Tryz.func155, Tryz.ntmps155
    go_wp2_with fail
    refine (cmp64_any _ _ _).mono ?_
    rintro e w' ⟨rfl, hw⟩
    subst w'
    rw [E2.out]
    go_wp2_with fail
    go_loopw [6] (fun i wr => ∃ j : Nat, k0 ≤ j ∧ j ≤ lenB x ∧ i = .int .i64 ((j : Int) - 1) ∧ ∃ m, wr = w.drewN m) (fun i _ => (1 + intOf i).toNat)
    case atStart => exact ⟨lenB x, hk0, Nat.le_refl _, rfl, 0, rfl⟩
    case round =>
      obtain ⟨j, hj, hjn, rfl, m0, rfl⟩ := hrel
      by_cases hj0 : j = 0
      · subst hj0
        have Z := Lib.hid (show cmpZ x y = 0 by rw [E.out, if_pos (by omega)])
        rw [show (((0 : Nat) : Int) - 1) = -1 from rfl]
        go_wp2
        go_ret
        exact ⟨by rw [Z.out]; rfl, m0, rfl⟩
      · obtain ⟨q, rfl⟩ : ∃ q, j = q + 1 := ⟨j - 1, by omega⟩
        rw [show (((q + 1 : Nat) : Int) - 1) = (q : Int) by omega]
        obtain ⟨b1, o1, rfl, hc1⟩ := ha.cells (by omega)
        obtain ⟨b2, o2, rfl, hc2⟩ := hb.cells (by have := HL.out; omega)
        have c1 := hc1 q (by omega)
        have c2 := hc2 q (by have := HL.out; omega)
        have lx : q < lenB x := by omega
        have ly : q < lenB y := by have := HL.out; omega
        clear hc1 hc2 ha hb
        by_cases hlk : k0 ≤ q
        · have hne : (dgi x q != dgi y q) = false := by rw [EQ.out q hlk (by omega)]; simp
          go_wp2
          go_quiet (fail)
          go_wp2
          go_roundw
          case rel => exact ⟨q, hlk, by omega, rfl, _, rfl⟩
          case measure => simp [intOf]; omega
        · have hkq : k0 = q + 1 := by omega
          have hnn : dgi x q ≠ dgi y q := by have := NE.out (by omega); rw [hkq] at this; simpa using this
          have hne : (dgi x q != dgi y q) = true := by simpa using hnn
          have Z := Lib.hid (show cmpZ x y = cmpZ (dgi x q) (dgi y q) by rw [E.out, if_neg (by omega), hkq]; rfl)
          clear hkq hnn
          go_wp2
          go_quiet (fail)
          go_wp2
          go_quiet (exact (cmp32_any (dgi x q) (dgi y q) _).mono fun e w'' ⟨he, hw⟩ => ⟨he, _, hw⟩)
          go_wp2
          go_ret
          exact ⟨by rw [Z.out]; rfl, _, by rw [World.drewN_drewN, World.drewN_drewN]⟩
  · have E := Lib.hid (show cmpZ x y = 1 from cmpZ_gt (by have := cmp_len h; omega))
    have E2 := Lib.hid (show cmpZ (lenB x : Int) (lenB y) = 1 from cmpZ_gt (by omega))
    go_enter Tryz.func155, Tryz.ntmps155
    go_wp2_with fail
    refine (cmp64_any _ _ _).mono ?_
    rintro e w' ⟨rfl, hw⟩
    subst w'
    rw [E2.out]
    go_wp2
    go_ret
    exact ⟨by rw [E.out]; rfl, 0, rfl⟩
end Go.Proofs.YtklidpbdgliemaaGreatDoor.Limb
namespace Go.Proofs.YtklidpbdgliemaaGreatDoor.Limb
def splice (o : Nat → Int) (i m : Nat) (r : Nat → Int) : Nat → Int := fun k => if i ≤ k ∧ k < i + m then r (k - i) else o k
theorem splice_in {o r : Nat → Int} {i m k : Nat} (h : k < m) : splice o i m r (i + k) = r k := by
  unfold splice; rw [if_pos ⟨by omega, by omega⟩, Nat.add_sub_cancel_left]
theorem splice_out {o r : Nat → Int} {i m k : Nat} (h : k < i ∨ i + m ≤ k) : splice o i m r k = o k := by
  unfold splice; rw [if_neg (by omega)]
theorem splice_Dig {o r : Nat → Int} {i m L : Nat} (ho : Dig o L) (hr : Dig r m) : Dig (splice o i m r) L := by
  intro k hk
  by_cases h : i ≤ k ∧ k < i + m
  · obtain ⟨j, rfl⟩ : ∃ j, k = i + j := ⟨k - i, by omega⟩
    rw [splice_in (by omega)]; exact hr j (by omega)
  · rw [splice_out (by omega)]; exact ho k hk
structure DivI (X V : Int) (n L M i : Nat) (up qp : Nat → Int) : Prop where
  udig : Dig up L
  qdig : Dig qp M
  qz : ∀ k, k < i → qp k = 0
  bal : X = V * ((pw i : Int) * sumB (fun k => qp (i + k)) (M - i)) + sumB up L
  lt : sumB up L < V * (pw i : Int)
def headV (up : Nat → Int) (n i : Nat) : Int := sumB (fun k => up (i + k)) (n + 1)
theorem mul_lt_of {a b c : Int} (hc : 0 < c) (h : c * a < c * b) : a < b := Int.lt_of_mul_lt_mul_left h (by omega)
theorem DivI.head {X V : Int} {n L M i : Nat} {up qp : Nat → Int} (D : DivI X V n L M (i + 1) up qp) (hi : i < M) (hL : M + n = L) (hV : V < (pw n : Int)) (hV0 : 0 < V) :
    0 ≤ headV up n i ∧ headV up n i < V * 1000000000 ∧ sumB up L = sumB up i + (pw i : Int) * headV up n i ∧ sumB (fun k => up (i + (n + 1) + k)) (L - i - (n + 1)) = 0 := by
  have hpi : (0 : Int) < (pw i : Int) := by have := pw_pos i; omega
  have hpn : (0 : Int) < (pw (n + 1) : Int) := by have := pw_pos (n + 1); omega
  have e1 : sumB up L = sumB up i + (pw i : Int) * sumB (fun k => up (i + k)) (L - i) := by
    have h := sumB_add up i (L - i)
    rwa [show i + (L - i) = L by omega] at h
  have e2 : sumB (fun k => up (i + k)) (L - i) = headV up n i + (pw (n + 1) : Int) * sumB (fun k => up (i + (n + 1) + k)) (L - i - (n + 1)) := by
    have h := sumB_add (fun k => up (i + k)) (n + 1) (L - i - (n + 1))
    rw [show n + 1 + (L - i - (n + 1)) = L - i by omega] at h
    rw [h]
    have : (fun k => up (i + (n + 1 + k))) = fun k => up (i + (n + 1) + k) := by funext k; rw [← Nat.add_assoc]
    rw [this]; rfl
  have b1 := (sumB_bd (o := up) (n := i) fun k hk => D.udig k (by omega))
  have b2 := (sumB_bd (o := fun k => up (i + k)) (n := n + 1) fun k hk => D.udig (i + k) (by omega))
  have b3 := (sumB_bd (o := fun k => up (i + (n + 1) + k)) (n := L - i - (n + 1)) fun k hk => D.udig _ (by omega))
  have h0 : 0 ≤ headV up n i := b2.1
  generalize hs : sumB (fun k => up (i + (n + 1) + k)) (L - i - (n + 1)) = s at e2 b3
  generalize ht : sumB (fun k => up (i + k)) (L - i) = t at e1 e2
  have hlt := D.lt
  rw [e1, pw_succ, Int.natCast_mul] at hlt
  have ht2 : t < V * 1000000000 := by
    refine mul_lt_of hpi ?_
    have : V * ((pw i : Int) * ((1000000000 : Nat) : Int)) = (pw i : Int) * (V * 1000000000) := by rw [Int.mul_left_comm]; rfl
    omega
  have hpn1 : (pw (n + 1) : Int) = (pw n : Int) * 1000000000 := by rw [pw_succ, Int.natCast_mul]; rfl
  have hs0 : s = 0 := by
    have hsn : 0 ≤ s := b3.1
    rcases Int.lt_or_le 0 s with h | h
    · have h1 : (pw (n + 1) : Int) * 1 ≤ (pw (n + 1) : Int) * s := Int.mul_le_mul_of_nonneg_left (by omega) (by omega)
      omega
    · omega
  subst hs0
  rw [Int.mul_zero, Int.add_zero] at e2
  rw [e2] at e1 ht2
  exact ⟨h0, ht2, e1, rfl⟩
theorem sum_splice {up r : Nat → Int} {n i L : Nat} (hL : i + (n + 1) ≤ L) (hz : sumB (fun k => up (i + (n + 1) + k)) (L - i - (n + 1)) = 0) : sumB (splice up i (n + 1) r) L = sumB up i + (pw i : Int) * sumB r (n + 1) := by
  have h1 := sumB_add (splice up i (n + 1) r) i (L - i)
  rw [show i + (L - i) = L by omega] at h1
  have h2 := sumB_add (fun k => splice up i (n + 1) r (i + k)) (n + 1) (L - i - (n + 1))
  rw [show n + 1 + (L - i - (n + 1)) = L - i by omega] at h2
  rw [h1, h2]
  have e1 : sumB (splice up i (n + 1) r) i = sumB up i := sumB_congr fun k hk => splice_out (Or.inl hk)
  have e2 : sumB (fun k => splice up i (n + 1) r (i + k)) (n + 1) = sumB r (n + 1) := sumB_congr fun k hk => splice_in hk
  have e3 : sumB (fun k => splice up i (n + 1) r (i + (n + 1 + k))) (L - i - (n + 1)) = 0 := by
    rw [← hz]
    refine sumB_congr fun k hk => ?_
    rw [splice_out (Or.inr (by omega))]
    congr 1; omega
  rw [e1, e2, e3]; simp
theorem DivI.step {X V g : Int} {n L M i : Nat} {up qp r : Nat → Int} (D : DivI X V n L M (i + 1) up qp) (hi : i < M) (hL : M + n = L) (hV : V < (pw n : Int)) (hV0 : 0 < V)
    (hg : 0 ≤ g ∧ g < 1000000000) (hr : Dig r (n + 1)) (hs : sumB r (n + 1) = headV up n i - V * g) (hlt : headV up n i - V * g < V) : DivI X V n L M i (splice up i (n + 1) r) (upd qp i g) := by
  obtain ⟨h0, h1, h2, h3⟩ := D.head hi hL hV hV0
  have hS := sum_splice (r := r) (by omega) h3
  have hpi : (0 : Int) < (pw i : Int) := by have := pw_pos i; omega
  have b1 := (sumB_bd (o := up) (n := i) fun k hk => D.udig k (by omega))
  refine ⟨splice_Dig D.udig hr, upd_Dig D.qdig i hg, fun k hk => by rw [upd_ne _ _ (by omega)]; exact D.qz k (by omega), ?_, ?_⟩
  · rw [hS, hs]
    have hq : sumB (fun k => upd qp i g (i + k)) (M - i) = g + 1000000000 * sumB (fun k => qp (i + 1 + k)) (M - (i + 1)) := by
      rw [show M - i = (M - (i + 1)) + 1 by omega, sumB_shift]
      have e : (fun k => upd qp i g (i + (k + 1))) = fun k => qp (i + 1 + k) := by
        funext k
        rw [upd_ne _ _ (by omega), show i + (k + 1) = i + 1 + k by omega]
      rw [e, Nat.add_zero, upd_same]
    have hb := D.bal
    rw [h2, pw_succ, Int.natCast_mul] at hb
    rw [hq]
    generalize sumB (fun k => qp (i + 1 + k)) (M - (i + 1)) = Q at hb ⊢
    generalize headV up n i = h at hb ⊢
    generalize sumB up i = lo at hb ⊢
    generalize (pw i : Int) = P at hb ⊢
    rw [hb]
    have a1 : P * (V * g) = V * (P * g) := Int.mul_left_comm _ _ _
    have a2 : V * (P * ((1000000000 : Nat) : Int) * Q) = V * (P * (1000000000 * Q)) := by rw [Int.mul_assoc P]; rfl
    simp only [Int.mul_add, Int.mul_sub]
    rw [a1, a2]
    omega
  · rw [hS, hs]
    have : (pw i : Int) * (headV up n i - V * g) ≤ (pw i : Int) * (V - 1) := Int.mul_le_mul_of_nonneg_left (by omega) (by omega)
    rw [Int.mul_sub (pw i : Int) V 1, Int.mul_comm (pw i : Int) V] at this
    omega
theorem guess_ge {h V v1 two : Int} {B1 : Int} (hv1 : 0 < v1) (hB1 : 0 < B1) (hV : v1 * B1 ≤ V) (h0 : 0 ≤ h) (hh : h < (two + 1) * B1) (hlt : h < V * 1000000000) (hV0 : 0 < V) : h / V ≤ min (two / v1) 999999999 := by
  have hq0 : 0 ≤ h / V := Int.ediv_nonneg h0 (by omega)
  have hqV : h / V * V ≤ h := Int.ediv_mul_le h (by omega)
  have h1 : h / V < 1000000000 := Int.ediv_lt_of_lt_mul hV0 (by rw [Int.mul_comm]; exact hlt)
  have h2 : h / V ≤ two / v1 := by
    refine (Int.le_ediv_iff_mul_le hv1).2 ?_
    have a1 : h / V * (v1 * B1) ≤ h / V * V := Int.mul_le_mul_of_nonneg_left hV hq0
    have a2 : (h / V * v1) * B1 < (two + 1) * B1 := by rw [Int.mul_assoc]; omega
    have := Int.lt_of_mul_lt_mul_right a2 (by omega)
    omega
  omega
theorem guess_down {h V v1 v2 two h2 B2 g : Int} (hB2 : 0 < B2) (hV : (v1 * 1000000000 + v2) * B2 ≤ V) (hh : h < (two * 1000000000 + h2 + 1) * B2) (hg : 0 ≤ g) (hover : (two - g * v1) * 1000000000 + h2 < g * v2) (hge : h / V ≤ g) (hV0 : 0 < V) : h / V ≤ g - 1 := by
  rcases Int.lt_or_le (h / V) g with hlt | hle
  · omega
  · have e : h / V = g := by omega
    have h1 : g * V ≤ h := by rw [← e]; exact Int.ediv_mul_le h (by omega)
    have a1 : g * ((v1 * 1000000000 + v2) * B2) ≤ g * V := Int.mul_le_mul_of_nonneg_left hV hg
    have a2 : (g * (v1 * 1000000000 + v2)) * B2 < (two * 1000000000 + h2 + 1) * B2 := by rw [Int.mul_assoc]; omega
    have a3 := Int.lt_of_mul_lt_mul_right a2 (by omega)
    rw [Int.mul_add, ← Int.mul_assoc] at a3
    rw [Int.sub_mul] at hover
    omega
theorem guess_right {h V g : Int} (hV0 : 0 < V) (hge : h / V ≤ g) (hle : ¬ h < V * g) : g = h / V ∧ 0 ≤ h - V * g ∧ h - V * g < V := by
  have h1 : g ≤ h / V := (Int.le_ediv_iff_mul_le hV0).2 (by rw [Int.mul_comm]; omega)
  have e : g = h / V := by omega
  refine ⟨e, by omega, ?_⟩
  have h2 := Int.lt_ediv_add_one_mul_self h hV0
  rw [← e, Int.add_mul, Int.mul_comm g V] at h2
  omega
theorem guess_less {h V g : Int} (hV0 : 0 < V) (hge : h / V ≤ g) (hlt : h < V * g) : h / V ≤ g - 1 := by
  have h1 : h / V < g := Int.ediv_lt_of_lt_mul hV0 (by rw [Int.mul_comm]; exact hlt)
  omega
theorem top_two {f : Nat → Int} {m : Nat} (hd : Dig f (m + 1 + 1)) : sumB f (m + 1 + 1) < (f (m + 1) * 1000000000 + f m + 1) * (pw m : Int) ∧ (f (m + 1) * 1000000000 + f m) * (pw m : Int) ≤ sumB f (m + 1 + 1) := by
  have b := sumB_bd (o := f) (n := m) fun k hk => hd k (by omega)
  rw [sumB, sumB, pw_succ, Int.natCast_mul]
  have e : f (m + 1) * ((pw m : Int) * ((1000000000 : Nat) : Int)) = f (m + 1) * 1000000000 * (pw m : Int) := by rw [Int.mul_comm (pw m : Int), ← Int.mul_assoc]; rfl
  rw [e, Int.add_mul, Int.add_mul]
  omega
theorem top_three {f : Nat → Int} {m : Nat} (hd : Dig f (m + 1 + 1 + 1)) : sumB f (m + 1 + 1 + 1) < ((f (m + 1 + 1) * 1000000000 + f (m + 1)) * 1000000000 + f m + 1) * (pw m : Int) := by
  have b := top_two (f := f) (m := m) fun k hk => hd k (by omega)
  rw [sumB, pw_succ, pw_succ, Int.natCast_mul, Int.natCast_mul]
  have e : f (m + 1 + 1) * ((pw m : Int) * ((1000000000 : Nat) : Int) * ((1000000000 : Nat) : Int)) = f (m + 1 + 1) * 1000000000 * 1000000000 * (pw m : Int) := by
    rw [Int.mul_comm (pw m : Int), Int.mul_assoc, Int.mul_comm (pw m : Int), ← Int.mul_assoc, ← Int.mul_assoc]; rfl
  rw [e]
  have h1 : sumB f (m + 2) < (f (m + 1) * 1000000000 + f m + 1) * (pw m : Int) := b.1
  rw [Int.add_mul, Int.add_mul] at h1
  rw [Int.add_mul, Int.add_mul, Int.add_mul (f (m + 1 + 1) * 1000000000), Int.add_mul]
  omega
theorem sum_low {o : Nat → Int} {n L : Nat} (hd : Dig o L) (hn : n ≤ L) (h : sumB o L < (pw n : Int)) : sumB o n = sumB o L := by
  have e := sumB_add o n (L - n)
  rw [show n + (L - n) = L by omega] at e
  have b1 := (sumB_bd (o := o) (n := n) fun k hk => hd k (by omega))
  have b2 := (sumB_bd (o := fun k => o (n + k)) (n := L - n) fun k hk => hd (n + k) (by omega))
  have hp : (0 : Int) < (pw n : Int) := by have := pw_pos n; omega
  generalize sumB (fun k => o (n + k)) (L - n) = s at e b2
  rcases Int.lt_or_le 0 s with h1 | h1
  · have : (pw n : Int) * 1 ≤ (pw n : Int) * s := Int.mul_le_mul_of_nonneg_left (by omega) (by omega)
    omega
  · have h2 : s = 0 := by omega
    rw [h2, Int.mul_zero] at e
    omega
theorem div_end {A Bv sc Q R : Int} (hsc : 0 < sc) (h : A * sc = Bv * sc * Q + R) (h0 : 0 ≤ R) (hlt : R < Bv * sc) : Q = A / Bv ∧ R / sc = A % Bv := by
  have e : R = sc * (A - Bv * Q) := by
    rw [Int.mul_sub, Int.mul_comm sc A, ← Int.mul_assoc, Int.mul_comm sc Bv]
    omega
  have h1 : 0 ≤ A - Bv * Q := by
    rcases Int.lt_or_le (A - Bv * Q) 0 with h | h
    · have := Int.mul_neg_of_pos_of_neg hsc h
      omega
    · exact h
  have h2 : A - Bv * Q < Bv := by
    refine mul_lt_of hsc ?_
    rw [← e, Int.mul_comm sc Bv]; exact hlt
  have h3 := (Int.ediv_emod_unique (a := A) (b := Bv) (q := Q) (r := A - Bv * Q) (by omega)).2 ⟨by omega, h1, h2⟩
  refine ⟨h3.1.symm, ?_⟩
  rw [h3.2, e, Int.mul_ediv_cancel_left _ (by omega)]
theorem splice_self (up : Nat → Int) (i m : Nat) : splice up i m (fun k => up (i + k)) = up := by
  funext k
  by_cases h : i ≤ k ∧ k < i + m
  · obtain ⟨j, rfl⟩ : ∃ j, k = i + j := ⟨k - i, by omega⟩
    rw [splice_in (by omega)]
  · rw [splice_out (by omega)]
theorem DivI.skip {X V : Int} {n L M i : Nat} {up qp : Nat → Int} (D : DivI X V n L M (i + 1) up qp) (hi : i < M) (hL : M + n = L) (hV : V < (pw n : Int)) (hV0 : 0 < V) (hq : headV up n i / V ≤ 0) : DivI X V n L M i up qp := by
  have h0 := (D.head hi hL hV hV0).1
  have h1 : 0 ≤ headV up n i / V := Int.ediv_nonneg h0 (by omega)
  have h2 := Int.lt_ediv_add_one_mul_self (headV up n i) hV0
  rw [show headV up n i / V = 0 by omega] at h2
  have h := D.step (g := 0) (r := fun k => up (i + k)) hi hL hV hV0 ⟨by omega, by omega⟩ (fun k hk => D.udig (i + k) (by omega)) (by rw [Int.mul_zero, Int.sub_zero]; rfl) (by rw [Int.mul_zero]; omega)
  rw [splice_self] at h
  have e : upd qp i 0 = qp := by
    funext k
    by_cases hk : k = i
    · subst hk; rw [upd_same, D.qz k (by omega)]
    · rw [upd_ne _ _ hk]
  rwa [e] at h
end Go.Proofs.YtklidpbdgliemaaGreatDoor.Limb
namespace Go.Proofs.YtklidpbdgliemaaGreatDoor.Limb
open Go.RowKit Go.Sort Go.ChangeShapes Go.WideShapes Go.ChangeAt
theorem cellsNum : Tryz.prog.cellsOf 24 = 2 := by kernel_rfl
theorem cellsBool : Tryz.prog.cellsOf 4 = 1 := by kernel_rfl
theorem cellsList : Tryz.prog.cellsOf 22 = 1 := by kernel_rfl
theorem cellsPart : Tryz.prog.cellsOf 80 = 1 := by kernel_rfl
theorem open_list {H : Type} {enc : TypeId × Value → H} {W : World} {sp : Nat → Bool} {hd : Bool} {fuel : Nat} {v : Value} {x : DataW H × List MemPlace}
    (h : DataW.trod enc Tryz.prog W 0 sp hd fuel 22 [v] = some x) : ∃ a n c o, v = .slice a n c ∧ Rd W a n o ∧ n ≤ c := by
  rcases open_ints Tryz.underlying22 Tryz.underlying80 cellsPart h with ⟨e, _⟩ | ⟨a, len, cap, zs, e, _, hl, _, hz, _, hc, hw⟩
  · simp only [List.cons.injEq, and_true] at e
    exact ⟨none, 0, 0, fun _ => 0, e, Rd.nil _ _ _, Nat.le_refl _⟩
  · simp only [List.cons.injEq, and_true] at e
    have hlz : len ≤ zs.length := by rw [hz]; split <;> omega
    refine ⟨some a, len, cap, fun i => zs.getD i 0, e, ⟨fun hn => ?_, fun i hi => ?_⟩, hl⟩
    · obtain ⟨b, off, rfl, h3⟩ := ints_at hc (by omega)
      exact ⟨b, off, rfl, fun i hi => h3 i (by omega)⟩
    · have hmem : zs.getD i 0 ∈ zs := by
        rw [List.getD_eq_getElem?_getD, List.getElem?_eq_getElem (by omega)]
        exact List.getElem_mem _
      exact bounds_u32 (hw _ hmem)
end Go.Proofs.YtklidpbdgliemaaGreatDoor.Limb
namespace Go.Proofs.YtklidpbdgliemaaGreatDoor.Limb
open Go.RowKit Go.Sort
set_option maxHeartbeats 400000 in
theorem chk_fn (x : Int) (w : World) :
    Calls Tryz.prog 99 #[.int .u32 x] w fun e w' => e = .returned (.bool (decide (1000000000 ≤ x))) ∧ w' = w := by
  by_cases h : 1000000000 ≤ x
  · have E := Lib.hid (decide_eq_true h)
    go_enter Tryz.func99, Tryz.ntmps99
    go_wp2
    go_ret
    exact ⟨by rw [E.out]; rfl, rfl⟩
  · have E := Lib.hid (decide_eq_false h)
    go_enter Tryz.func99, Tryz.ntmps99
    go_wp2
    go_ret
    exact ⟨by rw [E.out]; rfl, rfl⟩
theorem cf_chk (args : Array Value) (w : World) : (callFunc 99 args).run Tryz.prog w = .ok (.enter 99 args) w := by kernel_rfl
set_option maxHeartbeats 1000000 in
theorem idx_any (a : Option Addr) (n cap k0 : Nat) (o : Nat → Int) (w : World) (h : Rd w a n o) (hn : n ≤ 1000000000) (hk0 : k0 ≤ n) (hf : ∀ i, i < k0 → o i < 1000000000) (hb : k0 < n → 1000000000 ≤ o k0) :
    Calls Tryz.prog 159 #[.slice a n cap, .func (.func 99) #[] #[]] w fun e w' => e = .returned (.int .i64 (if k0 < n then (k0 : Int) else -1)) ∧ ∃ m, w' = w.drewN m := by
  have HF := Lib.hid hf; clear hf
  have HB := Lib.hid hb; clear hb
  have hcf := cf_chk
  go_enter Tryz.func159, Tryz.ntmps159
  go_wp2
  go_loopw [8] (fun i wr => ∃ j : Nat, j ≤ k0 ∧ i = .int .i64 j ∧ ∃ m, wr = w.drewN m) (fun i _ => n - (intOf i).toNat)
  case atStart => exact ⟨0, by omega, rfl, 0, rfl⟩
  case round =>
    obtain ⟨j, hj, rfl, m0, rfl⟩ := hrel
    by_cases hjn : j < n
    · obtain ⟨b, off, rfl, hc⟩ := h.cells (by omega)
      have c1 := hc j hjn
      clear hc h
      by_cases hjk : j < k0
      · have D := HF.out j hjk
        have E : decide (1000000000 ≤ o j) = false := by simp; omega
        go_wp2_with fail
        refine (chk_fn (o j) _).mono ?_
        rintro e w' ⟨rfl, hw⟩
        subst w'
        rw [E]
        go_wp2
        go_roundw
        case rel => exact ⟨j + 1, by omega, by go_num, m0, rfl⟩
        case measure => simp [intOf]; omega
      · obtain rfl : j = k0 := by omega
        have D := HB.out hjn
        have E : decide (1000000000 ≤ o j) = true := by simp; omega
        go_wp2_with fail
        refine (chk_fn (o j) _).mono ?_
        rintro e w' ⟨rfl, hw⟩
        subst w'
        rw [E]
        go_wp2
        go_ret
        exact ⟨by first | rfl | (rw [if_pos hjn]; rfl), m0, rfl⟩
    · have hkn : ¬ k0 < n := by omega
      clear h
      go_wp2
      go_ret
      exact ⟨by first | rfl | (rw [if_neg hkn]; rfl), m0, rfl⟩
set_option maxHeartbeats 400000 in
theorem has_any (a : Option Addr) (n cap k0 : Nat) (o : Nat → Int) (w : World) (h : Rd w a n o) (hn : n ≤ 1000000000) (hk0 : k0 ≤ n) (hf : ∀ i, i < k0 → o i < 1000000000) (hb : k0 < n → 1000000000 ≤ o k0) :
    Calls Tryz.prog 98 #[.slice a n cap, .func (.func 99) #[] #[]] w fun e w' => e = .returned (.bool (decide (k0 < n))) ∧ ∃ m, w' = w.drewN m := by
  have C := Lib.hid (idx_any a n cap k0 o w h hn hk0 hf hb)
  clear h hf hb
  by_cases hk : k0 < n
  · have E := Lib.hid (decide_eq_true hk)
    rw [if_pos hk] at C
    go_enter Tryz.func98, Tryz.ntmps98
    go_wp2_with fail
    refine C.out.mono ?_
    rintro e w' ⟨rfl, m, rfl⟩
    go_wp2
    go_ret
    exact ⟨by rw [E.out]; rfl, m, rfl⟩
  · have E := Lib.hid (decide_eq_false hk)
    rw [if_neg hk] at C
    go_enter Tryz.func98, Tryz.ntmps98
    go_wp2_with fail
    refine C.out.mono ?_
    rintro e w' ⟨rfl, m, rfl⟩
    go_wp2
    go_ret
    exact ⟨by rw [E.out]; rfl, m, rfl⟩
theorem first_bad (o : Nat → Int) (n : Nat) : ∃ k, k ≤ n ∧ (∀ i, i < k → o i < 1000000000) ∧ (k < n → 1000000000 ≤ o k) := by
  induction n with
  | zero => exact ⟨0, by omega, fun i h => by omega, fun h => by omega⟩
  | succ n ih =>
    obtain ⟨k, h1, h2, h3⟩ := ih
    by_cases hk : k < n
    · exact ⟨k, by omega, h2, fun _ => h3 hk⟩
    · obtain rfl : k = n := by omega
      by_cases h : o k < 1000000000
      · exact ⟨k + 1, by omega, fun i hi => by
          by_cases e : i = k
          · rw [e]; exact h
          · exact h2 i (by omega), fun h => by omega⟩
      · exact ⟨k, by omega, h2, fun _ => by omega⟩
open Classical in
set_option maxHeartbeats 1000000 in
theorem check_any (s : Bool) (a : Option Addr) (n cap : Nat) (o : Nat → Int) (w : World) (h : Rd w a n o) (hn : n ≤ 1000000000) :
    Calls Tryz.prog 28 #[numV s a n cap] w fun e w' => e = .returned (.bool (decide (okN s n o))) ∧ Below w.heap.size w w' := by
  obtain ⟨k0, hk0, hf, hb⟩ := first_bad o n
  have C := Lib.hid (fun (w2 : World) (hw : Below w.heap.size w w2) => has_any a n cap k0 o w2 (h.below hw) hn hk0 hf hb)
  have hcf := cf_chk
  by_cases hk : k0 < n
  · have E := Lib.hid (show decide (okN s n o) = false from decide_eq_false fun hh => by have := hh.1 k0 hk; have := hb hk; omega)
    have D : decide (k0 < n) = true := decide_eq_true hk
    clear hf hb h
    go_enter Tryz.func28, Tryz.ntmps28
    go_wp2_with fail
    refine (C.out _ ?_).mono ?_
    · (repeat' (first | (with_reducible exact Below.refl _ _) | (with_reducible assumption) | (with_reducible refine Below.alloc ?_ ?_ _) | (with_reducible refine Below.drew ?_) | (with_reducible refine bdrewN ?_ _) | (with_reducible refine Below.setCell ?_ ?_ _) | (with_reducible refine Below.frame ?_ _) | go_size))
    rintro e w' ⟨rfl, m, rfl⟩
    rw [D]
    go_wp2
    go_ret
    exact ⟨by rw [E.out]; rfl, by (repeat' (first | (with_reducible exact Below.refl _ _) | (with_reducible assumption) | (with_reducible refine Below.alloc ?_ ?_ _) | (with_reducible refine Below.drew ?_) | (with_reducible refine bdrewN ?_ _) | (with_reducible refine Below.setCell ?_ ?_ _) | (with_reducible refine Below.frame ?_ _) | go_size))⟩
  · have D : decide (k0 < n) = false := decide_eq_false hk
    have hfi : ∀ i, i < n → o i < 1000000000 := fun i hi => hf i (by omega)
    clear hb
    by_cases h0 : n = 0
    · subst h0
      have E := Lib.hid (show decide (okN s 0 o) = !s by
        cases s with
        | false => exact decide_eq_true ⟨hfi, fun _ => rfl, fun h => by omega⟩
        | true => exact decide_eq_false fun hh => by have := hh.2.1 rfl; contradiction)
      clear hf h hfi
      go_enter Tryz.func28, Tryz.ntmps28
      go_wp2_with fail
      refine (C.out _ ?_).mono ?_
      · (repeat' (first | (with_reducible exact Below.refl _ _) | (with_reducible assumption) | (with_reducible refine Below.alloc ?_ ?_ _) | (with_reducible refine Below.drew ?_) | (with_reducible refine bdrewN ?_ _) | (with_reducible refine Below.setCell ?_ ?_ _) | (with_reducible refine Below.frame ?_ _) | go_size))
      rintro e w' ⟨rfl, m, rfl⟩
      rw [D]
      cases s with
      | false =>
        go_wp2
        go_ret
        exact ⟨by rw [E.out]; rfl, by (repeat' (first | (with_reducible exact Below.refl _ _) | (with_reducible assumption) | (with_reducible refine Below.alloc ?_ ?_ _) | (with_reducible refine Below.drew ?_) | (with_reducible refine bdrewN ?_ _) | (with_reducible refine Below.setCell ?_ ?_ _) | (with_reducible refine Below.frame ?_ _) | go_size))⟩
      | true =>
        go_wp2
        go_ret
        exact ⟨by rw [E.out]; rfl, by (repeat' (first | (with_reducible exact Below.refl _ _) | (with_reducible assumption) | (with_reducible refine Below.alloc ?_ ?_ _) | (with_reducible refine Below.drew ?_) | (with_reducible refine bdrewN ?_ _) | (with_reducible refine Below.setCell ?_ ?_ _) | (with_reducible refine Below.frame ?_ _) | go_size))⟩
    · obtain ⟨b, off, rfl, hc⟩ := h.cells (by omega)
      have c1 := hc (n - 1) (by omega)
      have E := Lib.hid (show decide (okN s n o) = (o (n - 1) != 0) by
        by_cases hz : o (n - 1) = 0
        · rw [hz]; exact decide_eq_false fun hh => hh.2.2 (by omega) hz
        · rw [show (o (n - 1) != 0) = true by simpa using hz]
          exact decide_eq_true ⟨hfi, fun h => by omega, fun _ => hz⟩)
      have hlt : b < w.heap.size := block_lt_of_cell c1
      obtain ⟨q, rfl⟩ : ∃ q, n = q + 1 := ⟨n - 1, by omega⟩
      rw [Nat.add_sub_cancel] at c1 E
      have ex : ((q + 1 : Nat) : Int) - 1 = (q : Int) := by omega
      have ez : (decide (((q + 1 : Nat) : Int) = 0)) = false := by simp; omega
      clear hf h hfi hc
      go_enter Tryz.func28, Tryz.ntmps28
      go_wp2_with fail
      refine (C.out _ ?_).mono ?_
      · (repeat' (first | (with_reducible exact Below.refl _ _) | (with_reducible assumption) | (with_reducible refine Below.alloc ?_ ?_ _) | (with_reducible refine Below.drew ?_) | (with_reducible refine bdrewN ?_ _) | (with_reducible refine Below.setCell ?_ ?_ _) | (with_reducible refine Below.frame ?_ _) | go_size))
      rintro e w' ⟨rfl, m, rfl⟩
      rw [D]
      go_wp2
      go_ret
      exact ⟨by rw [E.out]; rfl, by (repeat' (first | (with_reducible exact Below.refl _ _) | (with_reducible assumption) | (with_reducible refine Below.alloc ?_ ?_ _) | (with_reducible refine Below.drew ?_) | (with_reducible refine bdrewN ?_ _) | (with_reducible refine Below.setCell ?_ ?_ _) | (with_reducible refine Below.frame ?_ _) | go_size))⟩
end Go.Proofs.YtklidpbdgliemaaGreatDoor.Limb
namespace Go.Proofs.YtklidpbdgliemaaGreatDoor.Limb
def q0 (x y : Int) : Int := if decide (x < 0) = decide (y < 0) then ((x.natAbs / y.natAbs : Nat) : Int) else -((x.natAbs / y.natAbs : Nat) : Int)
def r0 (x y : Int) : Int := if x < 0 then -((x.natAbs % y.natAbs : Nat) : Int) else ((x.natAbs % y.natAbs : Nat) : Int)
theorem q0_abs (x y : Int) : (q0 x y).natAbs = x.natAbs / y.natAbs := by unfold q0; generalize x.natAbs / y.natAbs = Q; split <;> omega
theorem r0_abs (x y : Int) : (r0 x y).natAbs = x.natAbs % y.natAbs := by unfold r0; generalize x.natAbs % y.natAbs = R; split <;> omega
theorem pos_of_len {m : Nat} : (0 < lenB m) ↔ 0 < m := by
  have := lenB_eq_zero (m := m)
  omega
theorem q0_sign (x y : Int) : ((!(decide (x < 0) == decide (y < 0))) && decide (0 < lenB (x.natAbs / y.natAbs))) = decide (q0 x y < 0) := by
  have e := pos_of_len (m := x.natAbs / y.natAbs)
  unfold q0
  generalize x.natAbs / y.natAbs = Q at *
  by_cases h : decide (x < 0) = decide (y < 0)
  · rw [if_pos h, h]
    simp
  · rw [if_neg h]
    have h1 : (decide (x < 0) == decide (y < 0)) = false := by simpa using h
    rw [h1, Bool.not_false, Bool.true_and]
    exact decide_eq_decide.2 (e.trans (by omega))
theorem r0_sign (x y : Int) : (decide (x < 0) && decide (0 < lenB (x.natAbs % y.natAbs))) = decide (r0 x y < 0) := by
  have e := pos_of_len (m := x.natAbs % y.natAbs)
  unfold r0
  generalize x.natAbs % y.natAbs = R at *
  by_cases h : x < 0
  · rw [if_pos h, decide_eq_true h, Bool.true_and]
    exact decide_eq_decide.2 (e.trans (by omega))
  · rw [if_neg h, decide_eq_false h, Bool.false_and]
    exact (decide_eq_false (by omega)).symm
theorem div_pos {x y q r : Int} (hy : 0 < y) (e : x = y * q + r) (h0 : 0 ≤ r) (h1 : r < y) : x / y = q ∧ x % y = r := by
  have := (Int.ediv_emod_unique hy (a := x) (r := r) (q := q)).2 ⟨by omega, h0, h1⟩
  exact this
theorem nat_div (A B : Nat) : (A : Int) = (B : Int) * ((A / B : Nat) : Int) + ((A % B : Nat) : Int) := by
  rw [← Int.natCast_mul, ← Int.natCast_add, Nat.div_add_mod]
theorem div_plain {x y : Int} (hy : y ≠ 0) (h : ¬ r0 x y < 0) : x / y = q0 x y ∧ x % y = r0 x y := by
  have e := nat_div x.natAbs y.natAbs
  have hr : x.natAbs % y.natAbs < y.natAbs := Nat.mod_lt _ (by omega)
  unfold q0 r0 at *
  generalize x.natAbs % y.natAbs = R at *
  generalize x.natAbs / y.natAbs = Q at *
  have hx : x < 0 → R = 0 := fun hx => by rw [if_pos hx] at h; omega
  have key : ∀ B : Nat, 0 < B → R < B → ((x.natAbs : Int) = (B : Int) * (Q : Int) + (R : Int)) → x / (B : Int) = (if x < 0 then -(Q : Int) else (Q : Int)) ∧ x % (B : Int) = (if x < 0 then -(R : Int) else (R : Int)) := by
    intro B hB hRB hE
    by_cases hn : x < 0
    · rw [if_pos hn, if_pos hn]
      have := hx hn
      refine div_pos (by omega) ?_ (by omega) (by omega)
      rw [Int.mul_neg]; omega
    · rw [if_neg hn, if_neg hn]
      exact div_pos (by omega) (by omega) (by omega) (by omega)
  rcases Int.lt_or_gt_of_ne hy with h1 | h1
  · obtain ⟨k1, k2⟩ := key y.natAbs (by omega) hr e
    have ey : y = -((y.natAbs : Nat) : Int) := by omega
    have e1 : x / y = -(x / ((y.natAbs : Nat) : Int)) := by conv => lhs; rw [ey, Int.ediv_neg]
    have e2 : x % y = x % ((y.natAbs : Nat) : Int) := by conv => lhs; rw [ey, Int.emod_neg]
    rw [e1, e2, k1, k2]
    refine ⟨?_, rfl⟩
    by_cases hn : x < 0
    · rw [if_pos hn, if_pos (by simp [hn, h1])]; omega
    · rw [if_neg hn, if_neg (by simp [hn, h1])]
  · obtain ⟨k1, k2⟩ := key y.natAbs (by omega) hr e
    have ey : y = ((y.natAbs : Nat) : Int) := by omega
    have hy2 : ¬ y < 0 := by omega
    rw [← ey] at k1 k2
    rw [k1, k2]
    refine ⟨?_, rfl⟩
    by_cases hn : x < 0
    · rw [if_pos hn, if_neg (by simp [hn, hy2])]
    · rw [if_neg hn, if_pos (by simp [hn, hy2])]
theorem div_down {x y : Int} (hy : y ≠ 0) (h : r0 x y < 0) : x / y = q0 x y + (if y < 0 then 1 else -1) ∧ x % y = r0 x y + (y.natAbs : Int) := by
  have e := nat_div x.natAbs y.natAbs
  have hr : x.natAbs % y.natAbs < y.natAbs := Nat.mod_lt _ (by omega)
  unfold q0 r0 at *
  generalize x.natAbs % y.natAbs = R at *
  generalize x.natAbs / y.natAbs = Q at *
  have hx : x < 0 := by
    rcases Int.lt_or_le x 0 with h1 | h1
    · exact h1
    · rw [if_neg (by omega)] at h; omega
  rw [if_pos hx] at h ⊢
  have key : x / ((y.natAbs : Nat) : Int) = -(Q : Int) - 1 ∧ x % ((y.natAbs : Nat) : Int) = -(R : Int) + ((y.natAbs : Nat) : Int) := by
    refine div_pos (by omega) ?_ (by omega) (by omega)
    rw [Int.mul_sub, Int.mul_neg]; omega
  rcases Int.lt_or_gt_of_ne hy with h1 | h1
  · have ey : y = -((y.natAbs : Nat) : Int) := by omega
    have e1 : x / y = -(x / ((y.natAbs : Nat) : Int)) := by conv => lhs; rw [ey, Int.ediv_neg]
    have e2 : x % y = x % ((y.natAbs : Nat) : Int) := by conv => lhs; rw [ey, Int.emod_neg]
    rw [e1, e2, key.1, key.2]
    refine ⟨?_, rfl⟩
    rw [if_pos h1, if_pos (by simp [hx, h1])]; omega
  · have ey : y = ((y.natAbs : Nat) : Int) := by omega
    have k1 := key.1; have k2 := key.2
    have hy2 : ¬ y < 0 := by omega
    rw [← ey] at k1 k2
    rw [k1, k2]
    refine ⟨?_, by omega⟩
    rw [if_neg hy2, if_neg (by simp [hx, hy2])]; omega
end Go.Proofs.YtklidpbdgliemaaGreatDoor.Limb
namespace Go.Proofs.YtklidpbdgliemaaGreatDoor.Limb
def offF (up vp : Nat → Int) (j N : Nat) (g : Int) (k : Nat) : Int := up (j + k) - g * part vp N k
theorem offF_sum (up vp : Nat → Int) (j N : Nat) (g : Int) {m : Nat} (hm : N ≤ m) : sumB (offF up vp j N g) m = sumB (fun k => up (j + k)) m - sumB vp N * g := by
  have e : (offF up vp j N g) = fun k => (fun k => up (j + k)) k + (fun k => part vp N k * (-g)) k := by
    funext k
    show up (j + k) - g * part vp N k = up (j + k) + part vp N k * -g
    rw [Int.mul_neg, Int.mul_comm g]; omega
  rw [e, sumB_plus, sumB_times, sumB_part vp hm, Int.mul_neg]; omega
theorem cS_neg {f : Nat → Int} {lo : Int} {n : Nat} (hl : lo ≤ 0) (h : ∀ i, i < n → lo * 999999999 ≤ f i ∧ f i ≤ 999999999) : lo ≤ cS f n ∧ cS f n ≤ 0 := by
  induction n with
  | zero => exact ⟨hl, Int.le_refl _⟩
  | succ n ih =>
    have h1 := ih fun i hi => h i (by omega)
    have h2 := h n (by omega)
    rw [cS]; omega
theorem take_step {a n : Int} (ha : 0 ≤ a ∧ a < 1000000000) (hn : 0 ≤ n) :
    (a < n % 1000000000 → a + 1000000000 - n % 1000000000 = (a - n) % 1000000000 ∧ n / 1000000000 + 1 = -((a - n) / 1000000000)) ∧
    (¬ a < n % 1000000000 → a - n % 1000000000 = (a - n) % 1000000000 ∧ n / 1000000000 = -((a - n) / 1000000000)) := by
  omega
def takeF (p ob : Nat → Int) (lb at' : Nat) (often : Int) (i : Nat) : Nat → Int := fun j => if at' ≤ j ∧ j < at' + i then cD (offF p ob at' lb often) (j - at') else p j
theorem takeF_zero (p ob : Nat → Int) (lb at' : Nat) (often : Int) : takeF p ob lb at' often 0 = p := by
  funext j
  unfold takeF
  rw [if_neg (by omega)]
theorem takeF_here (p ob : Nat → Int) (lb at' : Nat) (often : Int) (i : Nat) : takeF p ob lb at' often i (at' + i) = p (at' + i) := by
  unfold takeF
  rw [if_neg (by omega)]
theorem takeF_succ (p ob : Nat → Int) (lb at' : Nat) (often : Int) (i : Nat) : upd (takeF p ob lb at' often i) (at' + i) (cD (offF p ob at' lb often) i) = takeF p ob lb at' often (i + 1) := by
  funext j
  unfold upd takeF
  by_cases e : j = at' + i
  · subst e
    rw [if_pos rfl, if_pos (by omega), show at' + i - at' = i by omega]
  · rw [if_neg e]
    by_cases h : at' ≤ j ∧ j < at' + i
    · rw [if_pos h, if_pos (by omega)]
    · rw [if_neg h, if_neg (by omega)]
theorem takeF_Dig {p ob : Nat → Int} {lb at' : Nat} {often : Int} {i n : Nat} (h : Dig p n) : Dig (takeF p ob lb at' often i) n := by
  intro j hj
  unfold takeF
  split
  · exact cD_Dig _ (j - at' + 1) _ (by omega)
  · exact h j hj
theorem takeF_sum {p ob : Nat → Int} {lb at' m : Nat} {often : Int} (hp : Dig p (at' + m)) (hm : lb ≤ m) (h0 : 0 ≤ often * sumB ob lb) (h : often * sumB ob lb * (pw at' : Int) ≤ sumB p (at' + m)) :
    sumB (takeF p ob lb at' often m) (at' + m) = sumB p (at' + m) - often * sumB ob lb * (pw at' : Int) := by
  have e1 := sumB_add (takeF p ob lb at' often m) at' m
  have e2 := sumB_add p at' m
  have e3 : sumB (takeF p ob lb at' often m) at' = sumB p at' := sumB_congr fun i hi => by unfold takeF; rw [if_neg (by omega)]
  have e4 : sumB (fun i => takeF p ob lb at' often m (at' + i)) m = sumB (cD (offF p ob at' lb often)) m := sumB_congr fun i hi => by
    show takeF p ob lb at' often m (at' + i) = _
    unfold takeF
    rw [if_pos (by omega), show at' + i - at' = i by omega]
  have b1 := sumB_bd (o := p) (n := at') fun i hi => hp i (by omega)
  have b2 := sumB_bd (o := fun i => p (at' + i)) (n := m) fun i hi => hp (at' + i) (by omega)
  have es := offF_sum p ob at' lb often hm
  rw [Int.mul_comm (sumB ob lb)] at es
  generalize often * sumB ob lb = T at *
  generalize sumB (fun i => p (at' + i)) m = S at *
  have hpp : (0 : Int) < (pw at' : Int) := by have := pw_pos at'; omega
  have hX : 0 ≤ S - T := by
    rcases Int.lt_or_le (S - T) 0 with h1 | h1
    · exfalso
      have h2 : (pw at' : Int) * (S - T) ≤ (pw at' : Int) * (-1) := Int.mul_le_mul_of_nonneg_left (by omega) (by omega)
      rw [Int.mul_sub] at h2
      rw [Int.mul_comm T] at h
      omega
    · exact h1
  have hf := cS_fits (f := offF p ob at' lb often) (n := m) (by rw [es]; exact hX) (by rw [es]; omega)
  rw [e1, e3, e4, hf.2, es, e2, Int.mul_sub, Int.mul_comm T]; omega
def topF (p : Nat → Int) (n at' : Nat) : Int := 1000000000 * part p n (at' + 1) + part p n at'
theorem topF_le {p : Nat → Int} {n at' : Nat} (hp : Dig p n) (hat : at' < n) : topF p n at' * (pw at' : Int) ≤ sumB p n := by
  have hpp : (0 : Int) < (pw at' : Int) := by have := pw_pos at'; omega
  unfold topF part
  rw [if_pos hat]
  by_cases h : at' + 1 < n
  · rw [if_pos h]
    obtain ⟨m, rfl⟩ : ∃ m, n = (at' + 1 + 1) + m := ⟨n - (at' + 1 + 1), by omega⟩
    rw [sumB_add, sumB, sumB, pw_succ]
    have b1 := (sumB_bd (o := p) (n := at') fun i hi => hp i (by omega)).1
    have b2 := (sumB_bd (o := fun i => p (at' + 1 + 1 + i)) (n := m) fun i hi => hp _ (by omega)).1
    have b3 : 0 ≤ (pw (at' + 1 + 1) : Int) * sumB (fun i => p (at' + 1 + 1 + i)) m := Int.mul_nonneg (by omega) b2
    have e : (1000000000 * p (at' + 1) + p at') * (pw at' : Int) = p at' * (pw at' : Int) + p (at' + 1) * ((pw at' * 1000000000 : Nat) : Int) := by
      have h1 : 1000000000 * p (at' + 1) * (pw at' : Int) = p (at' + 1) * ((pw at' : Int) * 1000000000) := by ac_rfl
      have h2 : ((pw at' * 1000000000 : Nat) : Int) = (pw at' : Int) * 1000000000 := by rw [Int.natCast_mul]; rfl
      rw [Int.add_mul, h1, h2]; omega
    omega
  · obtain rfl : n = at' + 1 := by omega
    rw [if_neg h, sumB]
    have b1 := (sumB_bd (o := p) (n := at') fun i hi => hp i (by omega)).1
    have e : (1000000000 * 0 + p at') * (pw at' : Int) = p at' * (pw at' : Int) := by congr 1; omega
    omega
theorem topF_bd {p : Nat → Int} {n at' : Nat} (hp : Dig p n) : 0 ≤ topF p n at' ∧ topF p n at' ≤ 999999999999999999 := by
  unfold topF part
  constructor
  · split <;> split
    · have h1 := hp _ ‹at' + 1 < n›; have h2 := hp _ ‹at' < n›; omega
    · have h1 := hp _ ‹at' + 1 < n›; omega
    · have h2 := hp _ ‹at' < n›; omega
    · omega
  · split <;> split
    · have h1 := hp _ ‹at' + 1 < n›; have h2 := hp _ ‹at' < n›; omega
    · have h1 := hp _ ‹at' + 1 < n›; omega
    · have h2 := hp _ ‹at' < n›; omega
    · omega
theorem goes_guess {L V v T : Int} {l k : Nat} (hV1 : V < (v + 1) * (pw l : Int)) (hv : 0 < v) (hLV : L < V * (pw (k + 1) : Int)) (hT : T * (pw (k + l) : Int) ≤ L) (hT0 : 0 ≤ T) (hV0 : 0 < V) :
    0 ≤ T / (v + 1) ∧ T / (v + 1) ≤ 999999999 ∧ T / (v + 1) * V * (pw k : Int) ≤ L := by
  have hk : (0 : Int) < (pw k : Int) := by have := pw_pos k; omega
  have hl : (0 : Int) < (pw l : Int) := by have := pw_pos l; omega
  have ekl : ((pw (k + l) : Nat) : Int) = (pw k : Int) * (pw l : Int) := by rw [pw_add, Int.natCast_mul]
  have ek1 : ((pw (k + 1) : Nat) : Int) = (pw k : Int) * 1000000000 := by rw [pw_succ, Int.natCast_mul]; rfl
  have g0 : 0 ≤ T / (v + 1) := Int.ediv_nonneg hT0 (by omega)
  have g1 : T / (v + 1) * (v + 1) ≤ T := Int.ediv_mul_le _ (by omega)
  have hkl : (0 : Int) < (pw k : Int) * (pw l : Int) := Int.mul_pos hk hl
  refine ⟨g0, ?_, ?_⟩
  · have h1 : T * ((pw k : Int) * (pw l : Int)) < (v + 1) * 1000000000 * ((pw k : Int) * (pw l : Int)) := by
      rw [← ekl]
      refine Int.lt_of_le_of_lt hT (Int.lt_trans hLV ?_)
      rw [ek1, ekl]
      have h2 : V * ((pw k : Int) * 1000000000) < (v + 1) * (pw l : Int) * ((pw k : Int) * 1000000000) := Int.mul_lt_mul_of_pos_right hV1 (Int.mul_pos hk (by decide))
      have h3 : (v + 1) * (pw l : Int) * ((pw k : Int) * 1000000000) = (v + 1) * 1000000000 * ((pw k : Int) * (pw l : Int)) := by
        ac_rfl
      omega
    have h4 : T < (v + 1) * 1000000000 := Int.lt_of_mul_lt_mul_right h1 (by omega)
    have h5 : T / (v + 1) < 1000000000 := Int.ediv_lt_of_lt_mul (by omega) (by rw [Int.mul_comm]; exact h4)
    omega
  · have h1 : T / (v + 1) * V * (pw k : Int) ≤ T / (v + 1) * ((v + 1) * (pw l : Int)) * (pw k : Int) := Int.mul_le_mul_of_nonneg_right (Int.mul_le_mul_of_nonneg_left (by omega) g0) (by omega)
    have h2 : T / (v + 1) * ((v + 1) * (pw l : Int)) * (pw k : Int) = T / (v + 1) * (v + 1) * ((pw k : Int) * (pw l : Int)) := by
      ac_rfl
    have h3 : T / (v + 1) * (v + 1) * ((pw k : Int) * (pw l : Int)) ≤ T * ((pw k : Int) * (pw l : Int)) := Int.mul_le_mul_of_nonneg_right g1 (by omega)
    rw [ekl] at hT
    omega
end Go.Proofs.YtklidpbdgliemaaGreatDoor.Limb
namespace Go.Proofs.YtklidpbdgliemaaGreatDoor.Limb
theorem low_num (t l : Int) (hl : l ≠ 0) : t / (if l < 0 then -((Int.gcd t l : Nat) : Int) else ((Int.gcd t l : Nat) : Int)) = (Rat.divInt t l).num := by
  rw [Rat.num_divInt, Int.gcd_comm l t]
  have hd : ((Int.gcd t l : Nat) : Int) ∣ t := Int.gcd_dvd_left t l
  rcases Int.lt_or_gt_of_ne hl with h | h
  · rw [if_pos h, Int.sign_eq_neg_one_of_neg h, Int.ediv_neg, Int.neg_mul, Int.one_mul, Int.neg_ediv_of_dvd hd]
  · rw [if_neg (by omega), Int.sign_eq_one_of_pos h, Int.one_mul]
theorem low_den (t l : Int) (hl : l ≠ 0) : l / (if l < 0 then -((Int.gcd t l : Nat) : Int) else ((Int.gcd t l : Nat) : Int)) = ((Rat.divInt t l).den : Int) := by
  rw [Rat.den_divInt, if_neg hl, Int.gcd_comm l t]
  have hd : ((Int.gcd t l : Nat) : Int) ∣ l := Int.gcd_dvd_right t l
  rw [Int.natCast_ediv]
  rcases Int.lt_or_gt_of_ne hl with h | h
  · rw [if_pos h, Int.ediv_neg, ← Int.neg_ediv_of_dvd hd]
    congr 1; omega
  · rw [if_neg (by omega)]
    congr 1; omega
theorem low_gcd (t l : Int) (hl : l ≠ 0) : (if l < 0 then -((Int.gcd t l : Nat) : Int) else ((Int.gcd t l : Nat) : Int)) ≠ 0 := by
  have h : Int.gcd t l ≠ 0 := fun h => hl (Int.eq_zero_of_gcd_eq_zero_right h)
  split <;> omega
def okF (s1 : Bool) (n1 : Nat) (o1 : Nat → Int) (s2 : Bool) (n2 : Nat) (o2 : Nat → Int) : Prop :=
  okN s1 n1 o1 ∧ okN s2 n2 o2 ∧ 0 < valN s2 n2 o2 ∧ Int.gcd (valN s1 n1 o1) (valN s2 n2 o2) = 1
open Classical in
noncomputable def valF (s1 : Bool) (n1 : Nat) (o1 : Nat → Int) (s2 : Bool) (n2 : Nat) (o2 : Nat → Int) : Rat := if okF s1 n1 o1 s2 n2 o2 then Rat.divInt (valN s1 n1 o1) (valN s2 n2 o2) else 0
theorem div_one_num {t l : Int} (hl : 0 < l) (h : Int.gcd t l = 1) : (Rat.divInt t l).num = t ∧ ((Rat.divInt t l).den : Int) = l := by
  have h1 := low_num t l (by omega)
  have h2 := low_den t l (by omega)
  rw [if_neg (by omega), h] at h1 h2
  simp only [Int.natCast_one, Int.ediv_one] at h1 h2
  exact ⟨h1.symm, h2.symm⟩
theorem valF_ok {s1 : Bool} {n1 : Nat} {o1 : Nat → Int} {s2 : Bool} {n2 : Nat} {o2 : Nat → Int} (h : okF s1 n1 o1 s2 n2 o2) : (valF s1 n1 o1 s2 n2 o2).num = valN s1 n1 o1 ∧ ((valF s1 n1 o1 s2 n2 o2).den : Int) = valN s2 n2 o2 := by
  unfold valF
  rw [if_pos h]
  exact div_one_num h.2.2.1 h.2.2.2
theorem valF_not {s1 : Bool} {n1 : Nat} {o1 : Nat → Int} {s2 : Bool} {n2 : Nat} {o2 : Nat → Int} (h : ¬ okF s1 n1 o1 s2 n2 o2) : valF s1 n1 o1 s2 n2 o2 = 0 := by
  unfold valF
  rw [if_neg h]
theorem rat_gcd (x : Rat) : Int.gcd x.num (x.den : Int) = 1 := by
  have := x.reduced
  show Nat.gcd x.num.natAbs ((x.den : Int)).natAbs = 1
  rw [Int.natAbs_natCast]
  exact this
theorem rat_pos (x : Rat) : (0 : Int) < (x.den : Int) := by have := x.den_pos; omega
end Go.Proofs.YtklidpbdgliemaaGreatDoor.Limb
namespace Go.Proofs.YtklidpbdgliemaaGreatDoor.Limb
open Go.RowKit Go.Sort
def Bx (w : World) (b : Nat) (t : TypeId) (x y : Value) : Prop := w.heap[b]? = some (.cells #[x, y] t (0, 0))
def bxf (x y : Value) (i : Nat) : Value := if i = 0 then x else y
theorem Bx.row {w : World} {b : Nat} {t : TypeId} {x y : Value} (h : Bx w b t x y) : w.rowIs b t 2 (bxf x y) :=
  ⟨#[x, y], h, rfl, fun i hi => by
    match i, hi with
    | 0, _ => rfl
    | 1, _ => rfl⟩
theorem Bx.of_row {w : World} {b : Nat} {t : TypeId} {f : Nat → Value} (h : w.rowIs b t 2 f) : Bx w b t (f 0) (f 1) := by
  obtain ⟨c, hb, hn, hc⟩ := h
  show w.heap[b]? = _
  rw [hb]
  have e : c = #[f 0, f 1] := by
    apply Array.ext
    · simpa using hn
    · intro i h1 h2
      have h3 := hc i (by omega)
      rw [Array.getElem?_eq_getElem h1] at h3
      have h4 : i < 2 := by omega
      have h5 : #[f 0, f 1][i]? = some (f i) := by
        match i, h4 with
        | 0, _ => rfl
        | 1, _ => rfl
      rw [Array.getElem?_eq_getElem h2] at h5
      simp only [Option.some.injEq] at h3 h5
      rw [h3, h5]
  rw [e]
theorem Bx.c0 {w : World} {b : Nat} {t : TypeId} {x y : Value} (h : Bx w b t x y) : w.cell? ⟨b, 0, none⟩ = some x := cell_of_row _ _ _ _ _ _ h
theorem Bx.c1 {w : World} {b : Nat} {t : TypeId} {x y : Value} (h : Bx w b t x y) : w.cell? ⟨b, 1, none⟩ = some y := cell_of_row _ _ _ _ _ _ h
theorem Bx.fz {w : World} {b : Nat} {t : TypeId} {x y : Value} (h : Bx w b t x y) (i : Nat) : w.frozen? ⟨b, i, none⟩ = false := h.row.frozen i
theorem Bx.lt {w : World} {b : Nat} {t : TypeId} {x y : Value} (h : Bx w b t x y) : b < w.heap.size := h.row.lt
theorem Bx.of {w w' : World} {b : Nat} {t : TypeId} {x y : Value} (h : Bx w b t x y) (e : w'.heap[b]? = w.heap[b]?) : Bx w' b t x y := e.trans h
theorem Bx.below {W w : World} {b B : Nat} {t : TypeId} {x y : Value} (h : Bx W b t x y) (hb : Below B W w) (hlt : b < B) : Bx w b t x y := h.of (hb.block _ hlt)
theorem Bx.alloc {w : World} {b : Nat} {t : TypeId} {x y : Value} (h : Bx w b t x y) (o : Obj) : Bx (w.alloc o) b t x y := h.of (Below.heap_alloc _ _ _ h.lt)
theorem Bx.other {w : World} {b : Nat} {t : TypeId} {x y : Value} (h : Bx w b t x y) {a : Addr} (ha : b ≠ a.block) (v : Value) : Bx (w.setCell a v) b t x y := h.of (Below.heap_setCell _ _ _ _ ha)
theorem Bx.new (w : World) (t : TypeId) (x y : Value) : Bx (w.alloc (.cells #[x, y] t)) w.heap.size t x y := by show (w.heap.push _)[w.heap.size]? = _; simp
theorem Bx.new2 (w : World) (p : Obj) (t : TypeId) (x y : Value) : Bx ((w.alloc p).alloc (.cells #[x, y] t)) (w.heap.size + 1) t x y := by have h := Bx.new (w.alloc p) t x y; rw [World.size_alloc] at h; exact h
theorem Bx.new3 (w : World) (p q : Obj) (t : TypeId) (x y : Value) : Bx (((w.alloc p).alloc q).alloc (.cells #[x, y] t)) (w.heap.size + 1 + 1) t x y := by have h := Bx.new2 (w.alloc p) q t x y; rw [World.size_alloc] at h; exact h
theorem Bx.drewN {w : World} {b : Nat} {t : TypeId} {x y : Value} (h : Bx w b t x y) (m : Nat) : Bx (w.drewN m) b t x y := h
theorem Bx.set0 {w : World} {b : Nat} {t : TypeId} {x y : Value} (h : Bx w b t x y) (v : Value) : Bx (w.setCell ⟨b, 0, none⟩ v) b t v y := Bx.of_row (h.row.set 0 v)
theorem Bx.set1 {w : World} {b : Nat} {t : TypeId} {x y : Value} (h : Bx w b t x y) (v : Value) : Bx (w.setCell ⟨b, 1, none⟩ v) b t x v := Bx.of_row (h.row.set 1 v)
theorem Bx.set {w : World} {b : Nat} {t : TypeId} {x y : Value} (h : Bx w b t x y) (u v : Value) : Bx ((w.setCell ⟨b, 0, none⟩ u).setCell ⟨b, 1, none⟩ v) b t u v := (h.set0 u).set1 v
theorem Bx.all {w : World} {b : Nat} {t : TypeId} {x y : Value} (h : Bx w b t x y) : w.cell? ⟨b, 0, none⟩ = some x ∧ w.cell? ⟨b, 1, none⟩ = some y ∧ (∀ i, w.frozen? ⟨b, i, none⟩ = false) ∧ b < w.heap.size := ⟨h.c0, h.c1, h.fz, h.lt⟩
end Go.Proofs.YtklidpbdgliemaaGreatDoor.Limb
namespace Go.Proofs.YtklidpbdgliemaaGreatDoor.Limb
structure GoesOut (A B : Int) (la kk : Nat) (lp qp : Nat → Int) : Prop where
  dl : Dig lp la
  dq : Dig qp (la + 1)
  sum : A = B * sumB qp (la + 1) + sumB lp la
  lt : sumB lp la < B * (pw kk : Int)
  zero : ∀ i, i < kk → qp i = 0
structure GoesIn (A B : Int) (la j : Nat) (lp qp : Nat → Int) : Prop where
  dl : Dig lp la
  dq : Dig qp (la + 1)
  sum : A = B * sumB qp (la + 1) + sumB lp la
  lt : B * (qp j * (pw j : Int)) + sumB lp la < B * (pw (j + 1) : Int)
  zero : ∀ i, i < j → qp i = 0
theorem GoesOut.inner {A B : Int} {la j : Nat} {lp qp : Nat → Int} (h : GoesOut A B la (j + 1) lp qp) : GoesIn A B la j lp qp :=
  ⟨h.dl, h.dq, h.sum, by rw [h.zero j (by omega), Int.zero_mul, Int.mul_zero, Int.zero_add]; exact h.lt, fun i hi => h.zero i (by omega)⟩
theorem GoesIn.outer {A B : Int} {la j : Nat} {lp qp : Nat → Int} (h : GoesIn A B la j lp qp) (hlt : sumB lp la < B * (pw j : Int)) : GoesOut A B la j lp qp := ⟨h.dl, h.dq, h.sum, hlt, h.zero⟩
theorem GoesIn.lt2 {A B : Int} {la j : Nat} {lp qp : Nat → Int} (h : GoesIn A B la j lp qp) (hB : 0 < B) (hj : j < la + 1) : sumB lp la < B * (pw (j + 1) : Int) := by
  have h1 := (h.dq j hj).1
  have h2 : 0 ≤ B * (qp j * (pw j : Int)) := Int.mul_nonneg (by omega) (Int.mul_nonneg h1 (by omega))
  have := h.lt
  omega
theorem GoesIn.step {A B : Int} {la j : Nat} {lp qp lp' : Nat → Int} {g : Int} (h : GoesIn A B la j lp qp) (hB : 0 < B) (hj : j < la + 1) (hg : 0 ≤ g) (hd : Dig lp' la) (hs : sumB lp' la = sumB lp la - g * B * (pw j : Int)) :
    qp j + g < 1000000000 ∧ GoesIn A B la j lp' (upd qp j (qp j + g)) := by
  have hp : (0 : Int) < (pw j : Int) := by have := pw_pos j; omega
  have h0 := h.dq j hj
  have h1 := (sumB_bd hd).1
  have e1 : B * ((qp j + g) * (pw j : Int)) = B * (qp j * (pw j : Int)) + g * B * (pw j : Int) := by
    rw [Int.add_mul, Int.mul_add]
    have : B * (g * (pw j : Int)) = g * B * (pw j : Int) := by ac_rfl
    omega
  have hlt := h.lt
  have hq : qp j + g < 1000000000 := by
    have h2 : B * ((qp j + g) * (pw j : Int)) < B * (1000000000 * (pw j : Int)) := by
      have e2 : B * (1000000000 * (pw j : Int)) = B * (pw (j + 1) : Int) := by rw [pw_succ, Int.natCast_mul, Int.mul_comm (pw j : Int)]; rfl
      omega
    have h3 := Int.lt_of_mul_lt_mul_left h2 (by omega)
    exact Int.lt_of_mul_lt_mul_right h3 (by omega)
  refine ⟨hq, hd, upd_Dig h.dq j ⟨by omega, hq⟩, ?_, ?_, fun i hi => by rw [upd_ne _ _ (by omega)]; exact h.zero i hi⟩
  · rw [sumB_upd _ _ hj, hs]
    have e3 := h.sum
    have e4 : B * (sumB qp (la + 1) + (qp j + g - qp j) * (pw j : Int)) = B * sumB qp (la + 1) + g * B * (pw j : Int) := by
      rw [Int.mul_add, show qp j + g - qp j = g by omega]
      have : B * (g * (pw j : Int)) = g * B * (pw j : Int) := by ac_rfl
      omega
    omega
  · rw [upd_same]; omega
theorem GoesOut.done {A B : Int} {la : Nat} {lp qp : Nat → Int} (h : GoesOut A B la 0 lp qp) (hB : 0 < B) : sumB qp (la + 1) = A / B ∧ sumB lp la = A % B := by
  have h1 := (sumB_bd h.dl).1
  have h2 := h.lt
  rw [pw_zero] at h2
  have := (Int.ediv_emod_unique hB (a := A) (r := sumB lp la) (q := sumB qp (la + 1))).2 ⟨by have := h.sum; omega, h1, by omega⟩
  exact ⟨this.1.symm, this.2.symm⟩
theorem GoesOut.start {la kk : Nat} {B : Int} {lp : Nat → Int} (hd : Dig lp la) (h : sumB lp la < B * (pw kk : Int)) : GoesOut (sumB lp la) B la kk lp (fun _ => 0) :=
  ⟨hd, fun i _ => by omega, by rw [sumB_zero (fun _ _ => rfl)]; omega, h, fun _ _ => rfl⟩
def shiftF (o : Nat → Int) (k i : Nat) : Int := if i < k then 0 else o (i - k)
theorem shiftF_Dig {o : Nat → Int} {k n : Nat} (h : Dig o n) : Dig (shiftF o k) (k + n) := by
  intro i hi
  unfold shiftF
  split
  · omega
  · exact h _ (by omega)
theorem shiftF_sum (o : Nat → Int) (k n : Nat) : sumB (shiftF o k) (k + n) = sumB o n * (pw k : Int) := by
  rw [sumB_add, sumB_zero (o := shiftF o k) (n := k) fun i hi => by unfold shiftF; rw [if_pos hi]]
  rw [sumB_congr (o := fun i => shiftF o k (k + i)) (o' := o) fun i hi => by unfold shiftF; rw [if_neg (by omega), show k + i - k = i by omega]]
  rw [Int.mul_comm]; omega
theorem goes_round {A : Int} {la lb j m : Nat} {lp qp ob : Nat → Int} (db : Dig ob lb) (hlb : lb = m + 1) (ht : 0 < ob m) (h : GoesIn A (sumB ob lb) la j lp qp) (hj : j + lb ≤ la) (hB : 0 < sumB ob lb) :
    0 ≤ topF lp la (j + m) / (ob m + 1) ∧ topF lp la (j + m) / (ob m + 1) ≤ 999999999 ∧ topF lp la (j + m) / (ob m + 1) * sumB ob lb * (pw j : Int) ≤ sumB lp la := by
  subst hlb
  have b := (sumB_bd (o := ob) (n := m) fun i hi => db i (by omega)).2
  exact goes_guess (L := sumB lp la) (V := sumB ob (m + 1)) (v := ob m) (T := topF lp la (j + m)) (l := m) (k := j) (by rw [sumB, Int.add_mul]; omega) ht (h.lt2 hB (by omega)) (topF_le h.dl (by omega)) (topF_bd h.dl).1 hB
end Go.Proofs.YtklidpbdgliemaaGreatDoor.Limb
namespace Go.Proofs.YtklidpbdgliemaaGreatDoor.Limb
open Go
def padD : Nat → Nat → List UInt8
  | 0, _ => []
  | k + 1, r => padD k (r / 10) ++ [UInt8.ofNat (48 + r % 10)]
theorem padD_length (k r : Nat) : (padD k r).length = k := by
  induction k generalizing r with
  | zero => rfl
  | succ k ih => simp [padD, ih]
theorem padD_zero (k : Nat) : padD k 0 = List.replicate k 48 := by
  induction k with
  | zero => rfl
  | succ k ih => rw [padD, Nat.zero_div, ih, List.replicate_succ']; rfl
theorem decD_big {u : Nat} (h : ¬ u < 10) : Lib.decDigits u = Lib.decDigits (u / 10) ++ [UInt8.ofNat (48 + u % 10)] := by rw [Lib.decDigits, dif_neg h]
theorem decD_pad (k q r : Nat) (hq : 0 < q) (hr : r < 10 ^ k) : Lib.decDigits (q * 10 ^ k + r) = Lib.decDigits q ++ padD k r := by
  induction k generalizing r with
  | zero =>
    have : r = 0 := by simpa using hr
    subst this
    simp [padD]
  | succ k ih =>
    have hp : 0 < 10 ^ k := Nat.pow_pos (by omega)
    have h1 : 1 * 10 ^ k ≤ q * 10 ^ k := Nat.mul_le_mul_right _ hq
    have e1 : q * 10 ^ (k + 1) = 10 * (q * 10 ^ k) := by rw [Nat.pow_succ, ← Nat.mul_assoc, Nat.mul_comm]
    have hr' : r < 10 * 10 ^ k := by rw [Nat.pow_succ, Nat.mul_comm] at hr; exact hr
    rw [e1, decD_big (by omega), show (10 * (q * 10 ^ k) + r) / 10 = q * 10 ^ k + r / 10 by omega, show (10 * (q * 10 ^ k) + r) % 10 = r % 10 by omega, ih (r / 10) (by omega), List.append_assoc]
    rfl
theorem pad_dec (k r : Nat) (hr : r < 10 ^ (k + 1)) : padD (k + 1) r = List.replicate (k + 1 - Lib.nDigits r) 48 ++ Lib.decDigits r := by
  induction k generalizing r with
  | zero =>
    have h : r < 10 := by simpa using hr
    rw [Lib.nDigits_small h, Lib.decDigits_one h]
    show [] ++ [UInt8.ofNat (48 + r % 10)] = _
    rw [Nat.mod_eq_of_lt h]; rfl
  | succ k ih =>
    by_cases h : r < 10
    · rw [Lib.nDigits_small h, Lib.decDigits_one h, padD, show r / 10 = 0 by omega, padD_zero, show r % 10 = r by omega]; rfl
    · have hr' : r / 10 < 10 ^ (k + 1) := by rw [Nat.pow_succ] at hr; omega
      rw [padD, ih _ hr', Lib.nDigits_big h, decD_big h, List.append_assoc, show k + 1 + 1 - (Lib.nDigits (r / 10) + 1) = k + 1 - Lib.nDigits (r / 10) by omega]
theorem pad_self (r : Nat) : padD (Lib.nDigits r) r = Lib.decDigits r := by
  have h1 := Lib.nDigits_pos r
  have h2 := Lib.lt_pow_nDigits r
  obtain ⟨k, hk⟩ : ∃ k, Lib.nDigits r = k + 1 := ⟨Lib.nDigits r - 1, by omega⟩
  have h := pad_dec k r (by rw [← hk]; exact h2)
  rw [hk] at h ⊢
  rw [Nat.sub_self] at h
  exact h
theorem padD_front (j m : Nat) : padD (j + 1) m = UInt8.ofNat (48 + m / 10 ^ j % 10) :: padD j m := by
  induction j generalizing m with
  | zero => show [] ++ [UInt8.ofNat (48 + m % 10)] = [UInt8.ofNat (48 + m / 10 ^ 0 % 10)]; rw [Nat.pow_zero, Nat.div_one]; rfl
  | succ j ih =>
    rw [padD, ih (m / 10), Nat.div_div_eq_div_mul, show 10 * 10 ^ j = 10 ^ (j + 1) by rw [Nat.pow_succ, Nat.mul_comm]]
    rfl
theorem pw_ten (i : Nat) : pw i = 10 ^ (9 * i) := by
  induction i with
  | zero => rw [pw_zero]
  | succ i ih => rw [pw_succ, ih, show 9 * (i + 1) = 9 * i + 9 by omega, Nat.pow_add]
def isDig (c : UInt8) : Bool := decide (48 ≤ c.toNat) && decide (c.toNat ≤ 57)
def decV (l : List UInt8) : Nat := l.foldl (fun a c => 10 * a + (c.toNat - 48)) 0
theorem decV_foldl (l : List UInt8) (a : Nat) : l.foldl (fun a c => 10 * a + (c.toNat - 48)) a = a * 10 ^ l.length + decV l := by
  induction l generalizing a with
  | nil => simp [decV]
  | cons c r ih =>
    have e : decV (c :: r) = (10 * 0 + (c.toNat - 48)) * 10 ^ r.length + decV r := ih _
    rw [List.foldl_cons, ih, e, List.length_cons, Nat.pow_succ]
    have : (10 * a + (c.toNat - 48)) * 10 ^ r.length = a * (10 ^ r.length * 10) + (c.toNat - 48) * 10 ^ r.length := by rw [Nat.add_mul]; congr 1; rw [Nat.mul_comm 10 a, Nat.mul_assoc, Nat.mul_comm 10]
    rw [this]
    simp only [Nat.mul_zero, Nat.zero_add]
    omega
theorem decV_append (l r : List UInt8) : decV (l ++ r) = decV l * 10 ^ r.length + decV r := by
  rw [decV, List.foldl_append, decV_foldl]; rfl
theorem decV_lt (l : List UInt8) (h : ∀ c ∈ l, isDig c = true) : decV l < 10 ^ l.length := by
  induction l with
  | nil => simp [decV]
  | cons c r ih =>
    have h1 := ih fun x hx => h x (List.mem_cons_of_mem _ hx)
    have h2 := h c (List.mem_cons_self ..)
    unfold isDig at h2
    simp only [Bool.and_eq_true, decide_eq_true_eq] at h2
    rw [decV, List.foldl_cons, decV_foldl, List.length_cons, Nat.pow_succ]
    have : (10 * 0 + (c.toNat - 48)) * 10 ^ r.length ≤ 9 * 10 ^ r.length := Nat.mul_le_mul_right _ (by omega)
    omega
end Go.Proofs.YtklidpbdgliemaaGreatDoor.Limb
namespace Go.Proofs.YtklidpbdgliemaaGreatDoor.Limb
open Go.RowKit Go.Sort
theorem of_facts (s : Bool) (n : Nat) (o : Nat → Int) (h : okN s n o) (h0 : ∀ i, i < n → 0 ≤ o i ∧ o i ≤ 4294967295) :
    decide (valN s n o < 0) = s ∧ lenB (valN s n o).natAbs = n ∧ ∀ i, i < n → o i = dgi (valN s n o).natAbs i :=
  have h1 : ∀ i, i < n → 0 ≤ o i := fun i hi => (h0 i hi).1
  ⟨valN_neg h h1, valN_len h h1, fun i hi => (valN_dg h h1 i hi).symm⟩
open Classical in
set_option maxHeartbeats 1000000 in
theorem of_any (s : Bool) (a : Option Addr) (n cap : Nat) (o : Nat → Int) (w : World) (h : Rd w a n o) (hn : n ≤ 1000000000) (hcap : n ≤ cap) :
    ∃ a' cap', Rd w a' (lenB (valN s n o).natAbs) (dgi (valN s n o).natAbs) ∧ lenB (valN s n o).natAbs ≤ n ∧ lenB (valN s n o).natAbs ≤ cap' ∧
      ∀ w1, Below w.heap.size w w1 → Calls Tryz.prog 100 #[numV s a n cap] w1 fun e w' => e = .returned (numV (decide (valN s n o < 0)) a' (lenB (valN s n o).natAbs) cap') ∧ Below w1.heap.size w1 w' := by
  by_cases hk : okN s n o
  · obtain ⟨f1, f2, f3⟩ := of_facts s n o hk h.rng
    rw [f1, f2]
    refine ⟨a, cap, h.congr f3, Nat.le_refl _, hcap, fun w1 hb1 => ?_⟩
    have C := Lib.hid (fun (w2 : World) (hw : Below w1.heap.size w1 w2) => check_any s a n cap o w2 (h.below (hb1.trans (hw.mono hb1.size))) hn)
    rw [decide_eq_true hk] at C
    clear h f1 f2 f3 hk hb1
    go_enter Tryz.func100, Tryz.ntmps100
    go_wp2_with fail
    refine (C.out _ ?_).mono ?_
    · (repeat' (first | (with_reducible exact Below.refl _ _) | (with_reducible assumption) | (with_reducible refine Below.alloc ?_ ?_ _) | (with_reducible refine Below.drew ?_) | (with_reducible refine bdrewN ?_ _) | (with_reducible refine Below.setCell ?_ ?_ _) | (with_reducible refine Below.frame ?_ _) | go_size))
    rintro e w2 ⟨rfl, hb2⟩
    have B1 := ((Bx.new w1 24 (.bool s) (.slice a n cap)).alloc (.cells #[.bool false, .slice none 0 0] 24)).below hb2 (by simp; omega)
    have B2 := (Bx.new2 w1 (.cells #[.bool s, .slice a n cap] 24) 24 (.bool false) (.slice none 0 0)).below hb2 (by simp)
    have hb0 : Below w1.heap.size w1 w2 := ((Below.refl _ _).alloc (Nat.le_refl _) _ |>.alloc (by go_size) _).trans (hb2.mono (by go_size))
    obtain ⟨b10, b11, b12, b13⟩ := B1.all
    obtain ⟨b20, b21, b22, b23⟩ := B2.all
    have HB := Lib.hid B2
    clear hb2 B1 B2
    go_wp2
    refine bodyPost_ret (results_cell rfl _ _ _ _ _ _ _ rfl (HB.out.set _ _) Tryz.underlying24 rfl (by kernel_rfl)) rfl ⟨rfl, ?_⟩
    (repeat' (first | (with_reducible exact Below.refl _ _) | (with_reducible assumption) | (with_reducible refine Below.alloc ?_ ?_ _) | (with_reducible refine Below.drew ?_) | (with_reducible refine bdrewN ?_ _) | (with_reducible refine Below.setCell ?_ ?_ _) | (with_reducible refine Below.frame ?_ _) | go_size))
  · rw [show valN s n o = 0 from valN_not hk]
    rw [show (Int.natAbs 0) = 0 from rfl, lenB_zero, show decide ((0 : Int) < 0) = false from rfl]
    refine ⟨none, 0, Rd.nil _ _ _, Nat.zero_le _, Nat.le_refl _, fun w1 hb1 => ?_⟩
    have C := Lib.hid (fun (w2 : World) (hw : Below w1.heap.size w1 w2) => check_any s a n cap o w2 (h.below (hb1.trans (hw.mono hb1.size))) hn)
    rw [decide_eq_false hk] at C
    clear h hk hb1
    go_enter Tryz.func100, Tryz.ntmps100
    go_wp2_with fail
    refine (C.out _ ?_).mono ?_
    · (repeat' (first | (with_reducible exact Below.refl _ _) | (with_reducible assumption) | (with_reducible refine Below.alloc ?_ ?_ _) | (with_reducible refine Below.drew ?_) | (with_reducible refine bdrewN ?_ _) | (with_reducible refine Below.setCell ?_ ?_ _) | (with_reducible refine Below.frame ?_ _) | go_size))
    rintro e w2 ⟨rfl, hb2⟩
    have B2 := (Bx.new2 w1 (.cells #[.bool s, .slice a n cap] 24) 24 (.bool false) (.slice none 0 0)).below hb2 (by simp)
    have hb0 : Below w1.heap.size w1 w2 := ((Below.refl _ _).alloc (Nat.le_refl _) _ |>.alloc (by go_size) _).trans (hb2.mono (by go_size))
    obtain ⟨b20, b21, b22, b23⟩ := B2.all
    have HB := Lib.hid B2
    clear hb2 B2
    go_wp2
    refine bodyPost_ret (results_cell rfl _ _ _ _ _ _ _ rfl (HB.out.set _ _) Tryz.underlying24 rfl (by kernel_rfl)) rfl ⟨rfl, ?_⟩
    (repeat' (first | (with_reducible exact Below.refl _ _) | (with_reducible assumption) | (with_reducible refine Below.alloc ?_ ?_ _) | (with_reducible refine Below.drew ?_) | (with_reducible refine bdrewN ?_ _) | (with_reducible refine Below.setCell ?_ ?_ _) | (with_reducible refine Below.frame ?_ _) | go_size))
theorem lenB_le_of {o : Nat → Int} {n : Nat} (h : Dig o n) : lenB (sumB o n).toNat ≤ n := lenB_le (by have := sumB_bd h; omega)
theorem cut_zero {o : Nat → Int} {n i : Nat} (h : Dig o n) (h1 : lenB (sumB o n).toNat ≤ i) (h2 : i < n) : o i = 0 := by
  rw [← dg_sumB h i h2, dg_out h1]; rfl
theorem cut_last {o : Nat → Int} {n : Nat} (h : Dig o n) (h1 : 0 < lenB (sumB o n).toNat) : o (lenB (sumB o n).toNat - 1) ≠ 0 := by
  have h2 := lenB_le_of h
  rw [← dg_sumB h _ (by omega)]
  have := dg_last (m := (sumB o n).toNat) (fun e => by rw [e, lenB_zero] at h1; omega)
  omega
set_option maxHeartbeats 1000000 in
theorem cut_any (s : Bool) (a : Option Addr) (n cap : Nat) (o : Nat → Int) (w : World) (h : Rd w a n o) (hd : Dig o n) (hn : n ≤ 1000000000) (hcap : n ≤ cap) (ha : a = none → cap = 0) :
    Calls Tryz.prog 101 #[.bool s, .slice a n cap] w fun e w' => e = .returned (numV (s && decide (0 < lenB (sumB o n).toNat)) a (lenB (sumB o n).toNat) (lenB (sumB o n).toNat)) ∧ Below w.heap.size w w' := by
  have HL := Lib.hid (lenB_le_of hd)
  have HZ := Lib.hid (fun i => cut_zero (i := i) hd)
  have HT := Lib.hid (cut_last hd)
  generalize lenB (sumB o n).toNat = L at HL HZ HT ⊢
  clear hd
  have hsz := h.rng
  have B0 := Lib.hid (Bx.new w 24 (.bool false) (.slice none 0 0))
  go_enter Tryz.func101, Tryz.ntmps101
  go_wp2
  go_loopw [5] (fun i wr => ∃ j : Nat, L ≤ j ∧ j ≤ n ∧ i = .int .i64 j ∧ ∃ m, wr = (w.alloc (.cells #[.bool false, .slice none 0 0] 24)).drewN m) (fun i _ => (intOf i).toNat)
  case atStart => exact ⟨n, HL.out, Nat.le_refl _, rfl, 0, rfl⟩
  case round =>
    obtain ⟨j, hj, hjn, rfl, m0, rfl⟩ := hrel
    by_cases hj0 : j = 0
    · obtain rfl : L = 0 := by omega
      subst hj0
      have B1 := B0.out.drewN m0
      obtain ⟨b10, b11, b12, b13⟩ := B1.all
      have HB := Lib.hid B1
      clear B1
      cases s with
      | false =>
        go_wp2
        all_goals
          refine bodyPost_ret (results_cell rfl _ _ _ _ _ _ _ rfl (HB.out.set _ _) Tryz.underlying24 rfl (by kernel_rfl)) rfl ⟨rfl, ?_⟩
          (repeat' (first | (with_reducible exact Below.refl _ _) | (with_reducible assumption) | (with_reducible refine Below.alloc ?_ ?_ _) | (with_reducible refine Below.drew ?_) | (with_reducible refine bdrewN ?_ _) | (with_reducible refine Below.setCell ?_ ?_ _) | (with_reducible refine Below.frame ?_ _) | go_size))
      | true =>
        go_wp2
        all_goals
          refine bodyPost_ret (results_cell rfl _ _ _ _ _ _ _ rfl (HB.out.set _ _) Tryz.underlying24 rfl (by kernel_rfl)) rfl ⟨rfl, ?_⟩
          (repeat' (first | (with_reducible exact Below.refl _ _) | (with_reducible assumption) | (with_reducible refine Below.alloc ?_ ?_ _) | (with_reducible refine Below.drew ?_) | (with_reducible refine bdrewN ?_ _) | (with_reducible refine Below.setCell ?_ ?_ _) | (with_reducible refine Below.frame ?_ _) | go_size))
    · obtain ⟨q, rfl⟩ : ∃ q, j = q + 1 := ⟨j - 1, by omega⟩
      obtain ⟨b, off, rfl, hc⟩ := h.cells (by omega)
      have c1 := hc q (by omega)
      have hb : b < w.heap.size := block_lt_of_cell c1
      have ex : ((q + 1 : Nat) : Int) - 1 = (q : Int) := by omega
      by_cases hjL : q + 1 = L
      · subst hjL
        have hz : o q ≠ 0 := HT.out (by omega)
        have hzb : (o q == 0) = false := by simpa using hz
        have hq : ((q + 1 : Nat) : Int) > 0 := by omega
        have D := Lib.hid (show decide (0 < q + 1) = true by simp)
        have B1 := B0.out.drewN m0
        obtain ⟨b10, b11, b12, b13⟩ := B1.all
        have HB := Lib.hid B1
        clear B1
        cases s with
        | false =>
          go_wp2
          all_goals
            refine bodyPost_ret (results_cell rfl _ _ _ _ _ _ _ rfl (HB.out.set _ _) Tryz.underlying24 rfl (by kernel_rfl)) rfl ⟨rfl, ?_⟩
            (repeat' (first | (with_reducible exact Below.refl _ _) | (with_reducible assumption) | (with_reducible refine Below.alloc ?_ ?_ _) | (with_reducible refine Below.drew ?_) | (with_reducible refine bdrewN ?_ _) | (with_reducible refine Below.setCell ?_ ?_ _) | (with_reducible refine Below.frame ?_ _) | go_size))
        | true =>
          go_wp2
          all_goals
            refine bodyPost_ret (results_cell rfl _ _ _ _ _ _ _ rfl (HB.out.set _ _) Tryz.underlying24 rfl (by kernel_rfl)) rfl ⟨by rw [D.out]; rfl, ?_⟩
            (repeat' (first | (with_reducible exact Below.refl _ _) | (with_reducible assumption) | (with_reducible refine Below.alloc ?_ ?_ _) | (with_reducible refine Below.drew ?_) | (with_reducible refine bdrewN ?_ _) | (with_reducible refine Below.setCell ?_ ?_ _) | (with_reducible refine Below.frame ?_ _) | go_size))
      · have hz := HZ.out q (by omega) (by omega)
        go_wp2
        go_roundw
        case rel => exact ⟨q, by omega, by omega, rfl, m0, rfl⟩
        case measure => simp [intOf]
abbrev T32 : TypeId := 80
theorem info32 : (Tryz.prog.info? 80).map (fun i => (i.zero, i.size, i.bytes)) = some (some (.int .u32 0), 1, 4) := by kernel_rfl
def ucs (o : Nat → Int) (n : Nat) : List Value := (List.range n).map (uc o)
theorem ucs_len (o : Nat → Int) (n : Nat) : (ucs o n).length = n := by simp [ucs]
theorem ucs_get (o : Nat → Int) (n i : Nat) (h : i < n) : (ucs o n)[i]? = some (uc o i) := by simp [ucs, h]
theorem ucs_get' {o : Nat → Int} {n j : Nat} {u : Value} (h : (ucs o n)[j]? = some u) : j < n ∧ u = uc o j := by
  have hj : j < n := by
    rcases Nat.lt_or_ge j n with h1 | h1
    · exact h1
    · rw [List.getElem?_eq_none (by rw [ucs_len]; exact h1)] at h; cases h
  rw [ucs_get o n j hj] at h
  exact ⟨hj, by cases h; rfl⟩
theorem ucs_succ (o : Nat → Int) (n : Nat) : ucs o (n + 1) = ucs o n ++ [uc o n] := by simp [ucs, List.range_succ]
theorem ucs_one {o : Nat → Int} {n : Nat} : ∀ u ∈ ucs o n, u.oneCell' = true := by
  intro u hu
  obtain ⟨i, _, rfl⟩ := List.mem_map.1 hu
  rfl
theorem Own.of_row {w : World} {base : Nat} {v : Value} {n : Nat} {o : Nat → Int} (h : w.ownsRow base 80 1 v n (ucs o n)) (hr : ∀ i, i < n → 0 ≤ o i ∧ o i ≤ 4294967295) :
    ∃ a cap, v = .slice a n cap ∧ Own 80 w base a n cap o ∧ (a = none → cap = 0) := by
  rcases h.2 with ⟨rfl, rfl⟩ | ⟨g, cap, cur, rfl, hb, hg, hnc, _, hsz, hx⟩
  · exact ⟨none, 0, rfl, ⟨Nat.le_refl _, Or.inl ⟨rfl, rfl, rfl⟩, hr⟩, fun _ => rfl⟩
  · refine ⟨_, cap, rfl, ⟨hnc, Or.inr ⟨g, cur, rfl, hb, hg, by omega, fun i hi => ?_⟩, hr⟩, fun h => by cases h⟩
    have h1 := ucs_get o n i hi
    rw [← hx, List.getElem?_take, if_pos (by omega), Array.getElem?_toList] at h1
    exact h1
theorem Own.row_nil (w : World) (base : Nat) (o : Nat → Int) : w.ownsRow base 80 1 (.slice none 0 0) 0 (ucs o 0) := ⟨rfl, Or.inl ⟨rfl, rfl⟩⟩
theorem q22 (w : World) (a : Option Addr) (n c n' c' : Nat) : (binOp .eql 22 (.slice a n c) (.slice none n' c')).run Tryz.prog w = .ok (.bool a.isNone) w := Lib.run_eql_slice_nil w _ _ a n c n' c' Tryz.underlying22
set_option maxRecDepth 100000 in
set_option maxHeartbeats 1000000 in
theorem clone_any (a : Option Addr) (n cap : Nat) (o : Nat → Int) (w : World) (h : Rd w a n o) (hn : n ≤ 1000000000) :
    Calls Tryz.prog 119 #[.slice a n cap] w fun e w' => ∃ a' cap', e = .returned (.slice a' n cap') ∧ Own 80 w' w.heap.size a' n cap' o ∧ (a' = none → cap' = 0) ∧ Below w.heap.size w w' := by
  have q := q22
  cases a with
  | none =>
    obtain rfl : n = 0 := by
      rcases Nat.eq_zero_or_pos n with h0 | h0
      · exact h0
      · obtain ⟨b, off, e, _⟩ := h.cells h0; cases e
    clear h
    go_enter Tryz.func119, Tryz.ntmps119
    go_wp2
    go_ret
    exact ⟨none, 0, rfl, ⟨Nat.le_refl _, Or.inl ⟨rfl, rfl, rfl⟩, fun i hi => by omega⟩, fun _ => rfl, Below.refl _ _⟩
  | some p =>
    obtain ⟨b, off, pt⟩ := p
    obtain ⟨i0, hi, hz0, hz1, hz2⟩ := info_parts info32
    have u22 : ∀ w, Sem.run Tryz.prog (underlying 22) w = .ok (TypeDesc.slice 80) w := run_underlying Tryz.underlying22
    have HC := Lib.hid h; clear h
    go_enter Tryz.func119, Tryz.ntmps119
    go_wp2_with (at_builtin; refine wpList_append_own _ rfl _ _ 22 rfl w.heap.size 80 i0 (.int .u32 0) 1 4 Tryz.underlying22 hi hz0 hz1 hz2 rfl (by decide) _ _ _ rfl (World.ownsRow_made w #[] 0 (Nat.le_refl _) (Nat.zero_le _) rfl) ⟨b, off, pt⟩ n cap (ucs o n) rfl ?qc1 ?qc2 ?qc3 ?qc4 ?qc5 ?qc6 ?_)
    case qc1 => rw [ucs_len]; omega
    case qc2 =>
      intro j u hj
      obtain ⟨hjn, rfl⟩ := ucs_get' hj
      obtain ⟨b', off', e, hc⟩ := HC.out.cells (by omega)
      cases e
      rw [Addr.add_lit]
      exact Lib.cell?_alloc_some _ (hc j hjn)
    case qc3 => exact ucs_one
    case qc4 => unfold maxLen; omega
    case qc5 => omega
    case qc6 => simp
    intro v' w1 hown hgrow hnil
    have hown : w1.ownsRow w.heap.size 80 1 v' n (ucs o n) := by simpa using hown
    obtain ⟨a', cap', rfl, hO, hN⟩ := Own.of_row hown HC.out.rng
    have hg2 := ((Below.refl _ w).alloc (Nat.le_refl _) _).grown hgrow (by simp) (by intro k hk; simp [Value.ownBlock] at hk; omega)
    clear hown hgrow hnil
    go_wp2
    go_ret
    exact ⟨a', cap', rfl, hO, hN, hg2⟩
theorem Own.of_rowIs {w : World} {g base n : Nat} {o : Nat → Int} (h : w.rowIs g 80 n (uc o)) (hb : base ≤ g) (hr : ∀ i, i < n → 0 ≤ o i ∧ o i ≤ 4294967295) : Own 80 w base (some ⟨g, 0, none⟩) n n o := by
  obtain ⟨c, hg, hn, hc⟩ := h
  exact ⟨Nat.le_refl _, Or.inr ⟨g, c, rfl, hb, hg, by omega, hc⟩, hr⟩
def upto (o : Nat → Int) (k i : Nat) : Value := if i < k then uc o i else .int .u32 0
theorem row_step {w : World} {g n k : Nat} {o : Nat → Int} (h : w.rowIs g 80 n (upto o k)) : (w.setCell ⟨g, k, none⟩ (uc o k)).rowIs g 80 n (upto o (k + 1)) :=
  (h.set k (uc o k)).congr fun i hi => by
    unfold upto
    by_cases e : i = k
    · subst e; rw [if_pos rfl, if_pos (by omega)]
    · rw [if_neg e]
      by_cases e2 : i < k
      · rw [if_pos e2, if_pos (by omega)]
      · rw [if_neg e2, if_neg (by omega)]
theorem tdiv_facts (x : Int) : ∃ Q R : Int, x.tdiv 1000000000 = Q ∧ x.tmod 1000000000 = R ∧ x = 1000000000 * Q + R ∧ ((0 ≤ x ∧ 0 ≤ R ∧ R < 1000000000) ∨ (x < 0 ∧ -1000000000 < R ∧ R ≤ 0)) := by
  rcases Int.lt_or_le x 0 with h | h
  · obtain ⟨y, rfl⟩ : ∃ y, x = -y := ⟨-x, by omega⟩
    refine ⟨_, _, rfl, rfl, ?_, Or.inr ⟨h, ?_, ?_⟩⟩
    · rw [Int.neg_tdiv, Int.neg_tmod, Int.tdiv_eq_ediv_of_nonneg (by omega), Int.tmod_eq_emod_of_nonneg (by omega)]; omega
    · rw [Int.neg_tmod, Int.tmod_eq_emod_of_nonneg (by omega)]; omega
    · rw [Int.neg_tmod, Int.tmod_eq_emod_of_nonneg (by omega)]; omega
  · refine ⟨_, _, rfl, rfl, ?_, Or.inl ⟨h, ?_, ?_⟩⟩
    · rw [Int.tdiv_eq_ediv_of_nonneg h, Int.tmod_eq_emod_of_nonneg h]; omega
    · rw [Int.tmod_eq_emod_of_nonneg h]; omega
    · rw [Int.tmod_eq_emod_of_nonneg h]; omega
theorem carry_step (f : Nat → Int) (k : Nat) : ∃ Q R : Int, (f k + cS f k).tdiv 1000000000 = Q ∧ (f k + cS f k).tmod 1000000000 = R ∧ -1000000000 < R ∧ R < 1000000000 ∧
    (R < 0 → cS f (k + 1) = Q - 1 ∧ cD f k = R + 1000000000) ∧ (0 ≤ R → cS f (k + 1) = Q ∧ cD f k = R) := by
  obtain ⟨Q, R, h1, h2, h3, h4⟩ := tdiv_facts (f k + cS f k)
  refine ⟨Q, R, h1, h2, by omega, by omega, fun h => ?_, fun h => ?_⟩
  · unfold cD; rw [cS]; omega
  · unfold cD; rw [cS]; omega
set_option maxHeartbeats 1000000 in
theorem carry_any (G : Nat) (cs : Array Value) (n : Nat) (f : Nat → Int) (lo hi : Int) (w : World) (hn : n ≤ 1000000000)
    (hcf : ∀ (args : Array Value) (w : World), (callFunc G args).run Tryz.prog w = .ok (.enter G args) w)
    (hF : ∀ k, k < n → ∀ w1, Below w.heap.size w w1 → Calls Tryz.prog G (#[.int .i64 k] ++ cs) w1 fun e w' => e = .returned (.int .i64 (f k)) ∧ Below w1.heap.size w1 w')
    (hf : ∀ k, k < n → lo * 999999999 ≤ f k ∧ f k ≤ hi * 999999999) (hl : -2000000000 ≤ lo) (hl0 : lo ≤ 0) (hh : hi ≤ 2000000000) (hh0 : 0 ≤ hi) :
    Calls Tryz.prog 156 #[.int .i64 n, .func (.func G) #[] cs] w fun e w' => e = .returned (.slice (some ⟨w.heap.size, 0, none⟩) n n) ∧ Own 80 w' w.heap.size (some ⟨w.heap.size, 0, none⟩) n n (cD f) ∧ Below w.heap.size w w' := by
  have HF := Lib.hid hF; clear hF
  have HB := Lib.hid hf; clear hf
  have hmk := run_make_row' (P := Tryz.prog) 22 80 (.int .u32 0) 4 Tryz.underlying22 info32 rfl .i64 .i64 n (by omega) (by omega)
  go_enter Tryz.func156, Tryz.ntmps156
  go_wp2
  go_loopw [6, 13] (fun on i wr => ∃ k : Nat, k ≤ n ∧ on = .int .i64 (cS f k) ∧ i = .int .i64 k ∧ wr.rowIs w.heap.size 80 n (upto (cD f) k) ∧ Below w.heap.size w wr) (fun _ i _ => n - (intOf i).toNat)
  case atStart => exact ⟨0, by omega, rfl, rfl, (World.rowIs_made w (.int .u32 0) n 80).congr (fun i _ => by unfold upto; rw [if_neg (by omega)]), by (repeat' (first | (with_reducible exact Below.refl _ _) | (with_reducible assumption) | (with_reducible refine Below.alloc ?_ ?_ _) | (with_reducible refine Below.drew ?_) | (with_reducible refine bdrewN ?_ _) | (with_reducible refine Below.setCell ?_ ?_ _) | (with_reducible refine Below.frame ?_ _) | go_size))⟩
  case round =>
    obtain ⟨k, hk, rfl, rfl, R, hb⟩ := hrel
    have HR := Lib.hid R
    have HW := Lib.hid hb
    clear R hb
    by_cases hkn : k < n
    · obtain ⟨Q, M, e1, e2, h3, h4, h5, h6⟩ := carry_step f k
      have b1 := HB.out k hkn
      have b2 := cS_bd hl0 hh0 (n := k) fun i hi => HB.out i (by omega)
      have b3 := cS_bd hl0 hh0 (n := k + 1) fun i hi => HB.out i (by omega)
      have C1 := HF.out k hkn wr HW.out
      clear hmk
      go_wp2_with fail
      refine C1.mono ?_
      rintro e w2 ⟨rfl, hb2⟩
      have R2 := Lib.hid (HR.out.of_block (hb2.block _ HR.out.lt))
      have W2 := Lib.hid (HW.out.trans (hb2.mono HW.out.size))
      obtain ⟨vo, hco⟩ : ∃ v, w2.cell? ⟨w.heap.size, k, none⟩ = some v := ⟨_, R2.out.cell hkn⟩
      have hfz := R2.out.frozen k
      have ea := IntWalk.i64_in (f k + cS f k) (by omega)
      clear hb2 C1 HR HW
      by_cases hM : M < 0
      · obtain ⟨h7, h8⟩ := h5 hM
        rw [h7] at b3
        have H7 := Lib.hid h7
        have H8 := Lib.hid h8
        have eu := IntWalk.u32_in (M + 1000000000) (by omega)
        clear h5 h6 h7 h8 b1 b2
        go_wp2
        go_roundw
        case rel => exact ⟨k + 1, by omega, by rw [H7.out], by go_num, by have h := row_step R2.out; rw [show uc (cD f) k = .int .u32 (M + 1000000000) by show Value.int .u32 (cD f k) = _; rw [H8.out]] at h; exact h, by have := W2.out; (repeat' (first | (with_reducible exact Below.refl _ _) | (with_reducible assumption) | (with_reducible refine Below.alloc ?_ ?_ _) | (with_reducible refine Below.drew ?_) | (with_reducible refine bdrewN ?_ _) | (with_reducible refine Below.setCell ?_ ?_ _) | (with_reducible refine Below.frame ?_ _) | go_size))⟩
        case measure => simp [intOf]; omega
      · obtain ⟨h7, h8⟩ := h6 (by omega)
        rw [h7] at b3
        have H7 := Lib.hid h7
        have H8 := Lib.hid h8
        have eu := IntWalk.u32_in M (by omega)
        clear h5 h6 h7 h8 b1 b2
        go_wp2
        go_roundw
        case rel => exact ⟨k + 1, by omega, by rw [H7.out], by go_num, by have h := row_step R2.out; rw [show uc (cD f) k = .int .u32 M by show Value.int .u32 (cD f k) = _; rw [H8.out]] at h; exact h, by have := W2.out; (repeat' (first | (with_reducible exact Below.refl _ _) | (with_reducible assumption) | (with_reducible refine Below.alloc ?_ ?_ _) | (with_reducible refine Below.drew ?_) | (with_reducible refine bdrewN ?_ _) | (with_reducible refine Below.setCell ?_ ?_ _) | (with_reducible refine Below.frame ?_ _) | go_size))⟩
        case measure => simp [intOf]; omega
    · obtain rfl : k = n := by omega
      clear hmk
      go_wp2
      go_ret
      exact ⟨rfl, Own.of_rowIs (HR.out.congr fun i hi => by unfold upto; rw [if_pos hi]) (Nat.le_refl _) (fun i hi => by have := cD_Dig f k i hi; omega), HW.out⟩
end Go.Proofs.YtklidpbdgliemaaGreatDoor.Limb
namespace Go.Proofs.YtklidpbdgliemaaGreatDoor.Limb
open Go.RowKit Go.Sort Go.Fresh
theorem cf_add (args : Array Value) (w : World) : (callFunc 157 args).run Tryz.prog w = .ok (.enter 157 args) w := by kernel_rfl
theorem add_plain (zp zq sg : Int) (h : zq.natAbs ≤ zp.natAbs) (hsg : sg = if decide (zp < 0) = decide (zq < 0) then 1 else -1) :
    0 ≤ (zp.natAbs : Int) + sg * (zq.natAbs : Int) ∧ ((zp.natAbs : Int) + sg * (zq.natAbs : Int)).toNat = (zp + zq).natAbs ∧
    (decide (zp < 0) && decide (0 < lenB (zp + zq).natAbs)) = decide (zp + zq < 0) := by
  have e0 : 0 < lenB (zp + zq).natAbs ↔ zp + zq ≠ 0 := by
    constructor
    · intro h1 h2; rw [h2, show Int.natAbs 0 = 0 from rfl, lenB_zero] at h1; omega
    · intro h1
      rcases Nat.eq_zero_or_pos (lenB (zp + zq).natAbs) with h2 | h2
      · have := lenB_eq_zero.1 h2; omega
      · exact h2
  by_cases h1 : zp < 0 <;> by_cases h2 : zq < 0 <;> simp only [h1, h2, decide_true, decide_false, if_true, reduceCtorEq, if_false] at hsg <;> subst hsg <;>
    refine ⟨by omega, by omega, ?_⟩ <;> simp only [h1, decide_true, decide_false, Bool.true_and, Bool.false_and]
  · exact decide_eq_decide.2 (e0.trans (by omega))
  · exact decide_eq_decide.2 (e0.trans (by omega))
  · exact (decide_eq_false (by omega)).symm
  · exact (decide_eq_false (by omega)).symm
def addF (x nx y ny : Nat) (sg : Int) (i : Nat) : Int := part (dgi x) nx i + sg * part (dgi y) ny i
theorem part_rng (x n i : Nat) : 0 ≤ part (dgi x) n i ∧ part (dgi x) n i ≤ 999999999 := by
  unfold part
  split
  · have := dgi_Dig x (i + 1) i (by omega); omega
  · omega
theorem addF_bd (x nx y ny : Nat) (sg : Int) (hsg : sg = 1 ∨ sg = -1) (i : Nat) : -1 * 999999999 ≤ addF x nx y ny sg i ∧ addF x nx y ny sg i ≤ 2 * 999999999 := by
  have h1 := part_rng x nx i
  have h2 := part_rng y ny i
  unfold addF
  rcases hsg with rfl | rfl <;> omega
theorem addF_sum (x y : Nat) (sg : Int) (h : lenB y ≤ lenB x + 1) : sumB (addF x (lenB x) y (lenB y) sg) (lenB x + 1) = x + sg * y := by
  have e : addF x (lenB x) y (lenB y) sg = fun i => part (dgi x) (lenB x) i + part (dgi y) (lenB y) i * sg := by funext i; unfold addF; rw [Int.mul_comm]
  rw [e, sumB_plus, sumB_times, sumB_part _ (by omega), sumB_part _ h, sumB_dgi, sumB_dgi, Int.mul_comm]
theorem add_lt (x y : Nat) (sg : Int) (hsg : sg = 1 ∨ sg = -1) (h : y ≤ x) : (x : Int) + sg * y < (pw (lenB x + 1) : Int) := by
  have h1 := lt_pw_lenB x
  rw [pw_succ]
  rcases hsg with rfl | rfl <;> omega
theorem quietOf {P : Program} {f : FuncId} {args : Array Value} {w : World} {n : Nat} {v : Value}
    (h : Calls P f args (w.drewN n) fun e w' => e = .returned v ∧ w' = w.drewN n) : Calls P f args (w.drewN n) fun e w'' => e = .returned v ∧ ∃ m, w'' = w.drewN m :=
  h.mono fun _ _ ⟨he, hm⟩ => ⟨he, n, hm⟩
set_option maxHeartbeats 1000000 in
theorem addFn (w : World) (b1 b2 b3 : Nat) (s1 s2 : Value) (T : TypeId) (p q : Option Addr) (f g : Nat → Int) (nx ny d e : Nat) (sg : Int) (k : Nat)
    (B1 : Bx w b1 T s1 (.slice p nx d)) (B2 : Bx w b2 T s2 (.slice q ny e)) (h3 : w.cell? ⟨b3, 0, none⟩ = some (.int .i64 sg)) (hp : Rd w p nx f) (hq : Rd w q ny g)
    (hx : nx ≤ 1000000000) (hy : ny ≤ 1000000000) (hk : k ≤ 1000000000) (hsg : sg = 1 ∨ sg = -1) (r1 : 0 ≤ part f nx k ∧ part f nx k ≤ 999999999) (r2 : 0 ≤ part g ny k ∧ part g ny k ≤ 999999999) :
    Calls Tryz.prog 157 #[.int .i64 k, .pointer (some ⟨b1, 0, none⟩), .pointer (some ⟨b3, 0, none⟩), .pointer (some ⟨b2, 0, none⟩)] w fun e w' => e = .returned (.int .i64 (part f nx k + sg * part g ny k)) ∧ Below w.heap.size w w' := by
  have P := Lib.hid (fun (w1 : World) (h : ∃ m, w1 = w.drewN m) => part_any p nx d f k w1 (by obtain ⟨m, rfl⟩ := h; exact hp.drewN m) hx hk)
  have Q := Lib.hid (fun (w1 : World) (h : ∃ m, w1 = w.drewN m) => part_any q ny e g k w1 (by obtain ⟨m, rfl⟩ := h; exact hq.drewN m) hy hk)
  have e1 := IntWalk.i64_in (sg * part g ny k) (by rcases hsg with rfl | rfl <;> omega)
  have e2 := IntWalk.i64_in (part f nx k + sg * part g ny k) (by rcases hsg with rfl | rfl <;> omega)
  generalize part f nx k = u at *
  generalize part g ny k = v at *
  have c1 := B1.c1
  have c2 := B2.c1
  clear B1 B2 hp hq
  go_enter Tryz.func157, Tryz.ntmps157
  go_wp2_with fail
  go_quiet (first | with_reducible exact quietOf (P.out _ ⟨_, rfl⟩) | with_reducible exact quietOf (Q.out _ ⟨_, rfl⟩))
  go_wp2
  go_ret
  exact ⟨rfl, bdrewN (Below.refl _ _) _⟩
theorem Own.cut {T : Nat} {w : World} {base : Nat} {a : Option Addr} {n cap L : Nat} {o o' : Nat → Int} (h : Own T w base a n cap o) (hL : L ≤ n) (e : ∀ i, i < L → o i = o' i) : Own T w base a L L o' := by
  refine ⟨Nat.le_refl _, ?_, fun i hi => by rw [← e i hi]; exact h.rng i (by omega)⟩
  rcases h.place with ⟨e0, h0, h1⟩ | ⟨g, cur, ha, hbg, hg, hcap, hc⟩
  · exact Or.inl ⟨e0, by omega, by omega⟩
  · exact Or.inr ⟨g, cur, ha, hbg, hg, by have := h.le; omega, fun i hi => by rw [hc i (by omega)]; show some (Value.int .u32 (o i)) = _; rw [e i hi]⟩
theorem Own.other {T : Nat} {w : World} {base : Nat} {a : Option Addr} {n cap : Nat} {o : Nat → Int} (h : Own T w base a n cap o) {p : Addr} (hp : p.block < base) (v : Value) : Own T (w.setCell p v) base a n cap o := by
  refine ⟨h.le, ?_, h.rng⟩
  rcases h.place with h0 | ⟨g, cur, ha, hbg, hg, hcap, hc⟩
  · exact Or.inl h0
  · exact Or.inr ⟨g, cur, ha, hbg, (Below.heap_setCell _ _ _ _ (by omega)).trans hg, hcap, hc⟩
theorem own_of {T g N b : Nat} {o : Nat → Int} {w : World} (h : ∃ x : Nat, Value.slice (some ⟨g, 0, none⟩) N N = .slice (some ⟨x, 0, none⟩) N N ∧ Own T w b (some ⟨x, 0, none⟩) N N o) : Own T w b (some ⟨g, 0, none⟩) N N o := by
  obtain ⟨x, e, h⟩ := h
  cases e
  exact h
theorem own_num {T L b : Nat} {s : Bool} {a : Option Addr} {o : Nat → Int} {w : World} {p : Option Addr → Prop} (h : ∃ x : Option Addr, numV s a L L = numV s x L L ∧ Own T w b x L L o ∧ p x) : Own T w b a L L o ∧ p a := by
  obtain ⟨x, e, h⟩ := h
  cases e
  exact h
set_option maxHeartbeats 400000 in
theorem add_any (s1 : Bool) (a1 : Option Addr) (n1 c1 : Nat) (o1 : Nat → Int) (s2 : Bool) (a2 : Option Addr) (n2 c2 : Nat) (o2 : Nat → Int) (w : World)
    (h1 : Rd w a1 n1 o1) (hn1 : n1 ≤ 100000000) (hc1 : n1 ≤ c1) (h2 : Rd w a2 n2 o2) (hn2 : n2 ≤ 100000000) (hc2 : n2 ≤ c2) :
    Calls Tryz.prog 96 #[numV s1 a1 n1 c1, numV s2 a2 n2 c2] w fun e w' => ∃ a, e = .returned (numV (decide (valN s1 n1 o1 + valN s2 n2 o2 < 0)) a (lenB (valN s1 n1 o1 + valN s2 n2 o2).natAbs) (lenB (valN s1 n1 o1 + valN s2 n2 o2).natAbs)) ∧
      Own 80 w' w.heap.size a (lenB (valN s1 n1 o1 + valN s2 n2 o2).natAbs) (lenB (valN s1 n1 o1 + valN s2 n2 o2).natAbs) (dgi (valN s1 n1 o1 + valN s2 n2 o2).natAbs) ∧ (a = none → lenB (valN s1 n1 o1 + valN s2 n2 o2).natAbs = 0) ∧ Below w.heap.size w w' := by
  obtain ⟨x1, d1, r1, l1, m1, O1⟩ := of_any s1 a1 n1 c1 o1 w h1 (by omega) hc1
  obtain ⟨x2, d2, r2, l2, m2, O2⟩ := of_any s2 a2 n2 c2 o2 w h2 (by omega) hc2
  generalize valN s1 n1 o1 = z1 at r1 l1 m1 O1 ⊢
  have HO1 := Lib.hid O1; clear O1
  generalize valN s2 n2 o2 = z2 at r2 l2 m2 O2 ⊢
  have HO2 := Lib.hid O2; clear O2
  have B1 := (((Bx.new w 24 (.bool s1) (.slice a1 n1 c1)).alloc (.cells #[.bool s2, .slice a2 n2 c2] 24)).alloc (.cells #[.bool false, .slice none 0 0] 24))
  have B2 := ((Bx.new2 w (.cells #[.bool s1, .slice a1 n1 c1] 24) 24 (.bool s2) (.slice a2 n2 c2)).alloc (.cells #[.bool false, .slice none 0 0] 24))
  have B3 := (Bx.new3 w (.cells #[.bool s1, .slice a1 n1 c1] 24) (.cells #[.bool s2, .slice a2 n2 c2] 24) 24 (.bool false) (.slice none 0 0))
  go_enter Tryz.func96, Tryz.ntmps96
  go_upto_region 1 with (fail)
  obtain ⟨W, hW⟩ : ∃ W, W = (((w.alloc (.cells #[.bool s1, .slice a1 n1 c1] 24)).alloc (.cells #[.bool s2, .slice a2 n2 c2] 24)).alloc (.cells #[.bool false, .slice none 0 0] 24)) := ⟨_, rfl⟩
  have G1 := Lib.hid (((Below.refl _ _).alloc (by go_size) _ |>.alloc (by go_size) _ |>.alloc (by go_size) _) : Below w.heap.size w (((w.alloc (.cells #[.bool s1, .slice a1 n1 c1] 24)).alloc (.cells #[.bool s2, .slice a2 n2 c2] 24)).alloc (.cells #[.bool false, .slice none 0 0] 24)))
  rw [← hW] at B1 B2 B3 G1
  rw [show (((w.alloc (.cells #[.bool s1, .slice a1 n1 c1] 24)).alloc (.cells #[.bool s2, .slice a2 n2 c2] 24)).alloc (.cells #[.bool false, .slice none 0 0] 24)) = W from hW.symm]
  clear hW
  go_cut [] (fun wx => Bx wx w.heap.size 24 (.bool (decide (z1 < 0))) (.slice x1 (lenB z1.natAbs) d1) ∧ Bx wx (w.heap.size + 1) 24 (.bool (decide (z2 < 0))) (.slice x2 (lenB z2.natAbs) d2) ∧
    Bx wx (w.heap.size + 1 + 1) 24 (.bool false) (.slice none 0 0) ∧ Below w.heap.size w wx)
  case first =>
    have HS1 := Lib.hid (fun (w' : World) (hb : Below W.heap.size W w') => And.intro (B1.below hb B1.lt).c0 (B1.below hb B1.lt).c1)
    have HS2 := Lib.hid (fun (w' : World) (hb : Below W.heap.size W w') => And.intro (B2.below hb B2.lt).c0 (B2.below hb B2.lt).c1)
    have HB1 := Lib.hid B1; have HB2 := Lib.hid B2; have HB3 := Lib.hid B3
    clear B1 B2 B3
    refine wp_region_fresh 4 (spOf [(1, Sp.know (numV (decide (z1 < 0)) x1 (lenB z1.natAbs) d1)), (3, Sp.know (numV (decide (z2 < 0)) x2 (lenB z2.natAbs) d2))]) (fun w' => Below W.heap.size W w') (by kernel_rfl) (by kernel_rfl)
      (spOf_cons (Sp.know_keeps _) (spOf_cons (Sp.know_keeps _) spOf_nil)) (fun _ _ h hb => h.trans (hb.mono h.size)) ((Below.refl _ _).drew) ?_
    simp only [List.take_succ_cons, List.take_zero, List.drop_succ_cons, List.drop_zero]
    (refine wpF_reads rfl rfl ?_ (fun w' hw' => ?_) ?_; rotate_left; · (have hb' := Has.world hw'; (have hs := HS1.out _ hb'); clear hw'; go_simp; try rfl))
    (refine wpF_spec rfl rfl (fun w' hw' => ?_) ?_; · (have hb' := Has.world hw'; go_simp; ((refine (HO1.out w' (G1.out.trans (hb'.mono G1.out.size))).mono ?_; rintro e w'' ⟨rfl, hb⟩; exact ⟨_, rfl, rfl, hb⟩))))
    rintro _ rfl
    (refine wpF_reads rfl rfl ?_ (fun w' hw' => ?_) ?_; rotate_left; · (have hb' := Has.world hw'; (have hs := HS2.out _ hb'); clear hw'; go_simp; try rfl))
    (refine wpF_spec rfl rfl (fun w' hw' => ?_) ?_; · (have hb' := Has.world hw'; go_simp; ((refine (HO2.out w' (G1.out.trans (hb'.mono G1.out.size))).mono ?_; rintro e w'' ⟨rfl, hb⟩; exact ⟨_, rfl, rfl, hb⟩))))
    rintro _ rfl
    refine wpF_nil (fun w1 hb1 hF => ?_)
    clear hF
    have C1 := HB1.out.below hb1 HB1.out.lt
    have C2 := HB2.out.below hb1 HB2.out.lt
    have C3 := HB3.out.below hb1 HB3.out.lt
    have G2 := G1.out.trans (hb1.mono G1.out.size)
    have K1 := Lib.hid C1; have K2 := Lib.hid C2; have K3 := Lib.hid C3
    obtain ⟨b10, b11, b12, b13⟩ := C1.all
    obtain ⟨b20, b21, b22, b23⟩ := C2.all
    have KG := Lib.hid G2
    clear C1 C2 C3 hb1 HS1 HS2 G2
    go_wp2_with fail
    go_meet
    case rel =>
      exact ⟨((K1.out.set _ _).other (by dsimp only; omega) _).other (by dsimp only; omega) _, ((K2.out.other (by dsimp only; omega) _).other (by dsimp only; omega) _).set _ _, (((K3.out.other (by dsimp only; omega) _).other (by dsimp only; omega) _).other (by dsimp only; omega) _).other (by dsimp only; omega) _,
        (((KG.out.setCell (by simp) _).setCell (by simp) _).setCell (by simp) _).setCell (by simp) _⟩
  case rest =>
    obtain ⟨B1, B2, B3, G1⟩ := hcut
    obtain ⟨w1, rfl⟩ : ∃ w1, w1 = wc := ⟨_, rfl⟩
    have R1 := r1.below G1
    have R2 := r2.below G1
    have AM := Lib.hid (amounts_any z1.natAbs z2.natAbs x1 x2 d1 d2 w1 R1 R2 (by omega) (by omega))
    have K1 := Lib.hid B1; have K2 := Lib.hid B2; have K3 := Lib.hid B3
    have KG := Lib.hid G1
    have HR := Lib.hid (And.intro r1 r2)
    obtain ⟨b10, b11, b12, b13⟩ := B1.all
    obtain ⟨b20, b21, b22, b23⟩ := B2.all
    clear B1 B2 B3 G1 R1 R2 r1 r2 h1 h2 HO1 HO2
    go_upto_if 15 with (first
      | (go_at_call 155; refine AM.out.mono ?_; rintro e w2 ⟨rfl, m, rfl⟩))
    go_cut [] (fun wx => ∃ (zp zq : Int) (xp xq : Option Addr) (dp dq : Nat), zp + zq = z1 + z2 ∧ zq.natAbs ≤ zp.natAbs ∧ lenB zp.natAbs ≤ 100000000 ∧ Rd w xp (lenB zp.natAbs) (dgi zp.natAbs) ∧ Rd w xq (lenB zq.natAbs) (dgi zq.natAbs) ∧
      Bx wx w.heap.size 24 (.bool (decide (zp < 0))) (.slice xp (lenB zp.natAbs) dp) ∧ Bx wx (w.heap.size + 1) 24 (.bool (decide (zq < 0))) (.slice xq (lenB zq.natAbs) dq) ∧
      Bx wx (w.heap.size + 1 + 1) 24 (.bool false) (.slice none 0 0) ∧ Below w.heap.size w wx)
    case first =>
      by_cases hlt : z1.natAbs < z2.natAbs
      · rw [show cmpZ (z1.natAbs : Int) (z2.natAbs : Int) = -1 from cmpZ_lt (by omega)]
        go_wp2_with fail
        go_meet
        case rel =>
          exact ⟨z2, z1, x2, x1, d2, d1, by omega, by omega, by omega, HR.out.2, HR.out.1,
            ((K1.out.drewN m |>.set _ _).other (by dsimp only; omega) _).other (by dsimp only; omega) _, ((K2.out.drewN m |>.other (by dsimp only; omega) _).other (by dsimp only; omega) _).set _ _,
            (((K3.out.drewN m |>.other (by dsimp only; omega) _).other (by dsimp only; omega) _).other (by dsimp only; omega) _).other (by dsimp only; omega) _,
            ((((bdrewN KG.out m).setCell (by simp) _).setCell (by simp) _).setCell (by simp) _).setCell (by simp) _⟩
      · have hc : decide (cmpZ (z1.natAbs : Int) (z2.natAbs : Int) < 0) = false := by
          refine decide_eq_false ?_
          rcases Nat.lt_or_ge z2.natAbs z1.natAbs with h | h
          · rw [cmpZ_gt (by omega)]; omega
          · rw [cmpZ_eq (by omega)]; omega
        rw [hc]
        clear hc
        go_wp2_with fail
        go_meet
        case rel => exact ⟨z1, z2, x1, x2, d1, d2, by omega, by omega, by omega, HR.out.1, HR.out.2, K1.out.drewN m, K2.out.drewN m, K3.out.drewN m, bdrewN KG.out m⟩
    case rest =>
      obtain ⟨zp, zq, xp, xq, dp, dq, ez, hle, hlp, rp, rq, B1, B2, B3, G1⟩ := hcut
      obtain ⟨w3, rfl⟩ : ∃ w3, w3 = wc := ⟨_, rfl⟩
      have K1 := Lib.hid B1; have K2 := Lib.hid B2; have K3 := Lib.hid B3
      have KG := Lib.hid G1
      have HP := Lib.hid rp; have HQ := Lib.hid rq
      have HE := Lib.hid ez; have HL := Lib.hid hle; have HLP := Lib.hid hlp
      have hsz : w.heap.size + 1 + 1 < w3.heap.size := B3.lt
      obtain ⟨b10, b11, b12, b13⟩ := B1.all
      obtain ⟨b20, b21, b22, b23⟩ := B2.all
      obtain ⟨sg, hsg⟩ : ∃ sg : Int, sg = if decide (zp < 0) = decide (zq < 0) then 1 else -1 := ⟨_, rfl⟩
      have HS := Lib.hid hsg
      clear B1 B2 B3 G1 rp rq ez hle hlp HR AM hsg
      go_upto_if 22 with (fail)
      go_cut [] (fun wx => Bx wx w.heap.size 24 (.bool (decide (zp < 0))) (.slice xp (lenB zp.natAbs) dp) ∧ Bx wx (w.heap.size + 1) 24 (.bool (decide (zq < 0))) (.slice xq (lenB zq.natAbs) dq) ∧
        Bx wx (w.heap.size + 1 + 1) 24 (.bool false) (.slice none 0 0) ∧ wx.rowIs w3.heap.size 2 1 (fun _ => .int .i64 sg) ∧ Below w.heap.size w wx)
      case first =>
        by_cases hs : decide (zp < 0) = decide (zq < 0)
        · have e0 : (!(decide (zp < 0) == decide (zq < 0))) = false := by rw [hs]; simp
          have S := Lib.hid (HS.out.trans (if_pos hs))
          rw [e0]
          clear e0 hs
          go_wp2_with fail
          go_meet
          case rel =>
            exact ⟨K1.out.alloc _, K2.out.alloc _, K3.out.alloc _, by
              have h := World.rowIs_alloc w3 #[.int .i64 1] 2 (fun _ => .int .i64 sg) (fun i hi => by
                match i, hi with
                | 0, _ => rw [S.out]; rfl)
              exact h, KG.out.alloc KG.out.size _⟩
        · have e0 : (!(decide (zp < 0) == decide (zq < 0))) = true := by simpa using hs
          have S := Lib.hid (HS.out.trans (if_neg hs))
          rw [e0]
          clear e0 hs
          go_wp2_with fail
          go_meet
          case rel =>
            exact ⟨K1.out.alloc _, K2.out.alloc _, K3.out.alloc _, by
              have h := World.rowIs_alloc w3 #[.int .i64 (-1)] 2 (fun _ => .int .i64 sg) (fun i hi => by
                match i, hi with
                | 0, _ => rw [S.out]; rfl)
              exact h, KG.out.alloc KG.out.size _⟩
      case rest =>
        obtain ⟨B1, B2, B3, BS, G1⟩ := hcut
        obtain ⟨w4, rfl⟩ : ∃ w4, w4 = wc := ⟨_, rfl⟩
        have HB1 := Lib.hid B1; have HB2 := Lib.hid B2; have HB3 := Lib.hid B3; have HBS := Lib.hid BS; have HG := Lib.hid G1
        clear K1 K2 K3 KG b10 b11 b12 b13 b20 b21 b22 b23 B1 B2 B3 BS G1
        have hcf := Lib.hid cf_add
        obtain ⟨F, hF⟩ : ∃ F : Nat → Int, F = fun k => part (dgi zp.natAbs) (lenB zp.natAbs) k + sg * part (dgi zq.natAbs) (lenB zq.natAbs) k := ⟨_, rfl⟩
        have hs1 : sg = 1 ∨ sg = -1 := by rw [HS.out]; split <;> simp
        have hlq : lenB zq.natAbs ≤ lenB zp.natAbs := lenB_mono HL.out
        have hlp : lenB zp.natAbs ≤ 100000000 := HLP.out
        have hsum : sumB F (lenB zp.natAbs + 1) = (zp.natAbs : Int) + sg * (zq.natAbs : Int) := by rw [hF]; exact addF_sum _ _ _ (by omega)
        obtain ⟨p1, p2, p3⟩ := add_plain zp zq sg HL.out HS.out
        have hcs := cS_fits (f := F) (n := lenB zp.natAbs + 1) (by rw [hsum]; exact p1) (by rw [hsum]; exact add_lt _ _ _ hs1 HL.out)
        have hcut : sumB (cD F) (lenB zp.natAbs + 1) = (zp.natAbs : Int) + sg * (zq.natAbs : Int) := hcs.2.trans hsum
        rw [HE.out] at p2 p3
        have CARRY := Lib.hid (fun (w' : World) (hb : Below w4.heap.size w4 w') => carry_any 157 #[.pointer (some ⟨w.heap.size, 0, none⟩), .pointer (some ⟨w3.heap.size, 0, none⟩), .pointer (some ⟨w.heap.size + 1, 0, none⟩)] (lenB zp.natAbs + 1) F (-1) 2 w' (by omega) cf_add
          (fun k hk w1 hb1 => by
            have hbb : Below w4.heap.size w4 w1 := hb.trans (hb1.mono hb.size)
            have := addFn w1 w.heap.size (w.heap.size + 1) w3.heap.size _ _ _ xp xq (dgi zp.natAbs) (dgi zq.natAbs) (lenB zp.natAbs) (lenB zq.natAbs) dp dq sg k (HB1.out.below hbb HB1.out.lt) (HB2.out.below hbb HB2.out.lt)
              ((hbb.cell (p := ⟨w3.heap.size, 0, none⟩) HBS.out.lt).trans (HBS.out.cell (i := 0) (by omega)))
              (HP.out.below (HG.out.trans (hbb.mono HG.out.size))) (HQ.out.below (HG.out.trans (hbb.mono HG.out.size))) (by omega) (by omega) (by omega) hs1 (part_rng _ _ _) (part_rng _ _ _)
            rw [hF]
            exact this) (fun k _ => by rw [hF]; exact addF_bd _ _ _ _ _ hs1 k) (by omega) (by omega) (by omega) (by omega))
        have HF := Lib.hid hF; clear hF
        have HC := Lib.hid hcut; clear hcut
        have HS1 := Lib.hid (fun (w' : World) (hb : Below w4.heap.size w4 w') => And.intro (HB1.out.below hb HB1.out.lt).c0 (HB1.out.below hb HB1.out.lt).c1)
        have HP2 := Lib.hid p2; have HP3 := Lib.hid p3
        clear hsum p1 p2 p3 hcs HE HS HL
        obtain ⟨N, hN⟩ : ∃ N, N = lenB zp.natAbs + 1 := ⟨_, rfl⟩
        have HN := Lib.hid hN
        rw [← hN] at CARRY HC
        have hNb : N ≤ 100000001 := by omega
        have ew : IntKind.i64.wrap ((lenB zp.natAbs : Int) + 1) = (N : Int) := by rw [IntWalk.i64_in _ (by omega)]; omega
        have HD := Lib.hid (show lenB (z1 + z2).natAbs ≤ N ∧ ∀ i, i < lenB (z1 + z2).natAbs → cD F i = dgi (z1 + z2).natAbs i by
          have h1 := lenB_le_of (cD_Dig F N)
          rw [HC.out, HP2.out] at h1
          refine ⟨h1, fun i hi => ?_⟩
          have h2 := dg_sumB (cD_Dig F N) i (by omega)
          rw [HC.out, HP2.out] at h2
          exact h2.symm)
        have CUT := Lib.hid (fun (w' : World) (g : Nat) (ho : Own 80 w' w4.heap.size (some ⟨g, 0, none⟩) N N (cD F)) => cut_any (decide (zp < 0)) (some ⟨g, 0, none⟩) N N (cD F) w' ho.rd (cD_Dig F N) (by omega) (Nat.le_refl _) (fun h => by cases h))
        rw [HC.out, HP2.out, HP3.out] at CUT
        clear hN
        go_upto_region 7 with (fail)
        refine wp_region_fresh 9 (spOf [(7, Sp.made (fun g : Nat => .slice (some ⟨g, 0, none⟩) N N) (fun g w' => Own 80 w' w4.heap.size (some ⟨g, 0, none⟩) N N (cD F))),
            (8, Sp.made (fun a : Option Addr => numV (decide (z1 + z2 < 0)) a (lenB (z1 + z2).natAbs) (lenB (z1 + z2).natAbs)) (fun a w' => Own 80 w' w4.heap.size a (lenB (z1 + z2).natAbs) (lenB (z1 + z2).natAbs) (dgi (z1 + z2).natAbs) ∧ (a = none → lenB (z1 + z2).natAbs = 0)))])
          (fun w' => Below w4.heap.size w4 w') (by kernel_rfl) (by kernel_rfl)
          (spOf_cons (Sp.made_keeps fun x w w' h hb => h.below hb) (spOf_cons (Sp.made_keeps fun x w w' h hb => ⟨h.1.below hb, h.2⟩) spOf_nil)) (fun _ _ h hb => h.trans (hb.mono h.size)) ((Below.refl _ _).drew) ?_
        simp only [List.take_succ_cons, List.take_zero, List.drop_succ_cons, List.drop_zero]
        (refine wpF_reads rfl rfl ?_ (fun w' hw' => ?_) ?_; rotate_left; · (have hb' := Has.world hw'; (skip); clear hw'; go_simp; try rfl))
        (refine wpF_reads rfl rfl ?_ (fun w' hw' => ?_) ?_; rotate_left; · (have hb' := Has.world hw'; (have hs := HS1.out _ hb'); clear hw'; go_simp; try rfl))
        (refine wpF_reads rfl rfl ?_ (fun w' hw' => ?_) ?_; rotate_left; · (have hb' := Has.world hw'; (skip); clear hw'; go_simp; try rfl))
        (refine wpF_reads rfl rfl ?_ (fun w' hw' => ?_) ?_; rotate_left; · (have hb' := Has.world hw'; (have hs := HS1.out _ hb'); clear hw'; go_simp; try rfl))
        (refine wpF_reads rfl rfl ?_ (fun w' hw' => ?_) ?_; rotate_left; · (have hb' := Has.world hw'; (skip); clear hw'; go_simp; try rfl))
        (refine wpF_reads rfl rfl ?_ (fun w' hw' => ?_) ?_; rotate_left; · (have hb' := Has.world hw'; (skip); clear hw'; go_simp; try rfl))
        (refine wpF_reads rfl rfl ?_ (fun w' hw' => ?_) ?_; rotate_left; · (have hb' := Has.world hw'; (skip); clear hw'; go_simp; try rfl))
        (refine wpF_spec rfl rfl (fun w' hw' => ?_) ?_; · (have hb' := Has.world hw'; go_simp; ((refine (CARRY.out w' hb').mono ?_; rintro e w'' ⟨rfl, ho, hb⟩; exact ⟨_, rfl, ⟨⟨_, rfl⟩, ⟨_, rfl, ho.mono hb'.size⟩⟩, hb⟩))))
        rintro _ ⟨g, rfl⟩
        (refine wpF_spec rfl rfl (fun w' hw' => ?_) ?_; · (have hb' := Has.world hw'; go_simp; ((have h7 := own_of (g := g) (N := N) (T := 80) (o := cD F) (b := w4.heap.size) (hw'.fact 7 (by kernel_rfl)); refine (CUT.out w' g h7).mono ?_; rintro e w'' ⟨rfl, hb⟩; exact ⟨_, rfl, ⟨⟨_, rfl⟩, ⟨_, rfl, (h7.below hb).cut HD.out.1 HD.out.2, fun h => by cases h⟩⟩, hb⟩))))
        rintro _ ⟨a, rfl⟩
        refine wpF_nil (fun w5 hb5 hF5 => ?_)
        have OA := own_num (T := 80) (b := w4.heap.size) (s := decide (z1 + z2 < 0)) (L := lenB (z1 + z2).natAbs) (o := dgi (z1 + z2).natAbs) (a := a) (p := fun x => x = none → lenB (z1 + z2).natAbs = 0) (hF5 8)
        have HO := Lib.hid OA
        have B3 := HB3.out.below hb5 HB3.out.lt
        have HB5 := Lib.hid B3
        obtain ⟨b30, b31, b32, b33⟩ := B3.all
        have HG5 := Lib.hid (HG.out.trans (hb5.mono HG.out.size))
        have hz4 := HB3.out.lt
        have hz5 := HG.out.size
        clear hF5 OA B3 hb5 HS1 CARRY CUT HD
        go_wp2_with fail
        refine bodyPost_ret (results_cell rfl _ _ _ _ _ _ _ rfl (HB5.out.set _ _) Tryz.underlying24 rfl (by kernel_rfl)) rfl ⟨a, rfl, ?_, HO.out.2, ?_⟩
        · exact ((HO.out.1.other (by dsimp only; omega) _).other (by dsimp only; omega) _).mono hz5
        · exact (HG5.out.setCell (by dsimp only; omega) _).setCell (by dsimp only; omega) _
def ResN (w : World) (z : Int) (e : Ending) (w' : World) : Prop :=
  ∃ a, e = .returned (numV (decide (z < 0)) a (lenB z.natAbs) (lenB z.natAbs)) ∧ Own 80 w' w.heap.size a (lenB z.natAbs) (lenB z.natAbs) (dgi z.natAbs) ∧ (a = none → lenB z.natAbs = 0) ∧ Below w.heap.size w w'
theorem add_res (s1 : Bool) (a1 : Option Addr) (n1 c1 : Nat) (o1 : Nat → Int) (s2 : Bool) (a2 : Option Addr) (n2 c2 : Nat) (o2 : Nat → Int) (w : World)
    (h1 : Rd w a1 n1 o1) (hn1 : n1 ≤ 100000000) (hc1 : n1 ≤ c1) (h2 : Rd w a2 n2 o2) (hn2 : n2 ≤ 100000000) (hc2 : n2 ≤ c2) :
    Calls Tryz.prog 96 #[numV s1 a1 n1 c1, numV s2 a2 n2 c2] w (ResN w (valN s1 n1 o1 + valN s2 n2 o2)) := add_any s1 a1 n1 c1 o1 s2 a2 n2 c2 o2 w h1 hn1 hc1 h2 hn2 hc2
theorem canon_ok (z : Int) : okN (decide (z < 0)) (lenB z.natAbs) (dgi z.natAbs) := by
  refine ⟨fun i hi => (dgi_Dig _ _ i hi).2, fun h => ?_, fun h => ?_⟩
  · have := lenB_eq_zero.1 h
    exact decide_eq_false (by omega)
  · have h1 := dg_last (m := z.natAbs) (fun e => by rw [e, lenB_zero] at h; omega)
    show ((dg z.natAbs (lenB z.natAbs - 1) : Nat) : Int) ≠ 0
    omega
theorem canon_val (z : Int) : valN (decide (z < 0)) (lenB z.natAbs) (dgi z.natAbs) = z := by
  unfold valN
  rw [if_pos (canon_ok z), sumB_dgi]
  by_cases h : z < 0
  · rw [if_pos (decide_eq_true h)]; omega
  · rw [if_neg (by simpa using h)]; omega
theorem canon_neg (z : Int) (s : Bool) (hs : s = decide (-z < 0)) : valN s (lenB z.natAbs) (dgi z.natAbs) = -z := by
  have h := canon_val (-z)
  rw [Int.natAbs_neg] at h
  rw [hs]; exact h
end Go.Proofs.YtklidpbdgliemaaGreatDoor.Limb
