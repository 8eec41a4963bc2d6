/-
  The walk of a Book's fillLimb: marks into all lists.
-/
import Derived.Test.YtefjjhfahebmeaaGreatDoorRtA
import Derived.Lib.ItoaMem
import Derived.Lib.SliceRun
import Derived.Deep.DeepCutAuto
import Derived.Deep.RegionHeld3
import Derived.Laws.OwnMore
set_option linter.unusedSimpArgs false
set_option linter.unusedVariables false
namespace Go.Proofs.YtefjjhfahebmeaaGreatDoor.Book
open Go.RowKit Go.Sort
set_option maxHeartbeats 400000 in
theorem fillByte (b : Nat) (w : World) (h : w.cell? ⟨b, 1, none⟩ = some (.slice none 0 0)) : Calls Tryz.prog 51 #[.pointer (some ⟨b, 0, none⟩)] w fun e w' => (∃ v, e = .returned v) ∧ w' = w := by
  go_enter Tryz.func51, Tryz.ntmps51
  go_wp2_with fail
  go_loopw [2] (fun i wr => i = .int .i64 0 ∧ wr = w) (fun _ _ => 0)
  case atStart => exact ⟨rfl, rfl⟩
  case round =>
    obtain ⟨rfl, rfl⟩ := hrel
    go_wp2
    (try simp only [Exit.inBlock, Exit.then])
    refine bodyPost_end (results_none rfl _ _ _) rfl ?_
    exact ⟨⟨_, rfl⟩, rfl⟩
set_option maxHeartbeats 400000 in
theorem growByte (b : Nat) (w : World) (h : w.cell? ⟨b, 1, none⟩ = some (.slice none 0 0)) : Calls Tryz.prog 63 #[.pointer (some ⟨b, 0, none⟩)] w fun e w' => (∃ v, e = .returned v) ∧ w' = w := by
  go_enter Tryz.func63, Tryz.ntmps63
  go_wp2_with fail
  go_loopw [2] (fun i wr => i = .int .i64 0 ∧ wr = w) (fun _ _ => 0)
  case atStart => exact ⟨rfl, rfl⟩
  case round =>
    obtain ⟨rfl, rfl⟩ := hrel
    go_wp2
    (try simp only [Exit.inBlock, Exit.then])
    refine bodyPost_end (results_none rfl _ _ _) rfl ?_
    exact ⟨⟨_, rfl⟩, rfl⟩
set_option maxHeartbeats 400000 in
theorem lookByte (b : Nat) (w : World) (h : w.cell? ⟨b, 1, none⟩ = some (.slice none 0 0)) : Calls Tryz.prog 75 #[.pointer (some ⟨b, 0, none⟩)] w fun e w' => e = .returned (.bool true) ∧ w' = w := by
  go_enter Tryz.func75, Tryz.ntmps75
  go_wp2_with fail
  go_loopw [3] (fun i wr => i = .int .i64 0 ∧ wr = w) (fun _ _ => 0)
  case atStart => exact ⟨rfl, rfl⟩
  case round =>
    obtain ⟨rfl, rfl⟩ := hrel
    go_wp2
    go_ret
    exact ⟨rfl, rfl⟩
set_option maxHeartbeats 400000 in
theorem fillText (b : Nat) (w : World) (h : w.cell? ⟨b, 3, none⟩ = some (.slice none 0 0)) : Calls Tryz.prog 53 #[.pointer (some ⟨b, 0, none⟩)] w fun e w' => (∃ v, e = .returned v) ∧ w' = w := by
  go_enter Tryz.func53, Tryz.ntmps53
  go_wp2_with fail
  go_loopw [2] (fun i wr => i = .int .i64 0 ∧ wr = w) (fun _ _ => 0)
  case atStart => exact ⟨rfl, rfl⟩
  case round =>
    obtain ⟨rfl, rfl⟩ := hrel
    go_wp2
    (try simp only [Exit.inBlock, Exit.then])
    refine bodyPost_end (results_none rfl _ _ _) rfl ?_
    exact ⟨⟨_, rfl⟩, rfl⟩
set_option maxHeartbeats 400000 in
theorem growText (b : Nat) (w : World) (h : w.cell? ⟨b, 3, none⟩ = some (.slice none 0 0)) : Calls Tryz.prog 65 #[.pointer (some ⟨b, 0, none⟩)] w fun e w' => (∃ v, e = .returned v) ∧ w' = w := by
  go_enter Tryz.func65, Tryz.ntmps65
  go_wp2_with fail
  go_loopw [2] (fun i wr => i = .int .i64 0 ∧ wr = w) (fun _ _ => 0)
  case atStart => exact ⟨rfl, rfl⟩
  case round =>
    obtain ⟨rfl, rfl⟩ := hrel
    go_wp2
    (try simp only [Exit.inBlock, Exit.then])
    refine bodyPost_end (results_none rfl _ _ _) rfl ?_
    exact ⟨⟨_, rfl⟩, rfl⟩
set_option maxHeartbeats 400000 in
theorem lookText (b : Nat) (w : World) (h : w.cell? ⟨b, 3, none⟩ = some (.slice none 0 0)) : Calls Tryz.prog 77 #[.pointer (some ⟨b, 0, none⟩)] w fun e w' => e = .returned (.bool true) ∧ w' = w := by
  go_enter Tryz.func77, Tryz.ntmps77
  go_wp2_with fail
  go_loopw [3] (fun i wr => i = .int .i64 0 ∧ wr = w) (fun _ _ => 0)
  case atStart => exact ⟨rfl, rfl⟩
  case round =>
    obtain ⟨rfl, rfl⟩ := hrel
    go_wp2
    go_ret
    exact ⟨rfl, rfl⟩
set_option maxHeartbeats 400000 in
theorem fillToken (b : Nat) (w : World) (h : w.cell? ⟨b, 4, none⟩ = some (.slice none 0 0)) : Calls Tryz.prog 54 #[.pointer (some ⟨b, 0, none⟩)] w fun e w' => (∃ v, e = .returned v) ∧ w' = w := by
  go_enter Tryz.func54, Tryz.ntmps54
  go_wp2_with fail
  go_loopw [2] (fun i wr => i = .int .i64 0 ∧ wr = w) (fun _ _ => 0)
  case atStart => exact ⟨rfl, rfl⟩
  case round =>
    obtain ⟨rfl, rfl⟩ := hrel
    go_wp2
    (try simp only [Exit.inBlock, Exit.then])
    refine bodyPost_end (results_none rfl _ _ _) rfl ?_
    exact ⟨⟨_, rfl⟩, rfl⟩
set_option maxHeartbeats 400000 in
theorem growToken (b : Nat) (w : World) (h : w.cell? ⟨b, 4, none⟩ = some (.slice none 0 0)) : Calls Tryz.prog 66 #[.pointer (some ⟨b, 0, none⟩)] w fun e w' => (∃ v, e = .returned v) ∧ w' = w := by
  go_enter Tryz.func66, Tryz.ntmps66
  go_wp2_with fail
  go_loopw [2] (fun i wr => i = .int .i64 0 ∧ wr = w) (fun _ _ => 0)
  case atStart => exact ⟨rfl, rfl⟩
  case round =>
    obtain ⟨rfl, rfl⟩ := hrel
    go_wp2
    (try simp only [Exit.inBlock, Exit.then])
    refine bodyPost_end (results_none rfl _ _ _) rfl ?_
    exact ⟨⟨_, rfl⟩, rfl⟩
set_option maxHeartbeats 400000 in
theorem lookToken (b : Nat) (w : World) (h : w.cell? ⟨b, 4, none⟩ = some (.slice none 0 0)) : Calls Tryz.prog 78 #[.pointer (some ⟨b, 0, none⟩)] w fun e w' => e = .returned (.bool true) ∧ w' = w := by
  go_enter Tryz.func78, Tryz.ntmps78
  go_wp2_with fail
  go_loopw [3] (fun i wr => i = .int .i64 0 ∧ wr = w) (fun _ _ => 0)
  case atStart => exact ⟨rfl, rfl⟩
  case round =>
    obtain ⟨rfl, rfl⟩ := hrel
    go_wp2
    go_ret
    exact ⟨rfl, rfl⟩
set_option maxHeartbeats 400000 in
theorem fillNum (b : Nat) (w : World) (h : w.cell? ⟨b, 5, none⟩ = some (.slice none 0 0)) : Calls Tryz.prog 55 #[.pointer (some ⟨b, 0, none⟩)] w fun e w' => (∃ v, e = .returned v) ∧ w' = w := by
  go_enter Tryz.func55, Tryz.ntmps55
  go_wp2_with fail
  go_loopw [2] (fun i wr => i = .int .i64 0 ∧ wr = w) (fun _ _ => 0)
  case atStart => exact ⟨rfl, rfl⟩
  case round =>
    obtain ⟨rfl, rfl⟩ := hrel
    go_wp2
    (try simp only [Exit.inBlock, Exit.then])
    refine bodyPost_end (results_none rfl _ _ _) rfl ?_
    exact ⟨⟨_, rfl⟩, rfl⟩
set_option maxHeartbeats 400000 in
theorem growNum (b : Nat) (w : World) (h : w.cell? ⟨b, 5, none⟩ = some (.slice none 0 0)) : Calls Tryz.prog 67 #[.pointer (some ⟨b, 0, none⟩)] w fun e w' => (∃ v, e = .returned v) ∧ w' = w := by
  go_enter Tryz.func67, Tryz.ntmps67
  go_wp2_with fail
  go_loopw [2] (fun i wr => i = .int .i64 0 ∧ wr = w) (fun _ _ => 0)
  case atStart => exact ⟨rfl, rfl⟩
  case round =>
    obtain ⟨rfl, rfl⟩ := hrel
    go_wp2
    (try simp only [Exit.inBlock, Exit.then])
    refine bodyPost_end (results_none rfl _ _ _) rfl ?_
    exact ⟨⟨_, rfl⟩, rfl⟩
set_option maxHeartbeats 400000 in
theorem lookNum (b : Nat) (w : World) (h : w.cell? ⟨b, 5, none⟩ = some (.slice none 0 0)) : Calls Tryz.prog 79 #[.pointer (some ⟨b, 0, none⟩)] w fun e w' => e = .returned (.bool true) ∧ w' = w := by
  go_enter Tryz.func79, Tryz.ntmps79
  go_wp2_with fail
  go_loopw [3] (fun i wr => i = .int .i64 0 ∧ wr = w) (fun _ _ => 0)
  case atStart => exact ⟨rfl, rfl⟩
  case round =>
    obtain ⟨rfl, rfl⟩ := hrel
    go_wp2
    go_ret
    exact ⟨rfl, rfl⟩
set_option maxHeartbeats 400000 in
theorem fillTerm (b : Nat) (w : World) (h : w.cell? ⟨b, 6, none⟩ = some (.slice none 0 0)) : Calls Tryz.prog 56 #[.pointer (some ⟨b, 0, none⟩)] w fun e w' => (∃ v, e = .returned v) ∧ w' = w := by
  go_enter Tryz.func56, Tryz.ntmps56
  go_wp2_with fail
  go_loopw [2] (fun i wr => i = .int .i64 0 ∧ wr = w) (fun _ _ => 0)
  case atStart => exact ⟨rfl, rfl⟩
  case round =>
    obtain ⟨rfl, rfl⟩ := hrel
    go_wp2
    (try simp only [Exit.inBlock, Exit.then])
    refine bodyPost_end (results_none rfl _ _ _) rfl ?_
    exact ⟨⟨_, rfl⟩, rfl⟩
set_option maxHeartbeats 400000 in
theorem growTerm (b : Nat) (w : World) (h : w.cell? ⟨b, 6, none⟩ = some (.slice none 0 0)) : Calls Tryz.prog 68 #[.pointer (some ⟨b, 0, none⟩)] w fun e w' => (∃ v, e = .returned v) ∧ w' = w := by
  go_enter Tryz.func68, Tryz.ntmps68
  go_wp2_with fail
  go_loopw [2] (fun i wr => i = .int .i64 0 ∧ wr = w) (fun _ _ => 0)
  case atStart => exact ⟨rfl, rfl⟩
  case round =>
    obtain ⟨rfl, rfl⟩ := hrel
    go_wp2
    (try simp only [Exit.inBlock, Exit.then])
    refine bodyPost_end (results_none rfl _ _ _) rfl ?_
    exact ⟨⟨_, rfl⟩, rfl⟩
set_option maxHeartbeats 400000 in
theorem lookTerm (b : Nat) (w : World) (h : w.cell? ⟨b, 6, none⟩ = some (.slice none 0 0)) : Calls Tryz.prog 80 #[.pointer (some ⟨b, 0, none⟩)] w fun e w' => e = .returned (.bool true) ∧ w' = w := by
  go_enter Tryz.func80, Tryz.ntmps80
  go_wp2_with fail
  go_loopw [3] (fun i wr => i = .int .i64 0 ∧ wr = w) (fun _ _ => 0)
  case atStart => exact ⟨rfl, rfl⟩
  case round =>
    obtain ⟨rfl, rfl⟩ := hrel
    go_wp2
    go_ret
    exact ⟨rfl, rfl⟩
set_option maxHeartbeats 400000 in
theorem fillFactor (b : Nat) (w : World) (h : w.cell? ⟨b, 7, none⟩ = some (.slice none 0 0)) : Calls Tryz.prog 57 #[.pointer (some ⟨b, 0, none⟩)] w fun e w' => (∃ v, e = .returned v) ∧ w' = w := by
  go_enter Tryz.func57, Tryz.ntmps57
  go_wp2_with fail
  go_loopw [2] (fun i wr => i = .int .i64 0 ∧ wr = w) (fun _ _ => 0)
  case atStart => exact ⟨rfl, rfl⟩
  case round =>
    obtain ⟨rfl, rfl⟩ := hrel
    go_wp2
    (try simp only [Exit.inBlock, Exit.then])
    refine bodyPost_end (results_none rfl _ _ _) rfl ?_
    exact ⟨⟨_, rfl⟩, rfl⟩
set_option maxHeartbeats 400000 in
theorem growFactor (b : Nat) (w : World) (h : w.cell? ⟨b, 7, none⟩ = some (.slice none 0 0)) : Calls Tryz.prog 69 #[.pointer (some ⟨b, 0, none⟩)] w fun e w' => (∃ v, e = .returned v) ∧ w' = w := by
  go_enter Tryz.func69, Tryz.ntmps69
  go_wp2_with fail
  go_loopw [2] (fun i wr => i = .int .i64 0 ∧ wr = w) (fun _ _ => 0)
  case atStart => exact ⟨rfl, rfl⟩
  case round =>
    obtain ⟨rfl, rfl⟩ := hrel
    go_wp2
    (try simp only [Exit.inBlock, Exit.then])
    refine bodyPost_end (results_none rfl _ _ _) rfl ?_
    exact ⟨⟨_, rfl⟩, rfl⟩
set_option maxHeartbeats 400000 in
theorem lookFactor (b : Nat) (w : World) (h : w.cell? ⟨b, 7, none⟩ = some (.slice none 0 0)) : Calls Tryz.prog 81 #[.pointer (some ⟨b, 0, none⟩)] w fun e w' => e = .returned (.bool true) ∧ w' = w := by
  go_enter Tryz.func81, Tryz.ntmps81
  go_wp2_with fail
  go_loopw [3] (fun i wr => i = .int .i64 0 ∧ wr = w) (fun _ _ => 0)
  case atStart => exact ⟨rfl, rfl⟩
  case round =>
    obtain ⟨rfl, rfl⟩ := hrel
    go_wp2
    go_ret
    exact ⟨rfl, rfl⟩
set_option maxHeartbeats 400000 in
theorem fillNode (b : Nat) (w : World) (h : w.cell? ⟨b, 8, none⟩ = some (.slice none 0 0)) : Calls Tryz.prog 58 #[.pointer (some ⟨b, 0, none⟩)] w fun e w' => (∃ v, e = .returned v) ∧ w' = w := by
  go_enter Tryz.func58, Tryz.ntmps58
  go_wp2_with fail
  go_loopw [2] (fun i wr => i = .int .i64 0 ∧ wr = w) (fun _ _ => 0)
  case atStart => exact ⟨rfl, rfl⟩
  case round =>
    obtain ⟨rfl, rfl⟩ := hrel
    go_wp2
    (try simp only [Exit.inBlock, Exit.then])
    refine bodyPost_end (results_none rfl _ _ _) rfl ?_
    exact ⟨⟨_, rfl⟩, rfl⟩
set_option maxHeartbeats 400000 in
theorem growNode (b : Nat) (w : World) (h : w.cell? ⟨b, 8, none⟩ = some (.slice none 0 0)) : Calls Tryz.prog 70 #[.pointer (some ⟨b, 0, none⟩)] w fun e w' => (∃ v, e = .returned v) ∧ w' = w := by
  go_enter Tryz.func70, Tryz.ntmps70
  go_wp2_with fail
  go_loopw [2] (fun i wr => i = .int .i64 0 ∧ wr = w) (fun _ _ => 0)
  case atStart => exact ⟨rfl, rfl⟩
  case round =>
    obtain ⟨rfl, rfl⟩ := hrel
    go_wp2
    (try simp only [Exit.inBlock, Exit.then])
    refine bodyPost_end (results_none rfl _ _ _) rfl ?_
    exact ⟨⟨_, rfl⟩, rfl⟩
set_option maxHeartbeats 400000 in
theorem lookNode (b : Nat) (w : World) (h : w.cell? ⟨b, 8, none⟩ = some (.slice none 0 0)) : Calls Tryz.prog 82 #[.pointer (some ⟨b, 0, none⟩)] w fun e w' => e = .returned (.bool true) ∧ w' = w := by
  go_enter Tryz.func82, Tryz.ntmps82
  go_wp2_with fail
  go_loopw [3] (fun i wr => i = .int .i64 0 ∧ wr = w) (fun _ _ => 0)
  case atStart => exact ⟨rfl, rfl⟩
  case round =>
    obtain ⟨rfl, rfl⟩ := hrel
    go_wp2
    go_ret
    exact ⟨rfl, rfl⟩
set_option maxHeartbeats 400000 in
theorem fillFunc (b : Nat) (w : World) (h : w.cell? ⟨b, 9, none⟩ = some (.slice none 0 0)) : Calls Tryz.prog 59 #[.pointer (some ⟨b, 0, none⟩)] w fun e w' => (∃ v, e = .returned v) ∧ w' = w := by
  go_enter Tryz.func59, Tryz.ntmps59
  go_wp2_with fail
  go_loopw [2] (fun i wr => i = .int .i64 0 ∧ wr = w) (fun _ _ => 0)
  case atStart => exact ⟨rfl, rfl⟩
  case round =>
    obtain ⟨rfl, rfl⟩ := hrel
    go_wp2
    (try simp only [Exit.inBlock, Exit.then])
    refine bodyPost_end (results_none rfl _ _ _) rfl ?_
    exact ⟨⟨_, rfl⟩, rfl⟩
set_option maxHeartbeats 400000 in
theorem growFunc (b : Nat) (w : World) (h : w.cell? ⟨b, 9, none⟩ = some (.slice none 0 0)) : Calls Tryz.prog 71 #[.pointer (some ⟨b, 0, none⟩)] w fun e w' => (∃ v, e = .returned v) ∧ w' = w := by
  go_enter Tryz.func71, Tryz.ntmps71
  go_wp2_with fail
  go_loopw [2] (fun i wr => i = .int .i64 0 ∧ wr = w) (fun _ _ => 0)
  case atStart => exact ⟨rfl, rfl⟩
  case round =>
    obtain ⟨rfl, rfl⟩ := hrel
    go_wp2
    (try simp only [Exit.inBlock, Exit.then])
    refine bodyPost_end (results_none rfl _ _ _) rfl ?_
    exact ⟨⟨_, rfl⟩, rfl⟩
set_option maxHeartbeats 400000 in
theorem lookFunc (b : Nat) (w : World) (h : w.cell? ⟨b, 9, none⟩ = some (.slice none 0 0)) : Calls Tryz.prog 83 #[.pointer (some ⟨b, 0, none⟩)] w fun e w' => e = .returned (.bool true) ∧ w' = w := by
  go_enter Tryz.func83, Tryz.ntmps83
  go_wp2_with fail
  go_loopw [3] (fun i wr => i = .int .i64 0 ∧ wr = w) (fun _ _ => 0)
  case atStart => exact ⟨rfl, rfl⟩
  case round =>
    obtain ⟨rfl, rfl⟩ := hrel
    go_wp2
    go_ret
    exact ⟨rfl, rfl⟩
set_option maxHeartbeats 400000 in
theorem fillValue (b : Nat) (w : World) (h : w.cell? ⟨b, 10, none⟩ = some (.slice none 0 0)) : Calls Tryz.prog 60 #[.pointer (some ⟨b, 0, none⟩)] w fun e w' => (∃ v, e = .returned v) ∧ w' = w := by
  go_enter Tryz.func60, Tryz.ntmps60
  go_wp2_with fail
  go_loopw [2] (fun i wr => i = .int .i64 0 ∧ wr = w) (fun _ _ => 0)
  case atStart => exact ⟨rfl, rfl⟩
  case round =>
    obtain ⟨rfl, rfl⟩ := hrel
    go_wp2
    (try simp only [Exit.inBlock, Exit.then])
    refine bodyPost_end (results_none rfl _ _ _) rfl ?_
    exact ⟨⟨_, rfl⟩, rfl⟩
set_option maxHeartbeats 400000 in
theorem growValue (b : Nat) (w : World) (h : w.cell? ⟨b, 10, none⟩ = some (.slice none 0 0)) : Calls Tryz.prog 72 #[.pointer (some ⟨b, 0, none⟩)] w fun e w' => (∃ v, e = .returned v) ∧ w' = w := by
  go_enter Tryz.func72, Tryz.ntmps72
  go_wp2_with fail
  go_loopw [2] (fun i wr => i = .int .i64 0 ∧ wr = w) (fun _ _ => 0)
  case atStart => exact ⟨rfl, rfl⟩
  case round =>
    obtain ⟨rfl, rfl⟩ := hrel
    go_wp2
    (try simp only [Exit.inBlock, Exit.then])
    refine bodyPost_end (results_none rfl _ _ _) rfl ?_
    exact ⟨⟨_, rfl⟩, rfl⟩
set_option maxHeartbeats 400000 in
theorem lookValue (b : Nat) (w : World) (h : w.cell? ⟨b, 10, none⟩ = some (.slice none 0 0)) : Calls Tryz.prog 84 #[.pointer (some ⟨b, 0, none⟩)] w fun e w' => e = .returned (.bool true) ∧ w' = w := by
  go_enter Tryz.func84, Tryz.ntmps84
  go_wp2_with fail
  go_loopw [3] (fun i wr => i = .int .i64 0 ∧ wr = w) (fun _ _ => 0)
  case atStart => exact ⟨rfl, rfl⟩
  case round =>
    obtain ⟨rfl, rfl⟩ := hrel
    go_wp2
    go_ret
    exact ⟨rfl, rfl⟩
set_option maxHeartbeats 400000 in
theorem fillInstr (b : Nat) (w : World) (h : w.cell? ⟨b, 11, none⟩ = some (.slice none 0 0)) : Calls Tryz.prog 61 #[.pointer (some ⟨b, 0, none⟩)] w fun e w' => (∃ v, e = .returned v) ∧ w' = w := by
  go_enter Tryz.func61, Tryz.ntmps61
  go_wp2_with fail
  go_loopw [2] (fun i wr => i = .int .i64 0 ∧ wr = w) (fun _ _ => 0)
  case atStart => exact ⟨rfl, rfl⟩
  case round =>
    obtain ⟨rfl, rfl⟩ := hrel
    go_wp2
    (try simp only [Exit.inBlock, Exit.then])
    refine bodyPost_end (results_none rfl _ _ _) rfl ?_
    exact ⟨⟨_, rfl⟩, rfl⟩
set_option maxHeartbeats 400000 in
theorem growInstr (b : Nat) (w : World) (h : w.cell? ⟨b, 11, none⟩ = some (.slice none 0 0)) : Calls Tryz.prog 73 #[.pointer (some ⟨b, 0, none⟩)] w fun e w' => (∃ v, e = .returned v) ∧ w' = w := by
  go_enter Tryz.func73, Tryz.ntmps73
  go_wp2_with fail
  go_loopw [2] (fun i wr => i = .int .i64 0 ∧ wr = w) (fun _ _ => 0)
  case atStart => exact ⟨rfl, rfl⟩
  case round =>
    obtain ⟨rfl, rfl⟩ := hrel
    go_wp2
    (try simp only [Exit.inBlock, Exit.then])
    refine bodyPost_end (results_none rfl _ _ _) rfl ?_
    exact ⟨⟨_, rfl⟩, rfl⟩
set_option maxHeartbeats 400000 in
theorem lookInstr (b : Nat) (w : World) (h : w.cell? ⟨b, 11, none⟩ = some (.slice none 0 0)) : Calls Tryz.prog 85 #[.pointer (some ⟨b, 0, none⟩)] w fun e w' => e = .returned (.bool true) ∧ w' = w := by
  go_enter Tryz.func85, Tryz.ntmps85
  go_wp2_with fail
  go_loopw [3] (fun i wr => i = .int .i64 0 ∧ wr = w) (fun _ _ => 0)
  case atStart => exact ⟨rfl, rfl⟩
  case round =>
    obtain ⟨rfl, rfl⟩ := hrel
    go_wp2
    go_ret
    exact ⟨rfl, rfl⟩
set_option maxHeartbeats 400000 in
theorem fillChunk (b : Nat) (w : World) (h : w.cell? ⟨b, 12, none⟩ = some (.slice none 0 0)) : Calls Tryz.prog 62 #[.pointer (some ⟨b, 0, none⟩)] w fun e w' => (∃ v, e = .returned v) ∧ w' = w := by
  go_enter Tryz.func62, Tryz.ntmps62
  go_wp2_with fail
  go_loopw [2] (fun i wr => i = .int .i64 0 ∧ wr = w) (fun _ _ => 0)
  case atStart => exact ⟨rfl, rfl⟩
  case round =>
    obtain ⟨rfl, rfl⟩ := hrel
    go_wp2
    (try simp only [Exit.inBlock, Exit.then])
    refine bodyPost_end (results_none rfl _ _ _) rfl ?_
    exact ⟨⟨_, rfl⟩, rfl⟩
set_option maxHeartbeats 400000 in
theorem growChunk (b : Nat) (w : World) (h : w.cell? ⟨b, 12, none⟩ = some (.slice none 0 0)) : Calls Tryz.prog 74 #[.pointer (some ⟨b, 0, none⟩)] w fun e w' => (∃ v, e = .returned v) ∧ w' = w := by
  go_enter Tryz.func74, Tryz.ntmps74
  go_wp2_with fail
  go_loopw [2] (fun i wr => i = .int .i64 0 ∧ wr = w) (fun _ _ => 0)
  case atStart => exact ⟨rfl, rfl⟩
  case round =>
    obtain ⟨rfl, rfl⟩ := hrel
    go_wp2
    (try simp only [Exit.inBlock, Exit.then])
    refine bodyPost_end (results_none rfl _ _ _) rfl ?_
    exact ⟨⟨_, rfl⟩, rfl⟩
set_option maxHeartbeats 400000 in
theorem lookChunk (b : Nat) (w : World) (h : w.cell? ⟨b, 12, none⟩ = some (.slice none 0 0)) : Calls Tryz.prog 86 #[.pointer (some ⟨b, 0, none⟩)] w fun e w' => e = .returned (.bool true) ∧ w' = w := by
  go_enter Tryz.func86, Tryz.ntmps86
  go_wp2_with fail
  go_loopw [3] (fun i wr => i = .int .i64 0 ∧ wr = w) (fun _ _ => 0)
  case atStart => exact ⟨rfl, rfl⟩
  case round =>
    obtain ⟨rfl, rfl⟩ := hrel
    go_wp2
    go_ret
    exact ⟨rfl, rfl⟩
end Go.Proofs.YtefjjhfahebmeaaGreatDoor.Book
namespace Go.Proofs.YtefjjhfahebmeaaGreatDoor.Limb
open Go.RowKit Go.Sort
set_option maxHeartbeats 400000 in
theorem cmp32_any (x y : Int) (w : World) :
    Calls Tryz.prog 143 #[.int .u32 x, .int .u32 y] w fun e w' => e = .returned (.int .i64 (cmpZ x y)) ∧ w' = w := by
  rcases Int.lt_trichotomy x y with h | h | h
  · have E := Lib.hid (cmpZ_lt h)
    go_enter Tryz.func143, Tryz.ntmps143
    go_wp2
    go_ret
    exact ⟨by rw [E.out]; rfl, rfl⟩
  · have E := Lib.hid (cmpZ_eq h)
    subst h
    go_enter Tryz.func143, Tryz.ntmps143
    go_wp2
    go_ret
    exact ⟨by rw [E.out]; rfl, rfl⟩
  · have E := Lib.hid (cmpZ_gt h)
    go_enter Tryz.func143, Tryz.ntmps143
    go_wp2
    go_ret
    exact ⟨by rw [E.out]; rfl, rfl⟩
set_option maxHeartbeats 400000 in
theorem cmp64_any (x y : Int) (w : World) :
    Calls Tryz.prog 142 #[.int .i64 x, .int .i64 y] w fun e w' => e = .returned (.int .i64 (cmpZ x y)) ∧ w' = w := by
  rcases Int.lt_trichotomy x y with h | h | h
  · have E := Lib.hid (cmpZ_lt h)
    go_enter Tryz.func142, Tryz.ntmps142
    go_wp2
    go_ret
    exact ⟨by rw [E.out]; rfl, rfl⟩
  · have E := Lib.hid (cmpZ_eq h)
    subst h
    go_enter Tryz.func142, Tryz.ntmps142
    go_wp2
    go_ret
    exact ⟨by rw [E.out]; rfl, rfl⟩
  · have E := Lib.hid (cmpZ_gt h)
    go_enter Tryz.func142, Tryz.ntmps142
    go_wp2
    go_ret
    exact ⟨by rw [E.out]; rfl, rfl⟩
end Go.Proofs.YtefjjhfahebmeaaGreatDoor.Limb
namespace Go.Proofs.YtefjjhfahebmeaaGreatDoor.Limb
theorem div_step {by' Q rest o : Int} (h0 : 0 < by') (hr : 0 ≤ rest ∧ rest < by') : (o + 1000000000 * (by' * Q + rest)) / by' = (rest * 1000000000 + o) / by' + 1000000000 * Q ∧ (o + 1000000000 * (by' * Q + rest)) % by' = (rest * 1000000000 + o) % by' := by
  have e : o + 1000000000 * (by' * Q + rest) = (rest * 1000000000 + o) + by' * (1000000000 * Q) := by
    have : by' * (1000000000 * Q) = 1000000000 * (by' * Q) := by rw [← Int.mul_assoc, Int.mul_comm by', Int.mul_assoc]
    rw [this, Int.mul_add]; omega
  rw [e]
  exact ⟨Int.add_mul_ediv_left _ _ (by omega), Int.add_mul_emod_self_left _ _ _⟩
theorem part_bd {by' rest o : Int} (h0 : 0 < by') (hr : 0 ≤ rest ∧ rest < by') (ho : 0 ≤ o ∧ o < 1000000000) : 0 ≤ (rest * 1000000000 + o) / by' ∧ (rest * 1000000000 + o) / by' < 1000000000 := by
  refine ⟨Int.ediv_nonneg (by omega) (by omega), Int.ediv_lt_of_lt_mul h0 ?_⟩
  have : rest * 1000000000 ≤ (by' - 1) * 1000000000 := Int.mul_le_mul_of_nonneg_right (by omega) (by omega)
  rw [Int.mul_comm]
  omega
structure ShortIn (o : Nat → Int) (n : Nat) (by' : Int) (i : Nat) (p : Nat → Int) (rest : Int) : Prop where
  quo : sumB (fun k => p (i + k)) (n - i) = sumB (fun k => o (i + k)) (n - i) / by'
  rst : rest = sumB (fun k => o (i + k)) (n - i) % by'
  dig : Dig p n
theorem ShortIn.bd {o p : Nat → Int} {n i : Nat} {by' rest : Int} (h : ShortIn o n by' i p rest) (h0 : 0 < by') : 0 ≤ rest ∧ rest < by' := by
  rw [h.rst]; exact ⟨Int.emod_nonneg _ (by omega), Int.emod_lt_of_pos _ h0⟩
theorem ShortIn.step {o p : Nat → Int} {n i : Nat} {by' rest : Int} (h : ShortIn o n by' (i + 1) p rest) (h0 : 0 < by') (hd : Dig o n) (hi : i < n) : ShortIn o n by' i (upd p i ((rest * 1000000000 + o i) / by')) ((rest * 1000000000 + o i) % by') := by
  have hb := h.bd h0
  have hs : ∀ f : Nat → Int, sumB (fun k => f (i + k)) (n - i) = f i + 1000000000 * sumB (fun k => f (i + 1 + k)) (n - (i + 1)) := by
    intro f
    rw [show n - i = (n - (i + 1)) + 1 by omega, sumB_shift]
    have e : (fun k => f (i + (k + 1))) = fun k => f (i + 1 + k) := by funext k; rw [show i + (k + 1) = i + 1 + k by omega]
    rw [e]; rfl
  have hq := h.quo
  have hr := h.rst
  generalize hA : sumB (fun k => o (i + 1 + k)) (n - (i + 1)) = A at hq hr
  have hA2 : A = by' * (A / by') + rest := by rw [hr]; exact (Int.mul_ediv_add_emod A by').symm
  obtain ⟨d1, d2⟩ := div_step (o := o i) (Q := A / by') h0 hb
  refine ⟨?_, ?_, upd_Dig h.dig i (part_bd h0 hb (hd i hi))⟩
  · rw [hs o, hs (upd p i _), hA]
    have e : (fun k => upd p i ((rest * 1000000000 + o i) / by') (i + 1 + k)) = fun k => p (i + 1 + k) := by funext k; exact upd_ne _ _ (by omega)
    rw [e, hq, upd_same]
    conv => rhs; rw [hA2]
    rw [d1]
  · rw [hs o, hA]
    conv => rhs; rw [hA2]
    rw [d2]
end Go.Proofs.YtefjjhfahebmeaaGreatDoor.Limb
namespace Go.Proofs.YtefjjhfahebmeaaGreatDoor.Limb
open Go.RowKit Go.Sort
set_option maxHeartbeats 1000000 in
theorem amounts_any (x y : Nat) (a b : Option Addr) (ca cb : Nat) (w : World) (ha : Rd w a (lenB x) (dgi x)) (hb : Rd w b (lenB y) (dgi y)) (hx : lenB x ≤ 1000000000) (hy : lenB y ≤ 1000000000) :
    Calls Tryz.prog 91 #[.slice a (lenB x) ca, .slice b (lenB y) cb] w fun e w' => e = .returned (.int .i64 (cmpZ x y)) ∧ ∃ m, w' = w.drewN m := by
  rcases Nat.lt_trichotomy (lenB x) (lenB y) with h | h | h
  · have E := Lib.hid (show cmpZ x y = -1 from cmpZ_lt (by have := cmp_len h; omega))
    have E2 := Lib.hid (show cmpZ (lenB x : Int) (lenB y) = -1 from cmpZ_lt (by omega))
    go_enter Tryz.func91, Tryz.ntmps91
    go_wp2_with fail
    refine (cmp64_any _ _ _).mono ?_
    rintro e w' ⟨rfl, hw⟩
    subst w'
    rw [E2.out]
    go_wp2
    go_ret
    exact ⟨by rw [E.out]; rfl, 0, rfl⟩
  · obtain ⟨k0, hD⟩ := topDiff_any (dgi x) (dgi y) (lenB x)
    have hC := topDiff_cmp (dgi_Dig x _) (dgi_Dig y _) hD
    rw [sumB_dgi, show sumB (dgi y) (lenB x) = y by rw [h]; exact sumB_dgi y] at hC
    have E := Lib.hid hC
    have E2 := Lib.hid (show cmpZ (lenB x : Int) (lenB y) = 0 from cmpZ_eq (by omega))
    obtain ⟨hk0, heq, hne⟩ := hD
    have EQ := Lib.hid heq
    have NE := Lib.hid hne
    have HL := Lib.hid h
    clear hC heq hne h
    go_enter Tryz.func91, Tryz.ntmps91
    go_wp2_with fail
    refine (cmp64_any _ _ _).mono ?_
    rintro e w' ⟨rfl, hw⟩
    subst w'
    rw [E2.out]
    go_wp2_with fail
    go_loopw [6] (fun i wr => ∃ j : Nat, k0 ≤ j ∧ j ≤ lenB x ∧ i = .int .i64 ((j : Int) - 1) ∧ ∃ m, wr = w.drewN m) (fun i _ => (1 + intOf i).toNat)
    case atStart => exact ⟨lenB x, hk0, Nat.le_refl _, rfl, 0, rfl⟩
    case round =>
      obtain ⟨j, hj, hjn, rfl, m0, rfl⟩ := hrel
      by_cases hj0 : j = 0
      · subst hj0
        have Z := Lib.hid (show cmpZ x y = 0 by rw [E.out, if_pos (by omega)])
        rw [show (((0 : Nat) : Int) - 1) = -1 from rfl]
        go_wp2
        go_ret
        exact ⟨by rw [Z.out]; rfl, m0, rfl⟩
      · obtain ⟨q, rfl⟩ : ∃ q, j = q + 1 := ⟨j - 1, by omega⟩
        rw [show (((q + 1 : Nat) : Int) - 1) = (q : Int) by omega]
        obtain ⟨b1, o1, rfl, hc1⟩ := ha.cells (by omega)
        obtain ⟨b2, o2, rfl, hc2⟩ := hb.cells (by have := HL.out; omega)
        have c1 := hc1 q (by omega)
        have c2 := hc2 q (by have := HL.out; omega)
        have lx : q < lenB x := by omega
        have ly : q < lenB y := by have := HL.out; omega
        clear hc1 hc2 ha hb
        by_cases hlk : k0 ≤ q
        · have hne : (dgi x q != dgi y q) = false := by rw [EQ.out q hlk (by omega)]; simp
          go_wp2
          go_quiet (fail)
          go_wp2
          go_roundw
          case rel => exact ⟨q, hlk, by omega, rfl, _, rfl⟩
          case measure => simp [intOf]; omega
        · have hkq : k0 = q + 1 := by omega
          have hnn : dgi x q ≠ dgi y q := by have := NE.out (by omega); rw [hkq] at this; simpa using this
          have hne : (dgi x q != dgi y q) = true := by simpa using hnn
          have Z := Lib.hid (show cmpZ x y = cmpZ (dgi x q) (dgi y q) by rw [E.out, if_neg (by omega), hkq]; rfl)
          clear hkq hnn
          go_wp2
          go_quiet (fail)
          go_wp2
          go_quiet (exact (cmp32_any (dgi x q) (dgi y q) _).mono fun e w'' ⟨he, hw⟩ => ⟨he, _, hw⟩)
          go_wp2
          go_ret
          exact ⟨by rw [Z.out]; rfl, _, by rw [World.drewN_drewN, World.drewN_drewN]⟩
  · have E := Lib.hid (show cmpZ x y = 1 from cmpZ_gt (by have := cmp_len h; omega))
    have E2 := Lib.hid (show cmpZ (lenB x : Int) (lenB y) = 1 from cmpZ_gt (by omega))
    go_enter Tryz.func91, Tryz.ntmps91
    go_wp2_with fail
    refine (cmp64_any _ _ _).mono ?_
    rintro e w' ⟨rfl, hw⟩
    subst w'
    rw [E2.out]
    go_wp2
    go_ret
    exact ⟨by rw [E.out]; rfl, 0, rfl⟩
end Go.Proofs.YtefjjhfahebmeaaGreatDoor.Limb
namespace Go.Proofs.YtefjjhfahebmeaaGreatDoor.Limb
def splice (o : Nat → Int) (i m : Nat) (r : Nat → Int) : Nat → Int := fun k => if i ≤ k ∧ k < i + m then r (k - i) else o k
theorem splice_in {o r : Nat → Int} {i m k : Nat} (h : k < m) : splice o i m r (i + k) = r k := by
  unfold splice; rw [if_pos ⟨by omega, by omega⟩, Nat.add_sub_cancel_left]
theorem splice_out {o r : Nat → Int} {i m k : Nat} (h : k < i ∨ i + m ≤ k) : splice o i m r k = o k := by
  unfold splice; rw [if_neg (by omega)]
theorem splice_Dig {o r : Nat → Int} {i m L : Nat} (ho : Dig o L) (hr : Dig r m) : Dig (splice o i m r) L := by
  intro k hk
  by_cases h : i ≤ k ∧ k < i + m
  · obtain ⟨j, rfl⟩ : ∃ j, k = i + j := ⟨k - i, by omega⟩
    rw [splice_in (by omega)]; exact hr j (by omega)
  · rw [splice_out (by omega)]; exact ho k hk
structure DivI (X V : Int) (n L M i : Nat) (up qp : Nat → Int) : Prop where
  udig : Dig up L
  qdig : Dig qp M
  qz : ∀ k, k < i → qp k = 0
  bal : X = V * ((pw i : Int) * sumB (fun k => qp (i + k)) (M - i)) + sumB up L
  lt : sumB up L < V * (pw i : Int)
def headV (up : Nat → Int) (n i : Nat) : Int := sumB (fun k => up (i + k)) (n + 1)
theorem mul_lt_of {a b c : Int} (hc : 0 < c) (h : c * a < c * b) : a < b := Int.lt_of_mul_lt_mul_left h (by omega)
theorem DivI.head {X V : Int} {n L M i : Nat} {up qp : Nat → Int} (D : DivI X V n L M (i + 1) up qp) (hi : i < M) (hL : M + n = L) (hV : V < (pw n : Int)) (hV0 : 0 < V) :
    0 ≤ headV up n i ∧ headV up n i < V * 1000000000 ∧ sumB up L = sumB up i + (pw i : Int) * headV up n i ∧ sumB (fun k => up (i + (n + 1) + k)) (L - i - (n + 1)) = 0 := by
  have hpi : (0 : Int) < (pw i : Int) := by have := pw_pos i; omega
  have hpn : (0 : Int) < (pw (n + 1) : Int) := by have := pw_pos (n + 1); omega
  have e1 : sumB up L = sumB up i + (pw i : Int) * sumB (fun k => up (i + k)) (L - i) := by
    have h := sumB_add up i (L - i)
    rwa [show i + (L - i) = L by omega] at h
  have e2 : sumB (fun k => up (i + k)) (L - i) = headV up n i + (pw (n + 1) : Int) * sumB (fun k => up (i + (n + 1) + k)) (L - i - (n + 1)) := by
    have h := sumB_add (fun k => up (i + k)) (n + 1) (L - i - (n + 1))
    rw [show n + 1 + (L - i - (n + 1)) = L - i by omega] at h
    rw [h]
    have : (fun k => up (i + (n + 1 + k))) = fun k => up (i + (n + 1) + k) := by funext k; rw [← Nat.add_assoc]
    rw [this]; rfl
  have b1 := (sumB_bd (o := up) (n := i) fun k hk => D.udig k (by omega))
  have b2 := (sumB_bd (o := fun k => up (i + k)) (n := n + 1) fun k hk => D.udig (i + k) (by omega))
  have b3 := (sumB_bd (o := fun k => up (i + (n + 1) + k)) (n := L - i - (n + 1)) fun k hk => D.udig _ (by omega))
  have h0 : 0 ≤ headV up n i := b2.1
  generalize hs : sumB (fun k => up (i + (n + 1) + k)) (L - i - (n + 1)) = s at e2 b3
  generalize ht : sumB (fun k => up (i + k)) (L - i) = t at e1 e2
  have hlt := D.lt
  rw [e1, pw_succ, Int.natCast_mul] at hlt
  have ht2 : t < V * 1000000000 := by
    refine mul_lt_of hpi ?_
    have : V * ((pw i : Int) * ((1000000000 : Nat) : Int)) = (pw i : Int) * (V * 1000000000) := by rw [Int.mul_left_comm]; rfl
    omega
  have hpn1 : (pw (n + 1) : Int) = (pw n : Int) * 1000000000 := by rw [pw_succ, Int.natCast_mul]; rfl
  have hs0 : s = 0 := by
    have hsn : 0 ≤ s := b3.1
    rcases Int.lt_or_le 0 s with h | h
    · have h1 : (pw (n + 1) : Int) * 1 ≤ (pw (n + 1) : Int) * s := Int.mul_le_mul_of_nonneg_left (by omega) (by omega)
      omega
    · omega
  subst hs0
  rw [Int.mul_zero, Int.add_zero] at e2
  rw [e2] at e1 ht2
  exact ⟨h0, ht2, e1, rfl⟩
theorem sum_splice {up r : Nat → Int} {n i L : Nat} (hL : i + (n + 1) ≤ L) (hz : sumB (fun k => up (i + (n + 1) + k)) (L - i - (n + 1)) = 0) : sumB (splice up i (n + 1) r) L = sumB up i + (pw i : Int) * sumB r (n + 1) := by
  have h1 := sumB_add (splice up i (n + 1) r) i (L - i)
  rw [show i + (L - i) = L by omega] at h1
  have h2 := sumB_add (fun k => splice up i (n + 1) r (i + k)) (n + 1) (L - i - (n + 1))
  rw [show n + 1 + (L - i - (n + 1)) = L - i by omega] at h2
  rw [h1, h2]
  have e1 : sumB (splice up i (n + 1) r) i = sumB up i := sumB_congr fun k hk => splice_out (Or.inl hk)
  have e2 : sumB (fun k => splice up i (n + 1) r (i + k)) (n + 1) = sumB r (n + 1) := sumB_congr fun k hk => splice_in hk
  have e3 : sumB (fun k => splice up i (n + 1) r (i + (n + 1 + k))) (L - i - (n + 1)) = 0 := by
    rw [← hz]
    refine sumB_congr fun k hk => ?_
    rw [splice_out (Or.inr (by omega))]
    congr 1; omega
  rw [e1, e2, e3]; simp
theorem DivI.step {X V g : Int} {n L M i : Nat} {up qp r : Nat → Int} (D : DivI X V n L M (i + 1) up qp) (hi : i < M) (hL : M + n = L) (hV : V < (pw n : Int)) (hV0 : 0 < V)
    (hg : 0 ≤ g ∧ g < 1000000000) (hr : Dig r (n + 1)) (hs : sumB r (n + 1) = headV up n i - V * g) (hlt : headV up n i - V * g < V) : DivI X V n L M i (splice up i (n + 1) r) (upd qp i g) := by
  obtain ⟨h0, h1, h2, h3⟩ := D.head hi hL hV hV0
  have hS := sum_splice (r := r) (by omega) h3
  have hpi : (0 : Int) < (pw i : Int) := by have := pw_pos i; omega
  have b1 := (sumB_bd (o := up) (n := i) fun k hk => D.udig k (by omega))
  refine ⟨splice_Dig D.udig hr, upd_Dig D.qdig i hg, fun k hk => by rw [upd_ne _ _ (by omega)]; exact D.qz k (by omega), ?_, ?_⟩
  · rw [hS, hs]
    have hq : sumB (fun k => upd qp i g (i + k)) (M - i) = g + 1000000000 * sumB (fun k => qp (i + 1 + k)) (M - (i + 1)) := by
      rw [show M - i = (M - (i + 1)) + 1 by omega, sumB_shift]
      have e : (fun k => upd qp i g (i + (k + 1))) = fun k => qp (i + 1 + k) := by
        funext k
        rw [upd_ne _ _ (by omega), show i + (k + 1) = i + 1 + k by omega]
      rw [e, Nat.add_zero, upd_same]
    have hb := D.bal
    rw [h2, pw_succ, Int.natCast_mul] at hb
    rw [hq]
    generalize sumB (fun k => qp (i + 1 + k)) (M - (i + 1)) = Q at hb ⊢
    generalize headV up n i = h at hb ⊢
    generalize sumB up i = lo at hb ⊢
    generalize (pw i : Int) = P at hb ⊢
    rw [hb]
    have a1 : P * (V * g) = V * (P * g) := Int.mul_left_comm _ _ _
    have a2 : V * (P * ((1000000000 : Nat) : Int) * Q) = V * (P * (1000000000 * Q)) := by rw [Int.mul_assoc P]; rfl
    simp only [Int.mul_add, Int.mul_sub]
    rw [a1, a2]
    omega
  · rw [hS, hs]
    have : (pw i : Int) * (headV up n i - V * g) ≤ (pw i : Int) * (V - 1) := Int.mul_le_mul_of_nonneg_left (by omega) (by omega)
    rw [Int.mul_sub (pw i : Int) V 1, Int.mul_comm (pw i : Int) V] at this
    omega
theorem splice_self (up : Nat → Int) (i m : Nat) : splice up i m (fun k => up (i + k)) = up := by
  funext k
  by_cases h : i ≤ k ∧ k < i + m
  · obtain ⟨j, rfl⟩ : ∃ j, k = i + j := ⟨k - i, by omega⟩
    rw [splice_in (by omega)]
  · rw [splice_out (by omega)]
theorem DivI.skip {X V : Int} {n L M i : Nat} {up qp : Nat → Int} (D : DivI X V n L M (i + 1) up qp) (hi : i < M) (hL : M + n = L) (hV : V < (pw n : Int)) (hV0 : 0 < V) (hq : headV up n i / V ≤ 0) : DivI X V n L M i up qp := by
  have h0 := (D.head hi hL hV hV0).1
  have h1 : 0 ≤ headV up n i / V := Int.ediv_nonneg h0 (by omega)
  have h2 := Int.lt_ediv_add_one_mul_self (headV up n i) hV0
  rw [show headV up n i / V = 0 by omega] at h2
  have h := D.step (g := 0) (r := fun k => up (i + k)) hi hL hV hV0 ⟨by omega, by omega⟩ (fun k hk => D.udig (i + k) (by omega)) (by rw [Int.mul_zero, Int.sub_zero]; rfl) (by rw [Int.mul_zero]; omega)
  rw [splice_self] at h
  have e : upd qp i 0 = qp := by
    funext k
    by_cases hk : k = i
    · subst hk; rw [upd_same, D.qz k (by omega)]
    · rw [upd_ne _ _ hk]
  rwa [e] at h
end Go.Proofs.YtefjjhfahebmeaaGreatDoor.Limb
namespace Go.Proofs.YtefjjhfahebmeaaGreatDoor.Limb
open Go.RowKit Go.Sort Go.ChangeShapes Go.WideShapes Go.ChangeAt
theorem cellsNum : Tryz.prog.cellsOf 24 = 2 := by kernel_rfl
theorem cellsBool : Tryz.prog.cellsOf 4 = 1 := by kernel_rfl
theorem cellsList : Tryz.prog.cellsOf 22 = 1 := by kernel_rfl
theorem cellsPart : Tryz.prog.cellsOf 54 = 1 := by kernel_rfl
theorem open_list {H : Type} {enc : TypeId × Value → H} {W : World} {sp : Nat → Bool} {hd : Bool} {fuel : Nat} {v : Value} {x : DataW H × List MemPlace}
    (h : DataW.trod enc Tryz.prog W 0 sp hd fuel 22 [v] = some x) : ∃ a n c o, v = .slice a n c ∧ Rd W a n o ∧ n ≤ c := by
  rcases open_ints Tryz.underlying22 Tryz.underlying54 cellsPart h with ⟨e, _⟩ | ⟨a, len, cap, zs, e, _, hl, _, hz, _, hc, hw⟩
  · simp only [List.cons.injEq, and_true] at e
    exact ⟨none, 0, 0, fun _ => 0, e, Rd.nil _ _ _, Nat.le_refl _⟩
  · simp only [List.cons.injEq, and_true] at e
    have hlz : len ≤ zs.length := by rw [hz]; split <;> omega
    refine ⟨some a, len, cap, fun i => zs.getD i 0, e, ⟨fun hn => ?_, fun i hi => ?_⟩, hl⟩
    · obtain ⟨b, off, rfl, h3⟩ := ints_at hc (by omega)
      exact ⟨b, off, rfl, fun i hi => h3 i (by omega)⟩
    · have hmem : zs.getD i 0 ∈ zs := by
        rw [List.getD_eq_getElem?_getD, List.getElem?_eq_getElem (by omega)]
        exact List.getElem_mem _
      exact bounds_u32 (hw _ hmem)
set_option maxRecDepth 100000 in
theorem open_num {H : Type} {enc : TypeId × Value → H} {W : World} {base : Nat} {r : Reach} {sp : Nat → Bool} {hd : Bool} {v : Value} {d : DataW H} {p : List MemPlace}
    (hok : Value.okWide Tryz.prog W r base 24 v) (h : DataW.Trod enc Tryz.prog W 0 sp hd 24 v d p) : ∃ s a n c o, v = numV s a n c ∧ Rd W a n o ∧ n ≤ c := by
  obtain ⟨cs, rfl, _⟩ : ∃ cs, v = .agg cs ∧ True := by
    unfold Value.okWide at hok
    rw [Tryz.underlying24] at hok
    obtain ⟨cs, h1, _⟩ := hok
    exact ⟨cs, h1, trivial⟩
  obtain ⟨fuel, hf⟩ := h
  obtain ⟨xs, m, _, _, hlen, hxl, hfld⟩ := DataW.trod_struct Tryz.underlying24 hf
  have hlen : cs.toList.length = 2 := hlen.trans cellsNum
  obtain ⟨l⟩ := cs
  obtain ⟨x0, x1, rfl⟩ : ∃ x0 x1, l = [x0, x1] := by
    match l, hlen with
    | [x0, x1], _ => exact ⟨x0, x1, rfl⟩
  have h0 : DataW.trod enc Tryz.prog W 0 sp hd m 4 (([x0, x1].drop 0).take (Tryz.prog.cellsOf 4)) = xs[0]? := hfld 0 _ rfl
  have h1 : DataW.trod enc Tryz.prog W 0 sp hd m 22 (([x0, x1].drop 1).take (Tryz.prog.cellsOf 22)) = xs[1]? := hfld 1 _ rfl
  have hx : xs.length = 2 := hxl
  rw [List.getElem?_eq_getElem (by omega)] at h0
  rw [List.getElem?_eq_getElem (by omega)] at h1
  rw [cellsBool] at h0
  rw [cellsList] at h1
  obtain ⟨s, e0, _⟩ := DataW.trod_bool Tryz.underlying4 h0
  obtain ⟨a, n, c, o, e1, hr, hl⟩ := open_list (v := x1) h1
  have e0 : x0 = .bool s := by
    have : [x0] = [Value.bool s] := e0
    simpa using this
  exact ⟨s, a, n, c, o, by rw [e0, e1], hr, hl⟩
end Go.Proofs.YtefjjhfahebmeaaGreatDoor.Limb
namespace Go.Proofs.YtefjjhfahebmeaaGreatDoor.Limb
open Go.RowKit Go.Sort
set_option maxHeartbeats 400000 in
theorem chk_fn (x : Int) (w : World) :
    Calls Tryz.prog 40 #[.int .u32 x] w fun e w' => e = .returned (.bool (decide (1000000000 ≤ x))) ∧ w' = w := by
  by_cases h : 1000000000 ≤ x
  · have E := Lib.hid (decide_eq_true h)
    go_enter Tryz.func40, Tryz.ntmps40
    go_wp2
    go_ret
    exact ⟨by rw [E.out]; rfl, rfl⟩
  · have E := Lib.hid (decide_eq_false h)
    go_enter Tryz.func40, Tryz.ntmps40
    go_wp2
    go_ret
    exact ⟨by rw [E.out]; rfl, rfl⟩
theorem cf_chk (args : Array Value) (w : World) : (callFunc 40 args).run Tryz.prog w = .ok (.enter 40 args) w := by kernel_rfl
set_option maxHeartbeats 1000000 in
theorem idx_any (a : Option Addr) (n cap k0 : Nat) (o : Nat → Int) (w : World) (h : Rd w a n o) (hn : n ≤ 1000000000) (hk0 : k0 ≤ n) (hf : ∀ i, i < k0 → o i < 1000000000) (hb : k0 < n → 1000000000 ≤ o k0) :
    Calls Tryz.prog 108 #[.slice a n cap, .func (.func 40) #[] #[]] w fun e w' => e = .returned (.int .i64 (if k0 < n then (k0 : Int) else -1)) ∧ ∃ m, w' = w.drewN m := by
  have HF := Lib.hid hf; clear hf
  have HB := Lib.hid hb; clear hb
  have hcf := cf_chk
  go_enter Tryz.func108, Tryz.ntmps108
  go_wp2
  go_loopw [8] (fun i wr => ∃ j : Nat, j ≤ k0 ∧ i = .int .i64 j ∧ ∃ m, wr = w.drewN m) (fun i _ => n - (intOf i).toNat)
  case atStart => exact ⟨0, by omega, rfl, 0, rfl⟩
  case round =>
    obtain ⟨j, hj, rfl, m0, rfl⟩ := hrel
    by_cases hjn : j < n
    · obtain ⟨b, off, rfl, hc⟩ := h.cells (by omega)
      have c1 := hc j hjn
      clear hc h
      by_cases hjk : j < k0
      · have D := HF.out j hjk
        have E : decide (1000000000 ≤ o j) = false := by simp; omega
        go_wp2_with fail
        refine (chk_fn (o j) _).mono ?_
        rintro e w' ⟨rfl, hw⟩
        subst w'
        rw [E]
        go_wp2
        go_roundw
        case rel => exact ⟨j + 1, by omega, by go_num, m0, rfl⟩
        case measure => simp [intOf]; omega
      · obtain rfl : j = k0 := by omega
        have D := HB.out hjn
        have E : decide (1000000000 ≤ o j) = true := by simp; omega
        go_wp2_with fail
        refine (chk_fn (o j) _).mono ?_
        rintro e w' ⟨rfl, hw⟩
        subst w'
        rw [E]
        go_wp2
        go_ret
        exact ⟨by first | rfl | (rw [if_pos hjn]; rfl), m0, rfl⟩
    · have hkn : ¬ k0 < n := by omega
      clear h
      go_wp2
      go_ret
      exact ⟨by first | rfl | (rw [if_neg hkn]; rfl), m0, rfl⟩
set_option maxHeartbeats 400000 in
theorem has_any (a : Option Addr) (n cap k0 : Nat) (o : Nat → Int) (w : World) (h : Rd w a n o) (hn : n ≤ 1000000000) (hk0 : k0 ≤ n) (hf : ∀ i, i < k0 → o i < 1000000000) (hb : k0 < n → 1000000000 ≤ o k0) :
    Calls Tryz.prog 39 #[.slice a n cap, .func (.func 40) #[] #[]] w fun e w' => e = .returned (.bool (decide (k0 < n))) ∧ ∃ m, w' = w.drewN m := by
  have C := Lib.hid (idx_any a n cap k0 o w h hn hk0 hf hb)
  clear h hf hb
  by_cases hk : k0 < n
  · have E := Lib.hid (decide_eq_true hk)
    rw [if_pos hk] at C
    go_enter Tryz.func39, Tryz.ntmps39
    go_wp2_with fail
    refine C.out.mono ?_
    rintro e w' ⟨rfl, m, rfl⟩
    go_wp2
    go_ret
    exact ⟨by rw [E.out]; rfl, m, rfl⟩
  · have E := Lib.hid (decide_eq_false hk)
    rw [if_neg hk] at C
    go_enter Tryz.func39, Tryz.ntmps39
    go_wp2_with fail
    refine C.out.mono ?_
    rintro e w' ⟨rfl, m, rfl⟩
    go_wp2
    go_ret
    exact ⟨by rw [E.out]; rfl, m, rfl⟩
theorem first_bad (o : Nat → Int) (n : Nat) : ∃ k, k ≤ n ∧ (∀ i, i < k → o i < 1000000000) ∧ (k < n → 1000000000 ≤ o k) := by
  induction n with
  | zero => exact ⟨0, by omega, fun i h => by omega, fun h => by omega⟩
  | succ n ih =>
    obtain ⟨k, h1, h2, h3⟩ := ih
    by_cases hk : k < n
    · exact ⟨k, by omega, h2, fun _ => h3 hk⟩
    · obtain rfl : k = n := by omega
      by_cases h : o k < 1000000000
      · exact ⟨k + 1, by omega, fun i hi => by
          by_cases e : i = k
          · rw [e]; exact h
          · exact h2 i (by omega), fun h => by omega⟩
      · exact ⟨k, by omega, h2, fun _ => by omega⟩
open Classical in
set_option maxHeartbeats 1000000 in
theorem check_any (s : Bool) (a : Option Addr) (n cap : Nat) (o : Nat → Int) (w : World) (h : Rd w a n o) (hn : n ≤ 1000000000) :
    Calls Tryz.prog 14 #[numV s a n cap] w fun e w' => e = .returned (.bool (decide (okN s n o))) ∧ Below w.heap.size w w' := by
  obtain ⟨k0, hk0, hf, hb⟩ := first_bad o n
  have C := Lib.hid (fun (w2 : World) (hw : Below w.heap.size w w2) => has_any a n cap k0 o w2 (h.below hw) hn hk0 hf hb)
  have hcf := cf_chk
  by_cases hk : k0 < n
  · have E := Lib.hid (show decide (okN s n o) = false from decide_eq_false fun hh => by have := hh.1 k0 hk; have := hb hk; omega)
    have D : decide (k0 < n) = true := decide_eq_true hk
    clear hf hb h
    go_enter Tryz.func14, Tryz.ntmps14
    go_wp2_with fail
    refine (C.out _ ?_).mono ?_
    · (repeat' (first | (with_reducible exact Below.refl _ _) | (with_reducible assumption) | (with_reducible refine Below.alloc ?_ ?_ _) | (with_reducible refine Below.drew ?_) | (with_reducible refine bdrewN ?_ _) | (with_reducible refine Below.setCell ?_ ?_ _) | (with_reducible refine Below.frame ?_ _) | go_size))
    rintro e w' ⟨rfl, m, rfl⟩
    rw [D]
    go_wp2
    go_ret
    exact ⟨by rw [E.out]; rfl, by (repeat' (first | (with_reducible exact Below.refl _ _) | (with_reducible assumption) | (with_reducible refine Below.alloc ?_ ?_ _) | (with_reducible refine Below.drew ?_) | (with_reducible refine bdrewN ?_ _) | (with_reducible refine Below.setCell ?_ ?_ _) | (with_reducible refine Below.frame ?_ _) | go_size))⟩
  · have D : decide (k0 < n) = false := decide_eq_false hk
    have hfi : ∀ i, i < n → o i < 1000000000 := fun i hi => hf i (by omega)
    clear hb
    by_cases h0 : n = 0
    · subst h0
      have E := Lib.hid (show decide (okN s 0 o) = !s by
        cases s with
        | false => exact decide_eq_true ⟨hfi, fun _ => rfl, fun h => by omega⟩
        | true => exact decide_eq_false fun hh => by have := hh.2.1 rfl; contradiction)
      clear hf h hfi
      go_enter Tryz.func14, Tryz.ntmps14
      go_wp2_with fail
      refine (C.out _ ?_).mono ?_
      · (repeat' (first | (with_reducible exact Below.refl _ _) | (with_reducible assumption) | (with_reducible refine Below.alloc ?_ ?_ _) | (with_reducible refine Below.drew ?_) | (with_reducible refine bdrewN ?_ _) | (with_reducible refine Below.setCell ?_ ?_ _) | (with_reducible refine Below.frame ?_ _) | go_size))
      rintro e w' ⟨rfl, m, rfl⟩
      rw [D]
      cases s with
      | false =>
        go_wp2
        go_ret
        exact ⟨by rw [E.out]; rfl, by (repeat' (first | (with_reducible exact Below.refl _ _) | (with_reducible assumption) | (with_reducible refine Below.alloc ?_ ?_ _) | (with_reducible refine Below.drew ?_) | (with_reducible refine bdrewN ?_ _) | (with_reducible refine Below.setCell ?_ ?_ _) | (with_reducible refine Below.frame ?_ _) | go_size))⟩
      | true =>
        go_wp2
        go_ret
        exact ⟨by rw [E.out]; rfl, by (repeat' (first | (with_reducible exact Below.refl _ _) | (with_reducible assumption) | (with_reducible refine Below.alloc ?_ ?_ _) | (with_reducible refine Below.drew ?_) | (with_reducible refine bdrewN ?_ _) | (with_reducible refine Below.setCell ?_ ?_ _) | (with_reducible refine Below.frame ?_ _) | go_size))⟩
    · obtain ⟨b, off, rfl, hc⟩ := h.cells (by omega)
      have c1 := hc (n - 1) (by omega)
      have E := Lib.hid (show decide (okN s n o) = (o (n - 1) != 0) by
        by_cases hz : o (n - 1) = 0
        · rw [hz]; exact decide_eq_false fun hh => hh.2.2 (by omega) hz
        · rw [show (o (n - 1) != 0) = true by simpa using hz]
          exact decide_eq_true ⟨hfi, fun h => by omega, fun _ => hz⟩)
      have hlt : b < w.heap.size := block_lt_of_cell c1
      obtain ⟨q, rfl⟩ : ∃ q, n = q + 1 := ⟨n - 1, by omega⟩
      rw [Nat.add_sub_cancel] at c1 E
      have ex : ((q + 1 : Nat) : Int) - 1 = (q : Int) := by omega
      have ez : (decide (((q + 1 : Nat) : Int) = 0)) = false := by simp; omega
      clear hf h hfi hc
      go_enter Tryz.func14, Tryz.ntmps14
      go_wp2_with fail
      refine (C.out _ ?_).mono ?_
      · (repeat' (first | (with_reducible exact Below.refl _ _) | (with_reducible assumption) | (with_reducible refine Below.alloc ?_ ?_ _) | (with_reducible refine Below.drew ?_) | (with_reducible refine bdrewN ?_ _) | (with_reducible refine Below.setCell ?_ ?_ _) | (with_reducible refine Below.frame ?_ _) | go_size))
      rintro e w' ⟨rfl, m, rfl⟩
      rw [D]
      go_wp2
      go_ret
      exact ⟨by rw [E.out]; rfl, by (repeat' (first | (with_reducible exact Below.refl _ _) | (with_reducible assumption) | (with_reducible refine Below.alloc ?_ ?_ _) | (with_reducible refine Below.drew ?_) | (with_reducible refine bdrewN ?_ _) | (with_reducible refine Below.setCell ?_ ?_ _) | (with_reducible refine Below.frame ?_ _) | go_size))⟩
end Go.Proofs.YtefjjhfahebmeaaGreatDoor.Limb
namespace Go.Proofs.YtefjjhfahebmeaaGreatDoor.Limb
def q0 (x y : Int) : Int := if decide (x < 0) = decide (y < 0) then ((x.natAbs / y.natAbs : Nat) : Int) else -((x.natAbs / y.natAbs : Nat) : Int)
def r0 (x y : Int) : Int := if x < 0 then -((x.natAbs % y.natAbs : Nat) : Int) else ((x.natAbs % y.natAbs : Nat) : Int)
theorem div_pos {x y q r : Int} (hy : 0 < y) (e : x = y * q + r) (h0 : 0 ≤ r) (h1 : r < y) : x / y = q ∧ x % y = r := by
  have := (Int.ediv_emod_unique hy (a := x) (r := r) (q := q)).2 ⟨by omega, h0, h1⟩
  exact this
end Go.Proofs.YtefjjhfahebmeaaGreatDoor.Limb
namespace Go.Proofs.YtefjjhfahebmeaaGreatDoor.Limb
def okF (s1 : Bool) (n1 : Nat) (o1 : Nat → Int) (s2 : Bool) (n2 : Nat) (o2 : Nat → Int) : Prop :=
  okN s1 n1 o1 ∧ okN s2 n2 o2 ∧ 0 < valN s2 n2 o2 ∧ Int.gcd (valN s1 n1 o1) (valN s2 n2 o2) = 1
open Classical in
noncomputable def valF (s1 : Bool) (n1 : Nat) (o1 : Nat → Int) (s2 : Bool) (n2 : Nat) (o2 : Nat → Int) : Rat := if okF s1 n1 o1 s2 n2 o2 then Rat.divInt (valN s1 n1 o1) (valN s2 n2 o2) else 0
end Go.Proofs.YtefjjhfahebmeaaGreatDoor.Limb
namespace Go.Proofs.YtefjjhfahebmeaaGreatDoor.Limb
open Go.RowKit Go.Sort
def Bx (w : World) (b : Nat) (t : TypeId) (x y : Value) : Prop := w.heap[b]? = some (.cells #[x, y] t (0, 0))
def bxf (x y : Value) (i : Nat) : Value := if i = 0 then x else y
theorem Bx.row {w : World} {b : Nat} {t : TypeId} {x y : Value} (h : Bx w b t x y) : w.rowIs b t 2 (bxf x y) :=
  ⟨#[x, y], h, rfl, fun i hi => by
    match i, hi with
    | 0, _ => rfl
    | 1, _ => rfl⟩
theorem Bx.of_row {w : World} {b : Nat} {t : TypeId} {f : Nat → Value} (h : w.rowIs b t 2 f) : Bx w b t (f 0) (f 1) := by
  obtain ⟨c, hb, hn, hc⟩ := h
  show w.heap[b]? = _
  rw [hb]
  have e : c = #[f 0, f 1] := by
    apply Array.ext
    · simpa using hn
    · intro i h1 h2
      have h3 := hc i (by omega)
      rw [Array.getElem?_eq_getElem h1] at h3
      have h4 : i < 2 := by omega
      have h5 : #[f 0, f 1][i]? = some (f i) := by
        match i, h4 with
        | 0, _ => rfl
        | 1, _ => rfl
      rw [Array.getElem?_eq_getElem h2] at h5
      simp only [Option.some.injEq] at h3 h5
      rw [h3, h5]
  rw [e]
theorem Bx.c0 {w : World} {b : Nat} {t : TypeId} {x y : Value} (h : Bx w b t x y) : w.cell? ⟨b, 0, none⟩ = some x := cell_of_row _ _ _ _ _ _ h
theorem Bx.c1 {w : World} {b : Nat} {t : TypeId} {x y : Value} (h : Bx w b t x y) : w.cell? ⟨b, 1, none⟩ = some y := cell_of_row _ _ _ _ _ _ h
theorem Bx.fz {w : World} {b : Nat} {t : TypeId} {x y : Value} (h : Bx w b t x y) (i : Nat) : w.frozen? ⟨b, i, none⟩ = false := h.row.frozen i
theorem Bx.lt {w : World} {b : Nat} {t : TypeId} {x y : Value} (h : Bx w b t x y) : b < w.heap.size := h.row.lt
theorem Bx.of {w w' : World} {b : Nat} {t : TypeId} {x y : Value} (h : Bx w b t x y) (e : w'.heap[b]? = w.heap[b]?) : Bx w' b t x y := e.trans h
theorem Bx.below {W w : World} {b B : Nat} {t : TypeId} {x y : Value} (h : Bx W b t x y) (hb : Below B W w) (hlt : b < B) : Bx w b t x y := h.of (hb.block _ hlt)
theorem Bx.alloc {w : World} {b : Nat} {t : TypeId} {x y : Value} (h : Bx w b t x y) (o : Obj) : Bx (w.alloc o) b t x y := h.of (Below.heap_alloc _ _ _ h.lt)
theorem Bx.other {w : World} {b : Nat} {t : TypeId} {x y : Value} (h : Bx w b t x y) {a : Addr} (ha : b ≠ a.block) (v : Value) : Bx (w.setCell a v) b t x y := h.of (Below.heap_setCell _ _ _ _ ha)
theorem Bx.new (w : World) (t : TypeId) (x y : Value) : Bx (w.alloc (.cells #[x, y] t)) w.heap.size t x y := by show (w.heap.push _)[w.heap.size]? = _; simp
theorem Bx.new2 (w : World) (p : Obj) (t : TypeId) (x y : Value) : Bx ((w.alloc p).alloc (.cells #[x, y] t)) (w.heap.size + 1) t x y := by have h := Bx.new (w.alloc p) t x y; rw [World.size_alloc] at h; exact h
theorem Bx.drewN {w : World} {b : Nat} {t : TypeId} {x y : Value} (h : Bx w b t x y) (m : Nat) : Bx (w.drewN m) b t x y := h
theorem Bx.set0 {w : World} {b : Nat} {t : TypeId} {x y : Value} (h : Bx w b t x y) (v : Value) : Bx (w.setCell ⟨b, 0, none⟩ v) b t v y := Bx.of_row (h.row.set 0 v)
theorem Bx.set1 {w : World} {b : Nat} {t : TypeId} {x y : Value} (h : Bx w b t x y) (v : Value) : Bx (w.setCell ⟨b, 1, none⟩ v) b t x v := Bx.of_row (h.row.set 1 v)
theorem Bx.set {w : World} {b : Nat} {t : TypeId} {x y : Value} (h : Bx w b t x y) (u v : Value) : Bx ((w.setCell ⟨b, 0, none⟩ u).setCell ⟨b, 1, none⟩ v) b t u v := (h.set0 u).set1 v
theorem Bx.all {w : World} {b : Nat} {t : TypeId} {x y : Value} (h : Bx w b t x y) : w.cell? ⟨b, 0, none⟩ = some x ∧ w.cell? ⟨b, 1, none⟩ = some y ∧ (∀ i, w.frozen? ⟨b, i, none⟩ = false) ∧ b < w.heap.size := ⟨h.c0, h.c1, h.fz, h.lt⟩
end Go.Proofs.YtefjjhfahebmeaaGreatDoor.Limb
namespace Go.Proofs.YtefjjhfahebmeaaGreatDoor.Limb
open Go
def padD : Nat → Nat → List UInt8
  | 0, _ => []
  | k + 1, r => padD k (r / 10) ++ [UInt8.ofNat (48 + r % 10)]
theorem padD_length (k r : Nat) : (padD k r).length = k := by
  induction k generalizing r with
  | zero => rfl
  | succ k ih => simp [padD, ih]
theorem padD_zero (k : Nat) : padD k 0 = List.replicate k 48 := by
  induction k with
  | zero => rfl
  | succ k ih => rw [padD, Nat.zero_div, ih, List.replicate_succ']; rfl
theorem decD_big {u : Nat} (h : ¬ u < 10) : Lib.decDigits u = Lib.decDigits (u / 10) ++ [UInt8.ofNat (48 + u % 10)] := by rw [Lib.decDigits, dif_neg h]
theorem decD_pad (k q r : Nat) (hq : 0 < q) (hr : r < 10 ^ k) : Lib.decDigits (q * 10 ^ k + r) = Lib.decDigits q ++ padD k r := by
  induction k generalizing r with
  | zero =>
    have : r = 0 := by simpa using hr
    subst this
    simp [padD]
  | succ k ih =>
    have hp : 0 < 10 ^ k := Nat.pow_pos (by omega)
    have h1 : 1 * 10 ^ k ≤ q * 10 ^ k := Nat.mul_le_mul_right _ hq
    have e1 : q * 10 ^ (k + 1) = 10 * (q * 10 ^ k) := by rw [Nat.pow_succ, ← Nat.mul_assoc, Nat.mul_comm]
    have hr' : r < 10 * 10 ^ k := by rw [Nat.pow_succ, Nat.mul_comm] at hr; exact hr
    rw [e1, decD_big (by omega), show (10 * (q * 10 ^ k) + r) / 10 = q * 10 ^ k + r / 10 by omega, show (10 * (q * 10 ^ k) + r) % 10 = r % 10 by omega, ih (r / 10) (by omega), List.append_assoc]
    rfl
theorem pad_dec (k r : Nat) (hr : r < 10 ^ (k + 1)) : padD (k + 1) r = List.replicate (k + 1 - Lib.nDigits r) 48 ++ Lib.decDigits r := by
  induction k generalizing r with
  | zero =>
    have h : r < 10 := by simpa using hr
    rw [Lib.nDigits_small h, Lib.decDigits_one h]
    show [] ++ [UInt8.ofNat (48 + r % 10)] = _
    rw [Nat.mod_eq_of_lt h]; rfl
  | succ k ih =>
    by_cases h : r < 10
    · rw [Lib.nDigits_small h, Lib.decDigits_one h, padD, show r / 10 = 0 by omega, padD_zero, show r % 10 = r by omega]; rfl
    · have hr' : r / 10 < 10 ^ (k + 1) := by rw [Nat.pow_succ] at hr; omega
      rw [padD, ih _ hr', Lib.nDigits_big h, decD_big h, List.append_assoc, show k + 1 + 1 - (Lib.nDigits (r / 10) + 1) = k + 1 - Lib.nDigits (r / 10) by omega]
theorem pad_self (r : Nat) : padD (Lib.nDigits r) r = Lib.decDigits r := by
  have h1 := Lib.nDigits_pos r
  have h2 := Lib.lt_pow_nDigits r
  obtain ⟨k, hk⟩ : ∃ k, Lib.nDigits r = k + 1 := ⟨Lib.nDigits r - 1, by omega⟩
  have h := pad_dec k r (by rw [← hk]; exact h2)
  rw [hk] at h ⊢
  rw [Nat.sub_self] at h
  exact h
theorem padD_front (j m : Nat) : padD (j + 1) m = UInt8.ofNat (48 + m / 10 ^ j % 10) :: padD j m := by
  induction j generalizing m with
  | zero => show [] ++ [UInt8.ofNat (48 + m % 10)] = [UInt8.ofNat (48 + m / 10 ^ 0 % 10)]; rw [Nat.pow_zero, Nat.div_one]; rfl
  | succ j ih =>
    rw [padD, ih (m / 10), Nat.div_div_eq_div_mul, show 10 * 10 ^ j = 10 ^ (j + 1) by rw [Nat.pow_succ, Nat.mul_comm]]
    rfl
theorem pw_ten (i : Nat) : pw i = 10 ^ (9 * i) := by
  induction i with
  | zero => rw [pw_zero]
  | succ i ih => rw [pw_succ, ih, show 9 * (i + 1) = 9 * i + 9 by omega, Nat.pow_add]
def isDig (c : UInt8) : Bool := decide (48 ≤ c.toNat) && decide (c.toNat ≤ 57)
def decV (l : List UInt8) : Nat := l.foldl (fun a c => 10 * a + (c.toNat - 48)) 0
theorem decV_foldl (l : List UInt8) (a : Nat) : l.foldl (fun a c => 10 * a + (c.toNat - 48)) a = a * 10 ^ l.length + decV l := by
  induction l generalizing a with
  | nil => simp [decV]
  | cons c r ih =>
    have e : decV (c :: r) = (10 * 0 + (c.toNat - 48)) * 10 ^ r.length + decV r := ih _
    rw [List.foldl_cons, ih, e, List.length_cons, Nat.pow_succ]
    have : (10 * a + (c.toNat - 48)) * 10 ^ r.length = a * (10 ^ r.length * 10) + (c.toNat - 48) * 10 ^ r.length := by rw [Nat.add_mul]; congr 1; rw [Nat.mul_comm 10 a, Nat.mul_assoc, Nat.mul_comm 10]
    rw [this]
    simp only [Nat.mul_zero, Nat.zero_add]
    omega
theorem decV_append (l r : List UInt8) : decV (l ++ r) = decV l * 10 ^ r.length + decV r := by
  rw [decV, List.foldl_append, decV_foldl]; rfl
theorem decV_lt (l : List UInt8) (h : ∀ c ∈ l, isDig c = true) : decV l < 10 ^ l.length := by
  induction l with
  | nil => simp [decV]
  | cons c r ih =>
    have h1 := ih fun x hx => h x (List.mem_cons_of_mem _ hx)
    have h2 := h c (List.mem_cons_self ..)
    unfold isDig at h2
    simp only [Bool.and_eq_true, decide_eq_true_eq] at h2
    rw [decV, List.foldl_cons, decV_foldl, List.length_cons, Nat.pow_succ]
    have : (10 * 0 + (c.toNat - 48)) * 10 ^ r.length ≤ 9 * 10 ^ r.length := Nat.mul_le_mul_right _ (by omega)
    omega
end Go.Proofs.YtefjjhfahebmeaaGreatDoor.Limb
namespace Go.Proofs.YtefjjhfahebmeaaGreatDoor.Limb
open Go.RowKit Go.Sort
theorem of_facts (s : Bool) (n : Nat) (o : Nat → Int) (h : okN s n o) (h0 : ∀ i, i < n → 0 ≤ o i ∧ o i ≤ 4294967295) :
    decide (valN s n o < 0) = s ∧ lenB (valN s n o).natAbs = n ∧ ∀ i, i < n → o i = dgi (valN s n o).natAbs i :=
  have h1 : ∀ i, i < n → 0 ≤ o i := fun i hi => (h0 i hi).1
  ⟨valN_neg h h1, valN_len h h1, fun i hi => (valN_dg h h1 i hi).symm⟩
open Classical in
set_option maxHeartbeats 1000000 in
theorem of_any (s : Bool) (a : Option Addr) (n cap : Nat) (o : Nat → Int) (w : World) (h : Rd w a n o) (hn : n ≤ 1000000000) (hcap : n ≤ cap) :
    ∃ a' cap', Rd w a' (lenB (valN s n o).natAbs) (dgi (valN s n o).natAbs) ∧ lenB (valN s n o).natAbs ≤ n ∧ lenB (valN s n o).natAbs ≤ cap' ∧
      ∀ w1, Below w.heap.size w w1 → Calls Tryz.prog 41 #[numV s a n cap] w1 fun e w' => e = .returned (numV (decide (valN s n o < 0)) a' (lenB (valN s n o).natAbs) cap') ∧ Below w1.heap.size w1 w' := by
  by_cases hk : okN s n o
  · obtain ⟨f1, f2, f3⟩ := of_facts s n o hk h.rng
    rw [f1, f2]
    refine ⟨a, cap, h.congr f3, Nat.le_refl _, hcap, fun w1 hb1 => ?_⟩
    have C := Lib.hid (fun (w2 : World) (hw : Below w1.heap.size w1 w2) => check_any s a n cap o w2 (h.below (hb1.trans (hw.mono hb1.size))) hn)
    rw [decide_eq_true hk] at C
    clear h f1 f2 f3 hk hb1
    go_enter Tryz.func41, Tryz.ntmps41
    go_wp2_with fail
    refine (C.out _ ?_).mono ?_
    · (repeat' (first | (with_reducible exact Below.refl _ _) | (with_reducible assumption) | (with_reducible refine Below.alloc ?_ ?_ _) | (with_reducible refine Below.drew ?_) | (with_reducible refine bdrewN ?_ _) | (with_reducible refine Below.setCell ?_ ?_ _) | (with_reducible refine Below.frame ?_ _) | go_size))
    rintro e w2 ⟨rfl, hb2⟩
    have B1 := ((Bx.new w1 24 (.bool s) (.slice a n cap)).alloc (.cells #[.bool false, .slice none 0 0] 24)).below hb2 (by simp; omega)
    have B2 := (Bx.new2 w1 (.cells #[.bool s, .slice a n cap] 24) 24 (.bool false) (.slice none 0 0)).below hb2 (by simp)
    have hb0 : Below w1.heap.size w1 w2 := ((Below.refl _ _).alloc (Nat.le_refl _) _ |>.alloc (by go_size) _).trans (hb2.mono (by go_size))
    obtain ⟨b10, b11, b12, b13⟩ := B1.all
    obtain ⟨b20, b21, b22, b23⟩ := B2.all
    have HB := Lib.hid B2
    clear hb2 B1 B2
    go_wp2
    refine bodyPost_ret (results_cell rfl _ _ _ _ _ _ _ rfl (HB.out.set _ _) Tryz.underlying24 rfl (by kernel_rfl)) rfl ⟨rfl, ?_⟩
    (repeat' (first | (with_reducible exact Below.refl _ _) | (with_reducible assumption) | (with_reducible refine Below.alloc ?_ ?_ _) | (with_reducible refine Below.drew ?_) | (with_reducible refine bdrewN ?_ _) | (with_reducible refine Below.setCell ?_ ?_ _) | (with_reducible refine Below.frame ?_ _) | go_size))
  · rw [show valN s n o = 0 from valN_not hk]
    rw [show (Int.natAbs 0) = 0 from rfl, lenB_zero, show decide ((0 : Int) < 0) = false from rfl]
    refine ⟨none, 0, Rd.nil _ _ _, Nat.zero_le _, Nat.le_refl _, fun w1 hb1 => ?_⟩
    have C := Lib.hid (fun (w2 : World) (hw : Below w1.heap.size w1 w2) => check_any s a n cap o w2 (h.below (hb1.trans (hw.mono hb1.size))) hn)
    rw [decide_eq_false hk] at C
    clear h hk hb1
    go_enter Tryz.func41, Tryz.ntmps41
    go_wp2_with fail
    refine (C.out _ ?_).mono ?_
    · (repeat' (first | (with_reducible exact Below.refl _ _) | (with_reducible assumption) | (with_reducible refine Below.alloc ?_ ?_ _) | (with_reducible refine Below.drew ?_) | (with_reducible refine bdrewN ?_ _) | (with_reducible refine Below.setCell ?_ ?_ _) | (with_reducible refine Below.frame ?_ _) | go_size))
    rintro e w2 ⟨rfl, hb2⟩
    have B2 := (Bx.new2 w1 (.cells #[.bool s, .slice a n cap] 24) 24 (.bool false) (.slice none 0 0)).below hb2 (by simp)
    have hb0 : Below w1.heap.size w1 w2 := ((Below.refl _ _).alloc (Nat.le_refl _) _ |>.alloc (by go_size) _).trans (hb2.mono (by go_size))
    obtain ⟨b20, b21, b22, b23⟩ := B2.all
    have HB := Lib.hid B2
    clear hb2 B2
    go_wp2
    refine bodyPost_ret (results_cell rfl _ _ _ _ _ _ _ rfl (HB.out.set _ _) Tryz.underlying24 rfl (by kernel_rfl)) rfl ⟨rfl, ?_⟩
    (repeat' (first | (with_reducible exact Below.refl _ _) | (with_reducible assumption) | (with_reducible refine Below.alloc ?_ ?_ _) | (with_reducible refine Below.drew ?_) | (with_reducible refine bdrewN ?_ _) | (with_reducible refine Below.setCell ?_ ?_ _) | (with_reducible refine Below.frame ?_ _) | go_size))
theorem lenB_le_of {o : Nat → Int} {n : Nat} (h : Dig o n) : lenB (sumB o n).toNat ≤ n := lenB_le (by have := sumB_bd h; omega)
theorem cut_zero {o : Nat → Int} {n i : Nat} (h : Dig o n) (h1 : lenB (sumB o n).toNat ≤ i) (h2 : i < n) : o i = 0 := by
  rw [← dg_sumB h i h2, dg_out h1]; rfl
theorem cut_last {o : Nat → Int} {n : Nat} (h : Dig o n) (h1 : 0 < lenB (sumB o n).toNat) : o (lenB (sumB o n).toNat - 1) ≠ 0 := by
  have h2 := lenB_le_of h
  rw [← dg_sumB h _ (by omega)]
  have := dg_last (m := (sumB o n).toNat) (fun e => by rw [e, lenB_zero] at h1; omega)
  omega
set_option maxHeartbeats 1000000 in
theorem cut_any (s : Bool) (a : Option Addr) (n cap : Nat) (o : Nat → Int) (w : World) (h : Rd w a n o) (hd : Dig o n) (hn : n ≤ 1000000000) (hcap : n ≤ cap) (ha : a = none → cap = 0) :
    Calls Tryz.prog 36 #[.bool s, .slice a n cap] w fun e w' => e = .returned (numV (s && decide (0 < lenB (sumB o n).toNat)) a (lenB (sumB o n).toNat) (lenB (sumB o n).toNat)) ∧ Below w.heap.size w w' := by
  have HL := Lib.hid (lenB_le_of hd)
  have HZ := Lib.hid (fun i => cut_zero (i := i) hd)
  have HT := Lib.hid (cut_last hd)
  generalize lenB (sumB o n).toNat = L at HL HZ HT ⊢
  clear hd
  have hsz := h.rng
  have B0 := Lib.hid (Bx.new w 24 (.bool false) (.slice none 0 0))
  go_enter Tryz.func36, Tryz.ntmps36
  go_wp2
  go_loopw [5] (fun i wr => ∃ j : Nat, L ≤ j ∧ j ≤ n ∧ i = .int .i64 j ∧ ∃ m, wr = (w.alloc (.cells #[.bool false, .slice none 0 0] 24)).drewN m) (fun i _ => (intOf i).toNat)
  case atStart => exact ⟨n, HL.out, Nat.le_refl _, rfl, 0, rfl⟩
  case round =>
    obtain ⟨j, hj, hjn, rfl, m0, rfl⟩ := hrel
    by_cases hj0 : j = 0
    · obtain rfl : L = 0 := by omega
      subst hj0
      have B1 := B0.out.drewN m0
      obtain ⟨b10, b11, b12, b13⟩ := B1.all
      have HB := Lib.hid B1
      clear B1
      cases s with
      | false =>
        go_wp2
        all_goals
          refine bodyPost_ret (results_cell rfl _ _ _ _ _ _ _ rfl (HB.out.set _ _) Tryz.underlying24 rfl (by kernel_rfl)) rfl ⟨rfl, ?_⟩
          (repeat' (first | (with_reducible exact Below.refl _ _) | (with_reducible assumption) | (with_reducible refine Below.alloc ?_ ?_ _) | (with_reducible refine Below.drew ?_) | (with_reducible refine bdrewN ?_ _) | (with_reducible refine Below.setCell ?_ ?_ _) | (with_reducible refine Below.frame ?_ _) | go_size))
      | true =>
        go_wp2
        all_goals
          refine bodyPost_ret (results_cell rfl _ _ _ _ _ _ _ rfl (HB.out.set _ _) Tryz.underlying24 rfl (by kernel_rfl)) rfl ⟨rfl, ?_⟩
          (repeat' (first | (with_reducible exact Below.refl _ _) | (with_reducible assumption) | (with_reducible refine Below.alloc ?_ ?_ _) | (with_reducible refine Below.drew ?_) | (with_reducible refine bdrewN ?_ _) | (with_reducible refine Below.setCell ?_ ?_ _) | (with_reducible refine Below.frame ?_ _) | go_size))
    · obtain ⟨q, rfl⟩ : ∃ q, j = q + 1 := ⟨j - 1, by omega⟩
      obtain ⟨b, off, rfl, hc⟩ := h.cells (by omega)
      have c1 := hc q (by omega)
      have hb : b < w.heap.size := block_lt_of_cell c1
      have ex : ((q + 1 : Nat) : Int) - 1 = (q : Int) := by omega
      by_cases hjL : q + 1 = L
      · subst hjL
        have hz : o q ≠ 0 := HT.out (by omega)
        have hzb : (o q == 0) = false := by simpa using hz
        have hq : ((q + 1 : Nat) : Int) > 0 := by omega
        have D := Lib.hid (show decide (0 < q + 1) = true by simp)
        have B1 := B0.out.drewN m0
        obtain ⟨b10, b11, b12, b13⟩ := B1.all
        have HB := Lib.hid B1
        clear B1
        cases s with
        | false =>
          go_wp2
          all_goals
            refine bodyPost_ret (results_cell rfl _ _ _ _ _ _ _ rfl (HB.out.set _ _) Tryz.underlying24 rfl (by kernel_rfl)) rfl ⟨rfl, ?_⟩
            (repeat' (first | (with_reducible exact Below.refl _ _) | (with_reducible assumption) | (with_reducible refine Below.alloc ?_ ?_ _) | (with_reducible refine Below.drew ?_) | (with_reducible refine bdrewN ?_ _) | (with_reducible refine Below.setCell ?_ ?_ _) | (with_reducible refine Below.frame ?_ _) | go_size))
        | true =>
          go_wp2
          all_goals
            refine bodyPost_ret (results_cell rfl _ _ _ _ _ _ _ rfl (HB.out.set _ _) Tryz.underlying24 rfl (by kernel_rfl)) rfl ⟨by rw [D.out]; rfl, ?_⟩
            (repeat' (first | (with_reducible exact Below.refl _ _) | (with_reducible assumption) | (with_reducible refine Below.alloc ?_ ?_ _) | (with_reducible refine Below.drew ?_) | (with_reducible refine bdrewN ?_ _) | (with_reducible refine Below.setCell ?_ ?_ _) | (with_reducible refine Below.frame ?_ _) | go_size))
      · have hz := HZ.out q (by omega) (by omega)
        go_wp2
        go_roundw
        case rel => exact ⟨q, by omega, by omega, rfl, m0, rfl⟩
        case measure => simp [intOf]
abbrev T32 : TypeId := 54
theorem info32 : (Tryz.prog.info? 54).map (fun i => (i.zero, i.size, i.bytes)) = some (some (.int .u32 0), 1, 4) := by kernel_rfl
def ucs (o : Nat → Int) (n : Nat) : List Value := (List.range n).map (uc o)
theorem ucs_len (o : Nat → Int) (n : Nat) : (ucs o n).length = n := by simp [ucs]
theorem ucs_get (o : Nat → Int) (n i : Nat) (h : i < n) : (ucs o n)[i]? = some (uc o i) := by simp [ucs, h]
theorem ucs_get' {o : Nat → Int} {n j : Nat} {u : Value} (h : (ucs o n)[j]? = some u) : j < n ∧ u = uc o j := by
  have hj : j < n := by
    rcases Nat.lt_or_ge j n with h1 | h1
    · exact h1
    · rw [List.getElem?_eq_none (by rw [ucs_len]; exact h1)] at h; cases h
  rw [ucs_get o n j hj] at h
  exact ⟨hj, by cases h; rfl⟩
theorem ucs_succ (o : Nat → Int) (n : Nat) : ucs o (n + 1) = ucs o n ++ [uc o n] := by simp [ucs, List.range_succ]
theorem Own.of_row {w : World} {base : Nat} {v : Value} {n : Nat} {o : Nat → Int} (h : w.ownsRow base 54 1 v n (ucs o n)) (hr : ∀ i, i < n → 0 ≤ o i ∧ o i ≤ 4294967295) :
    ∃ a cap, v = .slice a n cap ∧ Own 54 w base a n cap o ∧ (a = none → cap = 0) := by
  rcases h.2 with ⟨rfl, rfl⟩ | ⟨g, cap, cur, rfl, hb, hg, hnc, _, hsz, hx⟩
  · exact ⟨none, 0, rfl, ⟨Nat.le_refl _, Or.inl ⟨rfl, rfl, rfl⟩, hr⟩, fun _ => rfl⟩
  · refine ⟨_, cap, rfl, ⟨hnc, Or.inr ⟨g, cur, rfl, hb, hg, by omega, fun i hi => ?_⟩, hr⟩, fun h => by cases h⟩
    have h1 := ucs_get o n i hi
    rw [← hx, List.getElem?_take, if_pos (by omega), Array.getElem?_toList] at h1
    exact h1
theorem Own.row_nil (w : World) (base : Nat) (o : Nat → Int) : w.ownsRow base 54 1 (.slice none 0 0) 0 (ucs o 0) := ⟨rfl, Or.inl ⟨rfl, rfl⟩⟩
def upto (o : Nat → Int) (k i : Nat) : Value := if i < k then uc o i else .int .u32 0
end Go.Proofs.YtefjjhfahebmeaaGreatDoor.Limb
namespace Go.Proofs.YtefjjhfahebmeaaGreatDoor.Limb
open Go.RowKit Go.Sort Go.Fresh
theorem add_plain (zp zq sg : Int) (h : zq.natAbs ≤ zp.natAbs) (hsg : sg = if decide (zp < 0) = decide (zq < 0) then 1 else -1) :
    0 ≤ (zp.natAbs : Int) + sg * (zq.natAbs : Int) ∧ ((zp.natAbs : Int) + sg * (zq.natAbs : Int)).toNat = (zp + zq).natAbs ∧
    (decide (zp < 0) && decide (0 < lenB (zp + zq).natAbs)) = decide (zp + zq < 0) := by
  have e0 : 0 < lenB (zp + zq).natAbs ↔ zp + zq ≠ 0 := by
    constructor
    · intro h1 h2; rw [h2, show Int.natAbs 0 = 0 from rfl, lenB_zero] at h1; omega
    · intro h1
      rcases Nat.eq_zero_or_pos (lenB (zp + zq).natAbs) with h2 | h2
      · have := lenB_eq_zero.1 h2; omega
      · exact h2
  by_cases h1 : zp < 0 <;> by_cases h2 : zq < 0 <;> simp only [h1, h2, decide_true, decide_false, if_true, reduceCtorEq, if_false] at hsg <;> subst hsg <;>
    refine ⟨by omega, by omega, ?_⟩ <;> simp only [h1, decide_true, decide_false, Bool.true_and, Bool.false_and]
  · exact decide_eq_decide.2 (e0.trans (by omega))
  · exact decide_eq_decide.2 (e0.trans (by omega))
  · exact (decide_eq_false (by omega)).symm
  · exact (decide_eq_false (by omega)).symm
def addF (x nx y ny : Nat) (sg : Int) (i : Nat) : Int := part (dgi x) nx i + sg * part (dgi y) ny i
theorem quietOf {P : Program} {f : FuncId} {args : Array Value} {w : World} {n : Nat} {v : Value}
    (h : Calls P f args (w.drewN n) fun e w' => e = .returned v ∧ w' = w.drewN n) : Calls P f args (w.drewN n) fun e w'' => e = .returned v ∧ ∃ m, w'' = w.drewN m :=
  h.mono fun _ _ ⟨he, hm⟩ => ⟨he, n, hm⟩
theorem Own.cut {T : Nat} {w : World} {base : Nat} {a : Option Addr} {n cap L : Nat} {o o' : Nat → Int} (h : Own T w base a n cap o) (hL : L ≤ n) (e : ∀ i, i < L → o i = o' i) : Own T w base a L L o' := by
  refine ⟨Nat.le_refl _, ?_, fun i hi => by rw [← e i hi]; exact h.rng i (by omega)⟩
  rcases h.place with ⟨e0, h0, h1⟩ | ⟨g, cur, ha, hbg, hg, hcap, hc⟩
  · exact Or.inl ⟨e0, by omega, by omega⟩
  · exact Or.inr ⟨g, cur, ha, hbg, hg, by have := h.le; omega, fun i hi => by rw [hc i (by omega)]; show some (Value.int .u32 (o i)) = _; rw [e i hi]⟩
theorem Own.other {T : Nat} {w : World} {base : Nat} {a : Option Addr} {n cap : Nat} {o : Nat → Int} (h : Own T w base a n cap o) {p : Addr} (hp : p.block < base) (v : Value) : Own T (w.setCell p v) base a n cap o := by
  refine ⟨h.le, ?_, h.rng⟩
  rcases h.place with h0 | ⟨g, cur, ha, hbg, hg, hcap, hc⟩
  · exact Or.inl h0
  · exact Or.inr ⟨g, cur, ha, hbg, (Below.heap_setCell _ _ _ _ (by omega)).trans hg, hcap, hc⟩
def ResN (w : World) (z : Int) (e : Ending) (w' : World) : Prop :=
  ∃ a, e = .returned (numV (decide (z < 0)) a (lenB z.natAbs) (lenB z.natAbs)) ∧ Own 54 w' w.heap.size a (lenB z.natAbs) (lenB z.natAbs) (dgi z.natAbs) ∧ (a = none → lenB z.natAbs = 0) ∧ Below w.heap.size w w'
theorem canon_ok (z : Int) : okN (decide (z < 0)) (lenB z.natAbs) (dgi z.natAbs) := by
  refine ⟨fun i hi => (dgi_Dig _ _ i hi).2, fun h => ?_, fun h => ?_⟩
  · have := lenB_eq_zero.1 h
    exact decide_eq_false (by omega)
  · have h1 := dg_last (m := z.natAbs) (fun e => by rw [e, lenB_zero] at h; omega)
    show ((dg z.natAbs (lenB z.natAbs - 1) : Nat) : Int) ≠ 0
    omega
theorem canon_val (z : Int) : valN (decide (z < 0)) (lenB z.natAbs) (dgi z.natAbs) = z := by
  unfold valN
  rw [if_pos (canon_ok z), sumB_dgi]
  by_cases h : z < 0
  · rw [if_pos (decide_eq_true h)]; omega
  · rw [if_neg (by simpa using h)]; omega
theorem cmpZ_amounts (x y : Int) : cmpZ x y = if x < 0 then (if y < 0 then cmpZ (y.natAbs : Int) (x.natAbs : Int) else -1) else if y < 0 then 1 else cmpZ (x.natAbs : Int) (y.natAbs : Int) := by
  by_cases h1 : x < 0 <;> by_cases h2 : y < 0
  · rw [if_pos h1, if_pos h2]; exact cmpZ_congr (by omega) (by omega)
  · rw [if_pos h1, if_neg h2]; exact cmpZ_lt (by omega)
  · rw [if_neg h1, if_pos h2]; exact cmpZ_gt (by omega)
  · rw [if_neg h1, if_neg h2]; exact cmpZ_congr (by omega) (by omega)
set_option maxHeartbeats 1000000 in
theorem cmp_any (s1 : Bool) (a1 : Option Addr) (n1 c1 : Nat) (o1 : Nat → Int) (s2 : Bool) (a2 : Option Addr) (n2 c2 : Nat) (o2 : Nat → Int) (w : World)
    (h1 : Rd w a1 n1 o1) (hn1 : n1 ≤ 100000000) (hc1 : n1 ≤ c1) (h2 : Rd w a2 n2 o2) (hn2 : n2 ≤ 100000000) (hc2 : n2 ≤ c2) :
    Calls Tryz.prog 30 #[numV s1 a1 n1 c1, numV s2 a2 n2 c2] w fun e w' => e = .returned (.int .i64 (cmpZ (valN s1 n1 o1) (valN s2 n2 o2))) ∧ Below w.heap.size w w' := by
  obtain ⟨x1, d1, r1, l1, m1, O1⟩ := of_any s1 a1 n1 c1 o1 w h1 (by omega) hc1
  obtain ⟨x2, d2, r2, l2, m2, O2⟩ := of_any s2 a2 n2 c2 o2 w h2 (by omega) hc2
  generalize valN s1 n1 o1 = z1 at r1 l1 m1 O1 ⊢
  have HO1 := Lib.hid O1; clear O1
  generalize valN s2 n2 o2 = z2 at r2 l2 m2 O2 ⊢
  have HO2 := Lib.hid O2; clear O2
  have B1 := ((Bx.new w 24 (.bool s1) (.slice a1 n1 c1)).alloc (.cells #[.bool s2, .slice a2 n2 c2] 24))
  have B2 := (Bx.new2 w (.cells #[.bool s1, .slice a1 n1 c1] 24) 24 (.bool s2) (.slice a2 n2 c2))
  go_enter Tryz.func30, Tryz.ntmps30
  go_upto_region 1 with (fail)
  obtain ⟨W, hW⟩ : ∃ W, W = ((w.alloc (.cells #[.bool s1, .slice a1 n1 c1] 24)).alloc (.cells #[.bool s2, .slice a2 n2 c2] 24)) := ⟨_, rfl⟩
  have G1 := Lib.hid (((Below.refl _ _).alloc (by go_size) _ |>.alloc (by go_size) _) : Below w.heap.size w ((w.alloc (.cells #[.bool s1, .slice a1 n1 c1] 24)).alloc (.cells #[.bool s2, .slice a2 n2 c2] 24)))
  rw [← hW] at B1 B2 G1
  rw [show ((w.alloc (.cells #[.bool s1, .slice a1 n1 c1] 24)).alloc (.cells #[.bool s2, .slice a2 n2 c2] 24)) = W from hW.symm]
  clear hW
  go_cut [] (fun wx => Bx wx w.heap.size 24 (.bool (decide (z1 < 0))) (.slice x1 (lenB z1.natAbs) d1) ∧ Bx wx (w.heap.size + 1) 24 (.bool (decide (z2 < 0))) (.slice x2 (lenB z2.natAbs) d2) ∧ Below w.heap.size w wx)
  case first =>
    have HS1 := Lib.hid (fun (w' : World) (hb : Below W.heap.size W w') => And.intro (B1.below hb B1.lt).c0 (B1.below hb B1.lt).c1)
    have HS2 := Lib.hid (fun (w' : World) (hb : Below W.heap.size W w') => And.intro (B2.below hb B2.lt).c0 (B2.below hb B2.lt).c1)
    have HB1 := Lib.hid B1; have HB2 := Lib.hid B2
    clear B1 B2
    refine wp_region_fresh 4 (spOf [(1, Sp.know (numV (decide (z1 < 0)) x1 (lenB z1.natAbs) d1)), (3, Sp.know (numV (decide (z2 < 0)) x2 (lenB z2.natAbs) d2))]) (fun w' => Below W.heap.size W w') (by kernel_rfl) (by kernel_rfl)
      (spOf_cons (Sp.know_keeps _) (spOf_cons (Sp.know_keeps _) spOf_nil)) (fun _ _ h hb => h.trans (hb.mono h.size)) ((Below.refl _ _).drew) ?_
    simp only [List.take_succ_cons, List.take_zero, List.drop_succ_cons, List.drop_zero]
    (refine wpF_reads rfl rfl ?_ (fun w' hw' => ?_) ?_; rotate_left; · (have hb' := Has.world hw'; (have hs := HS1.out _ hb'); clear hw'; go_simp; try rfl))
    (refine wpF_spec rfl rfl (fun w' hw' => ?_) ?_; · (have hb' := Has.world hw'; go_simp; ((refine (HO1.out w' (G1.out.trans (hb'.mono G1.out.size))).mono ?_; rintro e w'' ⟨rfl, hb⟩; exact ⟨_, rfl, rfl, hb⟩))))
    rintro _ rfl
    (refine wpF_reads rfl rfl ?_ (fun w' hw' => ?_) ?_; rotate_left; · (have hb' := Has.world hw'; (have hs := HS2.out _ hb'); clear hw'; go_simp; try rfl))
    (refine wpF_spec rfl rfl (fun w' hw' => ?_) ?_; · (have hb' := Has.world hw'; go_simp; ((refine (HO2.out w' (G1.out.trans (hb'.mono G1.out.size))).mono ?_; rintro e w'' ⟨rfl, hb⟩; exact ⟨_, rfl, rfl, hb⟩))))
    rintro _ rfl
    refine wpF_nil (fun w1 hb1 hF => ?_)
    clear hF
    have C1 := HB1.out.below hb1 HB1.out.lt
    have C2 := HB2.out.below hb1 HB2.out.lt
    have G2 := G1.out.trans (hb1.mono G1.out.size)
    have K1 := Lib.hid C1; have K2 := Lib.hid C2
    obtain ⟨b10, b11, b12, b13⟩ := C1.all
    obtain ⟨b20, b21, b22, b23⟩ := C2.all
    have KG := Lib.hid G2
    clear C1 C2 hb1 HS1 HS2 G2
    go_wp2_with fail
    go_meet
    case rel =>
      exact ⟨((K1.out.set _ _).other (by dsimp only; omega) _).other (by dsimp only; omega) _, ((K2.out.other (by dsimp only; omega) _).other (by dsimp only; omega) _).set _ _  ,
        (((KG.out.setCell (by simp) _).setCell (by simp) _).setCell (by simp) _).setCell (by simp) _⟩
  case rest =>
    obtain ⟨B1, B2, G1⟩ := hcut
    obtain ⟨w1, rfl⟩ : ∃ w1, w1 = wc := ⟨_, rfl⟩
    have R1 := r1.below G1
    have R2 := r2.below G1
    have AM := Lib.hid (amounts_any z1.natAbs z2.natAbs x1 x2 d1 d2 w1 R1 R2 (by omega) (by omega))
    have AN := Lib.hid (amounts_any z2.natAbs z1.natAbs x2 x1 d2 d1 w1 R2 R1 (by omega) (by omega))
    have KG := Lib.hid G1
    have E := Lib.hid (cmpZ_amounts z1 z2)
    obtain ⟨b10, b11, b12, b13⟩ := B1.all
    obtain ⟨b20, b21, b22, b23⟩ := B2.all
    clear B1 B2 G1 R1 R2 r1 r2 h1 h2 HO1 HO2
    by_cases n1 : z1 < 0 <;> by_cases n2 : z2 < 0
    · have E2 := Lib.hid (E.out.trans (by rw [if_pos n1, if_pos n2]))
      rw [decide_eq_true n1] at b10
      rw [decide_eq_true n2] at b20
      clear n1 n2 E
      go_wp2_with fail
      refine AN.out.mono ?_
      rintro e w2 ⟨rfl, m, rfl⟩
      go_wp2
      go_ret
      exact ⟨by rw [E2.out]; rfl, bdrewN KG.out m⟩
    · have E2 := Lib.hid (E.out.trans (by rw [if_pos n1, if_neg n2]))
      rw [decide_eq_true n1] at b10
      rw [decide_eq_false n2] at b20
      clear n1 n2 E
      go_wp2
      go_ret
      exact ⟨by rw [E2.out]; rfl, KG.out⟩
    · have E2 := Lib.hid (E.out.trans (by rw [if_neg n1, if_pos n2]))
      rw [decide_eq_false n1] at b10
      rw [decide_eq_true n2] at b20
      clear n1 n2 E
      go_wp2
      go_ret
      exact ⟨by rw [E2.out]; rfl, KG.out⟩
    · have E2 := Lib.hid (E.out.trans (by rw [if_neg n1, if_neg n2]))
      rw [decide_eq_false n1] at b10
      rw [decide_eq_false n2] at b20
      clear n1 n2 E
      go_wp2_with fail
      refine AM.out.mono ?_
      rintro e w2 ⟨rfl, m, rfl⟩
      go_wp2
      go_ret
      exact ⟨by rw [E2.out]; rfl, bdrewN KG.out m⟩
open Classical in
set_option maxHeartbeats 1000000 in
theorem rcheck_any (s : Bool) (a : Option Addr) (n cap : Nat) (o : Nat → Int) (w : World) (h : Rd w a n o) (hn : n ≤ 1000000000) :
    Calls Tryz.prog 15 #[numV s a n cap] w fun e w' => e = .returned (.bool (decide (okN s n o))) ∧ Below w.heap.size w w' := by
  obtain ⟨k0, hk0, hf, hb⟩ := first_bad o n
  have HF := Lib.hid hf
  have HB := Lib.hid hb
  have HR := Lib.hid h
  have EN := Lib.hid (fun (hk : k0 < n) => show decide (okN s n o) = false from decide_eq_false fun hh => by have := hh.1 k0 hk; have := hb hk; omega)
  have E0 := Lib.hid (fun (h0 : n = 0) => show decide (okN s n o) = !s by
        subst h0
        cases s with
        | false => exact decide_eq_true ⟨fun i hi => by omega, fun _ => rfl, fun h => by omega⟩
        | true => exact decide_eq_false fun hh => by have := hh.2.1 rfl; contradiction)
  have E1 := Lib.hid (fun (h0 : 0 < n) (hk : ¬ k0 < n) => show decide (okN s n o) = (o (n - 1) != 0) by
        by_cases hz : o (n - 1) = 0
        · rw [hz]; exact decide_eq_false fun hh => hh.2.2 (by omega) hz
        · rw [show (o (n - 1) != 0) = true by simpa using hz]
          exact decide_eq_true ⟨fun i hi => hf i (by omega), fun h => by omega, fun _ => hz⟩)
  clear hf hb h
  go_enter Tryz.func15, Tryz.ntmps15
  go_wp2_with fail
  go_loopw [3] (fun i wr => ∃ j : Nat, j ≤ k0 ∧ i = .int .i64 j ∧ wr = w.alloc (.cells #[.bool s, .slice a n cap] 24)) (fun i _ => n - (intOf i).toNat)
  case atStart => exact ⟨0, by omega, rfl, rfl⟩
  case round =>
    obtain ⟨j, hj, rfl, rfl⟩ := hrel
    by_cases hjn : j < n
    · obtain ⟨b, off, rfl, hc⟩ := HR.out.cells (by omega)
      have c1 : w.cell? ⟨b, off + j, none⟩ = some (.int .u32 (o j)) := hc j hjn
      have hlt : b < w.heap.size := block_lt_of_cell c1
      clear hc
      by_cases hjk : j < k0
      · have D := HF.out j hjk
        go_wp2_with fail
        go_roundw
        case rel => exact ⟨j + 1, by omega, by go_num, by trivial⟩
        case measure => simp [intOf]; omega
      · obtain rfl : j = k0 := by omega
        have D := HB.out hjn
        go_wp2_with fail
        go_ret
        exact ⟨by rw [EN.out hjn]; rfl, by (repeat' (first | (with_reducible exact Below.refl _ _) | (with_reducible assumption) | (with_reducible refine Below.alloc ?_ ?_ _) | (with_reducible refine Below.drew ?_) | (with_reducible refine bdrewN ?_ _) | (with_reducible refine Below.setCell ?_ ?_ _) | (with_reducible refine Below.frame ?_ _) | go_size))⟩
    · have hkn : ¬ k0 < n := by omega
      obtain rfl : j = n := by omega
      by_cases h0 : j = 0
      · have E := Lib.hid (E0.out h0)
        subst h0
        go_wp2_with fail
        go_ret
        exact ⟨by rw [E.out]; rfl, by (repeat' (first | (with_reducible exact Below.refl _ _) | (with_reducible assumption) | (with_reducible refine Below.alloc ?_ ?_ _) | (with_reducible refine Below.drew ?_) | (with_reducible refine bdrewN ?_ _) | (with_reducible refine Below.setCell ?_ ?_ _) | (with_reducible refine Below.frame ?_ _) | go_size))⟩
      · obtain ⟨q, rfl⟩ : ∃ q, j = q + 1 := ⟨j - 1, by omega⟩
        have E := Lib.hid (E1.out (by omega) hkn)
        obtain ⟨b, off, rfl, hc⟩ := HR.out.cells (by omega)
        have c1 : w.cell? ⟨b, off + q, none⟩ = some (.int .u32 (o q)) := hc q (by omega)
        have hlt : b < w.heap.size := block_lt_of_cell c1
        have ex : ((q + 1 : Nat) : Int) - 1 = (q : Int) := by omega
        have ez : (decide (((q + 1 : Nat) : Int) = 0)) = false := by simp; omega
        clear hc
        go_wp2_with fail
        go_ret
        exact ⟨by rw [E.out]; rfl, by (repeat' (first | (with_reducible exact Below.refl _ _) | (with_reducible assumption) | (with_reducible refine Below.alloc ?_ ?_ _) | (with_reducible refine Below.drew ?_) | (with_reducible refine bdrewN ?_ _) | (with_reducible refine Below.setCell ?_ ?_ _) | (with_reducible refine Below.frame ?_ _) | go_size))⟩
open Classical in
set_option maxHeartbeats 1000000 in
theorem fit_any (s : Bool) (a : Option Addr) (n cap : Nat) (o : Nat → Int) (w : World) (h : Rd w a n o) (hn : n ≤ 1000000000) (hcap : n ≤ cap) :
    ∃ a' cap', Rd w a' (lenB (valN s n o).natAbs) (dgi (valN s n o).natAbs) ∧ lenB (valN s n o).natAbs ≤ n ∧ lenB (valN s n o).natAbs ≤ cap' ∧
      ∀ w1, Below w.heap.size w w1 → Calls Tryz.prog 48 #[numV s a n cap] w1 fun e w' => e = .returned (numV (decide (valN s n o < 0)) a' (lenB (valN s n o).natAbs) cap') ∧ Below w1.heap.size w1 w' := by
  by_cases hk : okN s n o
  · obtain ⟨f1, f2, f3⟩ := of_facts s n o hk h.rng
    rw [f1, f2]
    refine ⟨a, cap, h.congr f3, Nat.le_refl _, hcap, fun w1 hb1 => ?_⟩
    have C := Lib.hid (fun (w2 : World) (hw : Below w1.heap.size w1 w2) => rcheck_any s a n cap o w2 (h.below (hb1.trans (hw.mono hb1.size))) hn)
    rw [decide_eq_true hk] at C
    clear h f1 f2 f3 hk hb1
    go_enter Tryz.func48, Tryz.ntmps48
    go_wp2_with fail
    refine (C.out _ ?_).mono ?_
    · (repeat' (first | (with_reducible exact Below.refl _ _) | (with_reducible assumption) | (with_reducible refine Below.alloc ?_ ?_ _) | (with_reducible refine Below.drew ?_) | (with_reducible refine bdrewN ?_ _) | (with_reducible refine Below.setCell ?_ ?_ _) | (with_reducible refine Below.frame ?_ _) | go_size))
    rintro e w2 ⟨rfl, hb2⟩
    have B1 := ((Bx.new w1 24 (.bool s) (.slice a n cap)).alloc (.cells #[.bool false, .slice none 0 0] 24)).below hb2 (by simp; omega)
    have B2 := (Bx.new2 w1 (.cells #[.bool s, .slice a n cap] 24) 24 (.bool false) (.slice none 0 0)).below hb2 (by simp)
    have hb0 : Below w1.heap.size w1 w2 := ((Below.refl _ _).alloc (Nat.le_refl _) _ |>.alloc (by go_size) _).trans (hb2.mono (by go_size))
    obtain ⟨b10, b11, b12, b13⟩ := B1.all
    obtain ⟨b20, b21, b22, b23⟩ := B2.all
    have HB := Lib.hid B2
    clear hb2 B1 B2
    go_wp2
    refine bodyPost_ret (results_cell rfl _ _ _ _ _ _ _ rfl (HB.out.set _ _) Tryz.underlying24 rfl (by kernel_rfl)) rfl ⟨rfl, ?_⟩
    (repeat' (first | (with_reducible exact Below.refl _ _) | (with_reducible assumption) | (with_reducible refine Below.alloc ?_ ?_ _) | (with_reducible refine Below.drew ?_) | (with_reducible refine bdrewN ?_ _) | (with_reducible refine Below.setCell ?_ ?_ _) | (with_reducible refine Below.frame ?_ _) | go_size))
  · rw [show valN s n o = 0 from valN_not hk]
    rw [show (Int.natAbs 0) = 0 from rfl, lenB_zero, show decide ((0 : Int) < 0) = false from rfl]
    refine ⟨none, 0, Rd.nil _ _ _, Nat.zero_le _, Nat.le_refl _, fun w1 hb1 => ?_⟩
    have C := Lib.hid (fun (w2 : World) (hw : Below w1.heap.size w1 w2) => rcheck_any s a n cap o w2 (h.below (hb1.trans (hw.mono hb1.size))) hn)
    rw [decide_eq_false hk] at C
    clear h hk hb1
    go_enter Tryz.func48, Tryz.ntmps48
    go_wp2_with fail
    refine (C.out _ ?_).mono ?_
    · (repeat' (first | (with_reducible exact Below.refl _ _) | (with_reducible assumption) | (with_reducible refine Below.alloc ?_ ?_ _) | (with_reducible refine Below.drew ?_) | (with_reducible refine bdrewN ?_ _) | (with_reducible refine Below.setCell ?_ ?_ _) | (with_reducible refine Below.frame ?_ _) | go_size))
    rintro e w2 ⟨rfl, hb2⟩
    have B2 := (Bx.new2 w1 (.cells #[.bool s, .slice a n cap] 24) 24 (.bool false) (.slice none 0 0)).below hb2 (by simp)
    have hb0 : Below w1.heap.size w1 w2 := ((Below.refl _ _).alloc (Nat.le_refl _) _ |>.alloc (by go_size) _).trans (hb2.mono (by go_size))
    obtain ⟨b20, b21, b22, b23⟩ := B2.all
    have HB := Lib.hid B2
    clear hb2 B2
    go_wp2
    refine bodyPost_ret (results_cell rfl _ _ _ _ _ _ _ rfl (HB.out.set _ _) Tryz.underlying24 rfl (by kernel_rfl)) rfl ⟨rfl, ?_⟩
    (repeat' (first | (with_reducible exact Below.refl _ _) | (with_reducible assumption) | (with_reducible refine Below.alloc ?_ ?_ _) | (with_reducible refine Below.drew ?_) | (with_reducible refine bdrewN ?_ _) | (with_reducible refine Below.setCell ?_ ?_ _) | (with_reducible refine Below.frame ?_ _) | go_size))
set_option maxHeartbeats 1000000 in
theorem order_any (x y : Nat) (a b : Option Addr) (ca cb : Nat) (w : World) (ha : Rd w a (lenB x) (dgi x)) (hb : Rd w b (lenB y) (dgi y)) (hx : lenB x ≤ 1000000000) (hy : lenB y ≤ 1000000000) :
    Calls Tryz.prog 96 #[.slice a (lenB x) ca, .slice b (lenB y) cb] w fun e w' => e = .returned (.int .i64 (cmpZ x y)) ∧ ∃ m, w' = w.drewN m := by
  obtain ⟨k0, hD⟩ := topDiff_any (dgi x) (dgi y) (lenB x)
  have TC := Lib.hid (fun (h : lenB x = lenB y) => by
    have hC := topDiff_cmp (dgi_Dig x _) (dgi_Dig y _) hD
    rw [sumB_dgi, show sumB (dgi y) (lenB x) = y by rw [h]; exact sumB_dgi y] at hC
    exact hC)
  have CL := Lib.hid (And.intro (fun (h : lenB x < lenB y) => (cmpZ_lt (by have := cmp_len h; omega) : cmpZ x y = -1)) (fun (h : lenB y < lenB x) => (cmpZ_gt (by have := cmp_len h; omega) : cmpZ x y = 1)))
  obtain ⟨hk0, heq, hne⟩ := hD
  have EQ := Lib.hid heq
  have NE := Lib.hid hne
  have HA := Lib.hid ha; have HB := Lib.hid hb
  clear heq hne ha hb
  obtain ⟨fx, hfx⟩ : ∃ fx, fx = dgi x := ⟨_, rfl⟩
  obtain ⟨fy, hfy⟩ : ∃ fy, fy = dgi y := ⟨_, rfl⟩
  rw [← hfx] at TC EQ NE HA
  rw [← hfy] at TC EQ NE HB
  clear hfx hfy
  generalize cmpZ (x : Int) (y : Int) = r at *
  generalize lenB x = X at *
  generalize lenB y = Y at *
  rcases Nat.lt_trichotomy X Y with h | h | h
  · have E := Lib.hid (CL.out.1 h)
    have hd : ((X : Int) == (Y : Int)) = false := by simp; omega
    go_enter Tryz.func96, Tryz.ntmps96
    go_wp2
    go_ret
    exact ⟨by rw [E.out]; rfl, 0, rfl⟩
  · subst h
    have E := Lib.hid (TC.out rfl)
    go_enter Tryz.func96, Tryz.ntmps96
    go_wp2_with fail
    go_loopw [5] (fun i wr => ∃ j : Nat, k0 ≤ j ∧ j ≤ X ∧ i = .int .i64 ((j : Int) - 1) ∧ ∃ m, wr = w.drewN m) (fun i _ => (1 + intOf i).toNat)
    case atStart => exact ⟨X, hk0, Nat.le_refl _, rfl, 0, rfl⟩
    case round =>
      obtain ⟨j, hj, hjn, rfl, m0, rfl⟩ := hrel
      by_cases hj0 : j = 0
      · subst hj0
        have Z := Lib.hid (show r = 0 by rw [E.out, if_pos (by omega)])
        rw [show (((0 : Nat) : Int) - 1) = -1 from rfl]
        go_wp2
        go_ret
        exact ⟨by rw [Z.out]; rfl, m0, rfl⟩
      · obtain ⟨q, rfl⟩ : ∃ q, j = q + 1 := ⟨j - 1, by omega⟩
        rw [show (((q + 1 : Nat) : Int) - 1) = (q : Int) by omega]
        obtain ⟨b1, o1, rfl, hc1⟩ := HA.out.cells (by omega)
        obtain ⟨b2, o2, rfl, hc2⟩ := HB.out.cells (by omega)
        have c1 : w.cell? ⟨b1, o1 + q, none⟩ = some (.int .u32 (fx q)) := hc1 q (by omega)
        have c2 : w.cell? ⟨b2, o2 + q, none⟩ = some (.int .u32 (fy q)) := hc2 q (by omega)
        have lx : q < X := by omega
        clear hc1 hc2
        rcases Int.lt_trichotomy (fx q) (fy q) with hlt | hlt | hlt
        · have hkq : k0 = q + 1 := by
            rcases Nat.lt_or_ge q k0 with h | h
            · omega
            · have := EQ.out q h lx; omega
          have Z := Lib.hid (show r = -1 by rw [E.out, if_neg (by omega), hkq]; exact cmpZ_lt hlt)
          have d1 : decide (fx q < fy q) = true := decide_eq_true hlt
          clear hkq
          go_wp2
          go_quiet (fail)
          go_wp2
          go_ret
          exact ⟨by rw [Z.out]; rfl, _, by rw [World.drewN_drewN]⟩
        · have hkq : k0 ≤ q := by
            rcases Nat.lt_or_ge q k0 with h | h
            · have h2 := NE.out (by omega)
              rw [show k0 - 1 = q by omega] at h2
              exact absurd hlt h2
            · exact h
          have d1 : decide (fx q < fy q) = false := decide_eq_false (by omega)
          have d2 : decide (fx q > fy q) = false := decide_eq_false (by omega)
          have d3 : decide (fy q < fx q) = false := decide_eq_false (by omega)
          have n1 : ¬ fx q < fy q := by omega
          have n2 : ¬ fy q < fx q := by omega
          clear hlt
          go_wp2
          go_quiet (fail)
          go_wp2
          go_quiet (fail)
          go_wp2
          go_roundw
          case rel => exact ⟨q, hkq, by omega, rfl, _, rfl⟩
          case measure => simp [intOf]; omega
        · have hkq : k0 = q + 1 := by
            rcases Nat.lt_or_ge q k0 with h | h
            · omega
            · have := EQ.out q h lx; omega
          have Z := Lib.hid (show r = 1 by rw [E.out, if_neg (by omega), hkq]; exact cmpZ_gt hlt)
          have n1 : ¬ fx q < fy q := by omega
          have d1 : decide (fx q < fy q) = false := decide_eq_false n1
          clear hkq
          go_wp2
          go_quiet (fail)
          go_wp2
          go_quiet (fail)
          go_wp2
          go_ret
          exact ⟨by rw [Z.out]; rfl, _, by rw [World.drewN_drewN, World.drewN_drewN]⟩
  · have E := Lib.hid (CL.out.2 h)
    have hd : ((X : Int) == (Y : Int)) = false := by simp; omega
    go_enter Tryz.func96, Tryz.ntmps96
    go_wp2
    go_ret
    exact ⟨by rw [E.out]; rfl, 0, rfl⟩
set_option maxHeartbeats 1000000 in
theorem num_any (s : Bool) (a : Option Addr) (n cap : Nat) (o : Nat → Int) (w : World) (h : Rd w a n o) (hd : Dig o n) (hn : n ≤ 1000000000) (hcap : n ≤ cap) :
    Calls Tryz.prog 38 #[.bool s, .slice a n cap] w fun e w' => e = .returned (numV (s && decide (0 < lenB (sumB o n).toNat)) a (lenB (sumB o n).toNat) cap) ∧ Below w.heap.size w w' := by
  have HL := Lib.hid (lenB_le_of hd)
  have HZ := Lib.hid (fun i => cut_zero (i := i) hd)
  have HT := Lib.hid (cut_last hd)
  generalize lenB (sumB o n).toNat = L at HL HZ HT ⊢
  have HR := Lib.hid h
  clear hd h
  have B0 := Lib.hid (Bx.new w 24 (.bool false) (.slice none 0 0))
  go_enter Tryz.func38, Tryz.ntmps38
  go_wp2_with fail
  go_loopw [1] (fun v wr => ∃ j : Nat, L ≤ j ∧ j ≤ n ∧ v = .slice a j cap ∧ ∃ m, wr = (w.alloc (.cells #[.bool false, .slice none 0 0] 24)).drewN m) (fun v _ => match v with | .slice _ j _ => j | _ => 0)
  case atStart => exact ⟨n, HL.out, Nat.le_refl _, rfl, 0, rfl⟩
  case round =>
    obtain ⟨j, hj, hjn, rfl, m0, rfl⟩ := hrel
    have B1 := B0.out.drewN m0
    obtain ⟨b10, b11, b12, b13⟩ := B1.all
    have KB := Lib.hid B1
    clear B1
    by_cases hj0 : j = 0
    · obtain rfl : L = 0 := by omega
      subst hj0
      cases s with
      | false =>
        go_wp2
        all_goals
          refine bodyPost_ret (results_cell rfl _ _ _ _ _ _ _ rfl (KB.out.set _ _) Tryz.underlying24 rfl (by kernel_rfl)) rfl ⟨rfl, ?_⟩
          (repeat' (first | (with_reducible exact Below.refl _ _) | (with_reducible assumption) | (with_reducible refine Below.alloc ?_ ?_ _) | (with_reducible refine Below.drew ?_) | (with_reducible refine bdrewN ?_ _) | (with_reducible refine Below.setCell ?_ ?_ _) | (with_reducible refine Below.frame ?_ _) | go_size))
      | true =>
        go_wp2
        all_goals
          refine bodyPost_ret (results_cell rfl _ _ _ _ _ _ _ rfl (KB.out.set _ _) Tryz.underlying24 rfl (by kernel_rfl)) rfl ⟨rfl, ?_⟩
          (repeat' (first | (with_reducible exact Below.refl _ _) | (with_reducible assumption) | (with_reducible refine Below.alloc ?_ ?_ _) | (with_reducible refine Below.drew ?_) | (with_reducible refine bdrewN ?_ _) | (with_reducible refine Below.setCell ?_ ?_ _) | (with_reducible refine Below.frame ?_ _) | go_size))
    · obtain ⟨q, rfl⟩ : ∃ q, j = q + 1 := ⟨j - 1, by omega⟩
      obtain ⟨b, off, rfl, hc⟩ := HR.out.cells (by omega)
      have c1 : w.cell? ⟨b, off + q, none⟩ = some (.int .u32 (o q)) := hc q (by omega)
      have hb : b < w.heap.size := block_lt_of_cell c1
      have ex : ((q + 1 : Nat) : Int) - 1 = (q : Int) := by omega
      have hq : ((q + 1 : Nat) : Int) > 0 := by omega
      clear hc
      by_cases hjL : q + 1 = L
      · subst hjL
        have hz : o q ≠ 0 := HT.out (by omega)
        have hzb : (o q == 0) = false := by simpa using hz
        have D := Lib.hid (show decide (0 < q + 1) = true by simp)
        cases s with
        | false =>
          go_wp2
          all_goals
            refine bodyPost_ret (results_cell rfl _ _ _ _ _ _ _ rfl (KB.out.set _ _) Tryz.underlying24 rfl (by kernel_rfl)) rfl ⟨rfl, ?_⟩
            (repeat' (first | (with_reducible exact Below.refl _ _) | (with_reducible assumption) | (with_reducible refine Below.alloc ?_ ?_ _) | (with_reducible refine Below.drew ?_) | (with_reducible refine bdrewN ?_ _) | (with_reducible refine Below.setCell ?_ ?_ _) | (with_reducible refine Below.frame ?_ _) | go_size))
        | true =>
          go_wp2
          all_goals
            refine bodyPost_ret (results_cell rfl _ _ _ _ _ _ _ rfl (KB.out.set _ _) Tryz.underlying24 rfl (by kernel_rfl)) rfl ⟨by rw [D.out]; rfl, ?_⟩
            (repeat' (first | (with_reducible exact Below.refl _ _) | (with_reducible assumption) | (with_reducible refine Below.alloc ?_ ?_ _) | (with_reducible refine Below.drew ?_) | (with_reducible refine bdrewN ?_ _) | (with_reducible refine Below.setCell ?_ ?_ _) | (with_reducible refine Below.frame ?_ _) | go_size))
      · have hz := HZ.out q (by omega) (by omega)
        go_wp2
        go_roundw
        case rel => exact ⟨q, by omega, by omega, rfl, m0, rfl⟩
        case measure => simp
def ShortR (w : World) (n : Nat) (X by' : Int) (e : Ending) (w' : World) : Prop :=
  ∃ p, e = .returned (.tuple #[.slice (some ⟨w.heap.size, 0, none⟩) n n, .int .u32 (X % by')]) ∧ Dig p n ∧ sumB p n = X / by' ∧ Own 54 w' w.heap.size (some ⟨w.heap.size, 0, none⟩) n n p ∧ Below w.heap.size w w'
theorem ownBlock_ge {w : World} {base T n : Nat} {v : Value} {xs : List Value} (h : w.ownsRow base T 1 v n xs) {g : Nat} (hg : v.ownBlock = some g) : base ≤ g := by
  rcases h.2 with ⟨rfl, _⟩ | ⟨g', cap, cur, rfl, hb, _⟩
  · cases hg
  · simp only [Value.ownBlock, Option.some.injEq] at hg; omega
def ResF (w : World) (z : Int) (e : Ending) (w' : World) : Prop :=
  ∃ a cap, e = .returned (numV (decide (z < 0)) a (lenB z.natAbs) cap) ∧ Own 54 w' w.heap.size a (lenB z.natAbs) cap (dgi z.natAbs) ∧ Below w.heap.size w w'
def AmtR (w : World) (N : Nat) (e : Ending) (w' : World) : Prop :=
  ∃ a K cap o, e = .returned (.slice a K cap) ∧ Dig o K ∧ sumB o K = (N : Int) ∧ K ≤ 1000000000 ∧ Own 54 w' w.heap.size a K cap o ∧ Below w.heap.size w w'
theorem Own.short {T : Nat} {w : World} {base : Nat} {a : Option Addr} {n cap L : Nat} {o o' : Nat → Int} (h : Own T w base a n cap o) (hL : L ≤ n) (e : ∀ i, i < L → o i = o' i) : Own T w base a L cap o' := by
  refine ⟨Nat.le_trans hL h.le, ?_, fun i hi => by rw [← e i hi]; exact h.rng i (by omega)⟩
  rcases h.place with ⟨e0, h0, h1⟩ | ⟨g, cur, ha, hbg, hg, hcap, hc⟩
  · exact Or.inl ⟨e0, by omega, by omega⟩
  · exact Or.inr ⟨g, cur, ha, hbg, hg, hcap, fun i hi => by rw [hc i (by omega)]; show some (Value.int .u32 (o i)) = _; rw [e i hi]⟩
theorem own_fit {T : Nat} {w : World} {base : Nat} {a : Option Addr} {n cap N : Nat} {o : Nat → Int} (h : Own T w base a n cap o) (hd : Dig o n) (hs : sumB o n = (N : Int)) : Own T w base a (lenB N) cap (dgi N) := by
  have e : (sumB o n).toNat = N := by omega
  have h1 := lenB_le_of hd
  rw [e] at h1
  refine h.short h1 fun i hi => ?_
  have h2 := dg_sumB hd i (by omega)
  rw [e] at h2
  exact h2.symm
theorem num_own (s sB : Bool) (a : Option Addr) (n cap N b : Nat) (o : Nat → Int) (w : World) (h : Own 54 w b a n cap o) (hd : Dig o n) (hn : n ≤ 1000000000) (hs : sumB o n = (N : Int)) (hB : (s && decide (0 < lenB N)) = sB) :
    Calls Tryz.prog 38 #[.bool s, .slice a n cap] w fun e w' => e = .returned (numV sB a (lenB N) cap) ∧ Below w.heap.size w w' := by
  have h1 := num_any s a n cap o w h.rd hd hn h.le
  rw [show (sumB o n).toNat = N by omega, hB] at h1
  exact h1
def AmtF (b N : Nat) (x : Option Addr × Nat × Nat) (w : World) : Prop := ∃ o, Dig o x.2.1 ∧ sumB o x.2.1 = (N : Int) ∧ x.2.1 ≤ 1000000000 ∧ Own 54 w b x.1 x.2.1 x.2.2 o
theorem AmtF.keeps {b N : Nat} (x : Option Addr × Nat × Nat) (w w' : World) (h : AmtF b N x w) (hb : Below w.heap.size w w') : AmtF b N x w' := by
  obtain ⟨o, h1, h2, h3, h4⟩ := h
  exact ⟨o, h1, h2, h3, h4.below hb⟩
set_option maxHeartbeats 1000000 in
theorem rcmp_any (s1 : Bool) (a1 : Option Addr) (n1 c1 : Nat) (o1 : Nat → Int) (s2 : Bool) (a2 : Option Addr) (n2 c2 : Nat) (o2 : Nat → Int) (w : World)
    (h1 : Rd w a1 n1 o1) (hn1 : n1 ≤ 100000000) (hc1 : n1 ≤ c1) (h2 : Rd w a2 n2 o2) (hn2 : n2 ≤ 100000000) (hc2 : n2 ≤ c2) :
    Calls Tryz.prog 32 #[numV s1 a1 n1 c1, numV s2 a2 n2 c2] w fun e w' => e = .returned (.int .i64 (cmpZ (valN s1 n1 o1) (valN s2 n2 o2))) ∧ Below w.heap.size w w' := by
  obtain ⟨x1, d1, r1, l1, m1, O1⟩ := fit_any s1 a1 n1 c1 o1 w h1 (by omega) hc1
  obtain ⟨x2, d2, r2, l2, m2, O2⟩ := fit_any s2 a2 n2 c2 o2 w h2 (by omega) hc2
  generalize valN s1 n1 o1 = z1 at r1 l1 m1 O1 ⊢
  have HO1 := Lib.hid O1; clear O1
  generalize valN s2 n2 o2 = z2 at r2 l2 m2 O2 ⊢
  have HO2 := Lib.hid O2; clear O2
  have HR := Lib.hid (And.intro r1 r2)
  clear h1 h2 r1 r2
  have HB1 := Lib.hid ((Bx.new w 24 (.bool s1) (.slice a1 n1 c1)).alloc (.cells #[.bool s2, .slice a2 n2 c2] 24))
  have HB2 := Lib.hid (Bx.new2 w (.cells #[.bool s1, .slice a1 n1 c1] 24) 24 (.bool s2) (.slice a2 n2 c2))
  go_enter Tryz.func32, Tryz.ntmps32
  go_wp2_with fail
  refine (HO1.out _ ?_).mono ?_
  · (repeat' (first | (with_reducible exact Below.refl _ _) | (with_reducible assumption) | (with_reducible refine Below.alloc ?_ ?_ _) | (with_reducible refine Below.drew ?_) | (with_reducible refine bdrewN ?_ _) | (with_reducible refine Below.setCell ?_ ?_ _) | (with_reducible refine Below.frame ?_ _) | go_size))
  rintro e w1 ⟨rfl, hb1⟩
  have B1 := HB1.out.below hb1 HB1.out.lt
  have B2 := HB2.out.below hb1 HB2.out.lt
  have G1 := Lib.hid (((Below.refl _ _).alloc (by go_size) _ |>.alloc (by go_size) _).trans (hb1.mono (by go_size)) : Below w.heap.size w w1)
  have K1 := Lib.hid B1; have K2 := Lib.hid B2
  obtain ⟨b10, b11, b12, b13⟩ := B1.all
  obtain ⟨b20, b21, b22, b23⟩ := B2.all
  clear HB1 HB2 B1 B2 hb1
  go_wp2_with fail
  refine (HO2.out _ ?_).mono ?_
  · have := G1.out; (repeat' (first | (with_reducible exact Below.refl _ _) | (with_reducible assumption) | (with_reducible refine Below.alloc ?_ ?_ _) | (with_reducible refine Below.drew ?_) | (with_reducible refine bdrewN ?_ _) | (with_reducible refine Below.setCell ?_ ?_ _) | (with_reducible refine Below.frame ?_ _) | go_size))
  rintro e w2 ⟨rfl, hb2⟩
  have B1 := (K1.out.set (.bool (decide (z1 < 0))) (.slice x1 (lenB z1.natAbs) d1)).below hb2 (by simpa using K1.out.lt)
  have B2 := ((K2.out.other (a := ⟨w.heap.size, 0, none⟩) (by dsimp only; omega) (.bool (decide (z1 < 0)))).other (a := ⟨w.heap.size, 1, none⟩) (by dsimp only; omega) (.slice x1 (lenB z1.natAbs) d1)).below hb2 (by simpa using K2.out.lt)
  have G2 := Lib.hid (((G1.out.setCell (by simp) _).setCell (by simp) _).trans (hb2.mono (by simpa using G1.out.size)) : Below w.heap.size w w2)
  have C1 := Lib.hid B1; have C2 := Lib.hid B2
  obtain ⟨b10, b11, b12, b13⟩ := B1.all
  obtain ⟨b20, b21, b22, b23⟩ := B2.all
  clear K1 K2 B1 B2 hb2 G1
  go_upto_region 3 with (fail)
  obtain ⟨W, hW⟩ : ∃ W, W = ((w2.setCell ⟨w.heap.size + 1, 0, none⟩ (.bool (decide (z2 < 0)))).setCell ⟨w.heap.size + 1, 1, none⟩ (.slice x2 (lenB z2.natAbs) d2)) := ⟨_, rfl⟩
  have B1 := (C1.out.other (a := ⟨w.heap.size + 1, 0, none⟩) (by dsimp only; omega) (.bool (decide (z2 < 0)))).other (a := ⟨w.heap.size + 1, 1, none⟩) (by dsimp only; omega) (.slice x2 (lenB z2.natAbs) d2)
  have B2 := C2.out.set (.bool (decide (z2 < 0))) (.slice x2 (lenB z2.natAbs) d2)
  have G3 := (G2.out.setCell (p := ⟨w.heap.size + 1, 0, none⟩) (by simp) (.bool (decide (z2 < 0)))).setCell (p := ⟨w.heap.size + 1, 1, none⟩) (by simp) (.slice x2 (lenB z2.natAbs) d2)
  rw [← hW] at B1 B2 G3
  rw [show ((w2.setCell ⟨w.heap.size + 1, 0, none⟩ (.bool (decide (z2 < 0)))).setCell ⟨w.heap.size + 1, 1, none⟩ (.slice x2 (lenB z2.natAbs) d2)) = W from hW.symm]
  have KG := Lib.hid G3
  have AM := Lib.hid (order_any z1.natAbs z2.natAbs x1 x2 d1 d2 W (HR.out.1.below G3) (HR.out.2.below G3) (by omega) (by omega))
  have AN := Lib.hid (order_any z2.natAbs z1.natAbs x2 x1 d2 d1 W (HR.out.2.below G3) (HR.out.1.below G3) (by omega) (by omega))
  have E := Lib.hid (cmpZ_amounts z1 z2)
  clear b10 b11 b12 b13 b20 b21 b22 b23 C1 C2 hW G2 G3 HO1 HO2
  obtain ⟨b10, b11, b12, b13⟩ := B1.all
  obtain ⟨b20, b21, b22, b23⟩ := B2.all
  clear B1 B2
  by_cases n1 : z1 < 0 <;> by_cases n2 : z2 < 0
  · have E2 := Lib.hid (E.out.trans (by rw [if_pos n1, if_pos n2]))
    rw [decide_eq_true n1] at b10
    rw [decide_eq_true n2] at b20
    clear n1 n2 E
    go_wp2_with fail
    refine AN.out.mono ?_
    rintro e w2 ⟨rfl, m, rfl⟩
    go_wp2
    go_ret
    exact ⟨by rw [E2.out]; rfl, bdrewN KG.out m⟩
  · have E2 := Lib.hid (E.out.trans (by rw [if_pos n1, if_neg n2]))
    rw [decide_eq_true n1] at b10
    rw [decide_eq_false n2] at b20
    clear n1 n2 E
    go_wp2
    go_ret
    exact ⟨by rw [E2.out]; rfl, KG.out⟩
  · have E2 := Lib.hid (E.out.trans (by rw [if_neg n1, if_pos n2]))
    rw [decide_eq_false n1] at b10
    rw [decide_eq_true n2] at b20
    clear n1 n2 E
    go_wp2
    go_ret
    exact ⟨by rw [E2.out]; rfl, KG.out⟩
  · have E2 := Lib.hid (E.out.trans (by rw [if_neg n1, if_neg n2]))
    rw [decide_eq_false n1] at b10
    rw [decide_eq_false n2] at b20
    clear n1 n2 E
    go_wp2_with fail
    refine AM.out.mono ?_
    rintro e w2 ⟨rfl, m, rfl⟩
    go_wp2
    go_ret
    exact ⟨by rw [E2.out]; rfl, bdrewN KG.out m⟩
end Go.Proofs.YtefjjhfahebmeaaGreatDoor.Limb
namespace Go.Proofs.YtefjjhfahebmeaaGreatDoor.Book
open Go.RowKit Go.Sort Go.Fresh Go.Proofs.YtefjjhfahebmeaaGreatDoor.Limb
structure Touch (U : Nat → Prop) (w w' : World) : Prop where
  os : w'.os = w.os
  tape : w'.tape = w.tape
  output : w'.output = w.output
  size : w.heap.size ≤ w'.heap.size
  block : ∀ k, k < w.heap.size → ¬ U k → w'.heap[k]? = w.heap[k]?
theorem Touch.refl (U : Nat → Prop) (w : World) : Touch U w w := ⟨rfl, rfl, rfl, Nat.le_refl _, fun _ _ _ => rfl⟩
theorem Touch.trans {U : Nat → Prop} {a b c : World} (h : Touch U a b) (k : Touch U b c) : Touch U a c :=
  ⟨k.os.trans h.os, k.tape.trans h.tape, k.output.trans h.output, Nat.le_trans h.size k.size, fun i hi hu => (k.block i (Nat.lt_of_lt_of_le hi h.size) hu).trans (h.block i hi hu)⟩
theorem Touch.mono {U V : Nat → Prop} {a b : World} (h : Touch U a b) (hU : ∀ k, U k → V k) : Touch V a b := ⟨h.os, h.tape, h.output, h.size, fun i hi hu => h.block i hi fun hh => hu (hU i hh)⟩
theorem Touch.weak {U V : Nat → Prop} {a b : World} (h : Touch U a b) (hU : ∀ k, k < a.heap.size → U k → V k) : Touch V a b := ⟨h.os, h.tape, h.output, h.size, fun i hi hu => h.block i hi fun hh => hu (hU i hi hh)⟩
theorem Touch.of_below {U : Nat → Prop} {a b : World} (h : Below a.heap.size a b) : Touch U a b := ⟨h.os, h.tape, h.output, h.size, fun i hi _ => h.block i hi⟩
theorem Touch.to_below {U : Nat → Prop} {a b : World} {B : Nat} (h : Touch U a b) (hB : B ≤ a.heap.size) (hU : ∀ k, k < B → ¬ U k) : Below B a b := ⟨h.os, h.tape, h.output, h.size, fun i hi => h.block i (by omega) (hU i hi)⟩
theorem Touch.drewN {U : Nat → Prop} {a b : World} (h : Touch U a b) (m : Nat) : Touch U a (b.drewN m) := ⟨h.os, h.tape, h.output, h.size, h.block⟩
theorem Touch.drew {U : Nat → Prop} {a b : World} (h : Touch U a b) : Touch U a b.drew := ⟨h.os, h.tape, h.output, h.size, h.block⟩
theorem Touch.alloc {U : Nat → Prop} {a b : World} (h : Touch U a b) (o : Obj) : Touch U a (b.alloc o) := h.trans (Touch.of_below ((Below.refl _ _).alloc (Nat.le_refl _) o))
theorem Touch.setCell {U : Nat → Prop} {a b : World} (h : Touch U a b) {p : Addr} (hp : U p.block ∨ a.heap.size ≤ p.block) (v : Value) : Touch U a (b.setCell p v) :=
  ⟨h.os, h.tape, h.output, by simpa using h.size, fun i hi hu => by
    rw [Below.heap_setCell _ _ _ _ (fun e => by subst e; rcases hp with hp | hp; exact hu hp; omega)]
    exact h.block i hi hu⟩
theorem Touch.grown {U : Nat → Prop} {a b c : World} {row : Option Nat} (h : Touch U a b) (hg : b.grownBy c row) (hr : ∀ k, row = some k → U k ∨ a.heap.size ≤ k) : Touch U a c :=
  ⟨hg.os.trans h.os, hg.tape.trans h.tape, hg.output.trans h.output, Nat.le_trans h.size hg.size, fun i hi hu => by
    rw [hg.block i (Nat.lt_of_lt_of_le hi h.size) (fun e => by rcases hr i e.symm with h1 | h1; exact hu h1; omega)]
    exact h.block i hi hu⟩
end Go.Proofs.YtefjjhfahebmeaaGreatDoor.Book
namespace Go.Proofs.YtefjjhfahebmeaaGreatDoor.Limb
open Go.RowKit Go.Sort Go.Fresh
theorem Own.keep {T : Nat} {w w' : World} {base : Nat} {a : Option Addr} {n cap : Nat} {o : Nat → Int} (h : Own T w base a n cap o) (hk : ∀ p, a = some p → w'.heap[p.block]? = w.heap[p.block]?) : Own T w' base a n cap o := by
  refine ⟨h.le, ?_, h.rng⟩
  rcases h.place with h0 | ⟨g, cur, ha, hbg, hg, hcap, hc⟩
  · exact Or.inl h0
  · exact Or.inr ⟨g, cur, ha, hbg, (hk _ ha).trans hg, hcap, hc⟩
theorem Own.blk {T : Nat} {w : World} {base : Nat} {a : Option Addr} {n cap : Nat} {o : Nat → Int} (h : Own T w base a n cap o) {p : Addr} (hp : a = some p) : p = ⟨p.block, 0, none⟩ ∧ base ≤ p.block ∧ p.block < w.heap.size := by
  rcases h.place with h0 | ⟨g, cur, ha, hbg, hg, hcap, hc⟩
  · rw [h0.1] at hp; cases hp
  · obtain rfl := Option.some.inj (ha.symm.trans hp)
    exact ⟨rfl, hbg, lt_of_block hg⟩
theorem Own.some_of_pos {T : Nat} {w : World} {base : Nat} {a : Option Addr} {n cap : Nat} {o : Nat → Int} (h : Own T w base a n cap o) (hn : 0 < n) : ∃ g, a = some ⟨g, 0, none⟩ := by
  rcases h.place with h0 | ⟨g, cur, ha, _⟩
  · omega
  · exact ⟨g, ha⟩
theorem Own.fz {T : Nat} {w : World} {base g n cap : Nat} {o : Nat → Int} (h : Own T w base (some ⟨g, 0, none⟩) n cap o) (i : Nat) : w.frozen? ⟨g, i, none⟩ = false := by
  rcases h.place with h0 | ⟨g', cur, ha, hbg, hg, hcap, hc⟩
  · cases h0.1
  · cases ha; exact frozen_of_row w _ i cur T hg
theorem Own.cell {T : Nat} {w : World} {base g n cap : Nat} {o : Nat → Int} (h : Own T w base (some ⟨g, 0, none⟩) n cap o) {i : Nat} (hi : i < n) : w.cell? ⟨g, i, none⟩ = some (.int .u32 (o i)) := by
  rcases h.place with h0 | ⟨g', cur, ha, hbg, hg, hcap, hc⟩
  · cases h0.1
  · cases ha
    rw [cell_of_row _ _ _ _ _ _ hg]
    exact hc i hi
theorem Own.congr {T : Nat} {w : World} {base : Nat} {a : Option Addr} {n cap : Nat} {o o' : Nat → Int} (h : Own T w base a n cap o) (e : ∀ i, i < n → o i = o' i) : Own T w base a n cap o' := by
  refine ⟨h.le, ?_, fun i hi => by rw [← e i hi]; exact h.rng i hi⟩
  rcases h.place with h0 | ⟨g, cur, ha, hbg, hg, hcap, hc⟩
  · exact Or.inl h0
  · exact Or.inr ⟨g, cur, ha, hbg, hg, hcap, fun i hi => by rw [hc i hi]; show some (Value.int .u32 (o i)) = _; rw [e i hi]⟩
theorem Own.less {T : Nat} {w : World} {base : Nat} {a : Option Addr} {n cap L : Nat} {o : Nat → Int} (h : Own T w base a n cap o) (hL : L ≤ n) : Own T w base a L cap o := by
  refine ⟨Nat.le_trans hL h.le, ?_, fun i hi => h.rng i (by omega)⟩
  rcases h.place with ⟨e0, h0, h1⟩ | ⟨g, cur, ha, hbg, hg, hcap, hc⟩
  · exact Or.inl ⟨e0, by omega, by omega⟩
  · exact Or.inr ⟨g, cur, ha, hbg, hg, hcap, fun i hi => hc i (by omega)⟩
theorem Own.put {T : Nat} {w : World} {base g n cap : Nat} {o : Nat → Int} (h : Own T w base (some ⟨g, 0, none⟩) n cap o) {t : Nat} (ht : t < n) {v : Int} (hv : 0 ≤ v ∧ v ≤ 4294967295) :
    Own T (w.setCell ⟨g, t, none⟩ (.int .u32 v)) base (some ⟨g, 0, none⟩) n cap (upd o t v) := by
  refine ⟨h.le, ?_, fun i hi => ?_⟩
  · rcases h.place with h0 | ⟨g', cur, ha, hbg, hg, hcap, hc⟩
    · cases h0.1
    · cases ha
      refine Or.inr ⟨g, cur.setIfInBounds t (.int .u32 v), rfl, hbg, heap_setCell_same w g t cur T _ hg, by simpa using hcap, fun i hi => ?_⟩
      rw [Array.getElem?_setIfInBounds]
      by_cases e : t = i
      · subst e
        have := h.le
        rw [if_pos rfl, if_pos (by omega)]
        show _ = some (Value.int .u32 (upd o t v t)); rw [upd_same]
      · rw [if_neg e]
        show _ = some (Value.int .u32 (upd o t v i)); rw [upd_ne _ _ (fun h => e h.symm)]
        exact hc i hi
  · by_cases e : i = t
    · subst e; rw [upd_same]; exact hv
    · rw [upd_ne _ _ e]; exact h.rng i hi
end Go.Proofs.YtefjjhfahebmeaaGreatDoor.Limb
namespace Go.Proofs.YtefjjhfahebmeaaGreatDoor.Book
open Go.RowKit Go.Sort Go.Fresh Go.Proofs.YtefjjhfahebmeaaGreatDoor.Limb
theorem ucs_upd {o : Nat → Int} {n : Nat} {v : Int} : ucs (upd o n v) n = ucs o n := by
  unfold ucs
  refine List.map_congr_left fun i hi => ?_
  rw [List.mem_range] at hi
  show Value.int .u32 (upd o n v i) = .int .u32 (o i)
  rw [upd_ne _ _ (by omega)]
theorem push_any {w : World} {base : Nat} {a : Option Addr} {n cap : Nat} {o : Nat → Int} (h : Own 54 w base a n cap o) (hn : n ≤ 1000000000) (hb : base ≤ w.heap.size) {gs : Nat} {v : Int} (hc : w.cell? ⟨gs, 0, none⟩ = some (.int .u32 v)) (hv : 0 ≤ v ∧ v ≤ 4294967295) (ty m c : Nat) (hm : m = 1) :
    ∃ a' cap' w', (Builtin.append_ #[22, 22] ty #[.slice a n cap, .slice (some ⟨gs, 0, none⟩) m c]).run Tryz.prog w = .ok (.slice a' (n + 1) cap') w' ∧ Own 54 w' base a' (n + 1) cap' (upd o n v) ∧
      ((a' = a ∧ cap' = cap ∧ w.grownBy w' (a.map (·.block))) ∨ ((∃ g, a' = some ⟨g, 0, none⟩ ∧ w.heap.size ≤ g) ∧ w.grownBy w' none ∧ cap < n + 1)) := by
  subst hm
  obtain ⟨i0, hi, hz0, hz1, hz2⟩ := info_parts info32
  have hnews : ∀ j u, [Value.int .u32 v][j]? = some u → w.cell? ((⟨gs, 0, none⟩ : Addr).add j) = some u := by
    intro j u hj
    match j, hj with
    | 0, hj =>
      simp at hj; subst hj
      rw [Addr.add_lit]; exact hc
  have h1 : ∀ u ∈ [Value.int .u32 v], u.oneCell' = true := by intro u hu; simp at hu; subst hu; rfl
  have hrng : ∀ i, i < n + 1 → 0 ≤ upd o n v i ∧ upd o n v i ≤ 4294967295 := by
    intro i hi
    by_cases e : i = n
    · subst e; rw [upd_same]; exact hv
    · rw [upd_ne _ _ e]; exact h.rng i (by omega)
  have grownOwn : ∀ old, old < n + 1 → (w.drew.alloc (.cells ((ucs o n).toArray ++ [Value.int .u32 v].toArray ++ Builtin.zeroCells (Value.int .u32 0).cells (grownCap w (n + 1) old 54 - (n + 1))) 54)).heap.size = w.heap.size + 1 ∧
      Own 54 (w.drew.alloc (.cells ((ucs o n).toArray ++ [Value.int .u32 v].toArray ++ Builtin.zeroCells (Value.int .u32 0).cells (grownCap w (n + 1) old 54 - (n + 1))) 54)) base (some ⟨w.heap.size, 0, none⟩) (n + 1) (grownCap w (n + 1) old 54) (upd o n v) ∧
      w.grownBy (w.drew.alloc (.cells ((ucs o n).toArray ++ [Value.int .u32 v].toArray ++ Builtin.zeroCells (Value.int .u32 0).cells (grownCap w (n + 1) old 54 - (n + 1))) 54)) none := by
    intro old ho
    have hge := grownCap_ge w (n + 1) old 54
    refine ⟨by simp, ⟨hge, Or.inr ⟨w.heap.size, _, rfl, hb, heap_alloc_new w.drew _, ?_, fun i hi => ?_⟩, hrng⟩, ⟨rfl, rfl, rfl, by simp, fun k hk _ => heap_alloc_old w.drew _ hk⟩⟩
    · simp only [Array.size_append, List.size_toArray, size_zeroCells, ucs_len, List.length_cons, List.length_nil]
      show _ ≤ n + (0 + 1) + _ * 1
      omega
    · rw [Array.getElem?_append_left (by simp only [Array.size_append, List.size_toArray, ucs_len, List.length_cons, List.length_nil]; omega), ← Array.getElem?_toList, Array.toList_append]
      show (ucs o n ++ [Value.int .u32 v])[i]? = some (uc (upd o n v) i)
      rw [← ucs_get (upd o n v) (n + 1) i hi, ucs_succ, ucs_upd]
      show _ = (ucs o n ++ [Value.int .u32 (upd o n v n)])[i]?
      rw [upd_same]
  rcases h.place with ⟨rfl, rfl, rfl⟩ | ⟨g, cur, rfl, hbg, hg, hcap, hcc⟩
  · have hr := run_append_nil (P := Tryz.prog) w 22 ty 54 i0 (.int .u32 0) Tryz.underlying22 hi hz0 ⟨gs, 0, none⟩ 1 c [.int .u32 v] (by rw [hz1]; rfl) hnews (by omega) (by omega) (by rw [hz2]; omega)
    have hgr := grownOwn 0 (by omega)
    simp only [Nat.zero_add, ucs, List.range_zero, List.map_nil, Array.empty_append] at hgr
    refine ⟨_, _, _, hr, hgr.2.1, Or.inr ⟨⟨_, rfl, Nat.le_refl _⟩, hgr.2.2, by omega⟩⟩
  · by_cases hroom : n + 1 ≤ cap
    · have hr := run_append_room (P := Tryz.prog) w 22 ty 54 i0 Tryz.underlying22 hi g n cap cur hg ⟨gs, 0, none⟩ 1 c [.int .u32 v] (by rw [hz1]; rfl) hnews h1 hroom (by rw [hz1]; simp; omega)
      refine ⟨_, _, _, hr, ⟨hroom, Or.inr ⟨g, _, rfl, hbg, setRow_heap w g cur _ _ _ hg, ?_, fun i hi => ?_⟩, hrng⟩, Or.inl ⟨rfl, rfl, ⟨rfl, rfl, rfl, by simp, fun k _ hk => setRow_other w g k _ (fun e => hk (by simp [e]))⟩⟩⟩
      · simp only [List.size_toArray, List.length_append, List.length_take, List.length_drop, Array.length_toList, List.length_cons, List.length_nil]
        omega
      · rw [hz1, Nat.mul_one]
        rw [List.getElem?_toArray, List.append_assoc]
        have hlt : (cur.toList.take n).length = n := by simp; omega
        by_cases e : i < n
        · rw [List.getElem?_append_left (by rw [hlt]; exact e), List.getElem?_take, if_pos e]
          have := hcc i e
          rw [Array.getElem?_toList, this]
          show some (Value.int .u32 (o i)) = some (Value.int .u32 (upd o n v i))
          rw [upd_ne _ _ (by omega)]
        · obtain rfl : i = n := by omega
          rw [List.getElem?_append_right (by rw [hlt]; exact Nat.le_refl _), hlt, Nat.sub_self]
          show some (Value.int .u32 v) = some (Value.int .u32 (upd o i v i))
          rw [upd_same]
    · have holds : ∀ j u, (ucs o n)[j]? = some u → w.cell? ((⟨g, 0, none⟩ : Addr).add j) = some u := by
        intro j u hj
        obtain ⟨hj1, rfl⟩ := ucs_get' hj
        rw [Addr.add_lit, Nat.zero_add, cell_of_row _ _ _ _ _ _ hg]
        exact hcc j hj1
      have hle := h.le
      have hr := run_append_grow (P := Tryz.prog) w 22 ty 54 i0 (.int .u32 0) Tryz.underlying22 hi hz0 ⟨g, 0, none⟩ n cap (ucs o n) (by rw [ucs_len, hz1]; omega) holds ⟨gs, 0, none⟩ 1 c [.int .u32 v] (by rw [hz1]; rfl) hnews (by omega) (by omega) (growslice_fits (by omega) (by rw [hz2]; omega))
      have hgr := grownOwn cap (by omega)
      exact ⟨_, _, _, hr, hgr.2.1, Or.inr ⟨⟨_, rfl, Nat.le_refl _⟩, hgr.2.2, by omega⟩⟩
theorem wpList_push {ops : Array Oper} {rest : List Oper} {oo : Oper} {ac : Act} {Q : Exit → Act → World → Prop} (hgd : oo.guard = none) (s x : Operand)
    (ho : oo.op = .call { callee := .builtin .append, args := #[s, x], argTypes := #[22, 22] })
    {w : World} {base : Nat} {a : Option Addr} {n cap : Nat} {o : Nat → Int} (hs : ac.eval s = .slice a n cap) (h : Own 54 w base a n cap o) (hn : n ≤ 1000000000) (hb : base ≤ w.heap.size)
    {gs : Nat} {v : Int} {m c : Nat} (hx : ac.eval x = .slice (some ⟨gs, 0, none⟩) m c) (hc : w.cell? ⟨gs, 0, none⟩ = some (.int .u32 v)) (hv : 0 ≤ v ∧ v ≤ 4294967295) (hm : m = 1)
    (hK : ∀ a' cap' w', Own 54 w' base a' (n + 1) cap' (upd o n v) → ((a' = a ∧ cap' = cap ∧ w.grownBy w' (a.map (·.block))) ∨ ((∃ g, a' = some ⟨g, 0, none⟩ ∧ w.heap.size ≤ g) ∧ w.grownBy w' none ∧ cap < n + 1)) →
      wpList Tryz.prog ops Q rest (ac.put oo.dst (.slice a' (n + 1) cap')) w') : wpList Tryz.prog ops Q (oo :: rest) ac w := by
  refine wpList_plain hgd fun K hK' => ?_
  obtain ⟨a', cap', w', hr, h2, h3⟩ := push_any h hn hb hc hv oo.type m c hm
  unfold Oper.wp execOp
  simp only [ho, resolve, invoke, builtin, Sem.run_bind, Sem.run_pure, Result.andThen_ok, List.map_toArray, List.map_cons, List.map_nil, hs, hx, hr]
  exact hK' _ _ (hK _ _ _ h2 h3)
def mk (j : Nat) : Int := 1001 + j
theorem mk_rng {j : Nat} (h : j ≤ 1000) : 0 ≤ mk j ∧ mk j ≤ 4294967295 := by unfold mk; omega
theorem mark_any (j : Nat) (w : World) (h : j ≤ 1000) : Calls Tryz.prog 116 #[.int .i64 ((j : Int) + 1)] w fun e w' => e = .returned (.int .u32 (mk j)) ∧ w' = w := by
  have e1 := IntWalk.i64_in (1000 + ((j : Int) + 1)) (by omega)
  have e2 := IntWalk.u32_in (1000 + ((j : Int) + 1)) (by omega)
  have e3 : 1000 + ((j : Int) + 1) = mk j := by unfold mk; omega
  go_enter Tryz.func116, Tryz.ntmps116
  go_wp2
  go_ret
  exact ⟨rfl, rfl⟩
theorem is_any (x : Int) (j : Nat) (w : World) (h : j ≤ 1000) : Calls Tryz.prog 128 #[.int .u32 x, .int .i64 ((j : Int) + 1)] w fun e w' => e = .returned (.bool (x == mk j)) ∧ w' = w := by
  have e1 := IntWalk.i64_in (1000 + ((j : Int) + 1)) (by omega)
  have e2 := IntWalk.u32_in (1000 + ((j : Int) + 1)) (by omega)
  have e3 : 1000 + ((j : Int) + 1) = mk j := by unfold mk; omega
  go_enter Tryz.func128, Tryz.ntmps128
  go_wp2
  go_ret
  exact ⟨rfl, rfl⟩
end Go.Proofs.YtefjjhfahebmeaaGreatDoor.Book
namespace Go.Proofs.YtefjjhfahebmeaaGreatDoor.Limb
open Go.RowKit Go.Sort Go.Fresh
end Go.Proofs.YtefjjhfahebmeaaGreatDoor.Limb
namespace Go.Proofs.YtefjjhfahebmeaaGreatDoor.Book
open Go.RowKit Go.Sort Go.Fresh Go.Proofs.YtefjjhfahebmeaaGreatDoor.Limb
def bkf (k : Nat) (v : Value) (i : Nat) : Value := if i = 0 then .int .i64 k else if i = 2 then v else .slice none 0 0
def Arr (w : World) (vb k : Nat) (A : Nat → Option Addr) (N C : Nat → Nat) (X : Nat → Value) : Prop :=
  ∃ m f, w.rowIs vb 121 m f ∧ ∀ j, j < k → 3 * j + 2 < m ∧ f (3 * j) = .slice (A j) (N j) (C j) ∧ f (3 * j + 1) = X j ∧ f (3 * j + 2) = .int .i64 ((j : Int) + 1)
theorem Arr.cells {w : World} {vb k : Nat} {A : Nat → Option Addr} {N C : Nat → Nat} {X : Nat → Value} (h : Arr w vb k A N C X) {j : Nat} (hj : j < k) :
    w.cell? ⟨vb, j * 3, none⟩ = some (.slice (A j) (N j) (C j)) ∧ w.cell? ⟨vb, j * 3 + 1, none⟩ = some (X j) ∧ w.cell? ⟨vb, j * 3 + 2, none⟩ = some (.int .i64 ((j : Int) + 1)) ∧ (∀ i, w.frozen? ⟨vb, i, none⟩ = false) ∧ vb < w.heap.size := by
  obtain ⟨m, f, hR, hE⟩ := h
  obtain ⟨h1, h2, h3, h4⟩ := hE j hj
  rw [Nat.mul_comm j 3]
  exact ⟨by rw [← h2]; exact hR.cell (by omega), by rw [← h3]; exact hR.cell (by omega), by rw [← h4]; exact hR.cell (by omega), hR.frozen, hR.lt⟩
theorem Arr.keep {w w' : World} {vb k : Nat} {A : Nat → Option Addr} {N C : Nat → Nat} {X : Nat → Value} (h : Arr w vb k A N C X) (e : w'.heap[vb]? = w.heap[vb]?) : Arr w' vb k A N C X := by
  obtain ⟨m, f, hR, hE⟩ := h
  exact ⟨m, f, hR.of_block e, hE⟩
theorem Arr.lt {w : World} {vb k : Nat} {A : Nat → Option Addr} {N C : Nat → Nat} {X : Nat → Value} (h : Arr w vb k A N C X) : vb < w.heap.size := by
  obtain ⟨m, f, hR, hE⟩ := h
  exact hR.lt
theorem Arr.setLong {w : World} {vb k : Nat} {A : Nat → Option Addr} {N C : Nat → Nat} {X : Nat → Value} (h : Arr w vb k A N C X) (i : Nat) (v : Value) : Arr (w.setCell ⟨vb, i * 3 + 1, none⟩ v) vb k A N C (fun j => if j = i then v else X j) := by
  obtain ⟨m, f, hR, hE⟩ := h
  refine ⟨m, _, hR.set (i * 3 + 1) v, fun j hj => ?_⟩
  obtain ⟨h1, h2, h3, h4⟩ := hE j hj
  refine ⟨h1, ?_, ?_, ?_⟩
  · rw [if_neg (by omega)]; exact h2
  · show (if 3 * j + 1 = i * 3 + 1 then v else f (3 * j + 1)) = if j = i then v else X j
    by_cases e : j = i
    · subst e; rw [if_pos (by omega), if_pos rfl]
    · rw [if_neg (by omega), if_neg e]; exact h3
  · rw [if_neg (by omega)]; exact h4
def UA (k : Nat) (A : Nat → Option Addr) (g : Nat) : Prop := ∃ j, j < k ∧ ∃ p, A j = some p ∧ p.block = g
def Part (k : Nat) (A : Nat → Option Addr) : Prop := ∀ i, i < k → ∀ j, j < k → i ≠ j → ∀ p q, A i = some p → A j = some q → p.block ≠ q.block
theorem own_step {k i t g : Nat} {A : Nat → Option Addr} {N C : Nat → Nat} {O : Nat → Nat → Int} {w : World} {v : Int} (hD : Part k A) (hO : ∀ j, j < k → Own 54 w 0 (A j) (N j) (C j) (O j)) (hi : i < k) (hg : A i = some ⟨g, 0, none⟩) (ht : t < N i) (hv : 0 ≤ v ∧ v ≤ 4294967295) :
    ∀ j, j < k → Own 54 (w.setCell ⟨g, t, none⟩ (.int .u32 v)) 0 (A j) (N j) (C j) (if j = i then upd (O i) t v else O j) := by
  intro j hj
  by_cases e : j = i
  · subst e
    rw [if_pos rfl, hg]
    have h := hO j hj
    rw [hg] at h
    exact h.put ht hv
  · rw [if_neg e]
    exact (hO j hj).keep fun p hp => Below.heap_setCell _ _ _ _ (fun he => hD j hj i hi e p _ hp hg he)
def hcell (a : Option Addr) (n c : Nat) (x : Value) (q : Int) (i : Nat) : Value := if i = 0 then .slice a n c else if i = 1 then x else .int .i64 q
set_option maxHeartbeats 4000000 in
theorem fill_any (b vb k cap : Nat) (A : Nat → Option Addr) (N C : Nat → Nat) (O : Nat → Nat → Int) (w : World) (hk : k ≤ 1000) (hB : w.rowIs b 50 13 (bkf k (.slice (some ⟨vb, 0, none⟩) k cap)))
    (hA : Arr w vb k A N C (fun _ => .slice none 0 0)) (hO : ∀ j, j < k → Own 54 w 0 (A j) (N j) (C j) (O j)) (hN : ∀ j, j < k → N j ≤ 1000000000) (hS : ¬ UA k A b ∧ ¬ UA k A vb) (hD : Part k A) :
    Calls Tryz.prog 52 #[.pointer (some ⟨b, 0, none⟩)] w fun e w' => (∃ v, e = .returned v) ∧ Touch (UA k A) w w' ∧ ∀ j, j < k → Own 54 w' 0 (A j) (N j) (C j) (fun _ => mk j) := by
  have HB := Lib.hid hB; have HA := Lib.hid hA; have HO := Lib.hid hO; have HS := Lib.hid hS; have HD := Lib.hid hD; have HN := Lib.hid hN
  clear hB hA hO hS hD hN
  go_enter Tryz.func52, Tryz.ntmps52
  go_wp2_with fail
  go_loopw [2] (fun v wr => ∃ i : Nat, i ≤ k ∧ v = .int .i64 i ∧ Touch (UA k A) w wr ∧ ∃ OO : Nat → Nat → Int, (∀ j, j < k → Own 54 wr 0 (A j) (N j) (C j) (OO j)) ∧ ∀ j, j < i → ∀ c, c < N j → OO j c = mk j) (fun v _ => k - (intOf v).toNat)
  case atStart => exact ⟨0, by omega, rfl, Touch.refl _ _, O, HO.out, fun j hj => by omega⟩
  case round =>
    obtain ⟨w1, rfl⟩ : ∃ w1, w1 = wr := ⟨_, rfl⟩
    obtain ⟨i, hik, rfl, hT, OO, hOO, hM⟩ := hrel
    have KT := Lib.hid hT; have KO := Lib.hid hOO; have KM := Lib.hid hM
    have KB := Lib.hid (HB.out.of_block (hT.block _ HB.out.lt HS.out.1))
    have KA := Lib.hid (HA.out.keep (hT.block _ HA.out.lt HS.out.2))
    clear hT hOO hM
    have b2 : w1.cell? ⟨b, 2, none⟩ = some (.slice (some ⟨vb, 0, none⟩) k cap) := KB.out.cell (i := 2) (by omega)
    by_cases hi : i < k
    · obtain ⟨a0, a1, a2, -, hvb⟩ := KA.out.cells hi
      obtain ⟨a, ha⟩ : ∃ a, a = A i := ⟨_, rfl⟩
      obtain ⟨n, hn⟩ : ∃ n, n = N i := ⟨_, rfl⟩
      obtain ⟨c, hc⟩ : ∃ c, c = C i := ⟨_, rfl⟩
      rw [← ha, ← hn, ← hc] at a0
      have EA := Lib.hid ha; have EN := Lib.hid hn; have EC := Lib.hid hc
      have hnb : n ≤ 1000000000 := by rw [hn]; exact HN.out i hi
      clear ha hn hc
      go_wp2_with fail
      go_loopw [4] (fun v wr2 => ∃ t : Nat, t ≤ n ∧ v = .int .i64 t ∧ wr2.rowIs w1.heap.size 121 3 (hcell a n c (.slice none 0 0) ((i : Int) + 1)) ∧ Touch (UA k A) w wr2 ∧
        ∃ OO : Nat → Nat → Int, (∀ j, j < k → Own 54 wr2 0 (A j) (N j) (C j) (OO j)) ∧ (∀ j, j < i → ∀ c, c < N j → OO j c = mk j) ∧ ∀ c, c < t → OO i c = mk i) (fun v _ => n - (intOf v).toNat)
      case atStart =>
        refine ⟨0, by omega, rfl, ?_, KT.out.alloc _, OO, fun j hj => (KO.out j hj).below ((Below.refl _ _).alloc (Nat.le_refl _) _), KM.out, fun c hc => by omega⟩
        have h := World.rowIs_alloc w1 #[Value.slice a n c, Value.slice none 0 0, Value.int IntKind.i64 ((i : Int) + 1)] 121 (hcell a n c (.slice none 0 0) ((i : Int) + 1)) (fun q hq => by
          match q, hq with
          | 0, _ => rfl
          | 1, _ => rfl
          | 2, _ => rfl)
        exact h
      case round =>
        obtain ⟨t, htn, rfl, hH, hT2, OO2, hOO2, hM2, hM3⟩ := hrel
        have LT := Lib.hid hT2; have LO := Lib.hid hOO2; have LM := Lib.hid (And.intro hM2 hM3); have LH := Lib.hid hH
        have hwr : w.heap.size ≤ w1.heap.size := KT.out.size
        have hc0 : wr.cell? ⟨w1.heap.size, 0, none⟩ = some (.slice a n c) := hH.cell (i := 0) (by omega)
        have hc2 : wr.cell? ⟨w1.heap.size, 2, none⟩ = some (.int .i64 ((i : Int) + 1)) := hH.cell (i := 2) (by omega)
        clear hH hT2 hOO2 hM2 hM3
        by_cases ht : t < n
        · obtain ⟨g, hg⟩ := (LO.out i hi).some_of_pos (by rw [← EN.out]; omega)
          obtain rfl := EA.out.trans hg
          have hO := LO.out i hi
          rw [← EA.out, ← EN.out] at hO
          obtain ⟨vo, hco⟩ : ∃ vo, wr.cell? ⟨g, t, none⟩ = some vo := ⟨_, hO.cell ht⟩
          have hfz := hO.fz
          have hglt := (hO.blk rfl).2.2
          have hgw : g < w.heap.size := ((HO.out i hi).blk hg).2.2
          have HS1 := Lib.hid (fun (w' : World) (hb : Below wr.heap.size wr w') => And.intro ((hb.cell (p := ⟨w1.heap.size, 0, none⟩) LH.out.lt).trans hc0) ((hb.cell (p := ⟨w1.heap.size, 2, none⟩) LH.out.lt).trans hc2))
          have hlt : w1.heap.size < wr.heap.size := LH.out.lt
          clear hO
          go_wp2_with fail
          refine wp_region_fresh 7 (spOf [(5, Sp.know (.int .u32 (mk i)))]) (fun w' => Below wr.heap.size wr w') (by kernel_rfl) (by kernel_rfl)
            (spOf_cons (Sp.know_keeps _) spOf_nil) (fun _ _ h hb => h.trans (hb.mono h.size)) ((Below.refl _ _).drew) ?_
          simp only [List.take_succ_cons, List.take_zero, List.drop_succ_cons, List.drop_zero]
          (refine wpF_reads rfl rfl ?_ (fun w' hw' => ?_) ?_; rotate_left; · (have hb' := Has.world hw'; (skip); clear hw'; go_simp; try rfl))
          (refine wpF_reads rfl rfl ?_ (fun w' hw' => ?_) ?_; rotate_left; · (have hb' := Has.world hw'; (have hs := HS1.out _ hb'); clear hw'; go_simp; try rfl))
          (refine wpF_reads rfl rfl ?_ (fun w' hw' => ?_) ?_; rotate_left; · (have hb' := Has.world hw'; (skip); clear hw'; go_simp; try rfl))
          (refine wpF_reads rfl rfl ?_ (fun w' hw' => ?_) ?_; rotate_left; · (have hb' := Has.world hw'; (skip); clear hw'; go_simp; try rfl))
          (refine wpF_reads rfl rfl ?_ (fun w' hw' => ?_) ?_; rotate_left; · (have hb' := Has.world hw'; (have hs := HS1.out _ hb'); clear hw'; go_simp; try rfl))
          (refine wpF_spec rfl rfl (fun w' hw' => ?_) ?_; · (have hb' := Has.world hw'; go_simp; ((refine (mark_any i w' (by omega)).mono ?_; rintro e w'' ⟨rfl, rfl⟩; exact ⟨_, rfl, rfl, Below.refl _ _⟩))))
          rintro _ rfl
          (refine wpF_reads rfl rfl ?_ (fun w' hw' => ?_) ?_; rotate_left; · (have hb' := Has.world hw'; (skip); clear hw'; go_simp; try rfl))
          refine wpF_nil (fun w5 hb5 hF5 => ?_)
          clear hF5 HS1
          have LH := Lib.hid (LH.out.of_block (hb5.block _ LH.out.lt))
          have LT := Lib.hid (LT.out.trans (Touch.of_below (hb5.mono (Nat.le_refl _))))
          have LO := Lib.hid (fun j hj => (LO.out j hj).below hb5)
          have hco := (hb5.cell (p := ⟨g, t, none⟩) hglt).trans hco
          have hfz := fun q => (hb5.frozen (p := ⟨g, q, none⟩) hglt).trans (hfz q)
          have ST := Lib.hid (own_step HD.out LO.out hi hg (by rw [← EN.out]; exact ht) (mk_rng (j := i) (by omega)))
          clear hb5
          go_wp2_with fail
          go_roundw
          case rel =>
            refine ⟨t + 1, by omega, by go_num, LH.out.setOther (by dsimp only; omega) _, LT.out.setCell (p := ⟨g, t, none⟩) (Or.inl ⟨i, hi, _, hg, rfl⟩) _, _, ST.out, ?_, ?_⟩
            · intro j hj c hc
              rw [if_neg (by omega)]
              exact LM.out.1 j hj c hc
            · intro c hc
              rw [if_pos rfl]
              by_cases e : c = t
              · subst e; exact upd_same _ _ _
              · rw [upd_ne _ _ e]; exact LM.out.2 c (by omega)
          case measure => simp [intOf]; omega
        · obtain rfl : t = n := by omega
          go_wp2_with fail
          go_roundw
          case rel =>
            refine ⟨i + 1, by omega, by go_num, LT.out, OO2, LO.out, fun j hj c hc => ?_⟩
            by_cases e : j = i
            · subst e; exact LM.out.2 c (by rw [EN.out]; exact hc)
            · exact LM.out.1 j (by omega) c hc
          case measure => simp [intOf]; omega
    · obtain rfl : i = k := by omega
      go_wp2_with fail
      (try simp only [Exit.inBlock, Exit.then])
      refine bodyPost_end (results_none rfl _ _ _) rfl ?_
      exact ⟨⟨_, rfl⟩, KT.out, fun j hj => (KO.out j hj).congr fun c hc => KM.out j hj c hc⟩
end Go.Proofs.YtefjjhfahebmeaaGreatDoor.Book
