/-
  The walks of part, amounts, cmp.Compare, Check, of, Clip of package limbs.
-/
import Derived.Test.YtebobpbcllideaaGreatDoorLimbMem
namespace Go.Proofs.YtebobpbcllideaaGreatDoor.Limb
open Go.RowKit Go.Sort

set_option maxHeartbeats 400000 in
theorem cmp32_any (x y : Int) (w : World) :
    Calls Tryz.prog 90 #[.int .u32 x, .int .u32 y] w fun e w' => e = .returned (.int .i64 (cmpZ x y)) ∧ w' = w := by
  rcases Int.lt_trichotomy x y with h | h | h
  · have E := Lib.hid (cmpZ_lt h)
    go_enter Tryz.func90, Tryz.ntmps90
    go_wp2
    go_ret
    exact ⟨by rw [E.out]; rfl, rfl⟩
  · have E := Lib.hid (cmpZ_eq h)
    subst h
    go_enter Tryz.func90, Tryz.ntmps90
    go_wp2
    go_ret
    exact ⟨by rw [E.out]; rfl, rfl⟩
  · have E := Lib.hid (cmpZ_gt h)
    go_enter Tryz.func90, Tryz.ntmps90
    go_wp2
    go_ret
    exact ⟨by rw [E.out]; rfl, rfl⟩
set_option maxHeartbeats 400000 in
theorem cmp64_any (x y : Int) (w : World) :
    Calls Tryz.prog 89 #[.int .i64 x, .int .i64 y] w fun e w' => e = .returned (.int .i64 (cmpZ x y)) ∧ w' = w := by
  rcases Int.lt_trichotomy x y with h | h | h
  · have E := Lib.hid (cmpZ_lt h)
    go_enter Tryz.func89, Tryz.ntmps89
    go_wp2
    go_ret
    exact ⟨by rw [E.out]; rfl, rfl⟩
  · have E := Lib.hid (cmpZ_eq h)
    subst h
    go_enter Tryz.func89, Tryz.ntmps89
    go_wp2
    go_ret
    exact ⟨by rw [E.out]; rfl, rfl⟩
  · have E := Lib.hid (cmpZ_gt h)
    go_enter Tryz.func89, Tryz.ntmps89
    go_wp2
    go_ret
    exact ⟨by rw [E.out]; rfl, rfl⟩

set_option maxHeartbeats 400000 in
theorem part_any (a : Option Addr) (n cap : Nat) (o : Nat → Int) (i : Nat) (w : World) (h : Rd w a n o) (hn : n ≤ 1000000000) (hi : i ≤ 1000000000) :
    Calls Tryz.prog 33 #[.slice a n cap, .int .i64 i] w fun e w' => e = .returned (.int .i64 (part o n i)) ∧ w' = w := by
  by_cases hlt : i < n
  · have E := Lib.hid (show part o n i = o i by unfold part; rw [if_pos hlt])
    obtain ⟨b, off, rfl, hc⟩ := h.cells (by omega)
    have c1 := hc i hlt
    have r1 := h.rng i hlt
    have e1 := IntWalk.i64_in (o i) (by omega)
    clear hc h
    go_enter Tryz.func33, Tryz.ntmps33
    go_wp2
    go_ret
    exact ⟨by rw [E.out]; rfl, rfl⟩
  · have E := Lib.hid (show part o n i = 0 by unfold part; rw [if_neg hlt])
    clear h
    go_enter Tryz.func33, Tryz.ntmps33
    go_wp2
    go_ret
    exact ⟨by rw [E.out]; rfl, rfl⟩
end Go.Proofs.YtebobpbcllideaaGreatDoor.Limb
