/-
  The walks of the law's helpers: SameLimbs, SameNum, LeftLimbs, LeftNum.
-/
import Derived.Test.YtebobpbcllideaaGreatDoorLimbS
namespace Go.Proofs.YtebobpbcllideaaGreatDoor.Limb
open Go.RowKit Go.Sort Go.Fresh

set_option maxHeartbeats 1000000 in
theorem sameLimbs_any (a b : Option Addr) (n ca cb : Nat) (o : Nat → Int) (w : World) (ha : Rd w a n o) (hb : Rd w b n o) (hn : n ≤ 1000000000) :
    Calls Tryz.prog 37 #[.slice a n ca, .slice b n cb] w fun e w' => e = .returned (.bool true) ∧ ∃ m, w' = w.drewN m := by
  have HA := Lib.hid ha; have HB := Lib.hid hb
  clear ha hb
  go_enter Tryz.func37, Tryz.ntmps37
  go_wp2_with fail
  go_loopw [5] (fun i wr => ∃ t : Nat, t ≤ n ∧ i = .int .i64 t ∧ ∃ m, wr = w.drewN m) (fun i _ => n - (intOf i).toNat)
  case atStart => exact ⟨0, by omega, rfl, 0, rfl⟩
  case round =>
    obtain ⟨t, htn, rfl, hm⟩ := hrel
    have HM := Lib.hid hm
    have cw : ∀ p, wr.cell? p = w.cell? p := by obtain ⟨m, rfl⟩ := hm; intro p; rfl
    clear hm
    by_cases ht : t < n
    · obtain ⟨b1, o1, rfl, hc1⟩ := HA.out.cells (by omega)
      obtain ⟨b2, o2, rfl, hc2⟩ := HB.out.cells (by omega)
      have c1 : wr.cell? ⟨b1, o1 + t, none⟩ = some (.int .u32 (o t)) := (cw _).trans (hc1 t ht)
      have c2 : wr.cell? ⟨b2, o2 + t, none⟩ = some (.int .u32 (o t)) := (cw _).trans (hc2 t ht)
      clear hc1 hc2 cw
      go_wp2_with fail
      go_quiet (fail)
      go_wp2_with fail
      go_roundw
      case rel => exact ⟨t + 1, by omega, by go_num, by obtain ⟨m, e⟩ := HM.out; exact ⟨_, by rw [e, World.drewN_drewN]⟩⟩
      case measure => simp [intOf]; omega
    · obtain rfl : t = n := by omega
      go_wp2_with fail
      go_ret
      exact ⟨rfl, HM.out⟩

set_option maxHeartbeats 1000000 in
theorem sameNum_any (s : Bool) (a b : Option Addr) (n ca cb : Nat) (o : Nat → Int) (w : World) (ha : Rd w a n o) (hb : Rd w b n o) (hn : n ≤ 1000000000) :
    Calls Tryz.prog 15 #[numV s a n ca, numV s b n cb] w fun e w' => e = .returned (.bool true) ∧ Below w.heap.size w w' := by
  have HC := Lib.hid (fun (w' : World) (h : Below w.heap.size w w') => sameLimbs_any a b n ca cb o w' (ha.below h) (hb.below h) hn)
  have es : (s == s) = true := by simp
  clear ha hb
  go_enter Tryz.func15, Tryz.ntmps15
  go_wp2_with fail
  refine (HC.out _ ?_).mono ?_
  · (repeat' (first | (with_reducible exact Below.refl _ _) | (with_reducible assumption) | (with_reducible refine Below.alloc ?_ ?_ _) | (with_reducible refine Below.drew ?_) | (with_reducible refine bdrewN ?_ _) | (with_reducible refine Below.setCell ?_ ?_ _) | (with_reducible refine Below.frame ?_ _) | go_size))
  rintro e w1 ⟨rfl, m, rfl⟩
  go_wp2_with fail
  go_ret
  exact ⟨rfl, by (repeat' (first | (with_reducible exact Below.refl _ _) | (with_reducible assumption) | (with_reducible refine Below.alloc ?_ ?_ _) | (with_reducible refine Below.drew ?_) | (with_reducible refine bdrewN ?_ _) | (with_reducible refine Below.setCell ?_ ?_ _) | (with_reducible refine Below.frame ?_ _) | go_size))⟩

/-- A copy with a mark in the room behind. -/
def tw (o : Nat → Int) (n i : Nat) : Int := if i < n then o i else 77

set_option maxHeartbeats 1000000 in
theorem leftLimbs_any (g : Nat) (a : Option Addr) (n ca : Nat) (o : Nat → Int) (w : World) (ht : Rd w (some ⟨g, 0, none⟩) (n + 1) (tw o n)) (ha : Rd w a n o) (hn : n ≤ 1000000000) :
    Calls Tryz.prog 43 #[.slice (some ⟨g, 0, none⟩) n (n + 1), .slice a n ca] w fun e w' => e = .returned (.bool true) ∧ ∃ m, w' = w.drewN m := by
  have HA := Lib.hid ha; have HT := Lib.hid ht
  have e1 := IntWalk.i64_in ((n : Int) + 1) (by omega)
  have ec : ((n + 1 : Nat) : Int) = (n : Int) + 1 := by omega
  have x1 : ¬ ((n : Int) + 1 ≤ (n : Int)) := by omega
  clear ha ht
  go_enter Tryz.func43, Tryz.ntmps43
  go_wp2_with fail
  go_loopw [5] (fun i wr => ∃ t : Nat, t ≤ n ∧ i = .int .i64 t ∧ ∃ m, wr = w.drewN m) (fun i _ => n - (intOf i).toNat)
  case atStart => exact ⟨0, by omega, rfl, 0, rfl⟩
  case round =>
    obtain ⟨t, htn, rfl, hm⟩ := hrel
    have HM := Lib.hid hm
    have cw : ∀ p, wr.cell? p = w.cell? p := by obtain ⟨m, rfl⟩ := hm; intro p; rfl
    clear hm
    obtain ⟨b1, o1, eb, hc1⟩ := HT.out.cells (by omega)
    cases eb
    by_cases ht : t < n
    · obtain ⟨b2, o2, rfl, hc2⟩ := HA.out.cells (by omega)
      have c1 : wr.cell? ⟨g, t, none⟩ = some (.int .u32 (o t)) := by
        have h := (cw _).trans (hc1 t (by omega))
        rw [Nat.zero_add] at h
        rw [h]; show some (Value.int .u32 (if t < n then o t else 77)) = _; rw [if_pos ht]
      have c2 : wr.cell? ⟨b2, o2 + t, none⟩ = some (.int .u32 (o t)) := (cw _).trans (hc2 t ht)
      clear hc1 hc2 cw
      go_wp2_with fail
      go_quiet (fail)
      go_wp2_with fail
      go_roundw
      case rel => exact ⟨t + 1, by omega, by go_num, by obtain ⟨m, e⟩ := HM.out; exact ⟨_, by rw [e, World.drewN_drewN]⟩⟩
      case measure => simp [intOf]; omega
    · obtain rfl : t = n := by omega
      have c1 : wr.cell? ⟨g, t, none⟩ = some (.int .u32 77) := by
        have h := (cw _).trans (hc1 t (by omega))
        rw [Nat.zero_add] at h
        rw [h]; show some (Value.int .u32 (if t < t then o t else 77)) = _; rw [if_neg (by omega)]
      clear hc1 cw
      go_wp2_with fail
      go_ret
      exact ⟨rfl, HM.out⟩

set_option maxHeartbeats 1000000 in
theorem leftNum_any (s : Bool) (g : Nat) (a : Option Addr) (n ca : Nat) (o : Nat → Int) (w : World) (ht : Rd w (some ⟨g, 0, none⟩) (n + 1) (tw o n)) (ha : Rd w a n o) (hn : n ≤ 1000000000) :
    Calls Tryz.prog 20 #[numV s (some ⟨g, 0, none⟩) n (n + 1), numV s a n ca] w fun e w' => e = .returned (.bool true) ∧ Below w.heap.size w w' := by
  have HC := Lib.hid (fun (w' : World) (h : Below w.heap.size w w') => leftLimbs_any g a n ca o w' (ht.below h) (ha.below h) hn)
  have es : (s == s) = true := by simp
  clear ha ht
  go_enter Tryz.func20, Tryz.ntmps20
  go_wp2_with fail
  refine (HC.out _ ?_).mono ?_
  · (repeat' (first | (with_reducible exact Below.refl _ _) | (with_reducible assumption) | (with_reducible refine Below.alloc ?_ ?_ _) | (with_reducible refine Below.drew ?_) | (with_reducible refine bdrewN ?_ _) | (with_reducible refine Below.setCell ?_ ?_ _) | (with_reducible refine Below.frame ?_ _) | go_size))
  rintro e w1 ⟨rfl, m, rfl⟩
  go_wp2_with fail
  go_ret
  exact ⟨rfl, by (repeat' (first | (with_reducible exact Below.refl _ _) | (with_reducible assumption) | (with_reducible refine Below.alloc ?_ ?_ _) | (with_reducible refine Below.drew ?_) | (with_reducible refine bdrewN ?_ _) | (with_reducible refine Below.setCell ?_ ?_ _) | (with_reducible refine Below.frame ?_ _) | go_size))⟩
end Go.Proofs.YtebobpbcllideaaGreatDoor.Limb
