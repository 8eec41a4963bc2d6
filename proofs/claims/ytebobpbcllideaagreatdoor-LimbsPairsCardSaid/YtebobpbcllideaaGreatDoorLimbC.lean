/-
  The walks of IndexFunc, ContainsFunc, Check, of, Clip, cut of package limbs.
-/
import Derived.Test.YtebobpbcllideaaGreatDoorLimbB
namespace Go.Proofs.YtebobpbcllideaaGreatDoor.Limb
open Go.RowKit Go.Sort

set_option maxHeartbeats 400000 in
theorem chk_fn (x : Int) (w : World) :
    Calls Tryz.prog 118 #[.int .u32 x] w fun e w' => e = .returned (.bool (decide (1000000000 ≤ x))) ∧ w' = w := by
  by_cases h : 1000000000 ≤ x
  · have E := Lib.hid (decide_eq_true h)
    go_enter Tryz.func118, Tryz.ntmps118
    go_wp2
    go_ret
    exact ⟨by rw [E.out]; rfl, rfl⟩
  · have E := Lib.hid (decide_eq_false h)
    go_enter Tryz.func118, Tryz.ntmps118
    go_wp2
    go_ret
    exact ⟨by rw [E.out]; rfl, rfl⟩
theorem cf_chk (args : Array Value) (w : World) : (callFunc 118 args).run Tryz.prog w = .ok (.enter 118 args) w := by kernel_rfl

set_option maxHeartbeats 1000000 in
theorem idx_any (a : Option Addr) (n cap k0 : Nat) (o : Nat → Int) (w : World) (h : Rd w a n o) (hn : n ≤ 1000000000) (hk0 : k0 ≤ n) (hf : ∀ i, i < k0 → o i < 1000000000) (hb : k0 < n → 1000000000 ≤ o k0) :
    Calls Tryz.prog 129 #[.slice a n cap, .func (.func 118) #[] #[]] w fun e w' => e = .returned (.int .i64 (if k0 < n then (k0 : Int) else -1)) ∧ ∃ m, w' = w.drewN m := by
  have HF := Lib.hid hf; clear hf
  have HB := Lib.hid hb; clear hb
  have hcf := cf_chk
  go_enter Tryz.func129, Tryz.ntmps129
  go_wp2
  go_loopw [8] (fun i wr => ∃ j : Nat, j ≤ k0 ∧ i = .int .i64 j ∧ ∃ m, wr = w.drewN m) (fun i _ => n - (intOf i).toNat)
  case atStart => exact ⟨0, by omega, rfl, 0, rfl⟩
  case round =>
    obtain ⟨j, hj, rfl, m0, rfl⟩ := hrel
    by_cases hjn : j < n
    · obtain ⟨b, off, rfl, hc⟩ := h.cells (by omega)
      have c1 := hc j hjn
      clear hc h
      by_cases hjk : j < k0
      · have D := HF.out j hjk
        have E : decide (1000000000 ≤ o j) = false := by simp; omega
        go_wp2_with fail
        refine (chk_fn (o j) _).mono ?_
        rintro e w' ⟨rfl, hw⟩
        subst w'
        rw [E]
        go_wp2
        go_roundw
        case rel => exact ⟨j + 1, by omega, by go_num, m0, rfl⟩
        case measure => simp [intOf]; omega
      · obtain rfl : j = k0 := by omega
        have D := HB.out hjn
        have E : decide (1000000000 ≤ o j) = true := by simp; omega
        go_wp2_with fail
        refine (chk_fn (o j) _).mono ?_
        rintro e w' ⟨rfl, hw⟩
        subst w'
        rw [E]
        go_wp2
        go_ret
        exact ⟨by first | rfl | (rw [if_pos hjn]; rfl), m0, rfl⟩
    · have hkn : ¬ k0 < n := by omega
      clear h
      go_wp2
      go_ret
      exact ⟨by first | rfl | (rw [if_neg hkn]; rfl), m0, rfl⟩

set_option maxHeartbeats 400000 in
theorem has_any (a : Option Addr) (n cap k0 : Nat) (o : Nat → Int) (w : World) (h : Rd w a n o) (hn : n ≤ 1000000000) (hk0 : k0 ≤ n) (hf : ∀ i, i < k0 → o i < 1000000000) (hb : k0 < n → 1000000000 ≤ o k0) :
    Calls Tryz.prog 117 #[.slice a n cap, .func (.func 118) #[] #[]] w fun e w' => e = .returned (.bool (decide (k0 < n))) ∧ ∃ m, w' = w.drewN m := by
  have C := Lib.hid (idx_any a n cap k0 o w h hn hk0 hf hb)
  clear h hf hb
  by_cases hk : k0 < n
  · have E := Lib.hid (decide_eq_true hk)
    rw [if_pos hk] at C
    go_enter Tryz.func117, Tryz.ntmps117
    go_wp2_with fail
    refine C.out.mono ?_
    rintro e w' ⟨rfl, m, rfl⟩
    go_wp2
    go_ret
    exact ⟨by rw [E.out]; rfl, m, rfl⟩
  · have E := Lib.hid (decide_eq_false hk)
    rw [if_neg hk] at C
    go_enter Tryz.func117, Tryz.ntmps117
    go_wp2_with fail
    refine C.out.mono ?_
    rintro e w' ⟨rfl, m, rfl⟩
    go_wp2
    go_ret
    exact ⟨by rw [E.out]; rfl, m, rfl⟩

/-- Where does the first part stand that may not be? -/
theorem first_bad (o : Nat → Int) (n : Nat) : ∃ k, k ≤ n ∧ (∀ i, i < k → o i < 1000000000) ∧ (k < n → 1000000000 ≤ o k) := by
  induction n with
  | zero => exact ⟨0, by omega, fun i h => by omega, fun h => by omega⟩
  | succ n ih =>
    obtain ⟨k, h1, h2, h3⟩ := ih
    by_cases hk : k < n
    · exact ⟨k, by omega, h2, fun _ => h3 hk⟩
    · obtain rfl : k = n := by omega
      by_cases h : o k < 1000000000
      · exact ⟨k + 1, by omega, fun i hi => by
          by_cases e : i = k
          · rw [e]; exact h
          · exact h2 i (by omega), fun h => by omega⟩
      · exact ⟨k, by omega, h2, fun _ => by omega⟩
open Classical in
set_option maxHeartbeats 1000000 in
theorem check_any (s : Bool) (a : Option Addr) (n cap : Nat) (o : Nat → Int) (w : World) (h : Rd w a n o) (hn : n ≤ 1000000000) :
    Calls Tryz.prog 81 #[numV s a n cap] w fun e w' => e = .returned (.bool (decide (okN s n o))) ∧ Below w.heap.size w w' := by
  obtain ⟨k0, hk0, hf, hb⟩ := first_bad o n
  have C := Lib.hid (fun (w2 : World) (hw : Below w.heap.size w w2) => has_any a n cap k0 o w2 (h.below hw) hn hk0 hf hb)
  have hcf := cf_chk
  by_cases hk : k0 < n
  · have E := Lib.hid (show decide (okN s n o) = false from decide_eq_false fun hh => by have := hh.1 k0 hk; have := hb hk; omega)
    have D : decide (k0 < n) = true := decide_eq_true hk
    clear hf hb h
    go_enter Tryz.func81, Tryz.ntmps81
    go_wp2_with fail
    refine (C.out _ ?_).mono ?_
    · (repeat' (first | (with_reducible exact Below.refl _ _) | (with_reducible assumption) | (with_reducible refine Below.alloc ?_ ?_ _) | (with_reducible refine Below.drew ?_) | (with_reducible refine bdrewN ?_ _) | (with_reducible refine Below.setCell ?_ ?_ _) | (with_reducible refine Below.frame ?_ _) | go_size))
    rintro e w' ⟨rfl, m, rfl⟩
    rw [D]
    go_wp2
    go_ret
    exact ⟨by rw [E.out]; rfl, by (repeat' (first | (with_reducible exact Below.refl _ _) | (with_reducible assumption) | (with_reducible refine Below.alloc ?_ ?_ _) | (with_reducible refine Below.drew ?_) | (with_reducible refine bdrewN ?_ _) | (with_reducible refine Below.setCell ?_ ?_ _) | (with_reducible refine Below.frame ?_ _) | go_size))⟩
  · have D : decide (k0 < n) = false := decide_eq_false hk
    have hfi : ∀ i, i < n → o i < 1000000000 := fun i hi => hf i (by omega)
    clear hb
    by_cases h0 : n = 0
    · subst h0
      have E := Lib.hid (show decide (okN s 0 o) = !s by
        cases s with
        | false => exact decide_eq_true ⟨hfi, fun _ => rfl, fun h => by omega⟩
        | true => exact decide_eq_false fun hh => by have := hh.2.1 rfl; contradiction)
      clear hf h hfi
      go_enter Tryz.func81, Tryz.ntmps81
      go_wp2_with fail
      refine (C.out _ ?_).mono ?_
      · (repeat' (first | (with_reducible exact Below.refl _ _) | (with_reducible assumption) | (with_reducible refine Below.alloc ?_ ?_ _) | (with_reducible refine Below.drew ?_) | (with_reducible refine bdrewN ?_ _) | (with_reducible refine Below.setCell ?_ ?_ _) | (with_reducible refine Below.frame ?_ _) | go_size))
      rintro e w' ⟨rfl, m, rfl⟩
      rw [D]
      cases s with
      | false =>
        go_wp2
        go_ret
        exact ⟨by rw [E.out]; rfl, by (repeat' (first | (with_reducible exact Below.refl _ _) | (with_reducible assumption) | (with_reducible refine Below.alloc ?_ ?_ _) | (with_reducible refine Below.drew ?_) | (with_reducible refine bdrewN ?_ _) | (with_reducible refine Below.setCell ?_ ?_ _) | (with_reducible refine Below.frame ?_ _) | go_size))⟩
      | true =>
        go_wp2
        go_ret
        exact ⟨by rw [E.out]; rfl, by (repeat' (first | (with_reducible exact Below.refl _ _) | (with_reducible assumption) | (with_reducible refine Below.alloc ?_ ?_ _) | (with_reducible refine Below.drew ?_) | (with_reducible refine bdrewN ?_ _) | (with_reducible refine Below.setCell ?_ ?_ _) | (with_reducible refine Below.frame ?_ _) | go_size))⟩
    · obtain ⟨b, off, rfl, hc⟩ := h.cells (by omega)
      have c1 := hc (n - 1) (by omega)
      have E := Lib.hid (show decide (okN s n o) = (o (n - 1) != 0) by
        by_cases hz : o (n - 1) = 0
        · rw [hz]; exact decide_eq_false fun hh => hh.2.2 (by omega) hz
        · rw [show (o (n - 1) != 0) = true by simpa using hz]
          exact decide_eq_true ⟨hfi, fun h => by omega, fun _ => hz⟩)
      have hlt : b < w.heap.size := block_lt_of_cell c1
      obtain ⟨q, rfl⟩ : ∃ q, n = q + 1 := ⟨n - 1, by omega⟩
      rw [Nat.add_sub_cancel] at c1 E
      have ex : ((q + 1 : Nat) : Int) - 1 = (q : Int) := by omega
      have ez : (decide (((q + 1 : Nat) : Int) = 0)) = false := by simp; omega
      clear hf h hfi hc
      go_enter Tryz.func81, Tryz.ntmps81
      go_wp2_with fail
      refine (C.out _ ?_).mono ?_
      · (repeat' (first | (with_reducible exact Below.refl _ _) | (with_reducible assumption) | (with_reducible refine Below.alloc ?_ ?_ _) | (with_reducible refine Below.drew ?_) | (with_reducible refine bdrewN ?_ _) | (with_reducible refine Below.setCell ?_ ?_ _) | (with_reducible refine Below.frame ?_ _) | go_size))
      rintro e w' ⟨rfl, m, rfl⟩
      rw [D]
      go_wp2
      go_ret
      exact ⟨by rw [E.out]; rfl, by (repeat' (first | (with_reducible exact Below.refl _ _) | (with_reducible assumption) | (with_reducible refine Below.alloc ?_ ?_ _) | (with_reducible refine Below.drew ?_) | (with_reducible refine bdrewN ?_ _) | (with_reducible refine Below.setCell ?_ ?_ _) | (with_reducible refine Below.frame ?_ _) | go_size))⟩
end Go.Proofs.YtebobpbcllideaaGreatDoor.Limb
