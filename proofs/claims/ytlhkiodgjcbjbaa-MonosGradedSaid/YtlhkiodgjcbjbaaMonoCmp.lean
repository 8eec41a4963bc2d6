/-
  The walks of Cmp of package monos, and of what it calls: slices.Compare, slices.Reverse, cmp.Compare, graded, lexical, backward, orders.
-/
import Derived.Test.YtlhkiodgjcbjbaaMonoKit
namespace Go.Proofs.Ytlhkiodgjcbjbaa.Mono
open Go.RowKit Go.Sort

def cmpZ (x y : Int) : Int := if x < y then -1 else if y < x then 1 else 0

set_option maxHeartbeats 400000 in
theorem cmp16_any (x y : Int) (w : World) :
    Calls Try.prog 33 #[.int .u16 x, .int .u16 y] w fun e w' => e = .returned (.int .i64 (cmpZ x y)) ∧ w' = w := by
  rcases Int.lt_trichotomy x y with h | h | h
  · have E := Lib.hid (show cmpZ x y = -1 by simp [cmpZ, h])
    go_enter Try.func33, Try.ntmps33
    go_wp2
    go_ret
    exact ⟨by rw [E.out]; rfl, rfl⟩
  · have E := Lib.hid (show cmpZ x y = 0 by simp [cmpZ, h])
    subst h
    go_enter Try.func33, Try.ntmps33
    go_wp2
    go_ret
    exact ⟨by rw [E.out]; rfl, rfl⟩
  · have E := Lib.hid (show cmpZ x y = 1 by simp [cmpZ, h]; omega)
    go_enter Try.func33, Try.ntmps33
    go_wp2
    go_ret
    exact ⟨by rw [E.out]; rfl, rfl⟩
set_option maxHeartbeats 400000 in
theorem cmp64_any (x y : Int) (w : World) :
    Calls Try.prog 31 #[.int .i64 x, .int .i64 y] w fun e w' => e = .returned (.int .i64 (cmpZ x y)) ∧ w' = w := by
  rcases Int.lt_trichotomy x y with h | h | h
  · have E := Lib.hid (show cmpZ x y = -1 by simp [cmpZ, h])
    go_enter Try.func31, Try.ntmps31
    go_wp2
    go_ret
    exact ⟨by rw [E.out]; rfl, rfl⟩
  · have E := Lib.hid (show cmpZ x y = 0 by simp [cmpZ, h])
    subst h
    go_enter Try.func31, Try.ntmps31
    go_wp2
    go_ret
    exact ⟨by rw [E.out]; rfl, rfl⟩
  · have E := Lib.hid (show cmpZ x y = 1 by simp [cmpZ, h]; omega)
    go_enter Try.func31, Try.ntmps31
    go_wp2
    go_ret
    exact ⟨by rw [E.out]; rfl, rfl⟩

/-- The first place at which two differ, or 4. -/
def Diff (a b : Nat → Int) (k : Nat) : Prop := k ≤ 4 ∧ (∀ j, j < k → a j = b j) ∧ (k < 4 → a k ≠ b k)
theorem diff_any (a b : Nat → Int) : ∃ k, Diff a b k := by
  by_cases h : ∀ k, k < 4 → a k = b k
  · exact ⟨4, by omega, h, fun hh => absurd hh (by omega)⟩
  · obtain ⟨k, h1, h2, h3⟩ := first_bad (fun k => a k = b k) 4 h
    exact ⟨k, by omega, h2, fun _ => h3⟩
def lexM (a b : Nat → Int) : Int :=
  if a 0 ≠ b 0 then cmpZ (a 0) (b 0) else if a 1 ≠ b 1 then cmpZ (a 1) (b 1) else if a 2 ≠ b 2 then cmpZ (a 2) (b 2) else cmpZ (a 3) (b 3)
theorem lex_diff {a b : Nat → Int} {k : Nat} (h : Diff a b k) : lexM a b = if k < 4 then cmpZ (a k) (b k) else 0 := by
  obtain ⟨h1, h2, h3⟩ := h
  match k, h1 with
  | 0, _ => simp [lexM, h3 (by omega)]
  | 1, _ => simp [lexM, h2 0 (by omega), h3 (by omega)]
  | 2, _ => simp [lexM, h2 0 (by omega), h2 1 (by omega), h3 (by omega)]
  | 3, _ => simp [lexM, h2 0 (by omega), h2 1 (by omega), h2 2 (by omega)]
  | 4, _ => simp [lexM, h2 0 (by omega), h2 1 (by omega), h2 2 (by omega), h2 3 (by omega), cmpZ]

set_option maxHeartbeats 1000000 in
theorem compare_any (b1 b2 t1 t2 : Nat) (a b : Nat → Int) (w : World) (hA : w.rowIs b1 t1 4 (cell a)) (hB : w.rowIs b2 t2 4 (cell b)) :
    Calls Try.prog 30 #[.slice (some ⟨b1, 0, none⟩) 4 4, .slice (some ⟨b2, 0, none⟩) 4 4] w fun e w' => e = .returned (.int .i64 (lexM a b)) ∧ w' = w := by
  obtain ⟨k0, hD⟩ := diff_any a b
  have E := Lib.hid (lex_diff hD)
  obtain ⟨h4, heq, hne⟩ := hD
  have EQ := Lib.hid heq; clear heq
  have NE := Lib.hid hne; clear hne
  go_enter Try.func30, Try.ntmps30
  go_wp2
  go_loop [11] (fun i => ∃ k : Nat, k ≤ k0 ∧ i = .int .i64 k) (fun i => 4 - (intOf i).toNat)
  case atStart => exact ⟨0, by omega, rfl⟩
  case round =>
    obtain ⟨k, hk, rfl⟩ := hrel
    by_cases hlt : k < 4
    · have c1 := hA.cell hlt
      have c2 := hB.cell hlt
      by_cases hlk : k < k0
      · have Z := Lib.hid (show cmpZ (a k) (b k) = 0 by rw [EQ.out k hlk]; simp [cmpZ])
        go_wp2_with fail
        refine (cmp16_any _ _ _).mono ?_
        rintro e w' ⟨rfl, rfl⟩
        rw [Z.out]
        go_wp2
        go_round
        case rel => exact ⟨k + 1, by omega, by go_num⟩
        case measure => simp [intOf]; omega
      · obtain rfl : k = k0 := by omega
        have Z := Lib.hid (show lexM a b = cmpZ (a k) (b k) by rw [E.out, if_pos hlt])
        have hnz : (cmpZ (a k) (b k) != 0) = true := by
          have := NE.out hlt
          unfold cmpZ
          by_cases h1 : a k < b k
          · simp [h1]
          · rw [if_neg h1, if_pos (by omega)]; rfl
        go_wp2_with fail
        refine (cmp16_any _ _ _).mono ?_
        rintro e w' ⟨rfl, rfl⟩
        go_wp2
        go_ret
        exact ⟨by rw [Z.out]; rfl, rfl⟩
    · have Z := Lib.hid (show lexM a b = 0 by rw [E.out, if_neg (by omega)])
      obtain rfl : k = 4 := by omega
      go_wp2
      go_ret
      exact ⟨by rw [Z.out]; rfl, rfl⟩

set_option maxHeartbeats 1000000 in
theorem lexical_any (a b : Nat → Int) (w : World) :
    Calls Try.prog 27 #[mvf a, mvf b] w fun e w' => e = .returned (.int .i64 (lexM a b)) ∧ Below w.heap.size w w' := by
  have HX := Lib.hid (boxes w 24 a b)
  go_enter Try.func27, Try.ntmps27
  go_wp2
  go_quiet (exact Calls.quiet_of_same (compare_any _ _ _ _ a b _ (HX.out.1.of_block rfl) (HX.out.2.of_block rfl)))
  go_wp2
  go_ret
  exact ⟨rfl, below_drewN (by go_grown) _⟩

set_option maxHeartbeats 1000000 in
theorem graded_any (a b : Nat → Int) (w : World) (ha : Small a) (hb : Small b) :
    Calls Try.prog 28 #[mvf a, mvf b] w fun e w' => e = .returned (.int .i64 (cmpZ (degM a) (degM b))) ∧ Below w.heap.size w w' := by
  have HA := Lib.hid ha; clear ha
  have HB := Lib.hid hb; clear hb
  have HX := boxes w 24 a b
  obtain ⟨a0, a1, a2, a3⟩ := rows4 HX.1
  obtain ⟨b0, b1, b2, b3⟩ := rows4 HX.2
  clear HX
  go_enter Try.func28, Try.ntmps28
  go_wp2
  refine wp_region_quiet_below (by kernel_rfl) (by kernel_rfl) ?_
  repeat (go_big_quiet_step (first
    | (go_at_call 31; exact Calls.regrown_of ((cmp64_any _ _ _).mono fun e w' ⟨he, hw⟩ => ⟨he, hw ▸ Below.refl _ _⟩))
    | (go_at_call 17; first | (with_reducible exact Calls.regrown_of (degree_any a _ HA.out)) | (with_reducible exact Calls.regrown_of (degree_any b _ HB.out)))))
  refine wpQuiet_nil ?_
  intro w5 hw5
  obtain ⟨q, rfl⟩ := hw5
  go_wp2
  go_ret
  exact ⟨rfl, (((Below.refl _ _).alloc (Nat.le_refl _) _).alloc (by simp) _).trans ((below_regrown _ q.d q.os).mono (by simp; omega))⟩
end Go.Proofs.Ytlhkiodgjcbjbaa.Mono
