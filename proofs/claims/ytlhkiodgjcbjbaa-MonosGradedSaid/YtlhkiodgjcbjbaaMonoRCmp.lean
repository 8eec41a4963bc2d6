/-
  The walk of the reference's Cmp (products of letters): it tells what package monos tells.
-/
import Derived.Test.YtlhkiodgjcbjbaaMonoCmp2
namespace Go.Proofs.Ytlhkiodgjcbjbaa.Mono
open Go.RowKit Go.Sort

/-- 'min(1, max(-1, n))'. -/
def clampZ (n : Int) : Int := if 0 < n then 1 else if n < 0 then -1 else 0
theorem clamp_sub (x y : Int) : clampZ (x - y) = cmpZ x y := by
  unfold clampZ cmpZ
  by_cases h : x < y
  · rw [if_pos h, if_neg (by omega), if_pos (by omega)]
  · rw [if_neg h]
    by_cases h2 : y < x
    · rw [if_pos h2, if_pos (by omega)]
    · rw [if_neg h2, if_neg (by omega), if_neg (by omega)]
theorem cmpZ_zero {x y : Int} : cmpZ x y = 0 ↔ x = y := by
  unfold cmpZ
  by_cases h : x < y
  · simp [h]; omega
  · by_cases h2 : y < x
    · simp [h, h2]; omega
    · simp [h, h2]; omega
theorem lexM_zero {a b : Nat → Int} : lexM a b = 0 ↔ ∀ k, k < 4 → a k = b k := by
  obtain ⟨k, h⟩ := diff_any a b
  rw [lex_diff h]
  by_cases hk : k < 4
  · rw [if_pos hk, cmpZ_zero]
    exact ⟨fun e => absurd e (h.2.2 hk), fun e => e k hk⟩
  · rw [if_neg hk]
    exact ⟨fun _ j hj => h.2.1 j (by omega), fun _ => rfl⟩
theorem lexM_same {a b : Nat → Int} (h : lexM (revM b) (revM a) = 0) : lexM a b = 0 := by
  rw [lexM_zero] at h ⊢
  intro k hk
  have := h (3 - k) (by omega)
  simp only [revM] at this
  rw [show 3 - (3 - k) = k by omega] at this
  exact this.symm

/-- What the reference tells once the degrees have not told. -/
def tailM (o : Int) (a b : Nat → Int) : Int := if o = 2 then lexM (revM b) (revM a) else lexM a b
theorem cmpM_deg {o : Int} {a b : Nat → Int} (ho : o = 1 ∨ o = 2) (h : ¬ degM a = degM b) : cmpM o a b = clampZ (degM a - degM b) := by
  have hz : ¬ cmpZ (degM a) (degM b) = 0 := fun e => h (cmpZ_zero.1 e)
  rw [clamp_sub]
  unfold cmpM
  rcases ho with rfl | rfl
  · rw [if_pos rfl, if_neg hz]
  · rw [if_neg (by omega), if_pos rfl, if_neg hz]
theorem cmpM_tail {o : Int} {a b : Nat → Int} (h : (o = 1 ∨ o = 2) → degM a = degM b) : cmpM o a b = tailM o a b := by
  unfold cmpM tailM
  by_cases h1 : o = 1
  · rw [if_pos h1, if_pos (cmpZ_zero.2 (h (Or.inl h1))), if_neg (show ¬ o = 2 by omega)]
  · rw [if_neg h1]
    by_cases h2 : o = 2
    · rw [if_pos h2, if_pos h2, if_pos (cmpZ_zero.2 (h (Or.inr h2)))]
      by_cases h3 : lexM (revM b) (revM a) = 0
      · rw [if_pos h3, h3]; exact lexM_same h3
      · rw [if_neg h3]
    · rw [if_neg h2, if_neg h2]

set_option maxHeartbeats 2000000 in
theorem rcmp_deg1 (a b : Nat → Int) (h : ¬ degM a = degM b) (w : World) (ha : Small a) (hb : Small b) :
    Calls Try.prog 20 #[.int .u8 1, mvf a, mvf b] w fun e w' => e = .returned (.int .i64 (cmpM 1 a b)) ∧ Below w.heap.size w w' := by
  have HA := Lib.hid ha; clear ha
  have HB := Lib.hid hb; clear hb
  have HX := Lib.hid (boxes w 24 a b)
  have E := Lib.hid (cmpM_deg (o := 1) (by omega) h)
  obtain ⟨a0, a1, a2, a3⟩ := rows4 HX.out.1
  obtain ⟨b0, b1, b2, b3⟩ := rows4 HX.out.2
  have d1 : 0 ≤ degM a ∧ degM a ≤ 262140 := by have := HA.out 0 (by omega); have := HA.out 1 (by omega); have := HA.out 2 (by omega); have := HA.out 3 (by omega); unfold degM; omega
  have d2 : 0 ≤ degM b ∧ degM b ≤ 262140 := by have := HB.out 0 (by omega); have := HB.out 1 (by omega); have := HB.out 2 (by omega); have := HB.out 3 (by omega); unfold degM; omega
  have es := IntWalk.i64_in (degM a - degM b) (by omega)
  have hz : (degM a - degM b != 0) = true := by simp; omega
  rcases Int.lt_or_gt_of_ne h with h' | h'
  · have E2 := Lib.hid (show clampZ (degM a - degM b) = -1 by unfold clampZ; rw [if_neg (by omega), if_pos (by omega)])
    clear h
    go_enter Try.func20, Try.ntmps20
    go_wp2_with fail
    refine wp_region_quiet_below (by kernel_rfl) (by kernel_rfl) ?_
    repeat (go_big_quiet_step (first
      | (go_at_call 18; first | (with_reducible exact Calls.regrown_of (rdegree_any a _ HA.out)) | (with_reducible exact Calls.regrown_of (rdegree_any b _ HB.out)))))
    refine wpQuiet_nil ?_
    intro w5 hw5
    obtain ⟨q, hq⟩ := hw5
    have hb5 := below_regrown ((w.alloc (.cells (arr4 a) 24)).alloc (.cells (arr4 b) 24)) q.d q.os
    rw [← show w5 = _ from hq] at hb5
    clear hq
    have A5 := Lib.hid (rowBelow HX.out.1 hb5 (by simp; omega))
    have B5 := Lib.hid (rowBelow HX.out.2 hb5 (by simp))
    have G5 := Lib.hid ((Below.refl _ _).alloc (Nat.le_refl _) _ |>.alloc (by go_size) _ |>.trans (hb5.mono (by go_size)) : Below w.heap.size w w5)
    clear hb5 es a0 a1 a2 a3 b0 b1 b2 b3 HX
    go_wp2
    go_ret
    exact ⟨by rw [E.out, E2.out]; rfl, G5.out⟩
  · have E2 := Lib.hid (show clampZ (degM a - degM b) = 1 by unfold clampZ; rw [if_pos (by omega)])
    clear h
    go_enter Try.func20, Try.ntmps20
    go_wp2_with fail
    refine wp_region_quiet_below (by kernel_rfl) (by kernel_rfl) ?_
    repeat (go_big_quiet_step (first
      | (go_at_call 18; first | (with_reducible exact Calls.regrown_of (rdegree_any a _ HA.out)) | (with_reducible exact Calls.regrown_of (rdegree_any b _ HB.out)))))
    refine wpQuiet_nil ?_
    intro w5 hw5
    obtain ⟨q, hq⟩ := hw5
    have hb5 := below_regrown ((w.alloc (.cells (arr4 a) 24)).alloc (.cells (arr4 b) 24)) q.d q.os
    rw [← show w5 = _ from hq] at hb5
    clear hq
    have A5 := Lib.hid (rowBelow HX.out.1 hb5 (by simp; omega))
    have B5 := Lib.hid (rowBelow HX.out.2 hb5 (by simp))
    have G5 := Lib.hid ((Below.refl _ _).alloc (Nat.le_refl _) _ |>.alloc (by go_size) _ |>.trans (hb5.mono (by go_size)) : Below w.heap.size w w5)
    clear hb5 es a0 a1 a2 a3 b0 b1 b2 b3 HX
    go_wp2
    go_ret
    exact ⟨by rw [E.out, E2.out]; rfl, G5.out⟩

set_option maxHeartbeats 2000000 in
theorem rcmp_deg2 (a b : Nat → Int) (h : ¬ degM a = degM b) (w : World) (ha : Small a) (hb : Small b) :
    Calls Try.prog 20 #[.int .u8 2, mvf a, mvf b] w fun e w' => e = .returned (.int .i64 (cmpM 2 a b)) ∧ Below w.heap.size w w' := by
  have HA := Lib.hid ha; clear ha
  have HB := Lib.hid hb; clear hb
  have HX := Lib.hid (boxes w 24 a b)
  have E := Lib.hid (cmpM_deg (o := 2) (by omega) h)
  obtain ⟨a0, a1, a2, a3⟩ := rows4 HX.out.1
  obtain ⟨b0, b1, b2, b3⟩ := rows4 HX.out.2
  have d1 : 0 ≤ degM a ∧ degM a ≤ 262140 := by have := HA.out 0 (by omega); have := HA.out 1 (by omega); have := HA.out 2 (by omega); have := HA.out 3 (by omega); unfold degM; omega
  have d2 : 0 ≤ degM b ∧ degM b ≤ 262140 := by have := HB.out 0 (by omega); have := HB.out 1 (by omega); have := HB.out 2 (by omega); have := HB.out 3 (by omega); unfold degM; omega
  have es := IntWalk.i64_in (degM a - degM b) (by omega)
  have hz : (degM a - degM b != 0) = true := by simp; omega
  rcases Int.lt_or_gt_of_ne h with h' | h'
  · have E2 := Lib.hid (show clampZ (degM a - degM b) = -1 by unfold clampZ; rw [if_neg (by omega), if_pos (by omega)])
    clear h
    go_enter Try.func20, Try.ntmps20
    go_wp2_with fail
    refine wp_region_quiet_below (by kernel_rfl) (by kernel_rfl) ?_
    repeat (go_big_quiet_step (first
      | (go_at_call 18; first | (with_reducible exact Calls.regrown_of (rdegree_any a _ HA.out)) | (with_reducible exact Calls.regrown_of (rdegree_any b _ HB.out)))))
    refine wpQuiet_nil ?_
    intro w5 hw5
    obtain ⟨q, hq⟩ := hw5
    have hb5 := below_regrown ((w.alloc (.cells (arr4 a) 24)).alloc (.cells (arr4 b) 24)) q.d q.os
    rw [← show w5 = _ from hq] at hb5
    clear hq
    have A5 := Lib.hid (rowBelow HX.out.1 hb5 (by simp; omega))
    have B5 := Lib.hid (rowBelow HX.out.2 hb5 (by simp))
    have G5 := Lib.hid ((Below.refl _ _).alloc (Nat.le_refl _) _ |>.alloc (by go_size) _ |>.trans (hb5.mono (by go_size)) : Below w.heap.size w w5)
    clear hb5 es a0 a1 a2 a3 b0 b1 b2 b3 HX
    go_wp2
    go_ret
    exact ⟨by rw [E.out, E2.out]; rfl, G5.out⟩
  · have E2 := Lib.hid (show clampZ (degM a - degM b) = 1 by unfold clampZ; rw [if_pos (by omega)])
    clear h
    go_enter Try.func20, Try.ntmps20
    go_wp2_with fail
    refine wp_region_quiet_below (by kernel_rfl) (by kernel_rfl) ?_
    repeat (go_big_quiet_step (first
      | (go_at_call 18; first | (with_reducible exact Calls.regrown_of (rdegree_any a _ HA.out)) | (with_reducible exact Calls.regrown_of (rdegree_any b _ HB.out)))))
    refine wpQuiet_nil ?_
    intro w5 hw5
    obtain ⟨q, hq⟩ := hw5
    have hb5 := below_regrown ((w.alloc (.cells (arr4 a) 24)).alloc (.cells (arr4 b) 24)) q.d q.os
    rw [← show w5 = _ from hq] at hb5
    clear hq
    have A5 := Lib.hid (rowBelow HX.out.1 hb5 (by simp; omega))
    have B5 := Lib.hid (rowBelow HX.out.2 hb5 (by simp))
    have G5 := Lib.hid ((Below.refl _ _).alloc (Nat.le_refl _) _ |>.alloc (by go_size) _ |>.trans (hb5.mono (by go_size)) : Below w.heap.size w w5)
    clear hb5 es a0 a1 a2 a3 b0 b1 b2 b3 HX
    go_wp2
    go_ret
    exact ⟨by rw [E.out, E2.out]; rfl, G5.out⟩

set_option maxHeartbeats 2000000 in
theorem rcmp_fwd1 (a b : Nat → Int) (h : degM a = degM b) (w : World) (ha : Small a) (hb : Small b) :
    Calls Try.prog 20 #[.int .u8 1, mvf a, mvf b] w fun e w' => e = .returned (.int .i64 (cmpM 1 a b)) ∧ Below w.heap.size w w' := by
  have HA := Lib.hid ha; clear ha
  have HB := Lib.hid hb; clear hb
  have HX := Lib.hid (boxes w 24 a b)
  have T := Lib.hid (show cmpM 1 a b = lexM a b by rw [cmpM_tail (fun _ => h)]; rfl)
  obtain ⟨a0, a1, a2, a3⟩ := rows4 HX.out.1
  obtain ⟨b0, b1, b2, b3⟩ := rows4 HX.out.2
  have es := IntWalk.i64_in (degM a - degM b) (by have := HA.out 0 (by omega); have := HA.out 1 (by omega); have := HA.out 2 (by omega); have := HA.out 3 (by omega); have := HB.out 0 (by omega); have := HB.out 1 (by omega); have := HB.out 2 (by omega); have := HB.out 3 (by omega); unfold degM; omega)
  have hz : (degM a - degM b != 0) = false := by simp; omega
  clear h
  go_enter Try.func20, Try.ntmps20
  go_wp2_with fail
  refine wp_region_quiet_below (by kernel_rfl) (by kernel_rfl) ?_
  repeat (go_big_quiet_step (first
    | (go_at_call 18; first | (with_reducible exact Calls.regrown_of (rdegree_any a _ HA.out)) | (with_reducible exact Calls.regrown_of (rdegree_any b _ HB.out)))))
  refine wpQuiet_nil ?_
  intro w5 hw5
  obtain ⟨q, hq⟩ := hw5
  have hb5 := below_regrown ((w.alloc (.cells (arr4 a) 24)).alloc (.cells (arr4 b) 24)) q.d q.os
  rw [← show w5 = _ from hq] at hb5
  clear hq
  have A5 := Lib.hid (rowBelow HX.out.1 hb5 (by simp; omega))
  have B5 := Lib.hid (rowBelow HX.out.2 hb5 (by simp))
  have G5 := Lib.hid ((Below.refl _ _).alloc (Nat.le_refl _) _ |>.alloc (by go_size) _ |>.trans (hb5.mono (by go_size)) : Below w.heap.size w w5)
  clear hb5 es a0 a1 a2 a3 b0 b1 b2 b3 HX
  go_wp2_with fail
  obtain ⟨k0, hD⟩ := diff_any a b
  have E := Lib.hid ((T.out).trans (lex_diff hD))
  have h4 := hD.1
  have EQ := Lib.hid hD.2.1
  have NE := Lib.hid hD.2.2
  clear hD
  go_loopw [9] (fun i wr => ∃ k : Nat, k ≤ k0 ∧ i = .int .i64 k ∧ wr.rowIs w.heap.size 24 4 (cell a) ∧ wr.rowIs (w.heap.size + 1) 24 4 (cell b) ∧ Below w.heap.size w wr) (fun i _ => 4 - (intOf i).toNat)
  case atStart => exact ⟨0, by omega, rfl, A5.out, B5.out, G5.out⟩
  case round =>
    obtain ⟨k, hk, rfl, RA, RB, G⟩ := hrel
    clear A5 B5 G5
    have GH := Lib.hid G
    clear G
    by_cases hlt : k < 4
    · have c1 := RA.cell hlt
      have c2 := RB.cell hlt
      have s1 := (HA.out k hlt)
      have s2 := (HB.out k hlt)
      have RAH := Lib.hid RA
      have RBH := Lib.hid RB
      clear RA RB
      by_cases hlk : k < k0
      · have hne : (a k != b k) = false := by rw [EQ.out k hlk]; simp
        go_wp2
        go_quiet (fail)
        go_wp2
        go_roundw
        case rel => exact ⟨k + 1, by omega, by go_num, RAH.out.of_block rfl, RBH.out.of_block rfl, below_drewN GH.out _⟩
        case measure => simp [intOf]; omega
      · obtain rfl : k = k0 := by omega
        have hne : (a k != b k) = true := by have := NE.out hlt; simpa using this
        have Z := Lib.hid (show cmpM 1 a b = clampZ (a k - b k) by rw [E.out, if_pos hlt, clamp_sub])
        have ea := IntWalk.i64_in (a k) (by omega)
        have eb := IntWalk.i64_in (b k) (by omega)
        have es := IntWalk.i64_in (a k - b k) (by omega)
        rcases Int.lt_or_gt_of_ne (NE.out hlt) with h' | h'
        · have E2 := Lib.hid (show clampZ (a k - b k) = -1 by unfold clampZ; rw [if_neg (by omega), if_pos (by omega)])
          go_wp2
          go_quiet (fail)
          go_wp2
          go_quiet (fail)
          go_wp2
          go_ret
          exact ⟨by rw [Z.out, E2.out]; rfl, below_drewN (below_drewN GH.out _) _⟩
        · have E2 := Lib.hid (show clampZ (a k - b k) = 1 by unfold clampZ; rw [if_pos (by omega)])
          go_wp2
          go_quiet (fail)
          go_wp2
          go_quiet (fail)
          go_wp2
          go_ret
          exact ⟨by rw [Z.out, E2.out]; rfl, below_drewN (below_drewN GH.out _) _⟩
    · have Z := Lib.hid (show cmpM 1 a b = 0 by rw [E.out, if_neg (by omega)])
      obtain rfl : k = 4 := by omega
      go_wp2
      go_ret
      exact ⟨by rw [Z.out]; rfl, GH.out⟩

set_option maxHeartbeats 2000000 in
theorem rcmp_fwd (a b : Nat → Int) (o : Int) (h1 : (o == 1) = false) (h2 : (o == 2) = false) (w : World) (ha : Small a) (hb : Small b) :
    Calls Try.prog 20 #[.int .u8 o, mvf a, mvf b] w fun e w' => e = .returned (.int .i64 (cmpM o a b)) ∧ Below w.heap.size w w' := by
  have HA := Lib.hid ha; clear ha
  have HB := Lib.hid hb; clear hb
  have HX := Lib.hid (boxes w 24 a b)
  have T := Lib.hid (show cmpM o a b = lexM a b by rw [cmpM_tail (fun hh => absurd hh (by simp at h1 h2; omega))]; unfold tailM; rw [if_neg (by simpa using h2)])
  go_enter Try.func20, Try.ntmps20
  go_wp2_with fail
  have A5 := Lib.hid HX.out.1
  have B5 := Lib.hid HX.out.2
  have G5 := Lib.hid ((Below.refl _ _).alloc (Nat.le_refl _) _ |>.alloc (by go_size) _ : Below w.heap.size w ((w.alloc (.cells (arr4 a) 24)).alloc (.cells (arr4 b) 24)))
  clear HX
  obtain ⟨k0, hD⟩ := diff_any a b
  have E := Lib.hid ((T.out).trans (lex_diff hD))
  have h4 := hD.1
  have EQ := Lib.hid hD.2.1
  have NE := Lib.hid hD.2.2
  clear hD
  go_loopw [9] (fun i wr => ∃ k : Nat, k ≤ k0 ∧ i = .int .i64 k ∧ wr.rowIs w.heap.size 24 4 (cell a) ∧ wr.rowIs (w.heap.size + 1) 24 4 (cell b) ∧ Below w.heap.size w wr) (fun i _ => 4 - (intOf i).toNat)
  case atStart => exact ⟨0, by omega, rfl, A5.out, B5.out, G5.out⟩
  case round =>
    obtain ⟨k, hk, rfl, RA, RB, G⟩ := hrel
    clear A5 B5 G5
    have GH := Lib.hid G
    clear G
    by_cases hlt : k < 4
    · have c1 := RA.cell hlt
      have c2 := RB.cell hlt
      have s1 := (HA.out k hlt)
      have s2 := (HB.out k hlt)
      have RAH := Lib.hid RA
      have RBH := Lib.hid RB
      clear RA RB
      by_cases hlk : k < k0
      · have hne : (a k != b k) = false := by rw [EQ.out k hlk]; simp
        go_wp2
        go_quiet (fail)
        go_wp2
        go_roundw
        case rel => exact ⟨k + 1, by omega, by go_num, RAH.out.of_block rfl, RBH.out.of_block rfl, below_drewN GH.out _⟩
        case measure => simp [intOf]; omega
      · obtain rfl : k = k0 := by omega
        have hne : (a k != b k) = true := by have := NE.out hlt; simpa using this
        have Z := Lib.hid (show cmpM o a b = clampZ (a k - b k) by rw [E.out, if_pos hlt, clamp_sub])
        have ea := IntWalk.i64_in (a k) (by omega)
        have eb := IntWalk.i64_in (b k) (by omega)
        have es := IntWalk.i64_in (a k - b k) (by omega)
        rcases Int.lt_or_gt_of_ne (NE.out hlt) with h' | h'
        · have E2 := Lib.hid (show clampZ (a k - b k) = -1 by unfold clampZ; rw [if_neg (by omega), if_pos (by omega)])
          go_wp2
          go_quiet (fail)
          go_wp2
          go_quiet (fail)
          go_wp2
          go_ret
          exact ⟨by rw [Z.out, E2.out]; rfl, below_drewN (below_drewN GH.out _) _⟩
        · have E2 := Lib.hid (show clampZ (a k - b k) = 1 by unfold clampZ; rw [if_pos (by omega)])
          go_wp2
          go_quiet (fail)
          go_wp2
          go_quiet (fail)
          go_wp2
          go_ret
          exact ⟨by rw [Z.out, E2.out]; rfl, below_drewN (below_drewN GH.out _) _⟩
    · have Z := Lib.hid (show cmpM o a b = 0 by rw [E.out, if_neg (by omega)])
      obtain rfl : k = 4 := by omega
      go_wp2
      go_ret
      exact ⟨by rw [Z.out]; rfl, GH.out⟩

set_option maxHeartbeats 2000000 in
theorem rcmp_bwd (a b : Nat → Int) (h : degM a = degM b) (w : World) (ha : Small a) (hb : Small b) :
    Calls Try.prog 20 #[.int .u8 2, mvf a, mvf b] w fun e w' => e = .returned (.int .i64 (cmpM 2 a b)) ∧ Below w.heap.size w w' := by
  have HA := Lib.hid ha; clear ha
  have HB := Lib.hid hb; clear hb
  have HX := Lib.hid (boxes w 24 a b)
  have T := Lib.hid (show cmpM 2 a b = lexM (revM b) (revM a) by rw [cmpM_tail (fun _ => h)]; rfl)
  obtain ⟨a0, a1, a2, a3⟩ := rows4 HX.out.1
  obtain ⟨b0, b1, b2, b3⟩ := rows4 HX.out.2
  have es := IntWalk.i64_in (degM a - degM b) (by have := HA.out 0 (by omega); have := HA.out 1 (by omega); have := HA.out 2 (by omega); have := HA.out 3 (by omega); have := HB.out 0 (by omega); have := HB.out 1 (by omega); have := HB.out 2 (by omega); have := HB.out 3 (by omega); unfold degM; omega)
  have hz : (degM a - degM b != 0) = false := by simp; omega
  clear h
  go_enter Try.func20, Try.ntmps20
  go_wp2_with fail
  refine wp_region_quiet_below (by kernel_rfl) (by kernel_rfl) ?_
  repeat (go_big_quiet_step (first
    | (go_at_call 18; first | (with_reducible exact Calls.regrown_of (rdegree_any a _ HA.out)) | (with_reducible exact Calls.regrown_of (rdegree_any b _ HB.out)))))
  refine wpQuiet_nil ?_
  intro w5 hw5
  obtain ⟨q, hq⟩ := hw5
  have hb5 := below_regrown ((w.alloc (.cells (arr4 a) 24)).alloc (.cells (arr4 b) 24)) q.d q.os
  rw [← show w5 = _ from hq] at hb5
  clear hq
  have A5 := Lib.hid (rowBelow HX.out.1 hb5 (by simp; omega))
  have B5 := Lib.hid (rowBelow HX.out.2 hb5 (by simp))
  have G5 := Lib.hid ((Below.refl _ _).alloc (Nat.le_refl _) _ |>.alloc (by go_size) _ |>.trans (hb5.mono (by go_size)) : Below w.heap.size w w5)
  clear hb5 es a0 a1 a2 a3 b0 b1 b2 b3 HX
  go_wp2_with fail
  obtain ⟨k0, hD⟩ := diff_any (revM b) (revM a)
  have E := Lib.hid ((T.out).trans (lex_diff hD))
  have h4 := hD.1
  have EQ := Lib.hid hD.2.1
  have NE := Lib.hid hD.2.2
  clear hD
  go_loopw [8] (fun i wr => ∃ k : Nat, k ≤ k0 ∧ i = .int .i64 (3 - (k : Int)) ∧ wr.rowIs w.heap.size 24 4 (cell a) ∧ wr.rowIs (w.heap.size + 1) 24 4 (cell b) ∧ Below w.heap.size w wr) (fun i _ => (1 + intOf i).toNat)
  case atStart => exact ⟨0, by omega, rfl, A5.out, B5.out, G5.out⟩
  case round =>
    obtain ⟨k, hk, rfl, RA, RB, G⟩ := hrel
    clear A5 B5 G5
    have GH := Lib.hid G
    have RAH := Lib.hid RA
    have RBH := Lib.hid RB
    clear G RA RB
    have hcases : k = 0 ∨ k = 1 ∨ k = 2 ∨ k = 3 ∨ k = 4 := by omega
    rcases hcases with rfl | rfl | rfl | rfl | rfl
    · rw [show ((3 : Int) - ((0 : Nat) : Int)) = 3 from rfl]
      have c1 := RAH.out.cell (i := 3) (by omega)
      have c2 := RBH.out.cell (i := 3) (by omega)
      have s1 := HA.out 3 (by omega)
      have s2 := HB.out 3 (by omega)
      by_cases hlk : 0 < k0
      · have hne : (a 3 != b 3) = false := by have e : b 3 = a 3 := EQ.out 0 hlk; rw [e]; simp
        go_wp2
        go_quiet (fail)
        go_wp2
        go_roundw
        case rel => exact ⟨1, by omega, by rfl, RAH.out.of_block rfl, RBH.out.of_block rfl, below_drewN GH.out _⟩
        case measure => simp [intOf]
      · obtain rfl : k0 = 0 := by omega
        have hnn : ¬ b 3 = a 3 := NE.out (by omega)
        have hne : (a 3 != b 3) = true := by simp; omega
        have Z := Lib.hid (show cmpM 2 a b = clampZ (b 3 - a 3) by rw [E.out, if_pos (by omega), clamp_sub]; rfl)
        have ea := IntWalk.i64_in (a 3) (by omega)
        have eb := IntWalk.i64_in (b 3) (by omega)
        have es := IntWalk.i64_in (b 3 - a 3) (by omega)
        rcases Int.lt_or_gt_of_ne hnn with h' | h'
        · have E2 := Lib.hid (show clampZ (b 3 - a 3) = -1 by unfold clampZ; rw [if_neg (by omega), if_pos (by omega)])
          clear hnn
          go_wp2
          go_quiet (fail)
          go_wp2
          go_quiet (fail)
          go_wp2
          go_ret
          exact ⟨by rw [Z.out, E2.out]; rfl, below_drewN (below_drewN GH.out _) _⟩
        · have E2 := Lib.hid (show clampZ (b 3 - a 3) = 1 by unfold clampZ; rw [if_pos (by omega)])
          clear hnn
          go_wp2
          go_quiet (fail)
          go_wp2
          go_quiet (fail)
          go_wp2
          go_ret
          exact ⟨by rw [Z.out, E2.out]; rfl, below_drewN (below_drewN GH.out _) _⟩
    · rw [show ((3 : Int) - ((1 : Nat) : Int)) = 2 from rfl]
      have c1 := RAH.out.cell (i := 2) (by omega)
      have c2 := RBH.out.cell (i := 2) (by omega)
      have s1 := HA.out 2 (by omega)
      have s2 := HB.out 2 (by omega)
      by_cases hlk : 1 < k0
      · have hne : (a 2 != b 2) = false := by have e : b 2 = a 2 := EQ.out 1 hlk; rw [e]; simp
        go_wp2
        go_quiet (fail)
        go_wp2
        go_roundw
        case rel => exact ⟨2, by omega, by rfl, RAH.out.of_block rfl, RBH.out.of_block rfl, below_drewN GH.out _⟩
        case measure => simp [intOf]
      · obtain rfl : k0 = 1 := by omega
        have hnn : ¬ b 2 = a 2 := NE.out (by omega)
        have hne : (a 2 != b 2) = true := by simp; omega
        have Z := Lib.hid (show cmpM 2 a b = clampZ (b 2 - a 2) by rw [E.out, if_pos (by omega), clamp_sub]; rfl)
        have ea := IntWalk.i64_in (a 2) (by omega)
        have eb := IntWalk.i64_in (b 2) (by omega)
        have es := IntWalk.i64_in (b 2 - a 2) (by omega)
        rcases Int.lt_or_gt_of_ne hnn with h' | h'
        · have E2 := Lib.hid (show clampZ (b 2 - a 2) = -1 by unfold clampZ; rw [if_neg (by omega), if_pos (by omega)])
          clear hnn
          go_wp2
          go_quiet (fail)
          go_wp2
          go_quiet (fail)
          go_wp2
          go_ret
          exact ⟨by rw [Z.out, E2.out]; rfl, below_drewN (below_drewN GH.out _) _⟩
        · have E2 := Lib.hid (show clampZ (b 2 - a 2) = 1 by unfold clampZ; rw [if_pos (by omega)])
          clear hnn
          go_wp2
          go_quiet (fail)
          go_wp2
          go_quiet (fail)
          go_wp2
          go_ret
          exact ⟨by rw [Z.out, E2.out]; rfl, below_drewN (below_drewN GH.out _) _⟩
    · rw [show ((3 : Int) - ((2 : Nat) : Int)) = 1 from rfl]
      have c1 := RAH.out.cell (i := 1) (by omega)
      have c2 := RBH.out.cell (i := 1) (by omega)
      have s1 := HA.out 1 (by omega)
      have s2 := HB.out 1 (by omega)
      by_cases hlk : 2 < k0
      · have hne : (a 1 != b 1) = false := by have e : b 1 = a 1 := EQ.out 2 hlk; rw [e]; simp
        go_wp2
        go_quiet (fail)
        go_wp2
        go_roundw
        case rel => exact ⟨3, by omega, by rfl, RAH.out.of_block rfl, RBH.out.of_block rfl, below_drewN GH.out _⟩
        case measure => simp [intOf]
      · obtain rfl : k0 = 2 := by omega
        have hnn : ¬ b 1 = a 1 := NE.out (by omega)
        have hne : (a 1 != b 1) = true := by simp; omega
        have Z := Lib.hid (show cmpM 2 a b = clampZ (b 1 - a 1) by rw [E.out, if_pos (by omega), clamp_sub]; rfl)
        have ea := IntWalk.i64_in (a 1) (by omega)
        have eb := IntWalk.i64_in (b 1) (by omega)
        have es := IntWalk.i64_in (b 1 - a 1) (by omega)
        rcases Int.lt_or_gt_of_ne hnn with h' | h'
        · have E2 := Lib.hid (show clampZ (b 1 - a 1) = -1 by unfold clampZ; rw [if_neg (by omega), if_pos (by omega)])
          clear hnn
          go_wp2
          go_quiet (fail)
          go_wp2
          go_quiet (fail)
          go_wp2
          go_ret
          exact ⟨by rw [Z.out, E2.out]; rfl, below_drewN (below_drewN GH.out _) _⟩
        · have E2 := Lib.hid (show clampZ (b 1 - a 1) = 1 by unfold clampZ; rw [if_pos (by omega)])
          clear hnn
          go_wp2
          go_quiet (fail)
          go_wp2
          go_quiet (fail)
          go_wp2
          go_ret
          exact ⟨by rw [Z.out, E2.out]; rfl, below_drewN (below_drewN GH.out _) _⟩
    · rw [show ((3 : Int) - ((3 : Nat) : Int)) = 0 from rfl]
      have c1 := RAH.out.cell (i := 0) (by omega)
      have c2 := RBH.out.cell (i := 0) (by omega)
      have s1 := HA.out 0 (by omega)
      have s2 := HB.out 0 (by omega)
      by_cases hlk : 3 < k0
      · have hne : (a 0 != b 0) = false := by have e : b 0 = a 0 := EQ.out 3 hlk; rw [e]; simp
        go_wp2
        go_quiet (fail)
        go_wp2
        go_roundw
        case rel => exact ⟨4, by omega, by rfl, RAH.out.of_block rfl, RBH.out.of_block rfl, below_drewN GH.out _⟩
        case measure => simp [intOf]
      · obtain rfl : k0 = 3 := by omega
        have hnn : ¬ b 0 = a 0 := NE.out (by omega)
        have hne : (a 0 != b 0) = true := by simp; omega
        have Z := Lib.hid (show cmpM 2 a b = clampZ (b 0 - a 0) by rw [E.out, if_pos (by omega), clamp_sub]; rfl)
        have ea := IntWalk.i64_in (a 0) (by omega)
        have eb := IntWalk.i64_in (b 0) (by omega)
        have es := IntWalk.i64_in (b 0 - a 0) (by omega)
        rcases Int.lt_or_gt_of_ne hnn with h' | h'
        · have E2 := Lib.hid (show clampZ (b 0 - a 0) = -1 by unfold clampZ; rw [if_neg (by omega), if_pos (by omega)])
          clear hnn
          go_wp2
          go_quiet (fail)
          go_wp2
          go_quiet (fail)
          go_wp2
          go_ret
          exact ⟨by rw [Z.out, E2.out]; rfl, below_drewN (below_drewN GH.out _) _⟩
        · have E2 := Lib.hid (show clampZ (b 0 - a 0) = 1 by unfold clampZ; rw [if_pos (by omega)])
          clear hnn
          go_wp2
          go_quiet (fail)
          go_wp2
          go_quiet (fail)
          go_wp2
          go_ret
          exact ⟨by rw [Z.out, E2.out]; rfl, below_drewN (below_drewN GH.out _) _⟩
    · rw [show ((3 : Int) - ((4 : Nat) : Int)) = -1 from rfl]
      have Z := Lib.hid (show cmpM 2 a b = 0 by rw [E.out, if_neg (by omega)])
      go_wp2
      go_ret
      exact ⟨by rw [Z.out]; rfl, GH.out⟩

theorem rcmp_any (o : Int) (a b : Nat → Int) (w : World) (ha : Small a) (hb : Small b) :
    Calls Try.prog 20 #[.int .u8 o, mvf a, mvf b] w fun e w' => e = .returned (.int .i64 (cmpM o a b)) ∧ Below w.heap.size w w' := by
  by_cases h1 : o = 1
  · subst h1
    by_cases h : degM a = degM b
    · exact rcmp_fwd1 a b h w ha hb
    · exact rcmp_deg1 a b h w ha hb
  · by_cases h2 : o = 2
    · subst h2
      by_cases h : degM a = degM b
      · exact rcmp_bwd a b h w ha hb
      · exact rcmp_deg2 a b h w ha hb
    · exact rcmp_fwd a b o (by simpa using h1) (by simpa using h2) w ha hb
end Go.Proofs.Ytlhkiodgjcbjbaa.Mono
