/-
  The walks of the references' Mul, Div, Lcm and Degree (products of letters): they tell what package monos tells.
-/
import Derived.Test.YtlhkiodgjcbjbaaMonoOps
import Derived.StillTailTactics
namespace Go.Proofs.Ytlhkiodgjcbjbaa.Mono
open Go.RowKit

/-- In the references' loops: the two that came in, the result's variable, what is made of the first k places. -/
structure RelR (B T : Nat) (a b n : Nat → Int) (w wr : World) (k : Nat) : Prop where
  one : wr.rowIs B T 4 (cell a)
  two : wr.rowIs (B + 1) T 4 (cell b)
  res : wr.rowIs (B + 1 + 1) T 4 (cell zeroM)
  out : wr.rowIs (B + 1 + 1 + 1) T 4 (cell (part n k))
  below : Below B w wr

theorem relr_start (w : World) (T : TypeId) (a b n : Nat → Int) : RelR w.heap.size T a b n w
    ((((w.alloc (.cells (arr4 a) T)).alloc (.cells (arr4 b) T)).alloc (.cells #[.int .u16 0, .int .u16 0, .int .u16 0, .int .u16 0] T)).alloc (.cells #[.int .u16 0, .int .u16 0, .int .u16 0, .int .u16 0] T)) 0 := by
  refine ⟨(((w.rowIs_alloc (arr4 a) T (cell a) (four a)).alloc _).alloc _).alloc _, ?_, ?_, ?_, ?_⟩
  · have h := ((World.rowIs_alloc (w.alloc (.cells (arr4 a) T)) (arr4 b) T (cell b) (four b)).alloc (.cells (arr4 zeroM) T)).alloc (.cells (arr4 (part n 0)) T)
    rw [World.size_alloc] at h
    exact h
  · have h := (World.rowIs_alloc ((w.alloc (.cells (arr4 a) T)).alloc (.cells (arr4 b) T)) (arr4 zeroM) T (cell zeroM) (four zeroM)).alloc (.cells (arr4 (part n 0)) T)
    rw [World.size_alloc, World.size_alloc] at h
    exact h
  · have h := World.rowIs_alloc (((w.alloc (.cells (arr4 a) T)).alloc (.cells (arr4 b) T)).alloc (.cells (arr4 zeroM) T)) (arr4 (part n 0)) T (cell (part n 0)) (four (part n 0))
    rw [World.size_alloc, World.size_alloc, World.size_alloc] at h
    exact h
  · go_grown

theorem RelR.drewN {B T : Nat} {a b n : Nat → Int} {w wr : World} {k : Nat} (h : RelR B T a b n w wr k) (m : Nat) : RelR B T a b n w (wr.drewN m) k :=
  ⟨h.one.of_block rfl, h.two.of_block rfl, h.res.of_block rfl, h.out.of_block rfl, below_drewN h.below m⟩
theorem part_step (n : Nat → Int) (k j : Nat) : (if j = k then Value.int .u16 (n k) else cell (part n k) j) = cell (part n (k + 1)) j := by
  by_cases e : j = k
  · subst e; simp [part]
  · simp only [if_neg e, cell, part]
    by_cases e2 : j < k
    · rw [if_pos e2, if_pos (by omega)]
    · rw [if_neg e2, if_neg (by omega)]
theorem RelR.step {B T : Nat} {a b n : Nat → Int} {w wr : World} {k : Nat} (h : RelR B T a b n w wr k) : RelR B T a b n w (wr.setCell ⟨B + 1 + 1 + 1, k, none⟩ (.int .u16 (n k))) (k + 1) :=
  ⟨h.one.setOther (by show _ ≠ _; dsimp only; omega) _, h.two.setOther (by show _ ≠ _; dsimp only; omega) _, h.res.setOther (by simp) _, (h.out.set k _).congr (fun j _ => part_step n k j), h.below.setCell (by simp; omega) _⟩

set_option maxHeartbeats 1000000 in
theorem rmul_any (a b : Nat → Int) (w : World) (ha : Small a) (hb : Small b) :
    Calls Try.prog 13 #[mvf a, mvf b] w fun e w' => e = .returned (.tuple #[mvf (mulM a b), .int .i64 (mulE a b)]) ∧ Below w.heap.size w w' := by
  obtain ⟨k0, hk0, hok, hbad⟩ : ∃ k0, k0 ≤ 4 ∧ (∀ k, k < k0 → a k + b k ≤ 65535) ∧ (k0 < 4 → 65535 < a k0 + b k0 ∧ mulB a b = false) ∧ (k0 = 4 → mulB a b = true) := by
    by_cases h : mulB a b = true
    · exact ⟨4, by omega, (mulB_iff a b).1 h, fun hh => absurd hh (by omega), fun _ => h⟩
    · obtain ⟨k0, h1, h2, h3⟩ := first_bad (fun k => a k + b k ≤ 65535) 4 (fun hh => h ((mulB_iff a b).2 hh))
      exact ⟨k0, by omega, h2, fun _ => ⟨by omega, by simpa using h⟩, fun hh => absurd hh (by omega)⟩
  have HA := Lib.hid ha; clear ha
  have HB := Lib.hid hb; clear hb
  have OK := Lib.hid hok; clear hok
  have BAD := Lib.hid hbad; clear hbad
  have hs := relr_start w 24 a b (fun k => a k + b k)
  go_enter Try.func13, Try.ntmps13
  go_wp2
  go_loopw [7] (fun i wr => ∃ k : Nat, k ≤ k0 ∧ i = .int .i64 k ∧ RelR w.heap.size 24 a b (fun k => a k + b k) w wr k) (fun i _ => 4 - (intOf i).toNat)
  case atStart => exact ⟨0, by omega, rfl, hs⟩
  case round =>
    obtain ⟨k, hk, rfl, R⟩ := hrel
    by_cases hlt : k < 4
    · have hc1 := R.one.cell hlt
      have hc2 := R.two.cell hlt
      have hfz := R.out.frozen k
      obtain ⟨vo, hco⟩ : ∃ v, wr.cell? ⟨w.heap.size + 1 + 1 + 1, k, none⟩ = some v := ⟨_, R.out.cell hlt⟩
      have g1 := (HA.out k hlt).1
      have g2 := (HA.out k hlt).2
      have g3 := (HB.out k hlt).1
      have g4 := (HB.out k hlt).2
      have ea := IntWalk.i64_in (a k) (by omega)
      have eb := IntWalk.i64_in (b k) (by omega)
      have es := IntWalk.i64_in (a k + b k) (by omega)
      by_cases hlk : k < k0
      · have g5 := OK.out k hlk
        go_wp2
        go_quiet (fail)
        go_wp2
        go_roundw
        case rel => exact ⟨k + 1, by omega, by go_num, (R.drewN _).step⟩
        case measure => simp [intOf]; omega
      · obtain rfl : k = k0 := by omega
        have g6 := (BAD.out.1 hlt).1
        have E := Lib.hid (show mulE a b = 3 by simp [mulE, (BAD.out.1 hlt).2])
        have M := Lib.hid (show mulM a b = zeroM by funext k; simp [mulM, (BAD.out.1 hlt).2, zeroM])
        have q0 := R.res.cell (i := 0) (by omega)
        have q1 := R.res.cell (i := 1) (by omega)
        have q2 := R.res.cell (i := 2) (by omega)
        have q3 := R.res.cell (i := 3) (by omega)
        have hf := fun i => R.res.frozen i
        have hb := R.below
        have hl := R.out.lt
        go_wp2
        go_quiet (fail)
        go_wp2
        refine bodyPost_ret (results_row_tmp rfl _ _ _ _ _ _ _ rfl (set4 (R.drewN nq).res zeroM) Try.underlying24 rfl (by kernel_rfl)) rfl ⟨by rw [E.out, M.out]; rfl, ?_⟩
        have hb' := (R.drewN nq).below
        go_grown
    · obtain rfl : k = 4 := by omega
      have hB : mulB a b = true := BAD.out.2 (by omega)
      have E := Lib.hid (show mulE a b = 0 by simp [mulE, hB])
      have M := Lib.hid (show mulM a b = part (fun k => a k + b k) 4 ∨ True from Or.inr trivial)
      have c0 := R.out.cell (i := 0) (by omega)
      have c1 := R.out.cell (i := 1) (by omega)
      have c2 := R.out.cell (i := 2) (by omega)
      have c3 := R.out.cell (i := 3) (by omega)
      have q0 := R.res.cell (i := 0) (by omega)
      have q1 := R.res.cell (i := 1) (by omega)
      have q2 := R.res.cell (i := 2) (by omega)
      have q3 := R.res.cell (i := 3) (by omega)
      have hf := fun i => R.res.frozen i
      have hb := R.below
      have hl := R.out.lt
      go_wp2
      refine bodyPost_ret (results_row_tmp rfl _ _ _ _ _ _ _ rfl (set4 R.res (part (fun k => a k + b k) 4)) Try.underlying24 rfl (by kernel_rfl)) rfl ⟨by rw [E.out]; simp [arr4, part, mulM, hB], ?_⟩
      go_grown
set_option maxHeartbeats 1000000 in
theorem rdiv_any (a b : Nat → Int) (w : World) (ha : Small a) (hb : Small b) :
    Calls Try.prog 14 #[mvf a, mvf b] w fun e w' => e = .returned (.tuple #[mvf (divM a b), .bool (divB a b)]) ∧ Below w.heap.size w w' := by
  obtain ⟨k0, hk0, hok, hbad⟩ : ∃ k0, k0 ≤ 4 ∧ (∀ k, k < k0 → b k ≤ a k) ∧ (k0 < 4 → a k0 < b k0 ∧ divB a b = false) ∧ (k0 = 4 → divB a b = true) := by
    by_cases h : divB a b = true
    · exact ⟨4, by omega, (divB_iff a b).1 h, fun hh => absurd hh (by omega), fun _ => h⟩
    · obtain ⟨k0, h1, h2, h3⟩ := first_bad (fun k => b k ≤ a k) 4 (fun hh => h ((divB_iff a b).2 hh))
      exact ⟨k0, by omega, h2, fun _ => ⟨by omega, by simpa using h⟩, fun hh => absurd hh (by omega)⟩
  have HA := Lib.hid ha; clear ha
  have HB := Lib.hid hb; clear hb
  have OK := Lib.hid hok; clear hok
  have BAD := Lib.hid hbad; clear hbad
  have hs := relr_start w 24 a b (fun k => a k - b k)
  go_enter Try.func14, Try.ntmps14
  go_wp2
  go_loopw [7] (fun i wr => ∃ k : Nat, k ≤ k0 ∧ i = .int .i64 k ∧ RelR w.heap.size 24 a b (fun k => a k - b k) w wr k) (fun i _ => 4 - (intOf i).toNat)
  case atStart => exact ⟨0, by omega, rfl, hs⟩
  case round =>
    obtain ⟨k, hk, rfl, R⟩ := hrel
    by_cases hlt : k < 4
    · have hc1 := R.one.cell hlt
      have hc2 := R.two.cell hlt
      have hfz := R.out.frozen k
      obtain ⟨vo, hco⟩ : ∃ v, wr.cell? ⟨w.heap.size + 1 + 1 + 1, k, none⟩ = some v := ⟨_, R.out.cell hlt⟩
      have g1 := (HA.out k hlt).1
      have g2 := (HA.out k hlt).2
      have g3 := (HB.out k hlt).1
      have g4 := (HB.out k hlt).2
      by_cases hlk : k < k0
      · have g5 := OK.out k hlk
        have es := IntWalk.u16_in (a k - b k) (by omega)
        go_wp2
        go_quiet (fail)
        go_wp2
        refine wp_region_still_tail 9 (by kernel_rfl) (by kernel_rfl) ?_
        simp only [List.take_succ_cons, List.take_zero, List.drop_succ_cons, List.drop_zero, World.drew_eq, World.drew_drewN]
        repeat still_step
        try refine wpStill_nil ?_
        go_wp2
        go_roundw
        case rel => exact ⟨k + 1, by omega, by go_num, (R.drewN _).step⟩
        case measure => simp [intOf]; omega
      · obtain rfl : k = k0 := by omega
        have g6 := (BAD.out.1 hlt).1
        have E := Lib.hid (BAD.out.1 hlt).2
        have M := Lib.hid (show divM a b = zeroM by funext k; simp [divM, (BAD.out.1 hlt).2, zeroM])
        have q0 := R.res.cell (i := 0) (by omega)
        have q1 := R.res.cell (i := 1) (by omega)
        have q2 := R.res.cell (i := 2) (by omega)
        have q3 := R.res.cell (i := 3) (by omega)
        have hf := fun i => R.res.frozen i
        have hb := R.below
        have hl := R.out.lt
        go_wp2
        go_quiet (fail)
        go_wp2
        refine bodyPost_ret (results_row_tmp rfl _ _ _ _ _ _ _ rfl (set4 (R.drewN nq).res zeroM) Try.underlying24 rfl (by kernel_rfl)) rfl ⟨by rw [E.out, M.out]; rfl, ?_⟩
        have hb' := (R.drewN nq).below
        go_grown
    · obtain rfl : k = 4 := by omega
      have hB : divB a b = true := BAD.out.2 (by omega)
      have E := Lib.hid hB
      have M := Lib.hid (show divM a b = part (fun k => a k - b k) 4 ∨ True from Or.inr trivial)
      have c0 := R.out.cell (i := 0) (by omega)
      have c1 := R.out.cell (i := 1) (by omega)
      have c2 := R.out.cell (i := 2) (by omega)
      have c3 := R.out.cell (i := 3) (by omega)
      have q0 := R.res.cell (i := 0) (by omega)
      have q1 := R.res.cell (i := 1) (by omega)
      have q2 := R.res.cell (i := 2) (by omega)
      have q3 := R.res.cell (i := 3) (by omega)
      have hf := fun i => R.res.frozen i
      have hb := R.below
      have hl := R.out.lt
      go_wp2
      refine bodyPost_ret (results_row_tmp rfl _ _ _ _ _ _ _ rfl (set4 R.res (part (fun k => a k - b k) 4)) Try.underlying24 rfl (by kernel_rfl)) rfl ⟨by rw [E.out]; simp [arr4, part, divM, hB], ?_⟩
      go_grown

/-- In the reference's Lcm: the first k places of its first argument are the greater ones. -/
def lpart (a b : Nat → Int) (k j : Nat) : Int := if j < k then lcmM a b j else a j
structure RelL (B T : Nat) (a b : Nat → Int) (w wr : World) (k : Nat) : Prop where
  one : wr.rowIs B T 4 (cell (lpart a b k))
  two : wr.rowIs (B + 1) T 4 (cell b)
  res : wr.rowIs (B + 1 + 1) T 4 (cell zeroM)
  below : Below B w wr
theorem rell_start (w : World) (T : TypeId) (a b : Nat → Int) : RelL w.heap.size T a b w
    (((w.alloc (.cells (arr4 a) T)).alloc (.cells (arr4 b) T)).alloc (.cells #[.int .u16 0, .int .u16 0, .int .u16 0, .int .u16 0] T)) 0 := by
  refine ⟨(((w.rowIs_alloc (arr4 a) T (cell a) (four a)).alloc _).alloc _).congr (fun j _ => by simp [lpart]), ?_, ?_, ?_⟩
  · have h := ((World.rowIs_alloc (w.alloc (.cells (arr4 a) T)) (arr4 b) T (cell b) (four b)).alloc (.cells (arr4 zeroM) T))
    rw [World.size_alloc] at h
    exact h
  · have h := (World.rowIs_alloc ((w.alloc (.cells (arr4 a) T)).alloc (.cells (arr4 b) T)) (arr4 zeroM) T (cell zeroM) (four zeroM))
    rw [World.size_alloc, World.size_alloc] at h
    exact h
  · go_grown
theorem RelL.drewN {B T : Nat} {a b : Nat → Int} {w wr : World} {k : Nat} (h : RelL B T a b w wr k) (m : Nat) : RelL B T a b w (wr.drewN m) k :=
  ⟨h.one.of_block rfl, h.two.of_block rfl, h.res.of_block rfl, below_drewN h.below m⟩
theorem RelL.step {B T : Nat} {a b : Nat → Int} {w wr : World} {k : Nat} (h : RelL B T a b w wr k) {v : Int} (hv : v = lcmM a b k) : RelL B T a b w (wr.setCell ⟨B, k, none⟩ (.int .u16 v)) (k + 1) := by
  subst hv
  refine ⟨(h.one.set k _).congr (fun j _ => ?_), h.two.setOther (by show _ ≠ _; dsimp only; omega) _, h.res.setOther (by show _ ≠ _; dsimp only; omega) _, h.below.setCell (by simp) _⟩
  by_cases e : j = k
  · subst e; simp [lpart]
  · simp only [if_neg e, cell, lpart]
    by_cases e2 : j < k
    · rw [if_pos e2, if_pos (by omega)]
    · rw [if_neg e2, if_neg (by omega)]

set_option maxHeartbeats 1000000 in
theorem rlcm_any (a b : Nat → Int) (w : World) (_ha : Small a) (_hb : Small b) :
    Calls Try.prog 16 #[mvf a, mvf b] w fun e w' => e = .returned (mvf (lcmM a b)) ∧ Below w.heap.size w w' := by
  have hs := rell_start w 24 a b
  go_enter Try.func16, Try.ntmps16
  go_wp2
  go_loopw [5] (fun i wr => ∃ k : Nat, k ≤ 4 ∧ i = .int .i64 k ∧ RelL w.heap.size 24 a b w wr k) (fun i _ => 4 - (intOf i).toNat)
  case atStart => exact ⟨0, by omega, rfl, hs⟩
  case round =>
    obtain ⟨k, hk, rfl, R⟩ := hrel
    by_cases hlt : k < 4
    · have hc1 : wr.cell? ⟨w.heap.size, k, none⟩ = some (.int .u16 (a k)) := (R.one.cell hlt).trans (by simp [cell, lpart])
      have hc2 := R.two.cell hlt
      have hfz := R.one.frozen k
      by_cases hm : a k < b k
      all_goals
        go_wp2
        refine wp_region_still_tail 9 (by kernel_rfl) (by kernel_rfl) ?_
        simp only [List.take_succ_cons, List.take_zero, List.drop_succ_cons, List.drop_zero, World.drew_eq]
        repeat still_step
        try refine wpStill_nil ?_
        go_wp2
        go_roundw
        case rel =>
          refine ⟨k + 1, by omega, by go_num, RelL.step (k := k) (by exact R.drewN 1) ?_⟩
          unfold lcmM; rw [Int.max_def]; split <;> omega
        case measure => simp [intOf]; omega
    · obtain rfl : k = 4 := by omega
      have c0 := R.one.cell (i := 0) (by omega)
      have c1 := R.one.cell (i := 1) (by omega)
      have c2 := R.one.cell (i := 2) (by omega)
      have c3 := R.one.cell (i := 3) (by omega)
      have q0 := R.res.cell (i := 0) (by omega)
      have q1 := R.res.cell (i := 1) (by omega)
      have q2 := R.res.cell (i := 2) (by omega)
      have q3 := R.res.cell (i := 3) (by omega)
      have hf := fun i => R.res.frozen i
      have hb := R.below
      have hl := R.res.lt
      go_wp2
      refine bodyPost_ret (results_cell_row rfl _ _ _ _ _ _ _ rfl (set4 R.res (lpart a b 4)) Try.underlying24 rfl (by kernel_rfl)) rfl ⟨by simp [arr4, lpart], ?_⟩
      go_grown

set_option maxHeartbeats 1000000 in
theorem rdegree_any (a : Nat → Int) (w : World) (ha : Small a) :
    Calls Try.prog 18 #[mvf a] w fun e w' => e = .returned (.int .i64 (degM a)) ∧ Below w.heap.size w w' := by
  obtain ⟨p0, q0⟩ := ha 0 (by omega)
  obtain ⟨p1, q1⟩ := ha 1 (by omega)
  obtain ⟨p2, q2⟩ := ha 2 (by omega)
  obtain ⟨p3, q3⟩ := ha 3 (by omega)
  clear ha
  go_enter Try.func18, Try.ntmps18
  go_wp2
  go_ret
  exact ⟨rfl, by go_grown⟩
end Go.Proofs.Ytlhkiodgjcbjbaa.Mono
