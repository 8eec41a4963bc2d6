/-
  Plain lemmas on great numbers: parts of nine decimal digits, how many there are, which one stands where. No program in sight.
-/
import Derived.Test.YtebobpbcllideaaGreatDoorRows
import Derived.WalkKit
namespace Go.Proofs.YtebobpbcllideaaGreatDoor.Limb

abbrev BN : Nat := 1000000000
abbrev BI : Int := 1000000000
/-- A power of the base. -/
def pw (n : Nat) : Nat := BN ^ n
theorem pw_zero : pw 0 = 1 := rfl
theorem pw_succ (n : Nat) : pw (n + 1) = pw n * 1000000000 := by show BN ^ (n + 1) = BN ^ n * BN; exact Nat.pow_succ BN n
theorem pw_pos (n : Nat) : 0 < pw n := Nat.pow_pos (by decide)
theorem pw_add (m n : Nat) : pw (m + n) = pw m * pw n := Nat.pow_add _ _ _
theorem pw_le {m n : Nat} (h : m ≤ n) : pw m ≤ pw n := Nat.pow_le_pow_right (by decide) h

/-- The part at a place. -/
def dg (m i : Nat) : Nat := m / pw i % 1000000000
/-- How many parts there are. -/
def lenB (m : Nat) : Nat := if h : m = 0 then 0 else lenB (m / 1000000000) + 1
termination_by m
decreasing_by omega
theorem lenB_zero : lenB 0 = 0 := by unfold lenB; simp
theorem lenB_pos {m : Nat} (h : m ≠ 0) : lenB m = lenB (m / 1000000000) + 1 := by rw [lenB, dif_neg h]
theorem dg_zero (m : Nat) : dg m 0 = m % 1000000000 := by unfold dg; rw [pw_zero, Nat.div_one]
theorem dg_succ (m i : Nat) : dg m (i + 1) = dg (m / 1000000000) i := by
  unfold dg; rw [pw_succ, Nat.mul_comm, ← Nat.div_div_eq_div_mul]
theorem dg_lt (m i : Nat) : dg m i < 1000000000 := Nat.mod_lt _ (by decide)
theorem lt_pw_lenB (m : Nat) : m < pw (lenB m) := by
  induction m using Nat.strongRecOn with
  | _ m ih =>
    by_cases h : m = 0
    · subst h; rw [lenB_zero, pw_zero]; omega
    · rw [lenB_pos h, pw_succ]
      have := ih (m / 1000000000) (by omega)
      omega
theorem lenB_le {m n : Nat} (h : m < pw n) : lenB m ≤ n := by
  induction n generalizing m with
  | zero => rw [pw_zero] at h; rw [show m = 0 by omega, lenB_zero]; omega
  | succ n ih =>
    by_cases h0 : m = 0
    · subst h0; rw [lenB_zero]; omega
    · rw [lenB_pos h0]
      have := ih (m := m / 1000000000) (by rw [pw_succ] at h; omega)
      omega
theorem lenB_ge {m n : Nat} (h : pw n ≤ m) : n < lenB m := by
  rcases Nat.lt_or_ge n (lenB m) with h1 | h1
  · exact h1
  · have := lt_pw_lenB m; have := pw_le h1; omega
theorem pw_le_of_lenB {m n : Nat} (h : n < lenB m) : pw n ≤ m := by
  rcases Nat.lt_or_ge m (pw n) with h1 | h1
  · have := lenB_le h1; omega
  · exact h1
theorem lenB_mono {m n : Nat} (h : m ≤ n) : lenB m ≤ lenB n := lenB_le (Nat.lt_of_le_of_lt h (lt_pw_lenB n))
theorem lenB_eq_zero {m : Nat} : lenB m = 0 ↔ m = 0 := by
  constructor
  · intro h
    rcases Nat.eq_zero_or_pos m with h0 | h0
    · exact h0
    · rw [lenB_pos (by omega)] at h; omega
  · intro h; subst h; exact lenB_zero
/-- Behind the last part there is nothing. -/
theorem dg_out {m i : Nat} (h : lenB m ≤ i) : dg m i = 0 := by
  unfold dg
  have h1 := lt_pw_lenB m
  have h2 := pw_le h
  rw [Nat.div_eq_of_lt (by omega)]
/-- The last part is not 0. -/
theorem dg_last {m : Nat} (h : m ≠ 0) : dg m (lenB m - 1) ≠ 0 := by
  induction m using Nat.strongRecOn with
  | _ m ih =>
    rw [lenB_pos h, Nat.add_sub_cancel]
    by_cases h1 : m / 1000000000 = 0
    · rw [h1, lenB_zero, dg_zero]; omega
    · have := ih (m / 1000000000) (by omega) h1
      have e : lenB (m / 1000000000) = (lenB (m / 1000000000) - 1) + 1 := by
        have := lenB_pos h1; omega
      rw [e, dg_succ]; exact this

/-! ### Sums of parts -/
/-- The parts o 0, .., o (n-1), each so many times the power at its place. -/
def sumB (o : Nat → Int) : Nat → Int
  | 0 => 0
  | n + 1 => sumB o n + o n * (pw n : Int)
theorem sumB_congr {o o' : Nat → Int} {n : Nat} (h : ∀ i, i < n → o i = o' i) : sumB o n = sumB o' n := by
  induction n with
  | zero => rfl
  | succ n ih => rw [sumB, sumB, ih fun i hi => h i (by omega), h n (by omega)]
theorem sumB_bd {o : Nat → Int} {n : Nat} (h : ∀ i, i < n → 0 ≤ o i ∧ o i < 1000000000) : 0 ≤ sumB o n ∧ sumB o n < (pw n : Int) := by
  induction n with
  | zero => rw [sumB, pw_zero]; omega
  | succ n ih =>
    have h1 := ih fun i hi => h i (by omega)
    obtain ⟨h2, h3⟩ := h n (by omega)
    rw [sumB, pw_succ]
    have h4 : 0 ≤ o n * (pw n : Int) := Int.mul_nonneg h2 (by omega)
    have h5 : o n * (pw n : Int) ≤ 999999999 * (pw n : Int) := Int.mul_le_mul_of_nonneg_right (by omega) (by omega)
    omega
theorem sumB_shift (o : Nat → Int) (n : Nat) : sumB o (n + 1) = o 0 + 1000000000 * sumB (fun i => o (i + 1)) n := by
  induction n with
  | zero => show 0 + o 0 * ((pw 0 : Nat) : Int) = o 0 + 1000000000 * 0; rw [pw_zero]; omega
  | succ n ih =>
    rw [sumB, ih, sumB, pw_succ, Int.natCast_mul, Int.mul_add]
    have : o (n + 1) * ((pw n : Int) * ((1000000000 : Nat) : Int)) = 1000000000 * (o (n + 1) * (pw n : Int)) := by
      rw [← Int.mul_assoc, Int.mul_comm]; rfl
    omega
theorem sumB_add (o : Nat → Int) (m n : Nat) : sumB o (m + n) = sumB o m + (pw m : Int) * sumB (fun i => o (m + i)) n := by
  induction n with
  | zero => simp [sumB]
  | succ n ih =>
    rw [← Nat.add_assoc, sumB, ih, sumB, pw_add, Int.natCast_mul, Int.mul_add]
    have : o (m + n) * ((pw m : Int) * (pw n : Int)) = (pw m : Int) * (o (m + n) * (pw n : Int)) := by
      rw [← Int.mul_assoc, Int.mul_comm (o (m + n)), Int.mul_assoc]
    omega
theorem sumB_zero {o : Nat → Int} {n : Nat} (h : ∀ i, i < n → o i = 0) : sumB o n = 0 := by
  induction n with
  | zero => rfl
  | succ n ih => rw [sumB, ih fun i hi => h i (by omega), h n (by omega)]; simp
/-- The parts of a number, taken together, are it. -/
theorem sumB_dg (m : Nat) : ∀ n, m < pw n → sumB (fun i => (dg m i : Int)) n = m := by
  intro n
  induction n generalizing m with
  | zero => intro h; rw [pw_zero] at h; rw [sumB]; omega
  | succ n ih =>
    intro h
    rw [sumB_shift]
    have e : (fun i => ((dg m (i + 1) : Nat) : Int)) = fun i => ((dg (m / 1000000000) i : Nat) : Int) := by funext i; rw [dg_succ]
    rw [e, ih (m / 1000000000) (by rw [pw_succ] at h; omega), dg_zero]
    omega
/-- Parts that lie in the range are the number's own. -/
theorem dg_sumB {o : Nat → Int} : ∀ {n : Nat}, (∀ i, i < n → 0 ≤ o i ∧ o i < 1000000000) → ∀ i, i < n → (dg (sumB o n).toNat i : Int) = o i := by
  intro n
  induction n generalizing o with
  | zero => intro _ i hi; omega
  | succ n ih =>
    intro h i hi
    have h0 := h 0 (by omega)
    have hs := sumB_bd (o := fun i => o (i + 1)) (n := n) fun i hi => h (i + 1) (by omega)
    have hb := sumB_shift o n
    cases i with
    | zero => rw [dg_zero, hb]; omega
    | succ i =>
      have := ih (o := fun i => o (i + 1)) (fun i hi => h (i + 1) (by omega)) i (by omega)
      rw [dg_succ]
      have e : (sumB o (n + 1)).toNat / 1000000000 = (sumB (fun i => o (i + 1)) n).toNat := by rw [hb]; omega
      rw [e]; exact this
/-- .. and there are as many, if the last one is not 0. -/
theorem lenB_sumB {o : Nat → Int} {n : Nat} (h : ∀ i, i < n → 0 ≤ o i ∧ o i < 1000000000) (hl : 0 < n → o (n - 1) ≠ 0) : lenB (sumB o n).toNat = n := by
  have hb := sumB_bd h
  have h1 : lenB (sumB o n).toNat ≤ n := lenB_le (by omega)
  rcases Nat.eq_zero_or_pos n with h0 | h0
  · omega
  · have h2 : n - 1 < lenB (sumB o n).toNat := by
      refine lenB_ge ?_
      obtain ⟨k, rfl⟩ : ∃ k, n = k + 1 := ⟨n - 1, by omega⟩
      have h3 := (sumB_bd (o := o) (n := k) fun i hi => h i (by omega)).1
      have h4 := h k (by omega)
      have h5 := hl h0
      simp only [Nat.add_sub_cancel] at h5 ⊢
      have h6 : (pw k : Int) ≤ o k * (pw k : Int) := by
        have := Int.mul_le_mul_of_nonneg_right (show (1 : Int) ≤ o k by omega) (show (0 : Int) ≤ (pw k : Int) by omega)
        omega
      have h7 : sumB o (k + 1) = sumB o k + o k * (pw k : Int) := rfl
      omega
    omega
/-- Noughts behind are cut off. -/
theorem lenB_cut {o : Nat → Int} {n k : Nat} (h : ∀ i, i < n → 0 ≤ o i ∧ o i < 1000000000) (hk : k ≤ n) (hz : ∀ i, k ≤ i → i < n → o i = 0) (hl : 0 < k → o (k - 1) ≠ 0) : lenB (sumB o n).toNat = k := by
  have e : sumB o n = sumB o k := by
    obtain ⟨m, rfl⟩ : ∃ m, n = k + m := ⟨n - k, by omega⟩
    rw [sumB_add, sumB_zero (o := fun i => o (k + i)) (n := m) fun i hi => hz (k + i) (by omega) (by omega)]; simp
  rw [e]
  exact lenB_sumB (fun i hi => h i (by omega)) hl

/-! ### Numbers -/
/-- May a number be: its sign, how many parts, its parts. -/
def okN (s : Bool) (n : Nat) (o : Nat → Int) : Prop := (∀ i, i < n → o i < 1000000000) ∧ (n = 0 → s = false) ∧ (0 < n → o (n - 1) ≠ 0)
open Classical in
/-- The number that is meant: 0, if it may not be. -/
noncomputable def valN (s : Bool) (n : Nat) (o : Nat → Int) : Int := if okN s n o then (if s = true then - sumB o n else sumB o n) else 0
theorem valN_not {s : Bool} {n : Nat} {o : Nat → Int} (h : ¬ okN s n o) : valN s n o = 0 := by unfold valN; rw [if_neg h]
theorem valN_abs {s : Bool} {n : Nat} {o : Nat → Int} (h : okN s n o) (h0 : ∀ i, i < n → 0 ≤ o i) : (valN s n o).natAbs = (sumB o n).toNat := by
  have := (sumB_bd (o := o) (n := n) fun i hi => ⟨h0 i hi, h.1 i hi⟩).1
  unfold valN; rw [if_pos h]
  by_cases hs : s = true
  · rw [if_pos hs]; omega
  · rw [if_neg hs]; omega
theorem valN_len {s : Bool} {n : Nat} {o : Nat → Int} (h : okN s n o) (h0 : ∀ i, i < n → 0 ≤ o i) : lenB (valN s n o).natAbs = n := by
  rw [valN_abs h h0]; exact lenB_sumB (fun i hi => ⟨h0 i hi, h.1 i hi⟩) h.2.2
theorem valN_dg {s : Bool} {n : Nat} {o : Nat → Int} (h : okN s n o) (h0 : ∀ i, i < n → 0 ≤ o i) (i : Nat) (hi : i < n) : (dg (valN s n o).natAbs i : Int) = o i := by
  rw [valN_abs h h0]; exact dg_sumB (fun i hi => ⟨h0 i hi, h.1 i hi⟩) i hi
theorem valN_neg {s : Bool} {n : Nat} {o : Nat → Int} (h : okN s n o) (h0 : ∀ i, i < n → 0 ≤ o i) : decide (valN s n o < 0) = s := by
  have hb := (sumB_bd (o := o) (n := n) fun i hi => ⟨h0 i hi, h.1 i hi⟩).1
  have hl := valN_len h h0
  rw [valN_abs h h0] at hl
  have h3 := h.2.1
  unfold valN; rw [if_pos h]
  cases s with
  | false => simp; omega
  | true =>
    have hn : n ≠ 0 := fun e => by have := h3 e; contradiction
    have : (sumB o n).toNat ≠ 0 := fun e => by rw [e, lenB_zero] at hl; omega
    simp; omega
end Go.Proofs.YtebobpbcllideaaGreatDoor.Limb
