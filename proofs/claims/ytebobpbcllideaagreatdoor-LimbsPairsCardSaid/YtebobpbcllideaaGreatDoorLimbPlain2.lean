/-
  Plain lemmas on great numbers: the order of two amounts, what goes on being carried. No program in sight.
-/
import Derived.Test.YtebobpbcllideaaGreatDoorLimbPlain
namespace Go.Proofs.YtebobpbcllideaaGreatDoor.Limb

def cmpZ (x y : Int) : Int := if x < y then -1 else if y < x then 1 else 0
theorem cmpZ_lt {x y : Int} (h : x < y) : cmpZ x y = -1 := by unfold cmpZ; rw [if_pos h]
theorem cmpZ_gt {x y : Int} (h : y < x) : cmpZ x y = 1 := by unfold cmpZ; rw [if_neg (by omega), if_pos h]
theorem cmpZ_eq {x y : Int} (h : x = y) : cmpZ x y = 0 := by unfold cmpZ; rw [if_neg (by omega), if_neg (by omega)]
theorem cmpZ_congr {x y u v : Int} (h1 : x < y ↔ u < v) (h2 : y < x ↔ v < u) : cmpZ x y = cmpZ u v := by
  rcases Int.lt_trichotomy x y with h | h | h
  · rw [cmpZ_lt h, cmpZ_lt (h1.1 h)]
  · rw [cmpZ_eq h, cmpZ_eq (by have a1 := mt h1.2 (by omega); have a2 := mt h2.2 (by omega); omega)]
  · rw [cmpZ_gt h, cmpZ_gt (h2.1 h)]
theorem cmpZ_neg (x y : Int) : cmpZ (-x) (-y) = cmpZ y x := cmpZ_congr (by omega) (by omega)
theorem cmpZ_swap (x y : Int) : cmpZ y x = - cmpZ x y := by
  rcases Int.lt_trichotomy x y with h | h | h
  · rw [cmpZ_lt h, cmpZ_gt h]; rfl
  · rw [cmpZ_eq h, cmpZ_eq h.symm]; rfl
  · rw [cmpZ_gt h, cmpZ_lt h]

abbrev Dig (o : Nat → Int) (n : Nat) : Prop := ∀ i, i < n → 0 ≤ o i ∧ o i < 1000000000
theorem sumB_lt {a b : Nat → Int} {k n : Nat} (ha : Dig a n) (hb : Dig b n) (hk : k < n) (heq : ∀ j, k < j → j < n → a j = b j) (h : a k < b k) : sumB a n < sumB b n := by
  obtain ⟨m, rfl⟩ : ∃ m, n = (k + 1) + m := ⟨n - (k + 1), by omega⟩
  have e3 := sumB_add a (k + 1) m
  have e4 := sumB_add b (k + 1) m
  rw [sumB_congr (o := fun i => a (k + 1 + i)) (o' := fun i => b (k + 1 + i)) fun i hi => heq _ (by omega) (by omega)] at e3
  have h1 := sumB_bd (o := a) (n := k) fun i hi => ha i (by omega)
  have h2 := sumB_bd (o := b) (n := k) fun i hi => hb i (by omega)
  have e1 : sumB a (k + 1) = sumB a k + a k * (pw k : Int) := rfl
  have e2 : sumB b (k + 1) = sumB b k + b k * (pw k : Int) := rfl
  have h3 : (a k + 1) * (pw k : Int) ≤ b k * (pw k : Int) := Int.mul_le_mul_of_nonneg_right (by omega) (by omega)
  rw [Int.add_mul] at h3
  omega
/-- From the upper end on, where do two part for the first time: above k they are the same. -/
def TopDiff (a b : Nat → Int) (n k : Nat) : Prop := k ≤ n ∧ (∀ j, k ≤ j → j < n → a j = b j) ∧ (0 < k → a (k - 1) ≠ b (k - 1))
theorem topDiff_any (a b : Nat → Int) (n : Nat) : ∃ k, TopDiff a b n k := by
  induction n with
  | zero => exact ⟨0, by omega, fun j _ h => by omega, fun h => by omega⟩
  | succ n ih =>
    by_cases h : a n = b n
    · obtain ⟨k, h1, h2, h3⟩ := ih
      exact ⟨k, by omega, fun j hj hn => by
        by_cases e : j = n
        · rw [e]; exact h
        · exact h2 j hj (by omega), h3⟩
    · exact ⟨n + 1, by omega, fun j hj hn => by omega, fun _ => h⟩
theorem topDiff_cmp {a b : Nat → Int} {n k : Nat} (ha : Dig a n) (hb : Dig b n) (h : TopDiff a b n k) : cmpZ (sumB a n) (sumB b n) = if k = 0 then 0 else cmpZ (a (k - 1)) (b (k - 1)) := by
  obtain ⟨h1, h2, h3⟩ := h
  by_cases hk : k = 0
  · rw [if_pos hk, sumB_congr (o := a) (o' := b) fun i hi => h2 i (by omega) hi]; exact cmpZ_eq rfl
  · rw [if_neg hk]
    have h4 := h3 (by omega)
    rcases Int.lt_or_gt_of_ne h4 with h5 | h5
    · rw [cmpZ_lt h5, cmpZ_lt (sumB_lt ha hb (show k - 1 < n by omega) (fun j hj hn => h2 j (by omega) hn) h5)]
    · rw [cmpZ_gt h5, cmpZ_gt (sumB_lt hb ha (show k - 1 < n by omega) (fun j hj hn => (h2 j (by omega) hn).symm) h5)]
/-- The parts of an amount. -/
abbrev dgi (m : Nat) (i : Nat) : Int := (dg m i : Int)
theorem dgi_Dig (m n : Nat) : Dig (dgi m) n := fun i _ => ⟨by show (0 : Int) ≤ (dg m i : Int); omega, by have := dg_lt m i; show ((dg m i : Nat) : Int) < _; omega⟩
theorem sumB_dgi (m : Nat) : sumB (dgi m) (lenB m) = m := sumB_dg m _ (lt_pw_lenB m)
theorem sumB_dgi_le {m n : Nat} (h : lenB m ≤ n) : sumB (dgi m) n = m := sumB_dg m n (by have := lt_pw_lenB m; have := pw_le h; omega)
theorem cmp_len {m n : Nat} (h : lenB m < lenB n) : m < n := by
  have h1 := lt_pw_lenB m
  have h2 := pw_le_of_lenB (m := n) (n := lenB m) h
  omega

/-! ### What goes on being carried -/
def cS (f : Nat → Int) : Nat → Int
  | 0 => 0
  | i + 1 => (f i + cS f i) / 1000000000
def cD (f : Nat → Int) (i : Nat) : Int := (f i + cS f i) % 1000000000
theorem cD_Dig (f : Nat → Int) (n : Nat) : Dig (cD f) n := fun i _ => by unfold cD; omega
theorem cS_sum (f : Nat → Int) (n : Nat) : sumB (cD f) n + cS f n * (pw n : Int) = sumB f n := by
  induction n with
  | zero => show 0 + 0 * ((pw 0 : Nat) : Int) = 0; omega
  | succ n ih =>
    rw [sumB, sumB, ← ih, cS, pw_succ, Int.natCast_mul]
    have e : f n + cS f n = (f n + cS f n) / 1000000000 * 1000000000 + cD f n := by unfold cD; omega
    have e2 : (f n + cS f n) * (pw n : Int) = ((f n + cS f n) / 1000000000 * 1000000000 + cD f n) * (pw n : Int) := by rw [← e]
    rw [Int.add_mul, Int.add_mul] at e2
    have e3 : (f n + cS f n) / 1000000000 * ((pw n : Int) * ((1000000000 : Nat) : Int)) = (f n + cS f n) / 1000000000 * 1000000000 * (pw n : Int) := by
      rw [Int.mul_comm (pw n : Int), ← Int.mul_assoc]; rfl
    omega
theorem cS_bd {f : Nat → Int} {lo hi : Int} {n : Nat} (hl : lo ≤ 0) (hh : 0 ≤ hi) (h : ∀ i, i < n → lo * 999999999 ≤ f i ∧ f i ≤ hi * 999999999) : lo ≤ cS f n ∧ cS f n ≤ hi := by
  induction n with
  | zero => exact ⟨hl, hh⟩
  | succ n ih =>
    have h1 := ih fun i hi => h i (by omega)
    have h2 := h n (by omega)
    rw [cS]; omega
theorem cS_fits {f : Nat → Int} {n : Nat} (h0 : 0 ≤ sumB f n) (h1 : sumB f n < (pw n : Int)) : cS f n = 0 ∧ sumB (cD f) n = sumB f n := by
  have h2 := cS_sum f n
  have h3 := sumB_bd (cD_Dig f n)
  have hp : (0 : Int) < (pw n : Int) := by have := pw_pos n; omega
  have h4 : cS f n = 0 := by
    rcases Int.lt_trichotomy (cS f n) 0 with h | h | h
    · have : cS f n * (pw n : Int) ≤ -1 * (pw n : Int) := Int.mul_le_mul_of_nonneg_right (by omega) (by omega)
      omega
    · exact h
    · have : 1 * (pw n : Int) ≤ cS f n * (pw n : Int) := Int.mul_le_mul_of_nonneg_right (by omega) (by omega)
      omega
  rw [h4] at h2
  exact ⟨h4, by omega⟩
theorem sumB_plus (f g : Nat → Int) (n : Nat) : sumB (fun i => f i + g i) n = sumB f n + sumB g n := by
  induction n with
  | zero => rfl
  | succ n ih => rw [sumB, sumB, sumB, ih, Int.add_mul]; omega
theorem sumB_times (f : Nat → Int) (c : Int) (n : Nat) : sumB (fun i => f i * c) n = sumB f n * c := by
  induction n with
  | zero => show (0 : Int) = 0 * c; omega
  | succ n ih =>
    rw [sumB, sumB, ih, Int.add_mul]
    have : f n * c * (pw n : Int) = f n * (pw n : Int) * c := by rw [Int.mul_assoc, Int.mul_comm c, ← Int.mul_assoc]
    omega
/-- A part, or 0 behind the end. -/
def part (o : Nat → Int) (n i : Nat) : Int := if i < n then o i else 0
theorem sumB_part (o : Nat → Int) {n m : Nat} (h : n ≤ m) : sumB (part o n) m = sumB o n := by
  obtain ⟨k, rfl⟩ : ∃ k, m = n + k := ⟨m - n, by omega⟩
  rw [sumB_add, sumB_zero (o := fun i => part o n (n + i)) (n := k) fun i _ => by unfold part; rw [if_neg (by omega)]]
  rw [sumB_congr (o := part o n) (o' := o) fun i hi => by unfold part; rw [if_pos hi]]
  omega
end Go.Proofs.YtebobpbcllideaaGreatDoor.Limb
