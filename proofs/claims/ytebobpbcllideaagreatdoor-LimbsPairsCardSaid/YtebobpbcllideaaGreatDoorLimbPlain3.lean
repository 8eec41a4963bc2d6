/-
  Plain lemmas on products of great numbers, as it is done by hand, row by row. No program in sight.
-/
import Derived.Test.YtebobpbcllideaaGreatDoorLimbPlain2
namespace Go.Proofs.YtebobpbcllideaaGreatDoor.Limb

/-- One part set anew. -/
def upd (o : Nat → Int) (j : Nat) (v : Int) : Nat → Int := fun t => if t = j then v else o t
theorem upd_same (o : Nat → Int) (j : Nat) (v : Int) : upd o j v j = v := by simp [upd]
theorem upd_ne (o : Nat → Int) {j t : Nat} (v : Int) (h : t ≠ j) : upd o j v t = o t := by simp [upd, h]
theorem sumB_upd_ge (o : Nat → Int) (v : Int) {j : Nat} : ∀ {n : Nat}, n ≤ j → sumB (upd o j v) n = sumB o n := fun h =>
  sumB_congr fun i hi => upd_ne o v (by omega)
theorem sumB_upd (o : Nat → Int) (v : Int) {j n : Nat} (h : j < n) : sumB (upd o j v) n = sumB o n + (v - o j) * (pw j : Int) := by
  induction n with
  | zero => omega
  | succ n ih =>
    rw [sumB, sumB]
    by_cases e : j = n
    · subst e
      rw [sumB_upd_ge o v (Nat.le_refl _), upd_same, Int.sub_mul]; omega
    · rw [ih (by omega), upd_ne o v (by omega)]; omega
theorem upd_Dig {o : Nat → Int} {n : Nat} (h : Dig o n) (j : Nat) {v : Int} (hv : 0 ≤ v ∧ v < 1000000000) : Dig (upd o j v) n := by
  intro i hi
  by_cases e : i = j
  · subst e; rw [upd_same]; exact hv
  · rw [upd_ne o v e]; exact h i hi

/-- Ahead of row i: what stands there is the product of the first i parts with the other amount; behind there is nothing. -/
structure MulRow (x y : Nat → Int) (lb n i : Nat) (o : Nat → Int) : Prop where
  dig : Dig o n
  sum : sumB o n = sumB x i * sumB y lb
  out : ∀ j, i + lb ≤ j → j < n → o j = 0
/-- Within row i, ahead of place k. -/
structure MulIn (x y : Nat → Int) (lb n i k : Nat) (o : Nat → Int) (on : Int) : Prop where
  dig : Dig o n
  on0 : 0 ≤ on ∧ on < 1000000000
  sum : sumB o n + on * (pw (i + k) : Int) = sumB x i * sumB y lb + x i * sumB y k * (pw i : Int)
  out : ∀ j, i + lb ≤ j → j < n → o j = 0
theorem MulRow.start (x y : Nat → Int) (lb n : Nat) : MulRow x y lb n 0 (fun _ => 0) :=
  ⟨fun i _ => by omega, by rw [sumB_zero (fun _ _ => rfl)]; show (0 : Int) = 0 * _; omega, fun _ _ _ => rfl⟩
theorem MulRow.inner {x y : Nat → Int} {lb n i : Nat} {o : Nat → Int} (h : MulRow x y lb n i o) : MulIn x y lb n i 0 o 0 :=
  ⟨h.dig, by omega, by rw [h.sum]; show _ + 0 * _ = _ + x i * 0 * _; rw [Int.mul_zero]; omega, h.out⟩
theorem mul_bd {a b : Int} (ha : 0 ≤ a ∧ a < 1000000000) (hb : 0 ≤ b ∧ b < 1000000000) : 0 ≤ a * b ∧ a * b ≤ 999999998000000001 := by
  constructor
  · exact Int.mul_nonneg ha.1 hb.1
  · calc a * b ≤ 999999999 * b := Int.mul_le_mul_of_nonneg_right (by omega) hb.1
      _ ≤ 999999999 * 999999999 := Int.mul_le_mul_of_nonneg_left (by omega) (by omega)
      _ = 999999998000000001 := by decide
theorem MulIn.step {x y : Nat → Int} {lb n i k : Nat} {o : Nat → Int} {on : Int} (h : MulIn x y lb n i k o on) (hx : 0 ≤ x i ∧ x i < 1000000000) (hy : 0 ≤ y k ∧ y k < 1000000000) (hk : k < lb) (hn : i + lb ≤ n) :
    (0 ≤ on + (x i * y k + o (i + k)) ∧ on + (x i * y k + o (i + k)) ≤ 999999999999999999) ∧
    MulIn x y lb n i (k + 1) (upd o (i + k) ((on + (x i * y k + o (i + k))) % 1000000000)) ((on + (x i * y k + o (i + k))) / 1000000000) := by
  have hb := mul_bd hx hy
  have hd := h.dig (i + k) (by omega)
  have h0 := h.on0
  have hs := h.sum
  refine ⟨by omega, upd_Dig h.dig _ (by omega), by omega, ?_, fun j hj hjn => by rw [upd_ne o _ (by omega)]; exact h.out j hj hjn⟩
  rw [sumB_upd o _ (show i + k < n by omega), ← Nat.add_assoc, pw_succ, Int.natCast_mul]
  generalize hT : on + (x i * y k + o (i + k)) = T
  have e1 : T = 1000000000 * (T / 1000000000) + T % 1000000000 := by omega
  have e2 : (T % 1000000000 - o (i + k)) * (pw (i + k) : Int) + T / 1000000000 * ((pw (i + k) : Int) * ((1000000000 : Nat) : Int)) = (T - o (i + k)) * (pw (i + k) : Int) := by
    have : T / 1000000000 * ((pw (i + k) : Int) * ((1000000000 : Nat) : Int)) = 1000000000 * (T / 1000000000) * (pw (i + k) : Int) := by
      rw [Int.mul_comm (pw (i + k) : Int), ← Int.mul_assoc, Int.mul_comm (T / 1000000000)]; rfl
    rw [this, ← Int.add_mul]
    congr 1
    omega
  have e3 : (T - o (i + k)) * (pw (i + k) : Int) = on * (pw (i + k) : Int) + x i * y k * (pw (i + k) : Int) := by
    rw [← Int.add_mul, ← hT]; congr 1; omega
  have e4 : x i * sumB y (k + 1) * (pw i : Int) = x i * sumB y k * (pw i : Int) + x i * y k * (pw (i + k) : Int) := by
    rw [sumB, Int.mul_add, Int.add_mul, pw_add, Int.natCast_mul]
    congr 1
    rw [Int.mul_assoc, Int.mul_assoc, Int.mul_assoc, Int.mul_comm (pw k : Int)]
  omega
theorem MulIn.row {x y : Nat → Int} {lb n i : Nat} {o : Nat → Int} {on : Int} (h : MulIn x y lb n i lb o on) (hn : i + lb < n) : MulRow x y lb n (i + 1) (upd o (i + lb) on) := by
  have hs := h.sum
  have ho := h.out (i + lb) (Nat.le_refl _) hn
  refine ⟨upd_Dig h.dig _ h.on0, ?_, fun j hj hjn => by rw [upd_ne o _ (by omega)]; exact h.out j (by omega) hjn⟩
  rw [sumB_upd o _ hn, ho, Int.sub_zero, hs, sumB, Int.add_mul]
  congr 1
  rw [Int.mul_assoc, Int.mul_assoc, Int.mul_comm (sumB y lb)]
end Go.Proofs.YtebobpbcllideaaGreatDoor.Limb
