/-
  Plain lemmas on products of letters: what is multiplied is divided again, the least that has both, orders. No program in sight.
-/
import Derived.Test.YtlhkiodgjcbjbaaMonoAlive
namespace Go.Proofs.Ytlhkiodgjcbjbaa.Mono

theorem mulB_false {a b : Nat → Int} (h : mulB a b = false) : mulM a b = zeroM ∧ mulE a b = 3 := ⟨by funext k; simp [mulM, h, zeroM], by simp [mulE, h]⟩
theorem mulE_true {a b : Nat → Int} (h : mulB a b = true) : mulE a b = 0 := by simp [mulE, h]
theorem divB_false {a b : Nat → Int} (h : divB a b = false) : divM a b = zeroM := by funext k; simp [divM, h, zeroM]
theorem mul_true {a b : Nat → Int} (h : mulB a b = true) (k : Nat) : mulM a b k = a k + b k := by simp [mulM, h]
theorem div_true {a b : Nat → Int} (h : divB a b = true) (k : Nat) : divM a b k = a k - b k := by simp [divM, h]
theorem divB_mul {a b : Nat → Int} (h : mulB a b = true) (ha : Small a) : divB (mulM a b) b = true := by
  rw [divB_iff]; intro k hk; rw [mul_true h]; have := ha k hk; omega
theorem divM_mul {a b : Nat → Int} (h : mulB a b = true) (ha : Small a) : divM (mulM a b) b = a := by
  funext k; rw [div_true (divB_mul h ha), mul_true h]; omega
theorem mulB_div {a b : Nat → Int} (h : divB a b = true) (ha : Small a) : mulB (divM a b) b = true := by
  rw [mulB_iff]; intro k hk; rw [div_true h]; have := ha k hk; omega
theorem mulM_div {a b : Nat → Int} (h : divB a b = true) (ha : Small a) : mulM (divM a b) b = a := by
  funext k; rw [mul_true (mulB_div h ha), div_true h]; omega
theorem degM_mul {a b : Nat → Int} (h : mulB a b = true) : degM (mulM a b) = degM a + degM b := by
  unfold degM; rw [mul_true h, mul_true h, mul_true h, mul_true h]; omega
theorem degM_bd {a : Nat → Int} (h : Small a) : 0 ≤ degM a ∧ degM a ≤ 262140 := by
  have := h 0 (by omega); have := h 1 (by omega); have := h 2 (by omega); have := h 3 (by omega); unfold degM; omega

/-- 'the same at each place', as the walk has it. -/
def same4 (a b : Nat → Int) : Bool := a 0 == b 0 && (a 1 == b 1 && (a 2 == b 2 && a 3 == b 3))
theorem same4_iff (a b : Nat → Int) : same4 a b = true ↔ ∀ k, k < 4 → a k = b k := by
  rw [all4 fun k => a k = b k]; simp [same4]
theorem same4_false {a b : Nat → Int} (h : ¬ ∀ k, k < 4 → a k = b k) : same4 a b = false := by
  have := mt (same4_iff a b).1 h
  simpa using this
theorem lcm_div {a b : Nat → Int} : (∀ k, k < 4 → lcmM a b k = a k) ↔ divB a b = true := by
  rw [divB_iff]
  exact forall_congr' fun k => forall_congr' fun _ => by unfold lcmM; omega
theorem mvf_congr {a b : Nat → Int} (h : ∀ k, k < 4 → a k = b k) : mvf a = mvf b := by
  unfold mvf; rw [h 0 (by omega), h 1 (by omega), h 2 (by omega), h 3 (by omega)]
theorem lcm_at {a b c : Nat → Int} (w : World) (ha : Small a) (hb : Small b) (h : ∀ k, k < 4 → lcmM a b k = c k) :
    Calls Try.prog 15 #[mvf a, mvf b] w fun e w' => e = .returned (mvf c) ∧ RowKit.Below w.heap.size w w' := by rw [← mvf_congr h]; exact lcm_any a b w ha hb
end Go.Proofs.Ytlhkiodgjcbjbaa.Mono
