/-
  Orders of products as one number: by it two products stand as their keys do. No program in sight.
-/
import Derived.Test.YtlhkiodgjcbjbaaMonoPlain
namespace Go.Proofs.Ytlhkiodgjcbjbaa.Mono

theorem cmpZ_lt {x y : Int} (h : x < y) : cmpZ x y = -1 := by unfold cmpZ; rw [if_pos h]
theorem cmpZ_gt {x y : Int} (h : y < x) : cmpZ x y = 1 := by unfold cmpZ; rw [if_neg (by omega), if_pos h]
theorem cmpZ_eq {x y : Int} (h : x = y) : cmpZ x y = 0 := by unfold cmpZ; rw [if_neg (by omega), if_neg (by omega)]
theorem cmpZ_congr {x y u v : Int} (h1 : x < y ↔ u < v) (h2 : y < x ↔ v < u) : cmpZ x y = cmpZ u v := by
  rcases Int.lt_trichotomy x y with h | h | h
  · rw [cmpZ_lt h, cmpZ_lt (h1.1 h)]
  · rw [cmpZ_eq h, cmpZ_eq (by have a1 := mt h1.2 (by omega); have a2 := mt h2.2 (by omega); omega)]
  · rw [cmpZ_gt h, cmpZ_gt (h2.1 h)]

def key (a : Nat → Int) : Int := a 0 * 281474976710656 + a 1 * 4294967296 + a 2 * 65536 + a 3
def rkey (a : Nat → Int) : Int := a 3 * 281474976710656 + a 2 * 4294967296 + a 1 * 65536 + a 0
def KO (o : Int) (a : Nat → Int) : Int := if o = 1 then degM a * 18446744073709551616 + key a else if o = 2 then degM a * 18446744073709551616 - rkey a else key a

structure Bds (a : Nat → Int) : Prop where
  b0 : 0 ≤ a 0 ∧ a 0 ≤ 65535
  b1 : 0 ≤ a 1 ∧ a 1 ≤ 65535
  b2 : 0 ≤ a 2 ∧ a 2 ≤ 65535
  b3 : 0 ≤ a 3 ∧ a 3 ≤ 65535
theorem bds {a : Nat → Int} (h : Small a) : Bds a := ⟨h 0 (by omega), h 1 (by omega), h 2 (by omega), h 3 (by omega)⟩

theorem key_bd {a : Nat → Int} (h : Small a) : 0 ≤ key a ∧ key a < 18446744073709551616 := by
  obtain ⟨h0, h1, h2, h3⟩ := bds h
  unfold key; omega
theorem rkey_bd {a : Nat → Int} (h : Small a) : 0 ≤ rkey a ∧ rkey a < 18446744073709551616 := by
  obtain ⟨h0, h1, h2, h3⟩ := bds h
  unfold rkey; omega
theorem lex_key {a b : Nat → Int} (ha : Small a) (hb : Small b) : lexM a b = cmpZ (key a) (key b) := by
  obtain ⟨k, hD⟩ := diff_any a b
  rw [lex_diff hD]
  obtain ⟨h1, h2, h3⟩ := hD
  obtain ⟨p0, p1, p2, p3⟩ := bds ha
  obtain ⟨q0, q1, q2, q3⟩ := bds hb
  match k, h1 with
  | 0, _ => rw [if_pos (by omega)]; exact cmpZ_congr (by unfold key; omega) (by unfold key; omega)
  | 1, _ => rw [if_pos (by omega)]; have e0 := h2 0 (by omega); exact cmpZ_congr (by unfold key; omega) (by unfold key; omega)
  | 2, _ => rw [if_pos (by omega)]; have e0 := h2 0 (by omega); have e1 := h2 1 (by omega); exact cmpZ_congr (by unfold key; omega) (by unfold key; omega)
  | 3, _ => rw [if_pos (by omega)]; have e0 := h2 0 (by omega); have e1 := h2 1 (by omega); have e2 := h2 2 (by omega); exact cmpZ_congr (by unfold key; omega) (by unfold key; omega)
  | 4, _ => rw [if_neg (by omega)]; have e0 := h2 0 (by omega); have e1 := h2 1 (by omega); have e2 := h2 2 (by omega); have e3 := h2 3 (by omega); exact (cmpZ_eq (by unfold key; omega)).symm
theorem rev_small {a : Nat → Int} (h : Small a) : Small (revM a) := fun k hk => h (3 - k) (by omega)
theorem key_rev (a : Nat → Int) : key (revM a) = rkey a := rfl
theorem cmp_key {o : Int} {a b : Nat → Int} (ha : Small a) (hb : Small b) : cmpM o a b = cmpZ (KO o a) (KO o b) := by
  have k1 := key_bd ha
  have k2 := key_bd hb
  have r1 := rkey_bd ha
  have r2 := rkey_bd hb
  by_cases hd : (o = 1 ∨ o = 2) ∧ ¬ degM a = degM b
  · rw [cmpM_deg hd.1 hd.2, clamp_sub]
    obtain ⟨ho, hne⟩ := hd
    unfold KO
    rcases ho with rfl | rfl
    · rw [if_pos rfl, if_pos rfl]; exact cmpZ_congr (by omega) (by omega)
    · rw [if_neg (by omega), if_pos rfl, if_neg (by omega), if_pos rfl]; exact cmpZ_congr (by omega) (by omega)
  · have hq : (o = 1 ∨ o = 2) → degM a = degM b := fun h => Decidable.byContradiction fun hn => hd ⟨h, hn⟩
    rw [cmpM_tail hq]
    unfold tailM KO
    by_cases h1 : o = 1
    · have e := hq (Or.inl h1)
      rw [if_neg (show ¬ o = 2 by omega), if_pos h1, if_pos h1, lex_key ha hb]; exact cmpZ_congr (by omega) (by omega)
    · by_cases h2 : o = 2
      · have e := hq (Or.inr h2)
        rw [if_pos h2, if_neg h1, if_neg h1, if_pos h2, if_pos h2, lex_key (rev_small hb) (rev_small ha), key_rev, key_rev]; exact cmpZ_congr (by omega) (by omega)
      · rw [if_neg h2, if_neg h1, if_neg h1, if_neg h2, if_neg h2, lex_key ha hb]

theorem KO_cases (o : Int) (P : (Nat → Int) → (Nat → Int) → Int → Int → Prop) (a b : Nat → Int)
    (h1 : P a b (degM a * 18446744073709551616 + key a) (degM b * 18446744073709551616 + key b)) (h2 : P a b (degM a * 18446744073709551616 - rkey a) (degM b * 18446744073709551616 - rkey b)) (h3 : P a b (key a) (key b)) : P a b (KO o a) (KO o b) := by
  unfold KO
  by_cases e1 : o = 1
  · rw [if_pos e1, if_pos e1]; exact h1
  · rw [if_neg e1, if_neg e1]
    by_cases e2 : o = 2
    · rw [if_pos e2, if_pos e2]; exact h2
    · rw [if_neg e2, if_neg e2]; exact h3
theorem key_inj {a b : Nat → Int} (ha : Small a) (hb : Small b) (h : key a = key b) : ∀ k, k < 4 → a k = b k := by
  obtain ⟨p0, p1, p2, p3⟩ := bds ha
  obtain ⟨q0, q1, q2, q3⟩ := bds hb
  rw [all4 fun k => a k = b k]
  unfold key at h; omega
theorem rkey_inj {a b : Nat → Int} (ha : Small a) (hb : Small b) (h : rkey a = rkey b) : ∀ k, k < 4 → a k = b k := by
  obtain ⟨p0, p1, p2, p3⟩ := bds ha
  obtain ⟨q0, q1, q2, q3⟩ := bds hb
  rw [all4 fun k => a k = b k]
  unfold rkey at h; omega
theorem KO_same {o : Int} {a b : Nat → Int} (ha : Small a) (hb : Small b) : KO o a = KO o b ↔ ∀ k, k < 4 → a k = b k := by
  have k1 := key_bd ha
  have k2 := key_bd hb
  have r1 := rkey_bd ha
  have r2 := rkey_bd hb
  constructor
  · refine KO_cases o (fun a b x y => x = y → ∀ k, k < 4 → a k = b k) a b ?_ ?_ ?_
    · intro h; exact key_inj ha hb (by omega)
    · intro h; exact rkey_inj ha hb (by omega)
    · intro h; exact key_inj ha hb h
  · intro h
    have h := (all4 fun k => a k = b k).1 h
    obtain ⟨e0, e1, e2, e3⟩ := h
    refine KO_cases o (fun _ _ x y => x = y) a b ?_ ?_ ?_
    · simp only [degM, key, e0, e1, e2, e3]
    · simp only [degM, rkey, e0, e1, e2, e3]
    · simp only [key, e0, e1, e2, e3]
theorem cmp_vals (o : Int) {a b : Nat → Int} (ha : Small a) (hb : Small b) : cmpM o a b = -1 ∨ cmpM o a b = 0 ∨ cmpM o a b = 1 := by
  rw [cmp_key ha hb]
  rcases Int.lt_trichotomy (KO o a) (KO o b) with h | h | h
  · exact Or.inl (cmpZ_lt h)
  · exact Or.inr (Or.inl (cmpZ_eq h))
  · exact Or.inr (Or.inr (cmpZ_gt h))
theorem cmp_swap {o : Int} {a b : Nat → Int} (ha : Small a) (hb : Small b) : cmpM o b a = - cmpM o a b := by
  rw [cmp_key ha hb, cmp_key hb ha]
  rcases Int.lt_trichotomy (KO o a) (KO o b) with h | h | h
  · rw [cmpZ_lt h, cmpZ_gt h]; rfl
  · rw [cmpZ_eq h, cmpZ_eq h.symm]; rfl
  · rw [cmpZ_gt h, cmpZ_lt h]
theorem cmp_zero {o : Int} {a b : Nat → Int} (ha : Small a) (hb : Small b) : cmpM o a b = 0 ↔ ∀ k, k < 4 → a k = b k := by
  rw [cmp_key ha hb, cmpZ_zero, KO_same ha hb]
theorem zero_small : Small zeroM := fun _ _ => by unfold zeroM; omega
theorem cmpZ_le {x y : Int} : cmpZ x y ≤ 0 ↔ x ≤ y := by
  rcases Int.lt_trichotomy x y with h | h | h
  · rw [cmpZ_lt h]; omega
  · rw [cmpZ_eq h]; omega
  · rw [cmpZ_gt h]; omega
theorem cmpZ_ge {x y : Int} : 0 ≤ cmpZ x y ↔ y ≤ x := by
  rcases Int.lt_trichotomy x y with h | h | h
  · rw [cmpZ_lt h]; omega
  · rw [cmpZ_eq h]; omega
  · rw [cmpZ_gt h]; omega
theorem cmp_div {o : Int} {a b : Nat → Int} (ha : Small a) (hb : Small b) (h : divB a b = true) : 0 ≤ cmpM o a b := by
  rw [cmp_key ha hb, cmpZ_ge]
  have h := (all4 fun k => b k ≤ a k).1 ((divB_iff a b).1 h)
  refine KO_cases o (fun _ _ x y => y ≤ x) a b ?_ ?_ ?_
  · simp only [degM, key]; omega
  · simp only [degM, rkey]; omega
  · simp only [key]; omega
theorem cmp_least (o : Int) {a : Nat → Int} (ha : Small a) : 0 ≤ cmpM o a zeroM :=
  cmp_div ha zero_small ((divB_iff a zeroM).2 fun k hk => by unfold zeroM; have := ha k hk; omega)
theorem cmp_trans {o : Int} {a b c : Nat → Int} (ha : Small a) (hb : Small b) (hc : Small c) (h1 : cmpM o a b ≤ 0) (h2 : cmpM o b c ≤ 0) : cmpM o a c ≤ 0 := by
  rw [cmp_key ha hb, cmpZ_le] at h1
  rw [cmp_key hb hc, cmpZ_le] at h2
  rw [cmp_key ha hc, cmpZ_le]
  omega
theorem KO_mul {o : Int} {a c : Nat → Int} (h : mulB a c = true) : KO o (mulM a c) = KO o a + KO o c := by
  have e := degM_mul h
  have e0 := mul_true h 0
  have e1 := mul_true h 1
  have e2 := mul_true h 2
  have e3 := mul_true h 3
  unfold KO
  by_cases i1 : o = 1
  · rw [if_pos i1, if_pos i1, if_pos i1]; simp only [key]; omega
  · by_cases i2 : o = 2
    · rw [if_neg i1, if_pos i2, if_neg i1, if_pos i2, if_neg i1, if_pos i2]; simp only [rkey]; omega
    · rw [if_neg i1, if_neg i2, if_neg i1, if_neg i2, if_neg i1, if_neg i2]; simp only [key]; omega
theorem cmp_mul {o : Int} {a b c : Nat → Int} (ha : Small a) (hb : Small b) (hc : Small c) (h1 : mulB a c = true) (h2 : mulB b c = true) : cmpM o (mulM a c) (mulM b c) = cmpM o a b := by
  rw [cmp_key (mul_small ha hc) (mul_small hb hc), cmp_key ha hb, KO_mul h1, KO_mul h2]
  exact cmpZ_congr (by omega) (by omega)
theorem cmp_deg1 {a b : Nat → Int} (h : degM b < degM a) : cmpM 1 a b = 1 ∧ cmpM 2 a b = 1 := by
  rw [cmpM_deg (Or.inl rfl) (by omega), cmpM_deg (Or.inr rfl) (by omega), clamp_sub, cmpZ_gt h]
  exact ⟨rfl, rfl⟩
def unitM (i : Nat) (k : Nat) : Int := if k = i then 1 else 0
theorem unit_small (i : Nat) : Small (unitM i) := fun k _ => by unfold unitM; split <;> omega
theorem cmp_unit {o : Int} {i k : Nat} (h : i < k) (hk : k < 4) : cmpM o (unitM i) (unitM k) = 1 := by
  rw [cmp_key (unit_small i) (unit_small k)]
  refine cmpZ_gt ?_
  have hc : (i = 0 ∧ k = 1) ∨ (i = 0 ∧ k = 2) ∨ (i = 0 ∧ k = 3) ∨ (i = 1 ∧ k = 2) ∨ (i = 1 ∧ k = 3) ∨ (i = 2 ∧ k = 3) := by omega
  refine KO_cases o (fun _ _ x y => y < x) (unitM i) (unitM k) ?_ ?_ ?_
  all_goals rcases hc with ⟨rfl, rfl⟩ | ⟨rfl, rfl⟩ | ⟨rfl, rfl⟩ | ⟨rfl, rfl⟩ | ⟨rfl, rfl⟩ | ⟨rfl, rfl⟩ <;> decide
theorem cmp_else0 {o : Int} (h : 2 < o) (a b : Nat → Int) : cmpM o a b = cmpM 0 a b := by
  unfold cmpM; rw [if_neg (by omega), if_neg (by omega), if_neg (by omega), if_neg (by omega)]
theorem cmp_same (o : Int) {a : Nat → Int} (ha : Small a) : cmpM o a a = 0 := (cmp_zero ha ha).2 fun _ _ => rfl

/-! ### The least that has both, and what two make without it -/
theorem lcm_divA (a b : Nat → Int) : divB (lcmM a b) a = true := (divB_iff _ _).2 fun k _ => by unfold lcmM; omega
theorem lcm_divB (a b : Nat → Int) : divB (lcmM a b) b = true := (divB_iff _ _).2 fun k _ => by unfold lcmM; omega
theorem lcm_all (a b c : Nat → Int) : divB c (lcmM a b) = (divB c a && divB c b) := by
  rw [Bool.eq_iff_iff, Bool.and_eq_true, divB_iff, divB_iff, divB_iff]
  constructor
  · intro h; exact ⟨fun k hk => by have := h k hk; unfold lcmM at this; omega, fun k hk => by have := h k hk; unfold lcmM at this; omega⟩
  · intro ⟨h1, h2⟩ k hk; have := h1 k hk; have := h2 k hk; unfold lcmM; omega
theorem lcm_comm (a b : Nat → Int) : ∀ k, k < 4 → lcmM b a k = lcmM a b k := fun k _ => by unfold lcmM; omega
theorem lcm_self (a : Nat → Int) : ∀ k, k < 4 → lcmM a a k = a k := fun k _ => by unfold lcmM; omega
theorem lcm_again (a b : Nat → Int) : ∀ k, k < 4 → lcmM (lcmM a b) a k = lcmM a b k := fun k _ => by unfold lcmM; omega
theorem split_ok {a b : Nat → Int} (h : mulB a b = true) (ha : Small a) (hb : Small b) : divB (mulM a b) (lcmM a b) = true :=
  (divB_iff _ _).2 fun k hk => by rw [mul_true h]; have := ha k hk; have := hb k hk; unfold lcmM; omega
theorem split_is {a b : Nat → Int} (h : mulB a b = true) (ha : Small a) (hb : Small b) (k : Nat) : divM (mulM a b) (lcmM a b) k = min (a k) (b k) := by
  rw [div_true (split_ok h ha hb), mul_true h]; unfold lcmM; omega
theorem split_a {a b : Nat → Int} (h : mulB a b = true) (ha : Small a) (hb : Small b) : divB a (divM (mulM a b) (lcmM a b)) = true :=
  (divB_iff _ _).2 fun k _ => by rw [split_is h ha hb]; omega
theorem split_b {a b : Nat → Int} (h : mulB a b = true) (ha : Small a) (hb : Small b) : divB b (divM (mulM a b) (lcmM a b)) = true :=
  (divB_iff _ _).2 fun k _ => by rw [split_is h ha hb]; omega
theorem split_all {a b : Nat → Int} (h : mulB a b = true) (ha : Small a) (hb : Small b) (c : Nat → Int) : divB (divM (mulM a b) (lcmM a b)) c = (divB a c && divB b c) := by
  rw [Bool.eq_iff_iff, Bool.and_eq_true, divB_iff, divB_iff, divB_iff]
  constructor
  · intro h'; exact ⟨fun k hk => by have := h' k hk; rw [split_is h ha hb] at this; omega, fun k hk => by have := h' k hk; rw [split_is h ha hb] at this; omega⟩
  · intro ⟨h1, h2⟩ k hk; have := h1 k hk; have := h2 k hk; rw [split_is h ha hb]; omega
theorem split_deg {a b : Nat → Int} (h : mulB a b = true) (ha : Small a) (hb : Small b) : degM (mulM a b) = degM (divM (mulM a b) (lcmM a b)) + degM (lcmM a b) := by
  unfold degM
  rw [div_true (split_ok h ha hb), div_true (split_ok h ha hb), div_true (split_ok h ha hb), div_true (split_ok h ha hb)]
  omega

/-! ### Boxes -/
theorem set4r {w : World} {b : Nat} {t : TypeId} {f : Nat → Value} (h : w.rowIs b t 4 f) (g : Nat → Int) :
    ((((w.setCell ⟨b, 0, none⟩ (.int .u16 (g 0))).setCell ⟨b, 1, none⟩ (.int .u16 (g 1))).setCell ⟨b, 2, none⟩ (.int .u16 (g 2))).setCell ⟨b, 3, none⟩ (.int .u16 (g 3))).rowIs b t 4 (cell g) :=
  (((h.set 0 (.int .u16 (g 0))).set 1 (.int .u16 (g 1))).set 2 (.int .u16 (g 2))).set 3 (.int .u16 (g 3)) |>.congr (fun j hj => by
    match j, hj with
    | 0, _ => simp
    | 1, _ => simp
    | 2, _ => simp
    | 3, _ => simp)
theorem boxes3 (w : World) (t : TypeId) (a b c : Nat → Int) : (((w.alloc (.cells (arr4 a) t)).alloc (.cells (arr4 b) t)).alloc (.cells (arr4 c) t)).rowIs w.heap.size t 4 (cell a) ∧
    (((w.alloc (.cells (arr4 a) t)).alloc (.cells (arr4 b) t)).alloc (.cells (arr4 c) t)).rowIs (w.heap.size + 1) t 4 (cell b) ∧ (((w.alloc (.cells (arr4 a) t)).alloc (.cells (arr4 b) t)).alloc (.cells (arr4 c) t)).rowIs (w.heap.size + 1 + 1) t 4 (cell c) := by
  refine ⟨(boxes w t a b).1.alloc _, (boxes w t a b).2.alloc _, ?_⟩
  have h := rowNew ((w.alloc (.cells (arr4 a) t)).alloc (.cells (arr4 b) t)) t c
  rw [World.size_alloc, World.size_alloc] at h
  exact h
end Go.Proofs.Ytlhkiodgjcbjbaa.Mono
