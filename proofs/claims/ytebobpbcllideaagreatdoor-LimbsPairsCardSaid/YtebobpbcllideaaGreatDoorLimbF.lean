/-
  The walk of carry of package limbs: parts, worked out one by one, what goes on being carried.
-/
import Derived.Test.YtebobpbcllideaaGreatDoorLimbE
namespace Go.Proofs.YtebobpbcllideaaGreatDoor.Limb
open Go.RowKit Go.Sort

theorem Own.of_rowIs {w : World} {g base n : Nat} {o : Nat → Int} (h : w.rowIs g 57 n (uc o)) (hb : base ≤ g) (hr : ∀ i, i < n → 0 ≤ o i ∧ o i ≤ 4294967295) : Own 57 w base (some ⟨g, 0, none⟩) n n o := by
  obtain ⟨c, hg, hn, hc⟩ := h
  exact ⟨Nat.le_refl _, Or.inr ⟨g, c, rfl, hb, hg, by omega, hc⟩, hr⟩
/-- What stands in a list that is being made, from the lower end on. -/
def upto (o : Nat → Int) (k i : Nat) : Value := if i < k then uc o i else .int .u32 0
theorem row_step {w : World} {g n k : Nat} {o : Nat → Int} (h : w.rowIs g 57 n (upto o k)) : (w.setCell ⟨g, k, none⟩ (uc o k)).rowIs g 57 n (upto o (k + 1)) :=
  (h.set k (uc o k)).congr fun i hi => by
    unfold upto
    by_cases e : i = k
    · subst e; rw [if_pos rfl, if_pos (by omega)]
    · rw [if_neg e]
      by_cases e2 : i < k
      · rw [if_pos e2, if_pos (by omega)]
      · rw [if_neg e2, if_neg (by omega)]
theorem tdiv_facts (x : Int) : ∃ Q R : Int, x.tdiv 1000000000 = Q ∧ x.tmod 1000000000 = R ∧ x = 1000000000 * Q + R ∧ ((0 ≤ x ∧ 0 ≤ R ∧ R < 1000000000) ∨ (x < 0 ∧ -1000000000 < R ∧ R ≤ 0)) := by
  rcases Int.lt_or_le x 0 with h | h
  · obtain ⟨y, rfl⟩ : ∃ y, x = -y := ⟨-x, by omega⟩
    refine ⟨_, _, rfl, rfl, ?_, Or.inr ⟨h, ?_, ?_⟩⟩
    · rw [Int.neg_tdiv, Int.neg_tmod, Int.tdiv_eq_ediv_of_nonneg (by omega), Int.tmod_eq_emod_of_nonneg (by omega)]; omega
    · rw [Int.neg_tmod, Int.tmod_eq_emod_of_nonneg (by omega)]; omega
    · rw [Int.neg_tmod, Int.tmod_eq_emod_of_nonneg (by omega)]; omega
  · refine ⟨_, _, rfl, rfl, ?_, Or.inl ⟨h, ?_, ?_⟩⟩
    · rw [Int.tdiv_eq_ediv_of_nonneg h, Int.tmod_eq_emod_of_nonneg h]; omega
    · rw [Int.tmod_eq_emod_of_nonneg h]; omega
    · rw [Int.tmod_eq_emod_of_nonneg h]; omega
/-- One step of carrying, as the code does it. -/
theorem carry_step (f : Nat → Int) (k : Nat) : ∃ Q R : Int, (f k + cS f k).tdiv 1000000000 = Q ∧ (f k + cS f k).tmod 1000000000 = R ∧ -1000000000 < R ∧ R < 1000000000 ∧
    (R < 0 → cS f (k + 1) = Q - 1 ∧ cD f k = R + 1000000000) ∧ (0 ≤ R → cS f (k + 1) = Q ∧ cD f k = R) := by
  obtain ⟨Q, R, h1, h2, h3, h4⟩ := tdiv_facts (f k + cS f k)
  refine ⟨Q, R, h1, h2, by omega, by omega, fun h => ?_, fun h => ?_⟩
  · unfold cD; rw [cS]; omega
  · unfold cD; rw [cS]; omega

set_option maxHeartbeats 1000000 in
theorem carry_any (G : Nat) (cs : Array Value) (n : Nat) (f : Nat → Int) (lo hi : Int) (w : World) (hn : n ≤ 1000000000)
    (hcf : ∀ (args : Array Value) (w : World), (callFunc G args).run Tryz.prog w = .ok (.enter G args) w)
    (hF : ∀ k, k < n → ∀ w1, Below w.heap.size w w1 → Calls Tryz.prog G (#[.int .i64 k] ++ cs) w1 fun e w' => e = .returned (.int .i64 (f k)) ∧ Below w1.heap.size w1 w')
    (hf : ∀ k, k < n → lo * 999999999 ≤ f k ∧ f k ≤ hi * 999999999) (hl : -2000000000 ≤ lo) (hl0 : lo ≤ 0) (hh : hi ≤ 2000000000) (hh0 : 0 ≤ hi) :
    Calls Tryz.prog 31 #[.int .i64 n, .func (.func G) #[] cs] w fun e w' => e = .returned (.slice (some ⟨w.heap.size, 0, none⟩) n n) ∧ Own 57 w' w.heap.size (some ⟨w.heap.size, 0, none⟩) n n (cD f) ∧ Below w.heap.size w w' := by
  have HF := Lib.hid hF; clear hF
  have HB := Lib.hid hf; clear hf
  have hmk := run_make_row' (P := Tryz.prog) 22 57 (.int .u32 0) 4 Tryz.underlying22 info32 rfl .i64 .i64 n (by omega) (by omega)
  go_enter Tryz.func31, Tryz.ntmps31
  go_wp2
  go_loopw [6, 13] (fun on i wr => ∃ k : Nat, k ≤ n ∧ on = .int .i64 (cS f k) ∧ i = .int .i64 k ∧ wr.rowIs w.heap.size 57 n (upto (cD f) k) ∧ Below w.heap.size w wr) (fun _ i _ => n - (intOf i).toNat)
  case atStart => exact ⟨0, by omega, rfl, rfl, (World.rowIs_made w (.int .u32 0) n 57).congr (fun i _ => by unfold upto; rw [if_neg (by omega)]), by (repeat' (first | (with_reducible exact Below.refl _ _) | (with_reducible assumption) | (with_reducible refine Below.alloc ?_ ?_ _) | (with_reducible refine Below.drew ?_) | (with_reducible refine bdrewN ?_ _) | (with_reducible refine Below.setCell ?_ ?_ _) | (with_reducible refine Below.frame ?_ _) | go_size))⟩
  case round =>
    obtain ⟨k, hk, rfl, rfl, R, hb⟩ := hrel
    have HR := Lib.hid R
    have HW := Lib.hid hb
    clear R hb
    by_cases hkn : k < n
    · obtain ⟨Q, M, e1, e2, h3, h4, h5, h6⟩ := carry_step f k
      have b1 := HB.out k hkn
      have b2 := cS_bd hl0 hh0 (n := k) fun i hi => HB.out i (by omega)
      have b3 := cS_bd hl0 hh0 (n := k + 1) fun i hi => HB.out i (by omega)
      have C1 := HF.out k hkn wr HW.out
      clear hmk
      go_wp2_with fail
      refine C1.mono ?_
      rintro e w2 ⟨rfl, hb2⟩
      have R2 := Lib.hid (HR.out.of_block (hb2.block _ HR.out.lt))
      have W2 := Lib.hid (HW.out.trans (hb2.mono HW.out.size))
      obtain ⟨vo, hco⟩ : ∃ v, w2.cell? ⟨w.heap.size, k, none⟩ = some v := ⟨_, R2.out.cell hkn⟩
      have hfz := R2.out.frozen k
      have ea := IntWalk.i64_in (f k + cS f k) (by omega)
      clear hb2 C1 HR HW
      by_cases hM : M < 0
      · obtain ⟨h7, h8⟩ := h5 hM
        rw [h7] at b3
        have H7 := Lib.hid h7
        have H8 := Lib.hid h8
        have eu := IntWalk.u32_in (M + 1000000000) (by omega)
        clear h5 h6 h7 h8 b1 b2
        go_wp2
        go_roundw
        case rel => exact ⟨k + 1, by omega, by rw [H7.out], by go_num, by have h := row_step R2.out; rw [show uc (cD f) k = .int .u32 (M + 1000000000) by show Value.int .u32 (cD f k) = _; rw [H8.out]] at h; exact h, by have := W2.out; (repeat' (first | (with_reducible exact Below.refl _ _) | (with_reducible assumption) | (with_reducible refine Below.alloc ?_ ?_ _) | (with_reducible refine Below.drew ?_) | (with_reducible refine bdrewN ?_ _) | (with_reducible refine Below.setCell ?_ ?_ _) | (with_reducible refine Below.frame ?_ _) | go_size))⟩
        case measure => simp [intOf]; omega
      · obtain ⟨h7, h8⟩ := h6 (by omega)
        rw [h7] at b3
        have H7 := Lib.hid h7
        have H8 := Lib.hid h8
        have eu := IntWalk.u32_in M (by omega)
        clear h5 h6 h7 h8 b1 b2
        go_wp2
        go_roundw
        case rel => exact ⟨k + 1, by omega, by rw [H7.out], by go_num, by have h := row_step R2.out; rw [show uc (cD f) k = .int .u32 M by show Value.int .u32 (cD f k) = _; rw [H8.out]] at h; exact h, by have := W2.out; (repeat' (first | (with_reducible exact Below.refl _ _) | (with_reducible assumption) | (with_reducible refine Below.alloc ?_ ?_ _) | (with_reducible refine Below.drew ?_) | (with_reducible refine bdrewN ?_ _) | (with_reducible refine Below.setCell ?_ ?_ _) | (with_reducible refine Below.frame ?_ _) | go_size))⟩
        case measure => simp [intOf]; omega
    · obtain rfl : k = n := by omega
      clear hmk
      go_wp2
      go_ret
      exact ⟨rfl, Own.of_rowIs (HR.out.congr fun i hi => by unfold upto; rw [if_pos hi]) (Nat.le_refl _) (fun i hi => by have := cD_Dig f k i hi; omega), HW.out⟩
end Go.Proofs.YtebobpbcllideaaGreatDoor.Limb
