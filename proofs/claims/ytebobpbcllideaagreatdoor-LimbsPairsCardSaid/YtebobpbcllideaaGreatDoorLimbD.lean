/-
  The walks of of, Clip, cut of package limbs.
-/
import Derived.Test.YtebobpbcllideaaGreatDoorLimbBox
namespace Go.Proofs.YtebobpbcllideaaGreatDoor.Limb
open Go.RowKit Go.Sort

/-- A number's own list, or none at all. -/
theorem of_facts (s : Bool) (n : Nat) (o : Nat → Int) (h : okN s n o) (h0 : ∀ i, i < n → 0 ≤ o i ∧ o i ≤ 4294967295) :
    decide (valN s n o < 0) = s ∧ lenB (valN s n o).natAbs = n ∧ ∀ i, i < n → o i = dgi (valN s n o).natAbs i :=
  have h1 : ∀ i, i < n → 0 ≤ o i := fun i hi => (h0 i hi).1
  ⟨valN_neg h h1, valN_len h h1, fun i hi => (valN_dg h h1 i hi).symm⟩

open Classical in
set_option maxHeartbeats 1000000 in
theorem of_any (s : Bool) (a : Option Addr) (n cap : Nat) (o : Nat → Int) (w : World) (h : Rd w a n o) (hn : n ≤ 1000000000) (hcap : n ≤ cap) :
    ∃ a' cap', Rd w a' (lenB (valN s n o).natAbs) (dgi (valN s n o).natAbs) ∧ lenB (valN s n o).natAbs ≤ n ∧ lenB (valN s n o).natAbs ≤ cap' ∧
      ∀ w1, Below w.heap.size w w1 → Calls Tryz.prog 28 #[numV s a n cap] w1 fun e w' => e = .returned (numV (decide (valN s n o < 0)) a' (lenB (valN s n o).natAbs) cap') ∧ Below w1.heap.size w1 w' := by
  by_cases hk : okN s n o
  · obtain ⟨f1, f2, f3⟩ := of_facts s n o hk h.rng
    rw [f1, f2]
    refine ⟨a, cap, h.congr f3, Nat.le_refl _, hcap, fun w1 hb1 => ?_⟩
    have C := Lib.hid (fun (w2 : World) (hw : Below w1.heap.size w1 w2) => check_any s a n cap o w2 (h.below (hb1.trans (hw.mono hb1.size))) hn)
    rw [decide_eq_true hk] at C
    clear h f1 f2 f3 hk hb1
    go_enter Tryz.func28, Tryz.ntmps28
    go_wp2_with fail
    refine (C.out _ ?_).mono ?_
    · (repeat' (first | (with_reducible exact Below.refl _ _) | (with_reducible assumption) | (with_reducible refine Below.alloc ?_ ?_ _) | (with_reducible refine Below.drew ?_) | (with_reducible refine bdrewN ?_ _) | (with_reducible refine Below.setCell ?_ ?_ _) | (with_reducible refine Below.frame ?_ _) | go_size))
    rintro e w2 ⟨rfl, hb2⟩
    have B1 := ((Bx.new w1 24 (.bool s) (.slice a n cap)).alloc (.cells #[.bool false, .slice none 0 0] 24)).below hb2 (by simp; omega)
    have B2 := (Bx.new2 w1 (.cells #[.bool s, .slice a n cap] 24) 24 (.bool false) (.slice none 0 0)).below hb2 (by simp)
    have hb0 : Below w1.heap.size w1 w2 := ((Below.refl _ _).alloc (Nat.le_refl _) _ |>.alloc (by go_size) _).trans (hb2.mono (by go_size))
    obtain ⟨b10, b11, b12, b13⟩ := B1.all
    obtain ⟨b20, b21, b22, b23⟩ := B2.all
    have HB := Lib.hid B2
    clear hb2 B1 B2
    go_wp2
    refine bodyPost_ret (results_cell rfl _ _ _ _ _ _ _ rfl (HB.out.set _ _) Tryz.underlying24 rfl (by kernel_rfl)) rfl ⟨rfl, ?_⟩
    (repeat' (first | (with_reducible exact Below.refl _ _) | (with_reducible assumption) | (with_reducible refine Below.alloc ?_ ?_ _) | (with_reducible refine Below.drew ?_) | (with_reducible refine bdrewN ?_ _) | (with_reducible refine Below.setCell ?_ ?_ _) | (with_reducible refine Below.frame ?_ _) | go_size))
  · rw [show valN s n o = 0 from valN_not hk]
    rw [show (Int.natAbs 0) = 0 from rfl, lenB_zero, show decide ((0 : Int) < 0) = false from rfl]
    refine ⟨none, 0, Rd.nil _ _ _, Nat.zero_le _, Nat.le_refl _, fun w1 hb1 => ?_⟩
    have C := Lib.hid (fun (w2 : World) (hw : Below w1.heap.size w1 w2) => check_any s a n cap o w2 (h.below (hb1.trans (hw.mono hb1.size))) hn)
    rw [decide_eq_false hk] at C
    clear h hk hb1
    go_enter Tryz.func28, Tryz.ntmps28
    go_wp2_with fail
    refine (C.out _ ?_).mono ?_
    · (repeat' (first | (with_reducible exact Below.refl _ _) | (with_reducible assumption) | (with_reducible refine Below.alloc ?_ ?_ _) | (with_reducible refine Below.drew ?_) | (with_reducible refine bdrewN ?_ _) | (with_reducible refine Below.setCell ?_ ?_ _) | (with_reducible refine Below.frame ?_ _) | go_size))
    rintro e w2 ⟨rfl, hb2⟩
    have B2 := (Bx.new2 w1 (.cells #[.bool s, .slice a n cap] 24) 24 (.bool false) (.slice none 0 0)).below hb2 (by simp)
    have hb0 : Below w1.heap.size w1 w2 := ((Below.refl _ _).alloc (Nat.le_refl _) _ |>.alloc (by go_size) _).trans (hb2.mono (by go_size))
    obtain ⟨b20, b21, b22, b23⟩ := B2.all
    have HB := Lib.hid B2
    clear hb2 B2
    go_wp2
    refine bodyPost_ret (results_cell rfl _ _ _ _ _ _ _ rfl (HB.out.set _ _) Tryz.underlying24 rfl (by kernel_rfl)) rfl ⟨rfl, ?_⟩
    (repeat' (first | (with_reducible exact Below.refl _ _) | (with_reducible assumption) | (with_reducible refine Below.alloc ?_ ?_ _) | (with_reducible refine Below.drew ?_) | (with_reducible refine bdrewN ?_ _) | (with_reducible refine Below.setCell ?_ ?_ _) | (with_reducible refine Below.frame ?_ _) | go_size))
set_option maxHeartbeats 1000000 in
theorem clip_any (a : Option Addr) (n cap : Nat) (hcap : n ≤ cap) (ha : a = none → cap = 0) (w : World) :
    Calls Tryz.prog 91 #[.slice a n cap] w fun e w' => e = .returned (.slice a n n) ∧ w' = w := by
  cases a with
  | none =>
    obtain rfl : cap = 0 := ha rfl
    obtain rfl : n = 0 := by omega
    go_enter Tryz.func91, Tryz.ntmps91
    go_wp2
    go_ret
    exact ⟨rfl, rfl⟩
  | some p =>
    obtain ⟨b, off, pt⟩ := p
    go_enter Tryz.func91, Tryz.ntmps91
    go_wp2
    go_ret
    exact ⟨rfl, rfl⟩

/-! ### cut -/
theorem lenB_le_of {o : Nat → Int} {n : Nat} (h : Dig o n) : lenB (sumB o n).toNat ≤ n := lenB_le (by have := sumB_bd h; omega)
theorem cut_zero {o : Nat → Int} {n i : Nat} (h : Dig o n) (h1 : lenB (sumB o n).toNat ≤ i) (h2 : i < n) : o i = 0 := by
  rw [← dg_sumB h i h2, dg_out h1]; rfl
theorem cut_last {o : Nat → Int} {n : Nat} (h : Dig o n) (h1 : 0 < lenB (sumB o n).toNat) : o (lenB (sumB o n).toNat - 1) ≠ 0 := by
  have h2 := lenB_le_of h
  rw [← dg_sumB h _ (by omega)]
  have := dg_last (m := (sumB o n).toNat) (fun e => by rw [e, lenB_zero] at h1; omega)
  omega
set_option maxHeartbeats 1000000 in
theorem cut_any (s : Bool) (a : Option Addr) (n cap : Nat) (o : Nat → Int) (w : World) (h : Rd w a n o) (hd : Dig o n) (hn : n ≤ 1000000000) (hcap : n ≤ cap) (ha : a = none → cap = 0) :
    Calls Tryz.prog 30 #[.bool s, .slice a n cap] w fun e w' => e = .returned (numV (s && decide (0 < lenB (sumB o n).toNat)) a (lenB (sumB o n).toNat) (lenB (sumB o n).toNat)) ∧ Below w.heap.size w w' := by
  have HL := Lib.hid (lenB_le_of hd)
  have HZ := Lib.hid (fun i => cut_zero (i := i) hd)
  have HT := Lib.hid (cut_last hd)
  generalize lenB (sumB o n).toNat = L at HL HZ HT ⊢
  clear hd
  have hsz := h.rng
  have B0 := Lib.hid (Bx.new w 24 (.bool false) (.slice none 0 0))
  go_enter Tryz.func30, Tryz.ntmps30
  go_wp2
  go_loopw [5] (fun i wr => ∃ j : Nat, L ≤ j ∧ j ≤ n ∧ i = .int .i64 j ∧ ∃ m, wr = (w.alloc (.cells #[.bool false, .slice none 0 0] 24)).drewN m) (fun i _ => (intOf i).toNat)
  case atStart => exact ⟨n, HL.out, Nat.le_refl _, rfl, 0, rfl⟩
  case round =>
    obtain ⟨j, hj, hjn, rfl, m0, rfl⟩ := hrel
    by_cases hj0 : j = 0
    · obtain rfl : L = 0 := by omega
      subst hj0
      have B1 := B0.out.drewN m0
      obtain ⟨b10, b11, b12, b13⟩ := B1.all
      have HB := Lib.hid B1
      clear B1
      cases s with
      | false =>
        go_wp2
        all_goals
          refine bodyPost_ret (results_cell rfl _ _ _ _ _ _ _ rfl (HB.out.set _ _) Tryz.underlying24 rfl (by kernel_rfl)) rfl ⟨rfl, ?_⟩
          (repeat' (first | (with_reducible exact Below.refl _ _) | (with_reducible assumption) | (with_reducible refine Below.alloc ?_ ?_ _) | (with_reducible refine Below.drew ?_) | (with_reducible refine bdrewN ?_ _) | (with_reducible refine Below.setCell ?_ ?_ _) | (with_reducible refine Below.frame ?_ _) | go_size))
      | true =>
        go_wp2
        all_goals
          refine bodyPost_ret (results_cell rfl _ _ _ _ _ _ _ rfl (HB.out.set _ _) Tryz.underlying24 rfl (by kernel_rfl)) rfl ⟨rfl, ?_⟩
          (repeat' (first | (with_reducible exact Below.refl _ _) | (with_reducible assumption) | (with_reducible refine Below.alloc ?_ ?_ _) | (with_reducible refine Below.drew ?_) | (with_reducible refine bdrewN ?_ _) | (with_reducible refine Below.setCell ?_ ?_ _) | (with_reducible refine Below.frame ?_ _) | go_size))
    · obtain ⟨q, rfl⟩ : ∃ q, j = q + 1 := ⟨j - 1, by omega⟩
      obtain ⟨b, off, rfl, hc⟩ := h.cells (by omega)
      have c1 := hc q (by omega)
      have hb : b < w.heap.size := block_lt_of_cell c1
      have ex : ((q + 1 : Nat) : Int) - 1 = (q : Int) := by omega
      by_cases hjL : q + 1 = L
      · subst hjL
        have hz : o q ≠ 0 := HT.out (by omega)
        have hzb : (o q == 0) = false := by simpa using hz
        have hq : ((q + 1 : Nat) : Int) > 0 := by omega
        have D := Lib.hid (show decide (0 < q + 1) = true by simp)
        have B1 := B0.out.drewN m0
        obtain ⟨b10, b11, b12, b13⟩ := B1.all
        have HB := Lib.hid B1
        clear B1
        cases s with
        | false =>
          go_wp2
          all_goals
            refine bodyPost_ret (results_cell rfl _ _ _ _ _ _ _ rfl (HB.out.set _ _) Tryz.underlying24 rfl (by kernel_rfl)) rfl ⟨rfl, ?_⟩
            (repeat' (first | (with_reducible exact Below.refl _ _) | (with_reducible assumption) | (with_reducible refine Below.alloc ?_ ?_ _) | (with_reducible refine Below.drew ?_) | (with_reducible refine bdrewN ?_ _) | (with_reducible refine Below.setCell ?_ ?_ _) | (with_reducible refine Below.frame ?_ _) | go_size))
        | true =>
          go_wp2
          all_goals
            refine bodyPost_ret (results_cell rfl _ _ _ _ _ _ _ rfl (HB.out.set _ _) Tryz.underlying24 rfl (by kernel_rfl)) rfl ⟨by rw [D.out]; rfl, ?_⟩
            (repeat' (first | (with_reducible exact Below.refl _ _) | (with_reducible assumption) | (with_reducible refine Below.alloc ?_ ?_ _) | (with_reducible refine Below.drew ?_) | (with_reducible refine bdrewN ?_ _) | (with_reducible refine Below.setCell ?_ ?_ _) | (with_reducible refine Below.frame ?_ _) | go_size))
      · have hz := HZ.out q (by omega) (by omega)
        go_wp2
        go_roundw
        case rel => exact ⟨q, by omega, by omega, rfl, m0, rfl⟩
        case measure => simp [intOf]
end Go.Proofs.YtebobpbcllideaaGreatDoor.Limb
