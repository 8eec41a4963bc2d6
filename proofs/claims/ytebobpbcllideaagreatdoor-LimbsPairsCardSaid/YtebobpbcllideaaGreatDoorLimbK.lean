/-
  The walks of the document's answer for limbs: Check, Fit.
-/
import Derived.Test.YtebobpbcllideaaGreatDoorLimbI
namespace Go.Proofs.YtebobpbcllideaaGreatDoor.Limb
open Go.RowKit Go.Sort Go.Fresh

open Classical in
set_option maxHeartbeats 1000000 in
theorem rcheck_any (s : Bool) (a : Option Addr) (n cap : Nat) (o : Nat → Int) (w : World) (h : Rd w a n o) (hn : n ≤ 1000000000) :
    Calls Tryz.prog 86 #[numV s a n cap] w fun e w' => e = .returned (.bool (decide (okN s n o))) ∧ Below w.heap.size w w' := by
  obtain ⟨k0, hk0, hf, hb⟩ := first_bad o n
  have HF := Lib.hid hf
  have HB := Lib.hid hb
  have HR := Lib.hid h
  have EN := Lib.hid (fun (hk : k0 < n) => show decide (okN s n o) = false from decide_eq_false fun hh => by have := hh.1 k0 hk; have := hb hk; omega)
  have E0 := Lib.hid (fun (h0 : n = 0) => show decide (okN s n o) = !s by
        subst h0
        cases s with
        | false => exact decide_eq_true ⟨fun i hi => by omega, fun _ => rfl, fun h => by omega⟩
        | true => exact decide_eq_false fun hh => by have := hh.2.1 rfl; contradiction)
  have E1 := Lib.hid (fun (h0 : 0 < n) (hk : ¬ k0 < n) => show decide (okN s n o) = (o (n - 1) != 0) by
        by_cases hz : o (n - 1) = 0
        · rw [hz]; exact decide_eq_false fun hh => hh.2.2 (by omega) hz
        · rw [show (o (n - 1) != 0) = true by simpa using hz]
          exact decide_eq_true ⟨fun i hi => hf i (by omega), fun h => by omega, fun _ => hz⟩)
  clear hf hb h
  go_enter Tryz.func86, Tryz.ntmps86
  go_wp2_with fail
  go_loopw [3] (fun i wr => ∃ j : Nat, j ≤ k0 ∧ i = .int .i64 j ∧ wr = w.alloc (.cells #[.bool s, .slice a n cap] 24)) (fun i _ => n - (intOf i).toNat)
  case atStart => exact ⟨0, by omega, rfl, rfl⟩
  case round =>
    obtain ⟨j, hj, rfl, rfl⟩ := hrel
    by_cases hjn : j < n
    · obtain ⟨b, off, rfl, hc⟩ := HR.out.cells (by omega)
      have c1 : w.cell? ⟨b, off + j, none⟩ = some (.int .u32 (o j)) := hc j hjn
      have hlt : b < w.heap.size := block_lt_of_cell c1
      clear hc
      by_cases hjk : j < k0
      · have D := HF.out j hjk
        go_wp2_with fail
        go_roundw
        case rel => exact ⟨j + 1, by omega, by go_num, by trivial⟩
        case measure => simp [intOf]; omega
      · obtain rfl : j = k0 := by omega
        have D := HB.out hjn
        go_wp2_with fail
        go_ret
        exact ⟨by rw [EN.out hjn]; rfl, by (repeat' (first | (with_reducible exact Below.refl _ _) | (with_reducible assumption) | (with_reducible refine Below.alloc ?_ ?_ _) | (with_reducible refine Below.drew ?_) | (with_reducible refine bdrewN ?_ _) | (with_reducible refine Below.setCell ?_ ?_ _) | (with_reducible refine Below.frame ?_ _) | go_size))⟩
    · have hkn : ¬ k0 < n := by omega
      obtain rfl : j = n := by omega
      by_cases h0 : j = 0
      · have E := Lib.hid (E0.out h0)
        subst h0
        go_wp2_with fail
        go_ret
        exact ⟨by rw [E.out]; rfl, by (repeat' (first | (with_reducible exact Below.refl _ _) | (with_reducible assumption) | (with_reducible refine Below.alloc ?_ ?_ _) | (with_reducible refine Below.drew ?_) | (with_reducible refine bdrewN ?_ _) | (with_reducible refine Below.setCell ?_ ?_ _) | (with_reducible refine Below.frame ?_ _) | go_size))⟩
      · obtain ⟨q, rfl⟩ : ∃ q, j = q + 1 := ⟨j - 1, by omega⟩
        have E := Lib.hid (E1.out (by omega) hkn)
        obtain ⟨b, off, rfl, hc⟩ := HR.out.cells (by omega)
        have c1 : w.cell? ⟨b, off + q, none⟩ = some (.int .u32 (o q)) := hc q (by omega)
        have hlt : b < w.heap.size := block_lt_of_cell c1
        have ex : ((q + 1 : Nat) : Int) - 1 = (q : Int) := by omega
        have ez : (decide (((q + 1 : Nat) : Int) = 0)) = false := by simp; omega
        clear hc
        go_wp2_with fail
        go_ret
        exact ⟨by rw [E.out]; rfl, by (repeat' (first | (with_reducible exact Below.refl _ _) | (with_reducible assumption) | (with_reducible refine Below.alloc ?_ ?_ _) | (with_reducible refine Below.drew ?_) | (with_reducible refine bdrewN ?_ _) | (with_reducible refine Below.setCell ?_ ?_ _) | (with_reducible refine Below.frame ?_ _) | go_size))⟩

open Classical in
set_option maxHeartbeats 1000000 in
theorem fit_any (s : Bool) (a : Option Addr) (n cap : Nat) (o : Nat → Int) (w : World) (h : Rd w a n o) (hn : n ≤ 1000000000) (hcap : n ≤ cap) :
    ∃ a' cap', Rd w a' (lenB (valN s n o).natAbs) (dgi (valN s n o).natAbs) ∧ lenB (valN s n o).natAbs ≤ n ∧ lenB (valN s n o).natAbs ≤ cap' ∧
      ∀ w1, Below w.heap.size w w1 → Calls Tryz.prog 35 #[numV s a n cap] w1 fun e w' => e = .returned (numV (decide (valN s n o < 0)) a' (lenB (valN s n o).natAbs) cap') ∧ Below w1.heap.size w1 w' := by
  by_cases hk : okN s n o
  · obtain ⟨f1, f2, f3⟩ := of_facts s n o hk h.rng
    rw [f1, f2]
    refine ⟨a, cap, h.congr f3, Nat.le_refl _, hcap, fun w1 hb1 => ?_⟩
    have C := Lib.hid (fun (w2 : World) (hw : Below w1.heap.size w1 w2) => rcheck_any s a n cap o w2 (h.below (hb1.trans (hw.mono hb1.size))) hn)
    rw [decide_eq_true hk] at C
    clear h f1 f2 f3 hk hb1
    go_enter Tryz.func35, Tryz.ntmps35
    go_wp2_with fail
    refine (C.out _ ?_).mono ?_
    · (repeat' (first | (with_reducible exact Below.refl _ _) | (with_reducible assumption) | (with_reducible refine Below.alloc ?_ ?_ _) | (with_reducible refine Below.drew ?_) | (with_reducible refine bdrewN ?_ _) | (with_reducible refine Below.setCell ?_ ?_ _) | (with_reducible refine Below.frame ?_ _) | go_size))
    rintro e w2 ⟨rfl, hb2⟩
    have B1 := ((Bx.new w1 24 (.bool s) (.slice a n cap)).alloc (.cells #[.bool false, .slice none 0 0] 24)).below hb2 (by simp; omega)
    have B2 := (Bx.new2 w1 (.cells #[.bool s, .slice a n cap] 24) 24 (.bool false) (.slice none 0 0)).below hb2 (by simp)
    have hb0 : Below w1.heap.size w1 w2 := ((Below.refl _ _).alloc (Nat.le_refl _) _ |>.alloc (by go_size) _).trans (hb2.mono (by go_size))
    obtain ⟨b10, b11, b12, b13⟩ := B1.all
    obtain ⟨b20, b21, b22, b23⟩ := B2.all
    have HB := Lib.hid B2
    clear hb2 B1 B2
    go_wp2
    refine bodyPost_ret (results_cell rfl _ _ _ _ _ _ _ rfl (HB.out.set _ _) Tryz.underlying24 rfl (by kernel_rfl)) rfl ⟨rfl, ?_⟩
    (repeat' (first | (with_reducible exact Below.refl _ _) | (with_reducible assumption) | (with_reducible refine Below.alloc ?_ ?_ _) | (with_reducible refine Below.drew ?_) | (with_reducible refine bdrewN ?_ _) | (with_reducible refine Below.setCell ?_ ?_ _) | (with_reducible refine Below.frame ?_ _) | go_size))
  · rw [show valN s n o = 0 from valN_not hk]
    rw [show (Int.natAbs 0) = 0 from rfl, lenB_zero, show decide ((0 : Int) < 0) = false from rfl]
    refine ⟨none, 0, Rd.nil _ _ _, Nat.zero_le _, Nat.le_refl _, fun w1 hb1 => ?_⟩
    have C := Lib.hid (fun (w2 : World) (hw : Below w1.heap.size w1 w2) => rcheck_any s a n cap o w2 (h.below (hb1.trans (hw.mono hb1.size))) hn)
    rw [decide_eq_false hk] at C
    clear h hk hb1
    go_enter Tryz.func35, Tryz.ntmps35
    go_wp2_with fail
    refine (C.out _ ?_).mono ?_
    · (repeat' (first | (with_reducible exact Below.refl _ _) | (with_reducible assumption) | (with_reducible refine Below.alloc ?_ ?_ _) | (with_reducible refine Below.drew ?_) | (with_reducible refine bdrewN ?_ _) | (with_reducible refine Below.setCell ?_ ?_ _) | (with_reducible refine Below.frame ?_ _) | go_size))
    rintro e w2 ⟨rfl, hb2⟩
    have B2 := (Bx.new2 w1 (.cells #[.bool s, .slice a n cap] 24) 24 (.bool false) (.slice none 0 0)).below hb2 (by simp)
    have hb0 : Below w1.heap.size w1 w2 := ((Below.refl _ _).alloc (Nat.le_refl _) _ |>.alloc (by go_size) _).trans (hb2.mono (by go_size))
    obtain ⟨b20, b21, b22, b23⟩ := B2.all
    have HB := Lib.hid B2
    clear hb2 B2
    go_wp2
    refine bodyPost_ret (results_cell rfl _ _ _ _ _ _ _ rfl (HB.out.set _ _) Tryz.underlying24 rfl (by kernel_rfl)) rfl ⟨rfl, ?_⟩
    (repeat' (first | (with_reducible exact Below.refl _ _) | (with_reducible assumption) | (with_reducible refine Below.alloc ?_ ?_ _) | (with_reducible refine Below.drew ?_) | (with_reducible refine bdrewN ?_ _) | (with_reducible refine Below.setCell ?_ ?_ _) | (with_reducible refine Below.frame ?_ _) | go_size))
end Go.Proofs.YtebobpbcllideaaGreatDoor.Limb
