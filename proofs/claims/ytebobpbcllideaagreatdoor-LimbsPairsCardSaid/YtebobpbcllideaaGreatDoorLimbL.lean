/-
  The walks of the document's answer for limbs: order.
-/
import Derived.Test.YtebobpbcllideaaGreatDoorLimbK
namespace Go.Proofs.YtebobpbcllideaaGreatDoor.Limb
open Go.RowKit Go.Sort Go.Fresh

set_option maxHeartbeats 1000000 in
theorem order_any (x y : Nat) (a b : Option Addr) (ca cb : Nat) (w : World) (ha : Rd w a (lenB x) (dgi x)) (hb : Rd w b (lenB y) (dgi y)) (hx : lenB x ≤ 1000000000) (hy : lenB y ≤ 1000000000) :
    Calls Tryz.prog 36 #[.slice a (lenB x) ca, .slice b (lenB y) cb] w fun e w' => e = .returned (.int .i64 (cmpZ x y)) ∧ ∃ m, w' = w.drewN m := by
  obtain ⟨k0, hD⟩ := topDiff_any (dgi x) (dgi y) (lenB x)
  have TC := Lib.hid (fun (h : lenB x = lenB y) => by
    have hC := topDiff_cmp (dgi_Dig x _) (dgi_Dig y _) hD
    rw [sumB_dgi, show sumB (dgi y) (lenB x) = y by rw [h]; exact sumB_dgi y] at hC
    exact hC)
  have CL := Lib.hid (And.intro (fun (h : lenB x < lenB y) => (cmpZ_lt (by have := cmp_len h; omega) : cmpZ x y = -1)) (fun (h : lenB y < lenB x) => (cmpZ_gt (by have := cmp_len h; omega) : cmpZ x y = 1)))
  obtain ⟨hk0, heq, hne⟩ := hD
  have EQ := Lib.hid heq
  have NE := Lib.hid hne
  have HA := Lib.hid ha; have HB := Lib.hid hb
  clear heq hne ha hb
  obtain ⟨fx, hfx⟩ : ∃ fx, fx = dgi x := ⟨_, rfl⟩
  obtain ⟨fy, hfy⟩ : ∃ fy, fy = dgi y := ⟨_, rfl⟩
  rw [← hfx] at TC EQ NE HA
  rw [← hfy] at TC EQ NE HB
  clear hfx hfy
  generalize cmpZ (x : Int) (y : Int) = r at *
  generalize lenB x = X at *
  generalize lenB y = Y at *
  rcases Nat.lt_trichotomy X Y with h | h | h
  · have E := Lib.hid (CL.out.1 h)
    have hd : ((X : Int) == (Y : Int)) = false := by simp; omega
    go_enter Tryz.func36, Tryz.ntmps36
    go_wp2
    go_ret
    exact ⟨by rw [E.out]; rfl, 0, rfl⟩
  · subst h
    have E := Lib.hid (TC.out rfl)
    go_enter Tryz.func36, Tryz.ntmps36
    go_wp2_with fail
    go_loopw [5] (fun i wr => ∃ j : Nat, k0 ≤ j ∧ j ≤ X ∧ i = .int .i64 ((j : Int) - 1) ∧ ∃ m, wr = w.drewN m) (fun i _ => (1 + intOf i).toNat)
    case atStart => exact ⟨X, hk0, Nat.le_refl _, rfl, 0, rfl⟩
    case round =>
      obtain ⟨j, hj, hjn, rfl, m0, rfl⟩ := hrel
      by_cases hj0 : j = 0
      · subst hj0
        have Z := Lib.hid (show r = 0 by rw [E.out, if_pos (by omega)])
        rw [show (((0 : Nat) : Int) - 1) = -1 from rfl]
        go_wp2
        go_ret
        exact ⟨by rw [Z.out]; rfl, m0, rfl⟩
      · obtain ⟨q, rfl⟩ : ∃ q, j = q + 1 := ⟨j - 1, by omega⟩
        rw [show (((q + 1 : Nat) : Int) - 1) = (q : Int) by omega]
        obtain ⟨b1, o1, rfl, hc1⟩ := HA.out.cells (by omega)
        obtain ⟨b2, o2, rfl, hc2⟩ := HB.out.cells (by omega)
        have c1 : w.cell? ⟨b1, o1 + q, none⟩ = some (.int .u32 (fx q)) := hc1 q (by omega)
        have c2 : w.cell? ⟨b2, o2 + q, none⟩ = some (.int .u32 (fy q)) := hc2 q (by omega)
        have lx : q < X := by omega
        clear hc1 hc2
        rcases Int.lt_trichotomy (fx q) (fy q) with hlt | hlt | hlt
        · have hkq : k0 = q + 1 := by
            rcases Nat.lt_or_ge q k0 with h | h
            · omega
            · have := EQ.out q h lx; omega
          have Z := Lib.hid (show r = -1 by rw [E.out, if_neg (by omega), hkq]; exact cmpZ_lt hlt)
          have d1 : decide (fx q < fy q) = true := decide_eq_true hlt
          clear hkq
          go_wp2
          go_quiet (fail)
          go_wp2
          go_ret
          exact ⟨by rw [Z.out]; rfl, _, by rw [World.drewN_drewN]⟩
        · have hkq : k0 ≤ q := by
            rcases Nat.lt_or_ge q k0 with h | h
            · have h2 := NE.out (by omega)
              rw [show k0 - 1 = q by omega] at h2
              exact absurd hlt h2
            · exact h
          have d1 : decide (fx q < fy q) = false := decide_eq_false (by omega)
          have d2 : decide (fx q > fy q) = false := decide_eq_false (by omega)
          have d3 : decide (fy q < fx q) = false := decide_eq_false (by omega)
          have n1 : ¬ fx q < fy q := by omega
          have n2 : ¬ fy q < fx q := by omega
          clear hlt
          go_wp2
          go_quiet (fail)
          go_wp2
          go_quiet (fail)
          go_wp2
          go_roundw
          case rel => exact ⟨q, hkq, by omega, rfl, _, rfl⟩
          case measure => simp [intOf]; omega
        · have hkq : k0 = q + 1 := by
            rcases Nat.lt_or_ge q k0 with h | h
            · omega
            · have := EQ.out q h lx; omega
          have Z := Lib.hid (show r = 1 by rw [E.out, if_neg (by omega), hkq]; exact cmpZ_gt hlt)
          have n1 : ¬ fx q < fy q := by omega
          have d1 : decide (fx q < fy q) = false := decide_eq_false n1
          clear hkq
          go_wp2
          go_quiet (fail)
          go_wp2
          go_quiet (fail)
          go_wp2
          go_ret
          exact ⟨by rw [Z.out]; rfl, _, by rw [World.drewN_drewN, World.drewN_drewN]⟩
  · have E := Lib.hid (CL.out.2 h)
    have hd : ((X : Int) == (Y : Int)) = false := by simp; omega
    go_enter Tryz.func36, Tryz.ntmps36
    go_wp2
    go_ret
    exact ⟨by rw [E.out]; rfl, 0, rfl⟩

set_option maxHeartbeats 1000000 in
theorem num_any (s : Bool) (a : Option Addr) (n cap : Nat) (o : Nat → Int) (w : World) (h : Rd w a n o) (hd : Dig o n) (hn : n ≤ 1000000000) (hcap : n ≤ cap) :
    Calls Tryz.prog 38 #[.bool s, .slice a n cap] w fun e w' => e = .returned (numV (s && decide (0 < lenB (sumB o n).toNat)) a (lenB (sumB o n).toNat) cap) ∧ Below w.heap.size w w' := by
  have HL := Lib.hid (lenB_le_of hd)
  have HZ := Lib.hid (fun i => cut_zero (i := i) hd)
  have HT := Lib.hid (cut_last hd)
  generalize lenB (sumB o n).toNat = L at HL HZ HT ⊢
  have HR := Lib.hid h
  clear hd h
  have B0 := Lib.hid (Bx.new w 24 (.bool false) (.slice none 0 0))
  go_enter Tryz.func38, Tryz.ntmps38
  go_wp2_with fail
  go_loopw [1] (fun v wr => ∃ j : Nat, L ≤ j ∧ j ≤ n ∧ v = .slice a j cap ∧ ∃ m, wr = (w.alloc (.cells #[.bool false, .slice none 0 0] 24)).drewN m) (fun v _ => match v with | .slice _ j _ => j | _ => 0)
  case atStart => exact ⟨n, HL.out, Nat.le_refl _, rfl, 0, rfl⟩
  case round =>
    obtain ⟨j, hj, hjn, rfl, m0, rfl⟩ := hrel
    have B1 := B0.out.drewN m0
    obtain ⟨b10, b11, b12, b13⟩ := B1.all
    have KB := Lib.hid B1
    clear B1
    by_cases hj0 : j = 0
    · obtain rfl : L = 0 := by omega
      subst hj0
      cases s with
      | false =>
        go_wp2
        all_goals
          refine bodyPost_ret (results_cell rfl _ _ _ _ _ _ _ rfl (KB.out.set _ _) Tryz.underlying24 rfl (by kernel_rfl)) rfl ⟨rfl, ?_⟩
          (repeat' (first | (with_reducible exact Below.refl _ _) | (with_reducible assumption) | (with_reducible refine Below.alloc ?_ ?_ _) | (with_reducible refine Below.drew ?_) | (with_reducible refine bdrewN ?_ _) | (with_reducible refine Below.setCell ?_ ?_ _) | (with_reducible refine Below.frame ?_ _) | go_size))
      | true =>
        go_wp2
        all_goals
          refine bodyPost_ret (results_cell rfl _ _ _ _ _ _ _ rfl (KB.out.set _ _) Tryz.underlying24 rfl (by kernel_rfl)) rfl ⟨rfl, ?_⟩
          (repeat' (first | (with_reducible exact Below.refl _ _) | (with_reducible assumption) | (with_reducible refine Below.alloc ?_ ?_ _) | (with_reducible refine Below.drew ?_) | (with_reducible refine bdrewN ?_ _) | (with_reducible refine Below.setCell ?_ ?_ _) | (with_reducible refine Below.frame ?_ _) | go_size))
    · obtain ⟨q, rfl⟩ : ∃ q, j = q + 1 := ⟨j - 1, by omega⟩
      obtain ⟨b, off, rfl, hc⟩ := HR.out.cells (by omega)
      have c1 : w.cell? ⟨b, off + q, none⟩ = some (.int .u32 (o q)) := hc q (by omega)
      have hb : b < w.heap.size := block_lt_of_cell c1
      have ex : ((q + 1 : Nat) : Int) - 1 = (q : Int) := by omega
      have hq : ((q + 1 : Nat) : Int) > 0 := by omega
      clear hc
      by_cases hjL : q + 1 = L
      · subst hjL
        have hz : o q ≠ 0 := HT.out (by omega)
        have hzb : (o q == 0) = false := by simpa using hz
        have D := Lib.hid (show decide (0 < q + 1) = true by simp)
        cases s with
        | false =>
          go_wp2
          all_goals
            refine bodyPost_ret (results_cell rfl _ _ _ _ _ _ _ rfl (KB.out.set _ _) Tryz.underlying24 rfl (by kernel_rfl)) rfl ⟨rfl, ?_⟩
            (repeat' (first | (with_reducible exact Below.refl _ _) | (with_reducible assumption) | (with_reducible refine Below.alloc ?_ ?_ _) | (with_reducible refine Below.drew ?_) | (with_reducible refine bdrewN ?_ _) | (with_reducible refine Below.setCell ?_ ?_ _) | (with_reducible refine Below.frame ?_ _) | go_size))
        | true =>
          go_wp2
          all_goals
            refine bodyPost_ret (results_cell rfl _ _ _ _ _ _ _ rfl (KB.out.set _ _) Tryz.underlying24 rfl (by kernel_rfl)) rfl ⟨by rw [D.out]; rfl, ?_⟩
            (repeat' (first | (with_reducible exact Below.refl _ _) | (with_reducible assumption) | (with_reducible refine Below.alloc ?_ ?_ _) | (with_reducible refine Below.drew ?_) | (with_reducible refine bdrewN ?_ _) | (with_reducible refine Below.setCell ?_ ?_ _) | (with_reducible refine Below.frame ?_ _) | go_size))
      · have hz := HZ.out q (by omega) (by omega)
        go_wp2
        go_roundw
        case rel => exact ⟨q, by omega, by omega, rfl, m0, rfl⟩
        case measure => simp
end Go.Proofs.YtebobpbcllideaaGreatDoor.Limb
