/-
  The walks of amounts, ContainsFunc, Check, of, Clip, cut of package limbs.
-/
import Derived.Test.YtebobpbcllideaaGreatDoorLimbA
namespace Go.Proofs.YtebobpbcllideaaGreatDoor.Limb
open Go.RowKit Go.Sort

set_option maxHeartbeats 1000000 in
theorem amounts_any (x y : Nat) (a b : Option Addr) (ca cb : Nat) (w : World) (ha : Rd w a (lenB x) (dgi x)) (hb : Rd w b (lenB y) (dgi y)) (hx : lenB x ≤ 1000000000) (hy : lenB y ≤ 1000000000) :
    Calls Tryz.prog 29 #[.slice a (lenB x) ca, .slice b (lenB y) cb] w fun e w' => e = .returned (.int .i64 (cmpZ x y)) ∧ ∃ m, w' = w.drewN m := by
  rcases Nat.lt_trichotomy (lenB x) (lenB y) with h | h | h
  · have E := Lib.hid (show cmpZ x y = -1 from cmpZ_lt (by have := cmp_len h; omega))
    have E2 := Lib.hid (show cmpZ (lenB x : Int) (lenB y) = -1 from cmpZ_lt (by omega))
    go_enter Tryz.func29, Tryz.ntmps29
    go_wp2_with fail
    refine (cmp64_any _ _ _).mono ?_
    rintro e w' ⟨rfl, hw⟩
    subst w'
    rw [E2.out]
    go_wp2
    go_ret
    exact ⟨by rw [E.out]; rfl, 0, rfl⟩
  · obtain ⟨k0, hD⟩ := topDiff_any (dgi x) (dgi y) (lenB x)
    have hC := topDiff_cmp (dgi_Dig x _) (dgi_Dig y _) hD
    rw [sumB_dgi, show sumB (dgi y) (lenB x) = y by rw [h]; exact sumB_dgi y] at hC
    have E := Lib.hid hC
    have E2 := Lib.hid (show cmpZ (lenB x : Int) (lenB y) = 0 from cmpZ_eq (by omega))
    obtain ⟨hk0, heq, hne⟩ := hD
    have EQ := Lib.hid heq
    have NE := Lib.hid hne
    have HL := Lib.hid h
    clear hC heq hne h
    go_enter Tryz.func29, Tryz.ntmps29
    go_wp2_with fail
    refine (cmp64_any _ _ _).mono ?_
    rintro e w' ⟨rfl, hw⟩
    subst w'
    rw [E2.out]
    go_wp2_with fail
    go_loopw [6] (fun i wr => ∃ j : Nat, k0 ≤ j ∧ j ≤ lenB x ∧ i = .int .i64 ((j : Int) - 1) ∧ ∃ m, wr = w.drewN m) (fun i _ => (1 + intOf i).toNat)
    case atStart => exact ⟨lenB x, hk0, Nat.le_refl _, rfl, 0, rfl⟩
    case round =>
      obtain ⟨j, hj, hjn, rfl, m0, rfl⟩ := hrel
      by_cases hj0 : j = 0
      · subst hj0
        have Z := Lib.hid (show cmpZ x y = 0 by rw [E.out, if_pos (by omega)])
        rw [show (((0 : Nat) : Int) - 1) = -1 from rfl]
        go_wp2
        go_ret
        exact ⟨by rw [Z.out]; rfl, m0, rfl⟩
      · obtain ⟨q, rfl⟩ : ∃ q, j = q + 1 := ⟨j - 1, by omega⟩
        rw [show (((q + 1 : Nat) : Int) - 1) = (q : Int) by omega]
        obtain ⟨b1, o1, rfl, hc1⟩ := ha.cells (by omega)
        obtain ⟨b2, o2, rfl, hc2⟩ := hb.cells (by have := HL.out; omega)
        have c1 := hc1 q (by omega)
        have c2 := hc2 q (by have := HL.out; omega)
        have lx : q < lenB x := by omega
        have ly : q < lenB y := by have := HL.out; omega
        clear hc1 hc2 ha hb
        by_cases hlk : k0 ≤ q
        · have hne : (dgi x q != dgi y q) = false := by rw [EQ.out q hlk (by omega)]; simp
          go_wp2
          go_quiet (fail)
          go_wp2
          go_roundw
          case rel => exact ⟨q, hlk, by omega, rfl, _, rfl⟩
          case measure => simp [intOf]; omega
        · have hkq : k0 = q + 1 := by omega
          have hnn : dgi x q ≠ dgi y q := by have := NE.out (by omega); rw [hkq] at this; simpa using this
          have hne : (dgi x q != dgi y q) = true := by simpa using hnn
          have Z := Lib.hid (show cmpZ x y = cmpZ (dgi x q) (dgi y q) by rw [E.out, if_neg (by omega), hkq]; rfl)
          clear hkq hnn
          go_wp2
          go_quiet (fail)
          go_wp2
          go_quiet (exact (cmp32_any (dgi x q) (dgi y q) _).mono fun e w'' ⟨he, hw⟩ => ⟨he, _, hw⟩)
          go_wp2
          go_ret
          exact ⟨by rw [Z.out]; rfl, _, by rw [World.drewN_drewN, World.drewN_drewN]⟩
  · have E := Lib.hid (show cmpZ x y = 1 from cmpZ_gt (by have := cmp_len h; omega))
    have E2 := Lib.hid (show cmpZ (lenB x : Int) (lenB y) = 1 from cmpZ_gt (by omega))
    go_enter Tryz.func29, Tryz.ntmps29
    go_wp2_with fail
    refine (cmp64_any _ _ _).mono ?_
    rintro e w' ⟨rfl, hw⟩
    subst w'
    rw [E2.out]
    go_wp2
    go_ret
    exact ⟨by rw [E.out]; rfl, 0, rfl⟩
end Go.Proofs.YtebobpbcllideaaGreatDoor.Limb
