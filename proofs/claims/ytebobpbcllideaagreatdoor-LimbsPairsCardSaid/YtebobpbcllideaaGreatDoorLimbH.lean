/-
  The walks of Sub, Neg, Cmp, Sign of package limbs.
-/
import Derived.Test.YtebobpbcllideaaGreatDoorLimbG
namespace Go.Proofs.YtebobpbcllideaaGreatDoor.Limb
open Go.RowKit Go.Sort Go.Fresh

/-- A number comes back, in a list of the call's own. -/
def ResN (w : World) (z : Int) (e : Ending) (w' : World) : Prop :=
  ∃ a, e = .returned (numV (decide (z < 0)) a (lenB z.natAbs) (lenB z.natAbs)) ∧ Own 57 w' w.heap.size a (lenB z.natAbs) (lenB z.natAbs) (dgi z.natAbs) ∧ (a = none → lenB z.natAbs = 0) ∧ Below w.heap.size w w'
theorem add_res (s1 : Bool) (a1 : Option Addr) (n1 c1 : Nat) (o1 : Nat → Int) (s2 : Bool) (a2 : Option Addr) (n2 c2 : Nat) (o2 : Nat → Int) (w : World)
    (h1 : Rd w a1 n1 o1) (hn1 : n1 ≤ 100000000) (hc1 : n1 ≤ c1) (h2 : Rd w a2 n2 o2) (hn2 : n2 ≤ 100000000) (hc2 : n2 ≤ c2) :
    Calls Tryz.prog 7 #[numV s1 a1 n1 c1, numV s2 a2 n2 c2] w (ResN w (valN s1 n1 o1 + valN s2 n2 o2)) := add_any s1 a1 n1 c1 o1 s2 a2 n2 c2 o2 w h1 hn1 hc1 h2 hn2 hc2

/-- A number as it is laid down means itself. -/
theorem canon_ok (z : Int) : okN (decide (z < 0)) (lenB z.natAbs) (dgi z.natAbs) := by
  refine ⟨fun i hi => (dgi_Dig _ _ i hi).2, fun h => ?_, fun h => ?_⟩
  · have := lenB_eq_zero.1 h
    exact decide_eq_false (by omega)
  · have h1 := dg_last (m := z.natAbs) (fun e => by rw [e, lenB_zero] at h; omega)
    show ((dg z.natAbs (lenB z.natAbs - 1) : Nat) : Int) ≠ 0
    omega
theorem canon_val (z : Int) : valN (decide (z < 0)) (lenB z.natAbs) (dgi z.natAbs) = z := by
  unfold valN
  rw [if_pos (canon_ok z), sumB_dgi]
  by_cases h : z < 0
  · rw [if_pos (decide_eq_true h)]; omega
  · rw [if_neg (by simpa using h)]; omega
theorem canon_neg (z : Int) (s : Bool) (hs : s = decide (-z < 0)) : valN s (lenB z.natAbs) (dgi z.natAbs) = -z := by
  have h := canon_val (-z)
  rw [Int.natAbs_neg] at h
  rw [hs]; exact h

set_option maxHeartbeats 1000000 in
theorem sub_any (s1 : Bool) (a1 : Option Addr) (n1 c1 : Nat) (o1 : Nat → Int) (s2 : Bool) (a2 : Option Addr) (n2 c2 : Nat) (o2 : Nat → Int) (w : World)
    (h1 : Rd w a1 n1 o1) (hn1 : n1 ≤ 100000000) (hc1 : n1 ≤ c1) (h2 : Rd w a2 n2 o2) (hn2 : n2 ≤ 100000000) (hc2 : n2 ≤ c2) :
    Calls Tryz.prog 8 #[numV s1 a1 n1 c1, numV s2 a2 n2 c2] w (ResN w (valN s1 n1 o1 - valN s2 n2 o2)) := by
  obtain ⟨x2, d2, r2, l2, m2, O2⟩ := of_any s2 a2 n2 c2 o2 w h2 (by omega) hc2
  generalize valN s2 n2 o2 = z2 at r2 l2 m2 O2 ⊢
  have HO2 := Lib.hid O2
  have HR1 := Lib.hid h1
  have HR2 := Lib.hid r2
  have B1 := (((Bx.new w 24 (.bool s1) (.slice a1 n1 c1)).alloc (.cells #[.bool s2, .slice a2 n2 c2] 24)).alloc (.cells #[.bool false, .slice none 0 0] 24))
  have B2 := ((Bx.new2 w (.cells #[.bool s1, .slice a1 n1 c1] 24) 24 (.bool s2) (.slice a2 n2 c2)).alloc (.cells #[.bool false, .slice none 0 0] 24))
  have B3 := (Bx.new3 w (.cells #[.bool s1, .slice a1 n1 c1] 24) (.cells #[.bool s2, .slice a2 n2 c2] 24) 24 (.bool false) (.slice none 0 0))
  have HB1 := Lib.hid B1; have HB2 := Lib.hid B2; have HB3 := Lib.hid B3
  clear O2 h1 h2 r2 B1 B2 B3
  go_enter Tryz.func8, Tryz.ntmps8
  go_wp2_with fail
  refine (HO2.out _ ?_).mono ?_
  · (repeat' (first | (with_reducible exact Below.refl _ _) | (with_reducible assumption) | (with_reducible refine Below.alloc ?_ ?_ _) | (with_reducible refine Below.drew ?_) | (with_reducible refine bdrewN ?_ _) | (with_reducible refine Below.setCell ?_ ?_ _) | (with_reducible refine Below.frame ?_ _) | go_size))
  rintro e w1 ⟨rfl, hb1⟩
  have B1 := HB1.out.below hb1 HB1.out.lt
  have B2 := HB2.out.below hb1 HB2.out.lt
  have B3 := HB3.out.below hb1 HB3.out.lt
  have G1 := Lib.hid (((Below.refl _ _).alloc (by go_size) _ |>.alloc (by go_size) _ |>.alloc (by go_size) _).trans (hb1.mono (by go_size)) : Below w.heap.size w w1)
  have K1 := Lib.hid B1; have K2 := Lib.hid B2; have K3 := Lib.hid B3
  obtain ⟨b10, b11, b12, b13⟩ := B1.all
  obtain ⟨b20, b21, b22, b23⟩ := B2.all
  have SG := Lib.hid (canon_neg z2)
  clear HB1 HB2 HB3 B1 B2 B3 hb1
  obtain ⟨L2, hL2⟩ : ∃ L2, L2 = lenB z2.natAbs := ⟨_, rfl⟩
  have HL2 := Lib.hid hL2
  have cases3 : (z2 < 0) ∨ (z2 = 0 ∧ L2 = 0) ∨ (0 < z2 ∧ 0 < L2) := by
    rcases Int.lt_trichotomy z2 0 with h | h | h
    · exact .inl h
    · exact .inr (.inl ⟨h, by rw [hL2, h]; exact lenB_zero⟩)
    · refine .inr (.inr ⟨h, ?_⟩)
      rcases Nat.eq_zero_or_pos L2 with h0 | h0
      · have := lenB_eq_zero.1 (hL2.symm.trans h0); omega
      · exact h0
  rw [← hL2] at SG HR2 l2 m2 ⊢
  clear hL2
  rcases cases3 with h | ⟨h, h0⟩ | ⟨h, h0⟩
  · rw [decide_eq_true h]
    have S := Lib.hid (SG.out false (decide_eq_false (by omega)).symm)
    skip
    clear h SG
    go_wp2_with fail
    refine (add_res s1 a1 n1 c1 o1 false x2 L2 d2 (dgi z2.natAbs) _ (HR1.out.below (w' := _) ?_) hn1 hc1 (HR2.out.below (w' := _) ?_) (by omega) m2).mono ?_
    · have := G1.out; (repeat' (first | (with_reducible exact Below.refl _ _) | (with_reducible assumption) | (with_reducible refine Below.alloc ?_ ?_ _) | (with_reducible refine Below.drew ?_) | (with_reducible refine bdrewN ?_ _) | (with_reducible refine Below.setCell ?_ ?_ _) | (with_reducible refine Below.frame ?_ _) | go_size))
    · have := G1.out; (repeat' (first | (with_reducible exact Below.refl _ _) | (with_reducible assumption) | (with_reducible refine Below.alloc ?_ ?_ _) | (with_reducible refine Below.drew ?_) | (with_reducible refine bdrewN ?_ _) | (with_reducible refine Below.setCell ?_ ?_ _) | (with_reducible refine Below.frame ?_ _) | go_size))
    rw [S.out, ← Int.sub_eq_add_neg]
    rintro e w2 ⟨a, rfl, hO, hn, hb2⟩
    have B3 := (((K3.out.other (by dsimp only; omega) _).other (by dsimp only; omega) _).other (by dsimp only; omega) _).below hb2 (by simpa using K3.out.lt)
    have HO := Lib.hid (And.intro hO hn)
    have K4 := Lib.hid B3
    have G2 := Lib.hid ((((G1.out.setCell (by simp) _).setCell (by simp) _).setCell (by simp) _).trans (hb2.mono (by simpa using G1.out.size)) : Below w.heap.size w w2)
    have h3 := K3.out.lt
    have h4 := G1.out.size
    obtain ⟨b30, b31, b32, b33⟩ := B3.all
    clear hO hn B3 hb2 b10 b11 b12 b13 b20 b21 b22 b23 S
    generalize valN s1 n1 o1 - z2 = z at *
    go_wp2_with fail
    refine bodyPost_ret (results_cell rfl _ _ _ _ _ _ _ rfl (K4.out.set _ _) Tryz.underlying24 rfl (by kernel_rfl)) rfl ⟨a, rfl, ?_, HO.out.2, ?_⟩
    · exact ((HO.out.1.other (by simp; omega) _).other (by simp; omega) _).mono (by simpa using h4)
    · exact (G2.out.setCell (by dsimp only; omega) _).setCell (by dsimp only; omega) _
  · rw [decide_eq_false (by omega)]
    have S := Lib.hid (SG.out false (decide_eq_false (by omega)).symm)
    subst h0
    clear h SG
    go_wp2_with fail
    refine (add_res s1 a1 n1 c1 o1 false x2 0 d2 (dgi z2.natAbs) _ (HR1.out.below (w' := _) ?_) hn1 hc1 (HR2.out.below (w' := _) ?_) (by omega) m2).mono ?_
    · have := G1.out; (repeat' (first | (with_reducible exact Below.refl _ _) | (with_reducible assumption) | (with_reducible refine Below.alloc ?_ ?_ _) | (with_reducible refine Below.drew ?_) | (with_reducible refine bdrewN ?_ _) | (with_reducible refine Below.setCell ?_ ?_ _) | (with_reducible refine Below.frame ?_ _) | go_size))
    · have := G1.out; (repeat' (first | (with_reducible exact Below.refl _ _) | (with_reducible assumption) | (with_reducible refine Below.alloc ?_ ?_ _) | (with_reducible refine Below.drew ?_) | (with_reducible refine bdrewN ?_ _) | (with_reducible refine Below.setCell ?_ ?_ _) | (with_reducible refine Below.frame ?_ _) | go_size))
    rw [S.out, ← Int.sub_eq_add_neg]
    rintro e w2 ⟨a, rfl, hO, hn, hb2⟩
    have B3 := (((K3.out.other (by dsimp only; omega) _).other (by dsimp only; omega) _).other (by dsimp only; omega) _).below hb2 (by simpa using K3.out.lt)
    have HO := Lib.hid (And.intro hO hn)
    have K4 := Lib.hid B3
    have G2 := Lib.hid ((((G1.out.setCell (by simp) _).setCell (by simp) _).setCell (by simp) _).trans (hb2.mono (by simpa using G1.out.size)) : Below w.heap.size w w2)
    have h3 := K3.out.lt
    have h4 := G1.out.size
    obtain ⟨b30, b31, b32, b33⟩ := B3.all
    clear hO hn B3 hb2 b10 b11 b12 b13 b20 b21 b22 b23 S
    generalize valN s1 n1 o1 - z2 = z at *
    go_wp2_with fail
    refine bodyPost_ret (results_cell rfl _ _ _ _ _ _ _ rfl (K4.out.set _ _) Tryz.underlying24 rfl (by kernel_rfl)) rfl ⟨a, rfl, ?_, HO.out.2, ?_⟩
    · exact ((HO.out.1.other (by simp; omega) _).other (by simp; omega) _).mono (by simpa using h4)
    · exact (G2.out.setCell (by dsimp only; omega) _).setCell (by dsimp only; omega) _
  · rw [decide_eq_false (by omega)]
    have S := Lib.hid (SG.out true (decide_eq_true (by omega)).symm)
    have hgt : (L2 : Int) > 0 := by omega
    clear h SG
    go_wp2_with fail
    refine (add_res s1 a1 n1 c1 o1 true x2 L2 d2 (dgi z2.natAbs) _ (HR1.out.below (w' := _) ?_) hn1 hc1 (HR2.out.below (w' := _) ?_) (by omega) m2).mono ?_
    · have := G1.out; (repeat' (first | (with_reducible exact Below.refl _ _) | (with_reducible assumption) | (with_reducible refine Below.alloc ?_ ?_ _) | (with_reducible refine Below.drew ?_) | (with_reducible refine bdrewN ?_ _) | (with_reducible refine Below.setCell ?_ ?_ _) | (with_reducible refine Below.frame ?_ _) | go_size))
    · have := G1.out; (repeat' (first | (with_reducible exact Below.refl _ _) | (with_reducible assumption) | (with_reducible refine Below.alloc ?_ ?_ _) | (with_reducible refine Below.drew ?_) | (with_reducible refine bdrewN ?_ _) | (with_reducible refine Below.setCell ?_ ?_ _) | (with_reducible refine Below.frame ?_ _) | go_size))
    rw [S.out, ← Int.sub_eq_add_neg]
    rintro e w2 ⟨a, rfl, hO, hn, hb2⟩
    have B3 := (((K3.out.other (by dsimp only; omega) _).other (by dsimp only; omega) _).other (by dsimp only; omega) _).below hb2 (by simpa using K3.out.lt)
    have HO := Lib.hid (And.intro hO hn)
    have K4 := Lib.hid B3
    have G2 := Lib.hid ((((G1.out.setCell (by simp) _).setCell (by simp) _).setCell (by simp) _).trans (hb2.mono (by simpa using G1.out.size)) : Below w.heap.size w w2)
    have h3 := K3.out.lt
    have h4 := G1.out.size
    obtain ⟨b30, b31, b32, b33⟩ := B3.all
    clear hO hn B3 hb2 b10 b11 b12 b13 b20 b21 b22 b23 S
    generalize valN s1 n1 o1 - z2 = z at *
    go_wp2_with fail
    refine bodyPost_ret (results_cell rfl _ _ _ _ _ _ _ rfl (K4.out.set _ _) Tryz.underlying24 rfl (by kernel_rfl)) rfl ⟨a, rfl, ?_, HO.out.2, ?_⟩
    · exact ((HO.out.1.other (by simp; omega) _).other (by simp; omega) _).mono (by simpa using h4)
    · exact (G2.out.setCell (by dsimp only; omega) _).setCell (by dsimp only; omega) _
end Go.Proofs.YtebobpbcllideaaGreatDoor.Limb
