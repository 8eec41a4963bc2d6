/-
  The walks of Sub, Neg, Cmp, Sign of package limbs.
  The walks of Neg, Cmp, Sign of package limbs.
  The walks of the document's answer for limbs: Check, Fit.
  The walk of Mul of package limbs.
  The walks of the document's answer for limbs: order.
  The walk of the document's answer for limbs: times.
  The walks of short of package limbs and small of the document's answer: an amount by one part.
  The walks of the document's answer for limbs: less, more.
  The walks of wide and below of package limbs.
  The walk of the document's answer for limbs: more.
  The walk of the document's answer for limbs: Twin.
-/
import Derived.Test.YtaagegcidbgjmaaGreatDoorPmB
import Derived.Laws.OwnMore
namespace Go.Proofs.YtaagegcidbgjmaaGreatDoor.Limb
open Go.RowKit Go.Sort Go.Fresh

/-- A number comes back, in a list of the call's own. -/
def ResN (w : World) (z : Int) (e : Ending) (w' : World) : Prop :=
  ∃ a, e = .returned (numV (decide (z < 0)) a (lenB z.natAbs) (lenB z.natAbs)) ∧ Own 74 w' w.heap.size a (lenB z.natAbs) (lenB z.natAbs) (dgi z.natAbs) ∧ (a = none → lenB z.natAbs = 0) ∧ Below w.heap.size w w'
theorem add_res (s1 : Bool) (a1 : Option Addr) (n1 c1 : Nat) (o1 : Nat → Int) (s2 : Bool) (a2 : Option Addr) (n2 c2 : Nat) (o2 : Nat → Int) (w : World)
    (h1 : Rd w a1 n1 o1) (hn1 : n1 ≤ 100000000) (hc1 : n1 ≤ c1) (h2 : Rd w a2 n2 o2) (hn2 : n2 ≤ 100000000) (hc2 : n2 ≤ c2) :
    Calls Tryz.prog 80 #[numV s1 a1 n1 c1, numV s2 a2 n2 c2] w (ResN w (valN s1 n1 o1 + valN s2 n2 o2)) := add_any s1 a1 n1 c1 o1 s2 a2 n2 c2 o2 w h1 hn1 hc1 h2 hn2 hc2

/-- A number as it is laid down means itself. -/
theorem canon_ok (z : Int) : okN (decide (z < 0)) (lenB z.natAbs) (dgi z.natAbs) := by
  refine ⟨fun i hi => (dgi_Dig _ _ i hi).2, fun h => ?_, fun h => ?_⟩
  · have := lenB_eq_zero.1 h
    exact decide_eq_false (by omega)
  · have h1 := dg_last (m := z.natAbs) (fun e => by rw [e, lenB_zero] at h; omega)
    show ((dg z.natAbs (lenB z.natAbs - 1) : Nat) : Int) ≠ 0
    omega
theorem canon_val (z : Int) : valN (decide (z < 0)) (lenB z.natAbs) (dgi z.natAbs) = z := by
  unfold valN
  rw [if_pos (canon_ok z), sumB_dgi]
  by_cases h : z < 0
  · rw [if_pos (decide_eq_true h)]; omega
  · rw [if_neg (by simpa using h)]; omega
theorem canon_neg (z : Int) (s : Bool) (hs : s = decide (-z < 0)) : valN s (lenB z.natAbs) (dgi z.natAbs) = -z := by
  have h := canon_val (-z)
  rw [Int.natAbs_neg] at h
  rw [hs]; exact h

set_option maxHeartbeats 1000000 in
theorem sub_any (s1 : Bool) (a1 : Option Addr) (n1 c1 : Nat) (o1 : Nat → Int) (s2 : Bool) (a2 : Option Addr) (n2 c2 : Nat) (o2 : Nat → Int) (w : World)
    (h1 : Rd w a1 n1 o1) (hn1 : n1 ≤ 100000000) (hc1 : n1 ≤ c1) (h2 : Rd w a2 n2 o2) (hn2 : n2 ≤ 100000000) (hc2 : n2 ≤ c2) :
    Calls Tryz.prog 82 #[numV s1 a1 n1 c1, numV s2 a2 n2 c2] w (ResN w (valN s1 n1 o1 - valN s2 n2 o2)) := by
  obtain ⟨x2, d2, r2, l2, m2, O2⟩ := of_any s2 a2 n2 c2 o2 w h2 (by omega) hc2
  generalize valN s2 n2 o2 = z2 at r2 l2 m2 O2 ⊢
  have HO2 := Lib.hid O2
  have HR1 := Lib.hid h1
  have HR2 := Lib.hid r2
  have B1 := (((Bx.new w 24 (.bool s1) (.slice a1 n1 c1)).alloc (.cells #[.bool s2, .slice a2 n2 c2] 24)).alloc (.cells #[.bool false, .slice none 0 0] 24))
  have B2 := ((Bx.new2 w (.cells #[.bool s1, .slice a1 n1 c1] 24) 24 (.bool s2) (.slice a2 n2 c2)).alloc (.cells #[.bool false, .slice none 0 0] 24))
  have B3 := (Bx.new3 w (.cells #[.bool s1, .slice a1 n1 c1] 24) (.cells #[.bool s2, .slice a2 n2 c2] 24) 24 (.bool false) (.slice none 0 0))
  have HB1 := Lib.hid B1; have HB2 := Lib.hid B2; have HB3 := Lib.hid B3
  clear O2 h1 h2 r2 B1 B2 B3
  go_enter Tryz.func82, Tryz.ntmps82
  go_wp2_with fail
  refine (HO2.out _ ?_).mono ?_
  · (repeat' (first | (with_reducible exact Below.refl _ _) | (with_reducible assumption) | (with_reducible refine Below.alloc ?_ ?_ _) | (with_reducible refine Below.drew ?_) | (with_reducible refine bdrewN ?_ _) | (with_reducible refine Below.setCell ?_ ?_ _) | (with_reducible refine Below.frame ?_ _) | go_size))
  rintro e w1 ⟨rfl, hb1⟩
  have B1 := HB1.out.below hb1 HB1.out.lt
  have B2 := HB2.out.below hb1 HB2.out.lt
  have B3 := HB3.out.below hb1 HB3.out.lt
  have G1 := Lib.hid (((Below.refl _ _).alloc (by go_size) _ |>.alloc (by go_size) _ |>.alloc (by go_size) _).trans (hb1.mono (by go_size)) : Below w.heap.size w w1)
  have K1 := Lib.hid B1; have K2 := Lib.hid B2; have K3 := Lib.hid B3
  obtain ⟨b10, b11, b12, b13⟩ := B1.all
  obtain ⟨b20, b21, b22, b23⟩ := B2.all
  have SG := Lib.hid (canon_neg z2)
  clear HB1 HB2 HB3 B1 B2 B3 hb1
  obtain ⟨L2, hL2⟩ : ∃ L2, L2 = lenB z2.natAbs := ⟨_, rfl⟩
  have HL2 := Lib.hid hL2
  have cases3 : (z2 < 0) ∨ (z2 = 0 ∧ L2 = 0) ∨ (0 < z2 ∧ 0 < L2) := by
    rcases Int.lt_trichotomy z2 0 with h | h | h
    · exact .inl h
    · exact .inr (.inl ⟨h, by rw [hL2, h]; exact lenB_zero⟩)
    · refine .inr (.inr ⟨h, ?_⟩)
      rcases Nat.eq_zero_or_pos L2 with h0 | h0
      · have := lenB_eq_zero.1 (hL2.symm.trans h0); omega
      · exact h0
  rw [← hL2] at SG HR2 l2 m2 ⊢
  clear hL2
  rcases cases3 with h | ⟨h, h0⟩ | ⟨h, h0⟩
  · rw [decide_eq_true h]
    have S := Lib.hid (SG.out false (decide_eq_false (by omega)).symm)
    skip
    clear h SG
    go_wp2_with fail
    refine (add_res s1 a1 n1 c1 o1 false x2 L2 d2 (dgi z2.natAbs) _ (HR1.out.below (w' := _) ?_) hn1 hc1 (HR2.out.below (w' := _) ?_) (by omega) m2).mono ?_
    · have := G1.out; (repeat' (first | (with_reducible exact Below.refl _ _) | (with_reducible assumption) | (with_reducible refine Below.alloc ?_ ?_ _) | (with_reducible refine Below.drew ?_) | (with_reducible refine bdrewN ?_ _) | (with_reducible refine Below.setCell ?_ ?_ _) | (with_reducible refine Below.frame ?_ _) | go_size))
    · have := G1.out; (repeat' (first | (with_reducible exact Below.refl _ _) | (with_reducible assumption) | (with_reducible refine Below.alloc ?_ ?_ _) | (with_reducible refine Below.drew ?_) | (with_reducible refine bdrewN ?_ _) | (with_reducible refine Below.setCell ?_ ?_ _) | (with_reducible refine Below.frame ?_ _) | go_size))
    rw [S.out, ← Int.sub_eq_add_neg]
    rintro e w2 ⟨a, rfl, hO, hn, hb2⟩
    have B3 := (((K3.out.other (by dsimp only; omega) _).other (by dsimp only; omega) _).other (by dsimp only; omega) _).below hb2 (by simpa using K3.out.lt)
    have HO := Lib.hid (And.intro hO hn)
    have K4 := Lib.hid B3
    have G2 := Lib.hid ((((G1.out.setCell (by simp) _).setCell (by simp) _).setCell (by simp) _).trans (hb2.mono (by simpa using G1.out.size)) : Below w.heap.size w w2)
    have h3 := K3.out.lt
    have h4 := G1.out.size
    obtain ⟨b30, b31, b32, b33⟩ := B3.all
    clear hO hn B3 hb2 b10 b11 b12 b13 b20 b21 b22 b23 S
    generalize valN s1 n1 o1 - z2 = z at *
    go_wp2_with fail
    refine bodyPost_ret (results_cell rfl _ _ _ _ _ _ _ rfl (K4.out.set _ _) Tryz.underlying24 rfl (by kernel_rfl)) rfl ⟨a, rfl, ?_, HO.out.2, ?_⟩
    · exact ((HO.out.1.other (by simp; omega) _).other (by simp; omega) _).mono (by simpa using h4)
    · exact (G2.out.setCell (by dsimp only; omega) _).setCell (by dsimp only; omega) _
  · rw [decide_eq_false (by omega)]
    have S := Lib.hid (SG.out false (decide_eq_false (by omega)).symm)
    subst h0
    clear h SG
    go_wp2_with fail
    refine (add_res s1 a1 n1 c1 o1 false x2 0 d2 (dgi z2.natAbs) _ (HR1.out.below (w' := _) ?_) hn1 hc1 (HR2.out.below (w' := _) ?_) (by omega) m2).mono ?_
    · have := G1.out; (repeat' (first | (with_reducible exact Below.refl _ _) | (with_reducible assumption) | (with_reducible refine Below.alloc ?_ ?_ _) | (with_reducible refine Below.drew ?_) | (with_reducible refine bdrewN ?_ _) | (with_reducible refine Below.setCell ?_ ?_ _) | (with_reducible refine Below.frame ?_ _) | go_size))
    · have := G1.out; (repeat' (first | (with_reducible exact Below.refl _ _) | (with_reducible assumption) | (with_reducible refine Below.alloc ?_ ?_ _) | (with_reducible refine Below.drew ?_) | (with_reducible refine bdrewN ?_ _) | (with_reducible refine Below.setCell ?_ ?_ _) | (with_reducible refine Below.frame ?_ _) | go_size))
    rw [S.out, ← Int.sub_eq_add_neg]
    rintro e w2 ⟨a, rfl, hO, hn, hb2⟩
    have B3 := (((K3.out.other (by dsimp only; omega) _).other (by dsimp only; omega) _).other (by dsimp only; omega) _).below hb2 (by simpa using K3.out.lt)
    have HO := Lib.hid (And.intro hO hn)
    have K4 := Lib.hid B3
    have G2 := Lib.hid ((((G1.out.setCell (by simp) _).setCell (by simp) _).setCell (by simp) _).trans (hb2.mono (by simpa using G1.out.size)) : Below w.heap.size w w2)
    have h3 := K3.out.lt
    have h4 := G1.out.size
    obtain ⟨b30, b31, b32, b33⟩ := B3.all
    clear hO hn B3 hb2 b10 b11 b12 b13 b20 b21 b22 b23 S
    generalize valN s1 n1 o1 - z2 = z at *
    go_wp2_with fail
    refine bodyPost_ret (results_cell rfl _ _ _ _ _ _ _ rfl (K4.out.set _ _) Tryz.underlying24 rfl (by kernel_rfl)) rfl ⟨a, rfl, ?_, HO.out.2, ?_⟩
    · exact ((HO.out.1.other (by simp; omega) _).other (by simp; omega) _).mono (by simpa using h4)
    · exact (G2.out.setCell (by dsimp only; omega) _).setCell (by dsimp only; omega) _
  · rw [decide_eq_false (by omega)]
    have S := Lib.hid (SG.out true (decide_eq_true (by omega)).symm)
    have hgt : (L2 : Int) > 0 := by omega
    clear h SG
    go_wp2_with fail
    refine (add_res s1 a1 n1 c1 o1 true x2 L2 d2 (dgi z2.natAbs) _ (HR1.out.below (w' := _) ?_) hn1 hc1 (HR2.out.below (w' := _) ?_) (by omega) m2).mono ?_
    · have := G1.out; (repeat' (first | (with_reducible exact Below.refl _ _) | (with_reducible assumption) | (with_reducible refine Below.alloc ?_ ?_ _) | (with_reducible refine Below.drew ?_) | (with_reducible refine bdrewN ?_ _) | (with_reducible refine Below.setCell ?_ ?_ _) | (with_reducible refine Below.frame ?_ _) | go_size))
    · have := G1.out; (repeat' (first | (with_reducible exact Below.refl _ _) | (with_reducible assumption) | (with_reducible refine Below.alloc ?_ ?_ _) | (with_reducible refine Below.drew ?_) | (with_reducible refine bdrewN ?_ _) | (with_reducible refine Below.setCell ?_ ?_ _) | (with_reducible refine Below.frame ?_ _) | go_size))
    rw [S.out, ← Int.sub_eq_add_neg]
    rintro e w2 ⟨a, rfl, hO, hn, hb2⟩
    have B3 := (((K3.out.other (by dsimp only; omega) _).other (by dsimp only; omega) _).other (by dsimp only; omega) _).below hb2 (by simpa using K3.out.lt)
    have HO := Lib.hid (And.intro hO hn)
    have K4 := Lib.hid B3
    have G2 := Lib.hid ((((G1.out.setCell (by simp) _).setCell (by simp) _).setCell (by simp) _).trans (hb2.mono (by simpa using G1.out.size)) : Below w.heap.size w w2)
    have h3 := K3.out.lt
    have h4 := G1.out.size
    obtain ⟨b30, b31, b32, b33⟩ := B3.all
    clear hO hn B3 hb2 b10 b11 b12 b13 b20 b21 b22 b23 S
    generalize valN s1 n1 o1 - z2 = z at *
    go_wp2_with fail
    refine bodyPost_ret (results_cell rfl _ _ _ _ _ _ _ rfl (K4.out.set _ _) Tryz.underlying24 rfl (by kernel_rfl)) rfl ⟨a, rfl, ?_, HO.out.2, ?_⟩
    · exact ((HO.out.1.other (by simp; omega) _).other (by simp; omega) _).mono (by simpa using h4)
    · exact (G2.out.setCell (by dsimp only; omega) _).setCell (by dsimp only; omega) _
end Go.Proofs.YtaagegcidbgjmaaGreatDoor.Limb
namespace Go.Proofs.YtaagegcidbgjmaaGreatDoor.Limb
open Go.RowKit Go.Sort Go.Fresh

/-- What Clone makes, as a spec's fact. -/
theorem own_clone {T L b : Nat} {x : Option Addr × Nat} {o : Nat → Int} {w : World} (h : ∃ y : Option Addr × Nat, Value.slice x.1 L x.2 = .slice y.1 L y.2 ∧ Own T w b y.1 L y.2 o ∧ (y.1 = none → y.2 = 0)) : Own T w b x.1 L x.2 o ∧ (x.1 = none → x.2 = 0) := by
  obtain ⟨y, e, h⟩ := h
  simp only [Value.slice.injEq] at e
  rw [e.1, e.2.2]
  exact h
theorem pos_len {z : Int} : 0 < lenB z.natAbs ↔ z ≠ 0 := by
  constructor
  · intro h1 h2; rw [h2, show Int.natAbs 0 = 0 from rfl, lenB_zero] at h1; omega
  · intro h1
    rcases Nat.eq_zero_or_pos (lenB z.natAbs) with h2 | h2
    · have := lenB_eq_zero.1 h2; omega
    · exact h2
theorem neg_sign (z : Int) : ((!decide (z < 0)) && decide (0 < lenB z.natAbs)) = decide (-z < 0) := by
  have e0 := pos_len (z := z)
  by_cases h1 : z < 0
  · simp only [h1, decide_true, Bool.not_true, Bool.false_and]
    exact (decide_eq_false (by omega)).symm
  · simp only [h1, decide_false, Bool.not_false, Bool.true_and]
    exact decide_eq_decide.2 (e0.trans (by omega))

set_option maxHeartbeats 1000000 in
theorem neg_any (s1 : Bool) (a1 : Option Addr) (n1 c1 : Nat) (o1 : Nat → Int) (w : World)
    (h1 : Rd w a1 n1 o1) (hn1 : n1 ≤ 100000000) (hc1 : n1 ≤ c1) :
    Calls Tryz.prog 98 #[numV s1 a1 n1 c1] w (ResN w (- valN s1 n1 o1)) := by
  obtain ⟨x2, d2, r2, l2, m2, O2⟩ := of_any s1 a1 n1 c1 o1 w h1 (by omega) hc1
  generalize valN s1 n1 o1 = z2 at r2 l2 m2 O2 ⊢
  have HO2 := Lib.hid O2
  have HR2 := Lib.hid r2
  have HB1 := Lib.hid ((Bx.new w 24 (.bool s1) (.slice a1 n1 c1)).alloc (.cells #[.bool false, .slice none 0 0] 24))
  have HB2 := Lib.hid (Bx.new2 w (.cells #[.bool s1, .slice a1 n1 c1] 24) 24 (.bool false) (.slice none 0 0))
  clear O2 h1 r2
  go_enter Tryz.func98, Tryz.ntmps98
  go_wp2_with fail
  refine (HO2.out _ ?_).mono ?_
  · (repeat' (first | (with_reducible exact Below.refl _ _) | (with_reducible assumption) | (with_reducible refine Below.alloc ?_ ?_ _) | (with_reducible refine Below.drew ?_) | (with_reducible refine bdrewN ?_ _) | (with_reducible refine Below.setCell ?_ ?_ _) | (with_reducible refine Below.frame ?_ _) | go_size))
  rintro e w1 ⟨rfl, hb1⟩
  have B1 := HB1.out.below hb1 HB1.out.lt
  have B2 := HB2.out.below hb1 HB2.out.lt
  have G1 := Lib.hid (((Below.refl _ _).alloc (by go_size) _ |>.alloc (by go_size) _).trans (hb1.mono (by go_size)) : Below w.heap.size w w1)
  have K1 := Lib.hid B1; have K2 := Lib.hid B2
  obtain ⟨b10, b11, b12, b13⟩ := B1.all
  clear HB1 HB2 B1 B2 hb1
  go_upto_region 2 with (fail)
  obtain ⟨W, hW⟩ : ∃ W, W = ((w1.setCell ⟨w.heap.size, 0, none⟩ (.bool (decide (z2 < 0)))).setCell ⟨w.heap.size, 1, none⟩ (.slice x2 (lenB z2.natAbs) d2)) := ⟨_, rfl⟩
  rw [← hW]
  have HB1 := Lib.hid (K1.out.set (.bool (decide (z2 < 0))) (.slice x2 (lenB z2.natAbs) d2))
  have HB2 := Lib.hid ((K2.out.other (a := ⟨w.heap.size, 0, none⟩) (by dsimp only; omega) (.bool (decide (z2 < 0)))).other (a := ⟨w.heap.size, 1, none⟩) (by dsimp only; omega) (.slice x2 (lenB z2.natAbs) d2))
  have HG := Lib.hid ((G1.out.setCell (p := ⟨w.heap.size, 0, none⟩) (Nat.le_refl _) (.bool (decide (z2 < 0)))).setCell (p := ⟨w.heap.size, 1, none⟩) (Nat.le_refl _) (.slice x2 (lenB z2.natAbs) d2))
  rw [← hW] at HB1 HB2 HG
  clear hW b10 b11 b12 b13 K1 K2 G1
  have HS1 := Lib.hid (fun (w' : World) (hb : Below W.heap.size W w') => And.intro (HB1.out.below hb HB1.out.lt).c0 (HB1.out.below hb HB1.out.lt).c1)
  have CL := Lib.hid (fun (w' : World) (hb : Below W.heap.size W w') => clone_any x2 (lenB z2.natAbs) d2 (dgi z2.natAbs) w' (HR2.out.below (HG.out.trans (hb.mono HG.out.size))) (by omega))
  have CUT := Lib.hid (fun (w' : World) (x : Option Addr × Nat) (ho : Own 74 w' W.heap.size x.1 (lenB z2.natAbs) x.2 (dgi z2.natAbs)) (hx : x.1 = none → x.2 = 0) => cut_any (!decide (z2 < 0)) x.1 (lenB z2.natAbs) x.2 (dgi z2.natAbs) w' ho.rd (dgi_Dig _ _) (by omega) ho.le hx)
  rw [sumB_dgi, Int.toNat_natCast, neg_sign] at CUT
  obtain ⟨sB, hsB⟩ : ∃ sB, sB = decide (-z2 < 0) := ⟨_, rfl⟩
  rw [← hsB] at CUT
  have HSB := Lib.hid hsB
  clear hsB
  refine wp_region_fresh 7 (spOf [(5, Sp.made (fun x : Option Addr × Nat => .slice x.1 (lenB z2.natAbs) x.2) (fun x w' => Own 74 w' W.heap.size x.1 (lenB z2.natAbs) x.2 (dgi z2.natAbs) ∧ (x.1 = none → x.2 = 0))),
      (6, Sp.made (fun a : Option Addr => numV sB a (lenB z2.natAbs) (lenB z2.natAbs)) (fun a w' => Own 74 w' W.heap.size a (lenB z2.natAbs) (lenB z2.natAbs) (dgi z2.natAbs) ∧ (a = none → lenB z2.natAbs = 0)))])
    (fun w' => Below W.heap.size W w') (by kernel_rfl) (by kernel_rfl)
    (spOf_cons (Sp.made_keeps fun x w w' h hb => ⟨h.1.below hb, h.2⟩) (spOf_cons (Sp.made_keeps fun x w w' h hb => ⟨h.1.below hb, h.2⟩) spOf_nil)) (fun _ _ h hb => h.trans (hb.mono h.size)) ((Below.refl _ _).drew) ?_
  simp only [List.take_succ_cons, List.take_zero, List.drop_succ_cons, List.drop_zero]
  (refine wpF_reads rfl rfl ?_ (fun w' hw' => ?_) ?_; rotate_left; · (have hb' := Has.world hw'; (skip); clear hw'; go_simp; try rfl))
  (refine wpF_reads rfl rfl ?_ (fun w' hw' => ?_) ?_; rotate_left; · (have hb' := Has.world hw'; (have hs := HS1.out _ hb'); clear hw'; go_simp; try rfl))
  (refine wpF_reads rfl rfl ?_ (fun w' hw' => ?_) ?_; rotate_left; · (have hb' := Has.world hw'; (skip); clear hw'; go_simp; try rfl))
  (refine wpF_reads rfl rfl ?_ (fun w' hw' => ?_) ?_; rotate_left; · (have hb' := Has.world hw'; (skip); clear hw'; go_simp; try rfl))
  (refine wpF_reads rfl rfl ?_ (fun w' hw' => ?_) ?_; rotate_left; · (have hb' := Has.world hw'; (have hs := HS1.out _ hb'); clear hw'; go_simp; try rfl))
  (refine wpF_spec rfl rfl (fun w' hw' => ?_) ?_; · (have hb' := Has.world hw'; go_simp; ((refine (CL.out w' hb').mono ?_; rintro e w'' ⟨a', cap', rfl, ho, hn, hb⟩; exact ⟨_, rfl, ⟨⟨a', cap', rfl⟩, ⟨a', cap', rfl, ho.mono hb'.size, hn⟩⟩, hb⟩))))
  rintro _ ⟨x, rfl⟩
  (refine wpF_spec rfl rfl (fun w' hw' => ?_) ?_; · (have hb' := Has.world hw'; go_simp; ((have h7 := own_clone (x := x) (L := lenB z2.natAbs) (T := 74) (o := dgi z2.natAbs) (b := W.heap.size) (hw'.fact 5 (by kernel_rfl)); refine (CUT.out w' x h7.1 h7.2).mono ?_; rintro e w'' ⟨rfl, hb⟩; exact ⟨_, rfl, ⟨⟨_, rfl⟩, ⟨_, rfl, (h7.1.below hb).cut (Nat.le_refl _) (fun _ _ => rfl), fun h => by have := h7.1.le; have := h7.2 h; omega⟩⟩, hb⟩))))
  rintro _ ⟨a, rfl⟩
  refine wpF_nil (fun w5 hb5 hF5 => ?_)
  have OA := own_num (T := 74) (b := W.heap.size) (s := sB) (L := lenB z2.natAbs) (o := dgi z2.natAbs) (a := a) (p := fun x => x = none → lenB z2.natAbs = 0) (hF5 6)
  have HO := Lib.hid OA
  have B2 := HB2.out.below hb5 HB2.out.lt
  have HB5 := Lib.hid B2
  obtain ⟨b30, b31, b32, b33⟩ := B2.all
  have HG5 := Lib.hid (HG.out.trans (hb5.mono HG.out.size))
  have hz4 := HB2.out.lt
  have hz5 := HG.out.size
  clear hF5 OA B2 hb5 HS1 CL CUT
  go_wp2_with fail
  unfold ResN
  rw [Int.natAbs_neg, ← HSB.out]
  refine bodyPost_ret (results_cell rfl _ _ _ _ _ _ _ rfl (HB5.out.set _ _) Tryz.underlying24 rfl (by kernel_rfl)) rfl ⟨a, rfl, ?_, HO.out.2, ?_⟩
  · exact ((HO.out.1.other (by dsimp only; omega) _).other (by dsimp only; omega) _).mono hz5
  · exact (HG5.out.setCell (by dsimp only; omega) _).setCell (by dsimp only; omega) _

/-- The order of two numbers, by their amounts. -/
theorem cmpZ_amounts (x y : Int) : cmpZ x y = if x < 0 then (if y < 0 then cmpZ (y.natAbs : Int) (x.natAbs : Int) else -1) else if y < 0 then 1 else cmpZ (x.natAbs : Int) (y.natAbs : Int) := by
  by_cases h1 : x < 0 <;> by_cases h2 : y < 0
  · rw [if_pos h1, if_pos h2]; exact cmpZ_congr (by omega) (by omega)
  · rw [if_pos h1, if_neg h2]; exact cmpZ_lt (by omega)
  · rw [if_neg h1, if_pos h2]; exact cmpZ_gt (by omega)
  · rw [if_neg h1, if_neg h2]; exact cmpZ_congr (by omega) (by omega)

set_option maxHeartbeats 1000000 in
theorem cmp_any (s1 : Bool) (a1 : Option Addr) (n1 c1 : Nat) (o1 : Nat → Int) (s2 : Bool) (a2 : Option Addr) (n2 c2 : Nat) (o2 : Nat → Int) (w : World)
    (h1 : Rd w a1 n1 o1) (hn1 : n1 ≤ 100000000) (hc1 : n1 ≤ c1) (h2 : Rd w a2 n2 o2) (hn2 : n2 ≤ 100000000) (hc2 : n2 ≤ c2) :
    Calls Tryz.prog 90 #[numV s1 a1 n1 c1, numV s2 a2 n2 c2] w fun e w' => e = .returned (.int .i64 (cmpZ (valN s1 n1 o1) (valN s2 n2 o2))) ∧ Below w.heap.size w w' := by
  obtain ⟨x1, d1, r1, l1, m1, O1⟩ := of_any s1 a1 n1 c1 o1 w h1 (by omega) hc1
  obtain ⟨x2, d2, r2, l2, m2, O2⟩ := of_any s2 a2 n2 c2 o2 w h2 (by omega) hc2
  generalize valN s1 n1 o1 = z1 at r1 l1 m1 O1 ⊢
  have HO1 := Lib.hid O1; clear O1
  generalize valN s2 n2 o2 = z2 at r2 l2 m2 O2 ⊢
  have HO2 := Lib.hid O2; clear O2
  have B1 := ((Bx.new w 24 (.bool s1) (.slice a1 n1 c1)).alloc (.cells #[.bool s2, .slice a2 n2 c2] 24))
  have B2 := (Bx.new2 w (.cells #[.bool s1, .slice a1 n1 c1] 24) 24 (.bool s2) (.slice a2 n2 c2))
  go_enter Tryz.func90, Tryz.ntmps90
  go_upto_region 1 with (fail)
  obtain ⟨W, hW⟩ : ∃ W, W = ((w.alloc (.cells #[.bool s1, .slice a1 n1 c1] 24)).alloc (.cells #[.bool s2, .slice a2 n2 c2] 24)) := ⟨_, rfl⟩
  have G1 := Lib.hid (((Below.refl _ _).alloc (by go_size) _ |>.alloc (by go_size) _) : Below w.heap.size w ((w.alloc (.cells #[.bool s1, .slice a1 n1 c1] 24)).alloc (.cells #[.bool s2, .slice a2 n2 c2] 24)))
  rw [← hW] at B1 B2 G1
  rw [show ((w.alloc (.cells #[.bool s1, .slice a1 n1 c1] 24)).alloc (.cells #[.bool s2, .slice a2 n2 c2] 24)) = W from hW.symm]
  clear hW
  go_cut [] (fun wx => Bx wx w.heap.size 24 (.bool (decide (z1 < 0))) (.slice x1 (lenB z1.natAbs) d1) ∧ Bx wx (w.heap.size + 1) 24 (.bool (decide (z2 < 0))) (.slice x2 (lenB z2.natAbs) d2) ∧ Below w.heap.size w wx)
  case first =>
    have HS1 := Lib.hid (fun (w' : World) (hb : Below W.heap.size W w') => And.intro (B1.below hb B1.lt).c0 (B1.below hb B1.lt).c1)
    have HS2 := Lib.hid (fun (w' : World) (hb : Below W.heap.size W w') => And.intro (B2.below hb B2.lt).c0 (B2.below hb B2.lt).c1)
    have HB1 := Lib.hid B1; have HB2 := Lib.hid B2
    clear B1 B2
    refine wp_region_fresh 4 (spOf [(1, Sp.know (numV (decide (z1 < 0)) x1 (lenB z1.natAbs) d1)), (3, Sp.know (numV (decide (z2 < 0)) x2 (lenB z2.natAbs) d2))]) (fun w' => Below W.heap.size W w') (by kernel_rfl) (by kernel_rfl)
      (spOf_cons (Sp.know_keeps _) (spOf_cons (Sp.know_keeps _) spOf_nil)) (fun _ _ h hb => h.trans (hb.mono h.size)) ((Below.refl _ _).drew) ?_
    simp only [List.take_succ_cons, List.take_zero, List.drop_succ_cons, List.drop_zero]
    (refine wpF_reads rfl rfl ?_ (fun w' hw' => ?_) ?_; rotate_left; · (have hb' := Has.world hw'; (have hs := HS1.out _ hb'); clear hw'; go_simp; try rfl))
    (refine wpF_spec rfl rfl (fun w' hw' => ?_) ?_; · (have hb' := Has.world hw'; go_simp; ((refine (HO1.out w' (G1.out.trans (hb'.mono G1.out.size))).mono ?_; rintro e w'' ⟨rfl, hb⟩; exact ⟨_, rfl, rfl, hb⟩))))
    rintro _ rfl
    (refine wpF_reads rfl rfl ?_ (fun w' hw' => ?_) ?_; rotate_left; · (have hb' := Has.world hw'; (have hs := HS2.out _ hb'); clear hw'; go_simp; try rfl))
    (refine wpF_spec rfl rfl (fun w' hw' => ?_) ?_; · (have hb' := Has.world hw'; go_simp; ((refine (HO2.out w' (G1.out.trans (hb'.mono G1.out.size))).mono ?_; rintro e w'' ⟨rfl, hb⟩; exact ⟨_, rfl, rfl, hb⟩))))
    rintro _ rfl
    refine wpF_nil (fun w1 hb1 hF => ?_)
    clear hF
    have C1 := HB1.out.below hb1 HB1.out.lt
    have C2 := HB2.out.below hb1 HB2.out.lt
    have G2 := G1.out.trans (hb1.mono G1.out.size)
    have K1 := Lib.hid C1; have K2 := Lib.hid C2
    obtain ⟨b10, b11, b12, b13⟩ := C1.all
    obtain ⟨b20, b21, b22, b23⟩ := C2.all
    have KG := Lib.hid G2
    clear C1 C2 hb1 HS1 HS2 G2
    go_wp2_with fail
    go_meet
    case rel =>
      exact ⟨((K1.out.set _ _).other (by dsimp only; omega) _).other (by dsimp only; omega) _, ((K2.out.other (by dsimp only; omega) _).other (by dsimp only; omega) _).set _ _  ,
        (((KG.out.setCell (by simp) _).setCell (by simp) _).setCell (by simp) _).setCell (by simp) _⟩
  case rest =>
    obtain ⟨B1, B2, G1⟩ := hcut
    obtain ⟨w1, rfl⟩ : ∃ w1, w1 = wc := ⟨_, rfl⟩
    have R1 := r1.below G1
    have R2 := r2.below G1
    have AM := Lib.hid (amounts_any z1.natAbs z2.natAbs x1 x2 d1 d2 w1 R1 R2 (by omega) (by omega))
    have AN := Lib.hid (amounts_any z2.natAbs z1.natAbs x2 x1 d2 d1 w1 R2 R1 (by omega) (by omega))
    have KG := Lib.hid G1
    have E := Lib.hid (cmpZ_amounts z1 z2)
    obtain ⟨b10, b11, b12, b13⟩ := B1.all
    obtain ⟨b20, b21, b22, b23⟩ := B2.all
    clear B1 B2 G1 R1 R2 r1 r2 h1 h2 HO1 HO2
    by_cases n1 : z1 < 0 <;> by_cases n2 : z2 < 0
    · have E2 := Lib.hid (E.out.trans (by rw [if_pos n1, if_pos n2]))
      rw [decide_eq_true n1] at b10
      rw [decide_eq_true n2] at b20
      clear n1 n2 E
      go_wp2_with fail
      refine AN.out.mono ?_
      rintro e w2 ⟨rfl, m, rfl⟩
      go_wp2
      go_ret
      exact ⟨by rw [E2.out]; rfl, bdrewN KG.out m⟩
    · have E2 := Lib.hid (E.out.trans (by rw [if_pos n1, if_neg n2]))
      rw [decide_eq_true n1] at b10
      rw [decide_eq_false n2] at b20
      clear n1 n2 E
      go_wp2
      go_ret
      exact ⟨by rw [E2.out]; rfl, KG.out⟩
    · have E2 := Lib.hid (E.out.trans (by rw [if_neg n1, if_pos n2]))
      rw [decide_eq_false n1] at b10
      rw [decide_eq_true n2] at b20
      clear n1 n2 E
      go_wp2
      go_ret
      exact ⟨by rw [E2.out]; rfl, KG.out⟩
    · have E2 := Lib.hid (E.out.trans (by rw [if_neg n1, if_neg n2]))
      rw [decide_eq_false n1] at b10
      rw [decide_eq_false n2] at b20
      clear n1 n2 E
      go_wp2_with fail
      refine AM.out.mono ?_
      rintro e w2 ⟨rfl, m, rfl⟩
      go_wp2
      go_ret
      exact ⟨by rw [E2.out]; rfl, bdrewN KG.out m⟩

theorem valN_none : valN false 0 (fun _ => 0) = 0 := by
  unfold valN
  split <;> rfl
set_option maxHeartbeats 400000 in
theorem sign_any (s1 : Bool) (a1 : Option Addr) (n1 c1 : Nat) (o1 : Nat → Int) (w : World) (h1 : Rd w a1 n1 o1) (hn1 : n1 ≤ 100000000) (hc1 : n1 ≤ c1) :
    Calls Tryz.prog 32 #[numV s1 a1 n1 c1] w fun e w' => e = .returned (.int .i64 (cmpZ (valN s1 n1 o1) 0)) ∧ Below w.heap.size w w' := by
  have HR := Lib.hid h1
  clear h1
  go_enter Tryz.func32, Tryz.ntmps32
  go_wp2_with fail
  refine (cmp_any s1 a1 n1 c1 o1 false none 0 0 (fun _ => 0) _ (HR.out.below (w' := _) ?_) hn1 hc1 (Rd.nil _ _ _) (by omega) (Nat.le_refl _)).mono ?_
  · (repeat' (first | (with_reducible exact Below.refl _ _) | (with_reducible assumption) | (with_reducible refine Below.alloc ?_ ?_ _) | (with_reducible refine Below.drew ?_) | (with_reducible refine bdrewN ?_ _) | (with_reducible refine Below.setCell ?_ ?_ _) | (with_reducible refine Below.frame ?_ _) | go_size))
  rw [valN_none]
  rintro e w1 ⟨rfl, hb1⟩
  have G1 := ((Below.refl _ _).alloc (by go_size) _).trans (hb1.mono (by go_size))
  clear hb1
  go_wp2
  go_ret
  exact ⟨rfl, G1⟩
end Go.Proofs.YtaagegcidbgjmaaGreatDoor.Limb
namespace Go.Proofs.YtaagegcidbgjmaaGreatDoor.Limb
open Go.RowKit Go.Sort Go.Fresh

open Classical in
set_option maxHeartbeats 1000000 in
theorem rcheck_any (s : Bool) (a : Option Addr) (n cap : Nat) (o : Nat → Int) (w : World) (h : Rd w a n o) (hn : n ≤ 1000000000) :
    Calls Tryz.prog 34 #[numV s a n cap] w fun e w' => e = .returned (.bool (decide (okN s n o))) ∧ Below w.heap.size w w' := by
  obtain ⟨k0, hk0, hf, hb⟩ := first_bad o n
  have HF := Lib.hid hf
  have HB := Lib.hid hb
  have HR := Lib.hid h
  have EN := Lib.hid (fun (hk : k0 < n) => show decide (okN s n o) = false from decide_eq_false fun hh => by have := hh.1 k0 hk; have := hb hk; omega)
  have E0 := Lib.hid (fun (h0 : n = 0) => show decide (okN s n o) = !s by
        subst h0
        cases s with
        | false => exact decide_eq_true ⟨fun i hi => by omega, fun _ => rfl, fun h => by omega⟩
        | true => exact decide_eq_false fun hh => by have := hh.2.1 rfl; contradiction)
  have E1 := Lib.hid (fun (h0 : 0 < n) (hk : ¬ k0 < n) => show decide (okN s n o) = (o (n - 1) != 0) by
        by_cases hz : o (n - 1) = 0
        · rw [hz]; exact decide_eq_false fun hh => hh.2.2 (by omega) hz
        · rw [show (o (n - 1) != 0) = true by simpa using hz]
          exact decide_eq_true ⟨fun i hi => hf i (by omega), fun h => by omega, fun _ => hz⟩)
  clear hf hb h
  go_enter Tryz.func34, Tryz.ntmps34
  go_wp2_with fail
  go_loopw [3] (fun i wr => ∃ j : Nat, j ≤ k0 ∧ i = .int .i64 j ∧ wr = w.alloc (.cells #[.bool s, .slice a n cap] 24)) (fun i _ => n - (intOf i).toNat)
  case atStart => exact ⟨0, by omega, rfl, rfl⟩
  case round =>
    obtain ⟨j, hj, rfl, rfl⟩ := hrel
    by_cases hjn : j < n
    · obtain ⟨b, off, rfl, hc⟩ := HR.out.cells (by omega)
      have c1 : w.cell? ⟨b, off + j, none⟩ = some (.int .u32 (o j)) := hc j hjn
      have hlt : b < w.heap.size := block_lt_of_cell c1
      clear hc
      by_cases hjk : j < k0
      · have D := HF.out j hjk
        go_wp2_with fail
        go_roundw
        case rel => exact ⟨j + 1, by omega, by go_num, by trivial⟩
        case measure => simp [intOf]; omega
      · obtain rfl : j = k0 := by omega
        have D := HB.out hjn
        go_wp2_with fail
        go_ret
        exact ⟨by rw [EN.out hjn]; rfl, by (repeat' (first | (with_reducible exact Below.refl _ _) | (with_reducible assumption) | (with_reducible refine Below.alloc ?_ ?_ _) | (with_reducible refine Below.drew ?_) | (with_reducible refine bdrewN ?_ _) | (with_reducible refine Below.setCell ?_ ?_ _) | (with_reducible refine Below.frame ?_ _) | go_size))⟩
    · have hkn : ¬ k0 < n := by omega
      obtain rfl : j = n := by omega
      by_cases h0 : j = 0
      · have E := Lib.hid (E0.out h0)
        subst h0
        go_wp2_with fail
        go_ret
        exact ⟨by rw [E.out]; rfl, by (repeat' (first | (with_reducible exact Below.refl _ _) | (with_reducible assumption) | (with_reducible refine Below.alloc ?_ ?_ _) | (with_reducible refine Below.drew ?_) | (with_reducible refine bdrewN ?_ _) | (with_reducible refine Below.setCell ?_ ?_ _) | (with_reducible refine Below.frame ?_ _) | go_size))⟩
      · obtain ⟨q, rfl⟩ : ∃ q, j = q + 1 := ⟨j - 1, by omega⟩
        have E := Lib.hid (E1.out (by omega) hkn)
        obtain ⟨b, off, rfl, hc⟩ := HR.out.cells (by omega)
        have c1 : w.cell? ⟨b, off + q, none⟩ = some (.int .u32 (o q)) := hc q (by omega)
        have hlt : b < w.heap.size := block_lt_of_cell c1
        have ex : ((q + 1 : Nat) : Int) - 1 = (q : Int) := by omega
        have ez : (decide (((q + 1 : Nat) : Int) = 0)) = false := by simp; omega
        clear hc
        go_wp2_with fail
        go_ret
        exact ⟨by rw [E.out]; rfl, by (repeat' (first | (with_reducible exact Below.refl _ _) | (with_reducible assumption) | (with_reducible refine Below.alloc ?_ ?_ _) | (with_reducible refine Below.drew ?_) | (with_reducible refine bdrewN ?_ _) | (with_reducible refine Below.setCell ?_ ?_ _) | (with_reducible refine Below.frame ?_ _) | go_size))⟩

open Classical in
set_option maxHeartbeats 1000000 in
theorem fit_any (s : Bool) (a : Option Addr) (n cap : Nat) (o : Nat → Int) (w : World) (h : Rd w a n o) (hn : n ≤ 1000000000) (hcap : n ≤ cap) :
    ∃ a' cap', Rd w a' (lenB (valN s n o).natAbs) (dgi (valN s n o).natAbs) ∧ lenB (valN s n o).natAbs ≤ n ∧ lenB (valN s n o).natAbs ≤ cap' ∧
      ∀ w1, Below w.heap.size w w1 → Calls Tryz.prog 100 #[numV s a n cap] w1 fun e w' => e = .returned (numV (decide (valN s n o < 0)) a' (lenB (valN s n o).natAbs) cap') ∧ Below w1.heap.size w1 w' := by
  by_cases hk : okN s n o
  · obtain ⟨f1, f2, f3⟩ := of_facts s n o hk h.rng
    rw [f1, f2]
    refine ⟨a, cap, h.congr f3, Nat.le_refl _, hcap, fun w1 hb1 => ?_⟩
    have C := Lib.hid (fun (w2 : World) (hw : Below w1.heap.size w1 w2) => rcheck_any s a n cap o w2 (h.below (hb1.trans (hw.mono hb1.size))) hn)
    rw [decide_eq_true hk] at C
    clear h f1 f2 f3 hk hb1
    go_enter Tryz.func100, Tryz.ntmps100
    go_wp2_with fail
    refine (C.out _ ?_).mono ?_
    · (repeat' (first | (with_reducible exact Below.refl _ _) | (with_reducible assumption) | (with_reducible refine Below.alloc ?_ ?_ _) | (with_reducible refine Below.drew ?_) | (with_reducible refine bdrewN ?_ _) | (with_reducible refine Below.setCell ?_ ?_ _) | (with_reducible refine Below.frame ?_ _) | go_size))
    rintro e w2 ⟨rfl, hb2⟩
    have B1 := ((Bx.new w1 24 (.bool s) (.slice a n cap)).alloc (.cells #[.bool false, .slice none 0 0] 24)).below hb2 (by simp; omega)
    have B2 := (Bx.new2 w1 (.cells #[.bool s, .slice a n cap] 24) 24 (.bool false) (.slice none 0 0)).below hb2 (by simp)
    have hb0 : Below w1.heap.size w1 w2 := ((Below.refl _ _).alloc (Nat.le_refl _) _ |>.alloc (by go_size) _).trans (hb2.mono (by go_size))
    obtain ⟨b10, b11, b12, b13⟩ := B1.all
    obtain ⟨b20, b21, b22, b23⟩ := B2.all
    have HB := Lib.hid B2
    clear hb2 B1 B2
    go_wp2
    refine bodyPost_ret (results_cell rfl _ _ _ _ _ _ _ rfl (HB.out.set _ _) Tryz.underlying24 rfl (by kernel_rfl)) rfl ⟨rfl, ?_⟩
    (repeat' (first | (with_reducible exact Below.refl _ _) | (with_reducible assumption) | (with_reducible refine Below.alloc ?_ ?_ _) | (with_reducible refine Below.drew ?_) | (with_reducible refine bdrewN ?_ _) | (with_reducible refine Below.setCell ?_ ?_ _) | (with_reducible refine Below.frame ?_ _) | go_size))
  · rw [show valN s n o = 0 from valN_not hk]
    rw [show (Int.natAbs 0) = 0 from rfl, lenB_zero, show decide ((0 : Int) < 0) = false from rfl]
    refine ⟨none, 0, Rd.nil _ _ _, Nat.zero_le _, Nat.le_refl _, fun w1 hb1 => ?_⟩
    have C := Lib.hid (fun (w2 : World) (hw : Below w1.heap.size w1 w2) => rcheck_any s a n cap o w2 (h.below (hb1.trans (hw.mono hb1.size))) hn)
    rw [decide_eq_false hk] at C
    clear h hk hb1
    go_enter Tryz.func100, Tryz.ntmps100
    go_wp2_with fail
    refine (C.out _ ?_).mono ?_
    · (repeat' (first | (with_reducible exact Below.refl _ _) | (with_reducible assumption) | (with_reducible refine Below.alloc ?_ ?_ _) | (with_reducible refine Below.drew ?_) | (with_reducible refine bdrewN ?_ _) | (with_reducible refine Below.setCell ?_ ?_ _) | (with_reducible refine Below.frame ?_ _) | go_size))
    rintro e w2 ⟨rfl, hb2⟩
    have B2 := (Bx.new2 w1 (.cells #[.bool s, .slice a n cap] 24) 24 (.bool false) (.slice none 0 0)).below hb2 (by simp)
    have hb0 : Below w1.heap.size w1 w2 := ((Below.refl _ _).alloc (Nat.le_refl _) _ |>.alloc (by go_size) _).trans (hb2.mono (by go_size))
    obtain ⟨b20, b21, b22, b23⟩ := B2.all
    have HB := Lib.hid B2
    clear hb2 B2
    go_wp2
    refine bodyPost_ret (results_cell rfl _ _ _ _ _ _ _ rfl (HB.out.set _ _) Tryz.underlying24 rfl (by kernel_rfl)) rfl ⟨rfl, ?_⟩
    (repeat' (first | (with_reducible exact Below.refl _ _) | (with_reducible assumption) | (with_reducible refine Below.alloc ?_ ?_ _) | (with_reducible refine Below.drew ?_) | (with_reducible refine bdrewN ?_ _) | (with_reducible refine Below.setCell ?_ ?_ _) | (with_reducible refine Below.frame ?_ _) | go_size))
end Go.Proofs.YtaagegcidbgjmaaGreatDoor.Limb
namespace Go.Proofs.YtaagegcidbgjmaaGreatDoor.Limb
open Go.RowKit Go.Sort Go.Fresh

theorem rows_upd {w : World} {g n j : Nat} {p : Nat → Int} (h : w.rowIs g 74 n (uc p)) (v : Int) : (w.setCell ⟨g, j, none⟩ (.int .u32 v)).rowIs g 74 n (uc (upd p j v)) :=
  (h.set j (.int .u32 v)).congr fun i hi => by
    by_cases e : i = j
    · subst e; rw [if_pos rfl]; show _ = Value.int .u32 (upd p i v i); rw [upd_same]
    · rw [if_neg e]; show Value.int .u32 (p i) = Value.int .u32 (upd p j v i); rw [upd_ne p v e]
theorem mul_sign (z1 z2 : Int) : ((!(decide (z1 < 0) == decide (z2 < 0))) && decide (0 < lenB (z1 * z2).natAbs)) = decide (z1 * z2 < 0) := by
  have e0 := pos_len (z := z1 * z2)
  rcases Int.lt_trichotomy z1 0 with h1 | h1 | h1
  · rcases Int.lt_trichotomy z2 0 with h2 | h2 | h2
    · have := Int.mul_pos_of_neg_of_neg h1 h2
      simp [h1, h2]; omega
    · subst h2; simp [h1, lenB_zero]
    · have := Int.mul_neg_of_neg_of_pos h1 h2
      have h3 : ¬ z2 < 0 := by omega
      simp only [h1, h3, decide_true, decide_false, Bool.true_beq, Bool.not_false, Bool.true_and]
      exact decide_eq_decide.2 (e0.trans (by omega))
  · subst h1; simp [lenB_zero]
  · rcases Int.lt_trichotomy z2 0 with h2 | h2 | h2
    · have := Int.mul_neg_of_pos_of_neg h1 h2
      have h3 : ¬ z1 < 0 := by omega
      simp only [h2, h3, decide_true, decide_false, Bool.false_beq, Bool.not_true, Bool.not_false, Bool.true_and]
      exact decide_eq_decide.2 (e0.trans (by omega))
    · subst h2; simp [lenB_zero]
    · have := Int.mul_pos h1 h2
      have h3 : ¬ z1 < 0 := by omega
      have h4 : ¬ z2 < 0 := by omega
      simp [h3, h4]; omega

set_option maxHeartbeats 2000000 in
theorem mul_any (s1 : Bool) (a1 : Option Addr) (n1 c1 : Nat) (o1 : Nat → Int) (s2 : Bool) (a2 : Option Addr) (n2 c2 : Nat) (o2 : Nat → Int) (w : World)
    (h1 : Rd w a1 n1 o1) (hn1 : n1 ≤ 100000000) (hc1 : n1 ≤ c1) (h2 : Rd w a2 n2 o2) (hn2 : n2 ≤ 100000000) (hc2 : n2 ≤ c2) :
    Calls Tryz.prog 85 #[numV s1 a1 n1 c1, numV s2 a2 n2 c2] w (ResN w (valN s1 n1 o1 * valN s2 n2 o2)) := by
  obtain ⟨x1, d1, r1, l1, m1, O1⟩ := of_any s1 a1 n1 c1 o1 w h1 (by omega) hc1
  obtain ⟨x2, d2, r2, l2, m2, O2⟩ := of_any s2 a2 n2 c2 o2 w h2 (by omega) hc2
  generalize valN s1 n1 o1 = z1 at r1 l1 m1 O1 ⊢
  have HO1 := Lib.hid O1; clear O1
  generalize valN s2 n2 o2 = z2 at r2 l2 m2 O2 ⊢
  have HO2 := Lib.hid O2; clear O2
  have B1 := (((Bx.new w 24 (.bool s1) (.slice a1 n1 c1)).alloc (.cells #[.bool s2, .slice a2 n2 c2] 24)).alloc (.cells #[.bool false, .slice none 0 0] 24))
  have B2 := ((Bx.new2 w (.cells #[.bool s1, .slice a1 n1 c1] 24) 24 (.bool s2) (.slice a2 n2 c2)).alloc (.cells #[.bool false, .slice none 0 0] 24))
  have B3 := (Bx.new3 w (.cells #[.bool s1, .slice a1 n1 c1] 24) (.cells #[.bool s2, .slice a2 n2 c2] 24) 24 (.bool false) (.slice none 0 0))
  go_enter Tryz.func85, Tryz.ntmps85
  go_upto_region 1 with (fail)
  obtain ⟨W, hW⟩ : ∃ W, W = (((w.alloc (.cells #[.bool s1, .slice a1 n1 c1] 24)).alloc (.cells #[.bool s2, .slice a2 n2 c2] 24)).alloc (.cells #[.bool false, .slice none 0 0] 24)) := ⟨_, rfl⟩
  have G1 := Lib.hid (((Below.refl _ _).alloc (by go_size) _ |>.alloc (by go_size) _ |>.alloc (by go_size) _) : Below w.heap.size w (((w.alloc (.cells #[.bool s1, .slice a1 n1 c1] 24)).alloc (.cells #[.bool s2, .slice a2 n2 c2] 24)).alloc (.cells #[.bool false, .slice none 0 0] 24)))
  rw [← hW] at B1 B2 B3 G1
  rw [show (((w.alloc (.cells #[.bool s1, .slice a1 n1 c1] 24)).alloc (.cells #[.bool s2, .slice a2 n2 c2] 24)).alloc (.cells #[.bool false, .slice none 0 0] 24)) = W from hW.symm]
  clear hW
  go_cut [] (fun wx => Bx wx w.heap.size 24 (.bool (decide (z1 < 0))) (.slice x1 (lenB z1.natAbs) d1) ∧ Bx wx (w.heap.size + 1) 24 (.bool (decide (z2 < 0))) (.slice x2 (lenB z2.natAbs) d2) ∧
    Bx wx (w.heap.size + 1 + 1) 24 (.bool false) (.slice none 0 0) ∧ Below w.heap.size w wx)
  case first =>
    have HS1 := Lib.hid (fun (w' : World) (hb : Below W.heap.size W w') => And.intro (B1.below hb B1.lt).c0 (B1.below hb B1.lt).c1)
    have HS2 := Lib.hid (fun (w' : World) (hb : Below W.heap.size W w') => And.intro (B2.below hb B2.lt).c0 (B2.below hb B2.lt).c1)
    have HB1 := Lib.hid B1; have HB2 := Lib.hid B2; have HB3 := Lib.hid B3
    clear B1 B2 B3
    refine wp_region_fresh 4 (spOf [(1, Sp.know (numV (decide (z1 < 0)) x1 (lenB z1.natAbs) d1)), (3, Sp.know (numV (decide (z2 < 0)) x2 (lenB z2.natAbs) d2))]) (fun w' => Below W.heap.size W w') (by kernel_rfl) (by kernel_rfl)
      (spOf_cons (Sp.know_keeps _) (spOf_cons (Sp.know_keeps _) spOf_nil)) (fun _ _ h hb => h.trans (hb.mono h.size)) ((Below.refl _ _).drew) ?_
    simp only [List.take_succ_cons, List.take_zero, List.drop_succ_cons, List.drop_zero]
    (refine wpF_reads rfl rfl ?_ (fun w' hw' => ?_) ?_; rotate_left; · (have hb' := Has.world hw'; (have hs := HS1.out _ hb'); clear hw'; go_simp; try rfl))
    (refine wpF_spec rfl rfl (fun w' hw' => ?_) ?_; · (have hb' := Has.world hw'; go_simp; ((refine (HO1.out w' (G1.out.trans (hb'.mono G1.out.size))).mono ?_; rintro e w'' ⟨rfl, hb⟩; exact ⟨_, rfl, rfl, hb⟩))))
    rintro _ rfl
    (refine wpF_reads rfl rfl ?_ (fun w' hw' => ?_) ?_; rotate_left; · (have hb' := Has.world hw'; (have hs := HS2.out _ hb'); clear hw'; go_simp; try rfl))
    (refine wpF_spec rfl rfl (fun w' hw' => ?_) ?_; · (have hb' := Has.world hw'; go_simp; ((refine (HO2.out w' (G1.out.trans (hb'.mono G1.out.size))).mono ?_; rintro e w'' ⟨rfl, hb⟩; exact ⟨_, rfl, rfl, hb⟩))))
    rintro _ rfl
    refine wpF_nil (fun w1 hb1 hF => ?_)
    clear hF
    have C1 := HB1.out.below hb1 HB1.out.lt
    have C2 := HB2.out.below hb1 HB2.out.lt
    have C3 := HB3.out.below hb1 HB3.out.lt
    have G2 := G1.out.trans (hb1.mono G1.out.size)
    have K1 := Lib.hid C1; have K2 := Lib.hid C2; have K3 := Lib.hid C3
    obtain ⟨b10, b11, b12, b13⟩ := C1.all
    obtain ⟨b20, b21, b22, b23⟩ := C2.all
    have KG := Lib.hid G2
    clear C1 C2 C3 hb1 HS1 HS2 G2
    go_wp2_with fail
    go_meet
    case rel =>
      exact ⟨((K1.out.set _ _).other (by dsimp only; omega) _).other (by dsimp only; omega) _, ((K2.out.other (by dsimp only; omega) _).other (by dsimp only; omega) _).set _ _, (((K3.out.other (by dsimp only; omega) _).other (by dsimp only; omega) _).other (by dsimp only; omega) _).other (by dsimp only; omega) _,
        (((KG.out.setCell (by simp) _).setCell (by simp) _).setCell (by simp) _).setCell (by simp) _⟩
  case rest =>
    obtain ⟨B1, B2, B3, G1⟩ := hcut
    obtain ⟨w1, rfl⟩ : ∃ w1, w1 = wc := ⟨_, rfl⟩
    have HR1 := Lib.hid r1
    have HR2 := Lib.hid r2
    have KG := Lib.hid G1
    have K1 := Lib.hid B1; have K2 := Lib.hid B2; have K3 := Lib.hid B3
    obtain ⟨b10, b11, b12, b13⟩ := B1.all
    obtain ⟨b20, b21, b22, b23⟩ := B2.all
    obtain ⟨n, hn⟩ : ∃ n, n = lenB z1.natAbs + lenB z2.natAbs := ⟨_, rfl⟩
    have HN := Lib.hid hn
    have hnb : n ≤ 200000000 := by omega
    have ew : ((lenB z1.natAbs : Nat) : Int) + ((lenB z2.natAbs : Nat) : Int) = (n : Int) := by omega
    have hmk := run_make_row' (P := Tryz.prog) 22 74 (.int .u32 0) 4 Tryz.underlying22 info32 rfl .i64 .i64 n (by omega) (by omega)
    clear B1 B2 B3 G1 r1 r2 h1 h2 HO1 HO2 hn
    obtain ⟨X, hX⟩ : ∃ X, X = lenB z1.natAbs := ⟨_, rfl⟩
    obtain ⟨Y, hY⟩ : ∃ Y, Y = lenB z2.natAbs := ⟨_, rfl⟩
    rw [← hX] at b11 HR1 ew l1 m1 HN
    rw [← hY] at b21 HR2 ew l2 m2 HN
    have HX := Lib.hid hX; have HY := Lib.hid hY
    have hz1 := K3.out.lt
    clear hX hY
    obtain ⟨fx, hfx⟩ : ∃ fx, fx = dgi z1.natAbs := ⟨_, rfl⟩
    obtain ⟨fy, hfy⟩ : ∃ fy, fy = dgi z2.natAbs := ⟨_, rfl⟩
    have DX := Lib.hid (show Dig fx X by rw [hfx]; exact dgi_Dig _ _)
    have DY := Lib.hid (show Dig fy Y by rw [hfy]; exact dgi_Dig _ _)
    have SX := Lib.hid (show sumB fx X = z1.natAbs by rw [hfx, HX.out]; exact sumB_dgi _)
    have SY := Lib.hid (show sumB fy Y = z2.natAbs by rw [hfy, HY.out]; exact sumB_dgi _)
    rw [← hfx] at HR1
    rw [← hfy] at HR2
    clear hfx hfy
    go_wp2_with fail
    go_loopw [26] (fun i wr => ∃ k : Nat, k ≤ X ∧ i = .int .i64 k ∧ (∃ o, MulRow fx fy Y n k o ∧ wr.rowIs w1.heap.size 74 n (uc o)) ∧
      Bx wr w.heap.size 24 (.bool (decide (z1 < 0))) (.slice x1 X d1) ∧ Bx wr (w.heap.size + 1) 24 (.bool (decide (z2 < 0))) (.slice x2 Y d2) ∧
      Bx wr (w.heap.size + 1 + 1) 24 (.bool false) (.slice none 0 0) ∧ Below w.heap.size w wr) (fun i _ => X - (intOf i).toNat)
    case atStart =>
      exact ⟨0, by omega, rfl, ⟨_, MulRow.start _ _ _ _, World.rowIs_made w1 (.int .u32 0) n 74⟩, (HX.out ▸ K1.out).alloc _, (HY.out ▸ K2.out).alloc _, K3.out.alloc _, KG.out.alloc KG.out.size _⟩
    case round =>
      obtain ⟨k, hk, rfl, ⟨o, hM, hR⟩, B1, B2, B3, G⟩ := hrel
      have KM := Lib.hid hM; have KR := Lib.hid hR; have KG1 := Lib.hid G
      have J1 := Lib.hid B1; have J2 := Lib.hid B2; have J3 := Lib.hid B3
      obtain ⟨b20, b21, b22, b23⟩ := B2.all
      obtain ⟨b10, b11, b12, b13⟩ := B1.all
      clear hM hR G B1 B2 B3 hmk
      by_cases hkX : k < X
      · obtain ⟨pb, po, rfl, hc⟩ := (HR1.out.below KG1.out).cells (by omega)
        have c1 := hc k hkX
        clear hc
        go_wp2_with fail
        go_loopw [8, 34] (fun on i wr2 => ∃ j : Nat, j ≤ Y ∧ i = .int .i64 j ∧ (∃ p v, on = .int .u64 v ∧ MulIn fx fy Y n k j p v ∧ wr2.rowIs w1.heap.size 74 n (uc p)) ∧
          Bx wr2 w.heap.size 24 (.bool (decide (z1 < 0))) (.slice (some ⟨pb, po, none⟩) X d1) ∧ Bx wr2 (w.heap.size + 1) 24 (.bool (decide (z2 < 0))) (.slice x2 Y d2) ∧
          Bx wr2 (w.heap.size + 1 + 1) 24 (.bool false) (.slice none 0 0) ∧ Below w.heap.size w wr2) (fun _ i _ => Y - (intOf i).toNat)
        case atStart => exact ⟨0, by omega, rfl, ⟨_, _, rfl, KM.out.inner, KR.out⟩, J1.out, J2.out, J3.out, KG1.out⟩
        case round =>
          obtain ⟨j, hj, rfl, ⟨p, v, rfl, hI, hR⟩, B1, B2, B3, G⟩ := hrel
          have LM := Lib.hid hI; have LR := Lib.hid hR; have LG := Lib.hid G
          have L1 := Lib.hid B1; have L2 := Lib.hid B2; have L3 := Lib.hid B3
          clear b10 b11 b12 b13 b20 b21 b22 b23 c1
          obtain ⟨b20, b21, b22, b23⟩ := B2.all
          have hfz := hR.frozen
          clear hI hR G B1 B2 B3
          by_cases hjY : j < Y
          · obtain ⟨qb, qo, rfl, hc⟩ := (HR2.out.below LG.out).cells (by omega)
            have c2 : wr.cell? ⟨qb, qo + j, none⟩ = some (.int .u32 (fy j)) := hc j hjY
            have c3 : wr.cell? ⟨w1.heap.size, k + j, none⟩ = some (.int .u32 (p (k + j))) := LR.out.cell (i := k + j) (by have := HN.out; omega)
            have hx := DX.out k hkX
            have hy := DY.out j hjY
            obtain ⟨hT, hS⟩ := LM.out.step hx hy hjY (by have := HN.out; omega)
            have hpd := LM.out.dig (k + j) (by have := HN.out; omega)
            have hon := LM.out.on0
            have hb := mul_bd hx hy
            have hkn : k + j < n := by have := HN.out; omega
            have HSt := Lib.hid hS
            have w1' := IntWalk.u64_in (fx k) (by omega)
            have w2' := IntWalk.u64_in (fy j) (by omega)
            have w3' := IntWalk.u64_in (p (k + j)) (by omega)
            have w4' := IntWalk.u64_in (fx k * fy j) (by omega)
            have w5' := IntWalk.u64_in (fx k * fy j + p (k + j)) (by omega)
            have w6' := IntWalk.u64_in (v + (fx k * fy j + p (k + j))) (by omega)
            have t1 : (v + (fx k * fy j + p (k + j))).tmod 1000000000 = (v + (fx k * fy j + p (k + j))) % 1000000000 := Int.tmod_eq_emod_of_nonneg hT.1
            have t2 : (v + (fx k * fy j + p (k + j))).tdiv 1000000000 = (v + (fx k * fy j + p (k + j))) / 1000000000 := Int.tdiv_eq_ediv_of_nonneg hT.1
            have w7' := IntWalk.u32_in ((v + (fx k * fy j + p (k + j))) % 1000000000) (by omega)
            have w8' := IntWalk.u64_in ((v + (fx k * fy j + p (k + j))) / 1000000000) (by omega)
            clear hc hS hT hpd hon hb hx hy
            dsimp only [uc]
            go_wp2_with fail
            go_roundw
            case rel => exact ⟨j + 1, by omega, by go_num, ⟨_, _, rfl, HSt.out, rows_upd LR.out _⟩, L1.out.other (by dsimp only; omega) _, L2.out.other (by dsimp only; omega) _, L3.out.other (by dsimp only; omega) _, LG.out.setCell (by dsimp only; omega) _⟩
            case measure => simp [intOf]; omega
          · obtain rfl : j = Y := by omega
            obtain ⟨vo, hco⟩ : ∃ vo, wr.cell? ⟨w1.heap.size, k + j, none⟩ = some vo := ⟨_, LR.out.cell (i := k + j) (by have := HN.out; omega)⟩
            have hkn : k + j < n := by have := HN.out; omega
            have hon := LM.out.on0
            have w7' := IntWalk.u32_in v (by omega)
            have HSt := Lib.hid (LM.out.row hkn)
            go_wp2_with fail
            go_roundw
            case rel => exact ⟨k + 1, by omega, by go_num, ⟨_, HSt.out, rows_upd LR.out _⟩, L1.out.other (by dsimp only; omega) _, L2.out.other (by dsimp only; omega) _, L3.out.other (by dsimp only; omega) _, LG.out.setCell (by dsimp only; omega) _⟩
            case measure => simp [intOf]; omega
      · obtain rfl : k = X := by omega
        have hM := KM.out
        have hR := KR.out
        have ht : (sumB o n).toNat = (z1 * z2).natAbs := by
          rw [hM.sum, SX.out, SY.out, Int.natAbs_mul, ← Int.natCast_mul, Int.toNat_natCast]
        have OW := Lib.hid (Own.of_rowIs hR (Nat.le_refl _) (fun i hi => by have := hM.dig i hi; omega))
        have C := cut_any (!(decide (z1 < 0) == decide (z2 < 0))) (some ⟨w1.heap.size, 0, none⟩) n n o wr OW.out.rd hM.dig (by omega) (Nat.le_refl _) (fun h => by cases h)
        have hL := lenB_le_of hM.dig
        have hD := fun i hi => dg_sumB hM.dig i hi
        rw [ht, mul_sign] at C
        rw [ht] at hL hD
        obtain ⟨sB, hsB⟩ : ∃ sB, sB = decide (z1 * z2 < 0) := ⟨_, rfl⟩
        obtain ⟨L, hLL⟩ : ∃ L, L = lenB (z1 * z2).natAbs := ⟨_, rfl⟩
        rw [← hsB, ← hLL] at C
        rw [← hLL] at hL
        have HC := Lib.hid C; have HL := Lib.hid hL; have HD := Lib.hid hD; have HSB := Lib.hid hsB; have HLL := Lib.hid hLL
        clear hM hR ht C hL hD hsB hLL
        go_wp2_with fail
        refine HC.out.mono ?_
        rintro e w2 ⟨rfl, hb2⟩
        have B3 := J3.out.below hb2 J3.out.lt
        have K5 := Lib.hid B3
        have O2 := Lib.hid ((OW.out.below hb2).cut HL.out (fun i hi => (HD.out i (by have := HL.out; omega)).symm))
        have G2 := Lib.hid (KG1.out.trans (hb2.mono KG1.out.size))
        have hz2 := KG.out.size
        obtain ⟨b30, b31, b32, b33⟩ := B3.all
        clear B3 hb2 b10 b11 b12 b13 b20 b21 b22 b23
        go_wp2_with fail
        unfold ResN
        rw [← HSB.out, ← HLL.out]
        refine bodyPost_ret (results_cell rfl _ _ _ _ _ _ _ rfl (K5.out.set _ _) Tryz.underlying24 rfl (by kernel_rfl)) rfl ⟨_, rfl, ?_, (fun h => by cases h), ?_⟩
        · exact ((O2.out.other (by dsimp only; omega) _).other (by dsimp only; omega) _).mono hz2
        · exact (G2.out.setCell (by dsimp only; omega) _).setCell (by dsimp only; omega) _
end Go.Proofs.YtaagegcidbgjmaaGreatDoor.Limb
namespace Go.Proofs.YtaagegcidbgjmaaGreatDoor.Limb
open Go.RowKit Go.Sort Go.Fresh

set_option maxHeartbeats 1000000 in
theorem order_any (x y : Nat) (a b : Option Addr) (ca cb : Nat) (w : World) (ha : Rd w a (lenB x) (dgi x)) (hb : Rd w b (lenB y) (dgi y)) (hx : lenB x ≤ 1000000000) (hy : lenB y ≤ 1000000000) :
    Calls Tryz.prog 141 #[.slice a (lenB x) ca, .slice b (lenB y) cb] w fun e w' => e = .returned (.int .i64 (cmpZ x y)) ∧ ∃ m, w' = w.drewN m := by
  obtain ⟨k0, hD⟩ := topDiff_any (dgi x) (dgi y) (lenB x)
  have TC := Lib.hid (fun (h : lenB x = lenB y) => by
    have hC := topDiff_cmp (dgi_Dig x _) (dgi_Dig y _) hD
    rw [sumB_dgi, show sumB (dgi y) (lenB x) = y by rw [h]; exact sumB_dgi y] at hC
    exact hC)
  have CL := Lib.hid (And.intro (fun (h : lenB x < lenB y) => (cmpZ_lt (by have := cmp_len h; omega) : cmpZ x y = -1)) (fun (h : lenB y < lenB x) => (cmpZ_gt (by have := cmp_len h; omega) : cmpZ x y = 1)))
  obtain ⟨hk0, heq, hne⟩ := hD
  have EQ := Lib.hid heq
  have NE := Lib.hid hne
  have HA := Lib.hid ha; have HB := Lib.hid hb
  clear heq hne ha hb
  obtain ⟨fx, hfx⟩ : ∃ fx, fx = dgi x := ⟨_, rfl⟩
  obtain ⟨fy, hfy⟩ : ∃ fy, fy = dgi y := ⟨_, rfl⟩
  rw [← hfx] at TC EQ NE HA
  rw [← hfy] at TC EQ NE HB
  clear hfx hfy
  generalize cmpZ (x : Int) (y : Int) = r at *
  generalize lenB x = X at *
  generalize lenB y = Y at *
  rcases Nat.lt_trichotomy X Y with h | h | h
  · have E := Lib.hid (CL.out.1 h)
    have hd : ((X : Int) == (Y : Int)) = false := by simp; omega
    go_enter Tryz.func141, Tryz.ntmps141
    go_wp2
    go_ret
    exact ⟨by rw [E.out]; rfl, 0, rfl⟩
  · subst h
    have E := Lib.hid (TC.out rfl)
    go_enter Tryz.func141, Tryz.ntmps141
    go_wp2_with fail
    go_loopw [5] (fun i wr => ∃ j : Nat, k0 ≤ j ∧ j ≤ X ∧ i = .int .i64 ((j : Int) - 1) ∧ ∃ m, wr = w.drewN m) (fun i _ => (1 + intOf i).toNat)
    case atStart => exact ⟨X, hk0, Nat.le_refl _, rfl, 0, rfl⟩
    case round =>
      obtain ⟨j, hj, hjn, rfl, m0, rfl⟩ := hrel
      by_cases hj0 : j = 0
      · subst hj0
        have Z := Lib.hid (show r = 0 by rw [E.out, if_pos (by omega)])
        rw [show (((0 : Nat) : Int) - 1) = -1 from rfl]
        go_wp2
        go_ret
        exact ⟨by rw [Z.out]; rfl, m0, rfl⟩
      · obtain ⟨q, rfl⟩ : ∃ q, j = q + 1 := ⟨j - 1, by omega⟩
        rw [show (((q + 1 : Nat) : Int) - 1) = (q : Int) by omega]
        obtain ⟨b1, o1, rfl, hc1⟩ := HA.out.cells (by omega)
        obtain ⟨b2, o2, rfl, hc2⟩ := HB.out.cells (by omega)
        have c1 : w.cell? ⟨b1, o1 + q, none⟩ = some (.int .u32 (fx q)) := hc1 q (by omega)
        have c2 : w.cell? ⟨b2, o2 + q, none⟩ = some (.int .u32 (fy q)) := hc2 q (by omega)
        have lx : q < X := by omega
        clear hc1 hc2
        rcases Int.lt_trichotomy (fx q) (fy q) with hlt | hlt | hlt
        · have hkq : k0 = q + 1 := by
            rcases Nat.lt_or_ge q k0 with h | h
            · omega
            · have := EQ.out q h lx; omega
          have Z := Lib.hid (show r = -1 by rw [E.out, if_neg (by omega), hkq]; exact cmpZ_lt hlt)
          have d1 : decide (fx q < fy q) = true := decide_eq_true hlt
          clear hkq
          go_wp2
          go_quiet (fail)
          go_wp2
          go_ret
          exact ⟨by rw [Z.out]; rfl, _, by rw [World.drewN_drewN]⟩
        · have hkq : k0 ≤ q := by
            rcases Nat.lt_or_ge q k0 with h | h
            · have h2 := NE.out (by omega)
              rw [show k0 - 1 = q by omega] at h2
              exact absurd hlt h2
            · exact h
          have d1 : decide (fx q < fy q) = false := decide_eq_false (by omega)
          have d2 : decide (fx q > fy q) = false := decide_eq_false (by omega)
          have d3 : decide (fy q < fx q) = false := decide_eq_false (by omega)
          have n1 : ¬ fx q < fy q := by omega
          have n2 : ¬ fy q < fx q := by omega
          clear hlt
          go_wp2
          go_quiet (fail)
          go_wp2
          go_quiet (fail)
          go_wp2
          go_roundw
          case rel => exact ⟨q, hkq, by omega, rfl, _, rfl⟩
          case measure => simp [intOf]; omega
        · have hkq : k0 = q + 1 := by
            rcases Nat.lt_or_ge q k0 with h | h
            · omega
            · have := EQ.out q h lx; omega
          have Z := Lib.hid (show r = 1 by rw [E.out, if_neg (by omega), hkq]; exact cmpZ_gt hlt)
          have n1 : ¬ fx q < fy q := by omega
          have d1 : decide (fx q < fy q) = false := decide_eq_false n1
          clear hkq
          go_wp2
          go_quiet (fail)
          go_wp2
          go_quiet (fail)
          go_wp2
          go_ret
          exact ⟨by rw [Z.out]; rfl, _, by rw [World.drewN_drewN, World.drewN_drewN]⟩
  · have E := Lib.hid (CL.out.2 h)
    have hd : ((X : Int) == (Y : Int)) = false := by simp; omega
    go_enter Tryz.func141, Tryz.ntmps141
    go_wp2
    go_ret
    exact ⟨by rw [E.out]; rfl, 0, rfl⟩

set_option maxHeartbeats 1000000 in
theorem num_any (s : Bool) (a : Option Addr) (n cap : Nat) (o : Nat → Int) (w : World) (h : Rd w a n o) (hd : Dig o n) (hn : n ≤ 1000000000) (hcap : n ≤ cap) :
    Calls Tryz.prog 108 #[.bool s, .slice a n cap] w fun e w' => e = .returned (numV (s && decide (0 < lenB (sumB o n).toNat)) a (lenB (sumB o n).toNat) cap) ∧ Below w.heap.size w w' := by
  have HL := Lib.hid (lenB_le_of hd)
  have HZ := Lib.hid (fun i => cut_zero (i := i) hd)
  have HT := Lib.hid (cut_last hd)
  generalize lenB (sumB o n).toNat = L at HL HZ HT ⊢
  have HR := Lib.hid h
  clear hd h
  have B0 := Lib.hid (Bx.new w 24 (.bool false) (.slice none 0 0))
  go_enter Tryz.func108, Tryz.ntmps108
  go_wp2_with fail
  go_loopw [1] (fun v wr => ∃ j : Nat, L ≤ j ∧ j ≤ n ∧ v = .slice a j cap ∧ ∃ m, wr = (w.alloc (.cells #[.bool false, .slice none 0 0] 24)).drewN m) (fun v _ => match v with | .slice _ j _ => j | _ => 0)
  case atStart => exact ⟨n, HL.out, Nat.le_refl _, rfl, 0, rfl⟩
  case round =>
    obtain ⟨j, hj, hjn, rfl, m0, rfl⟩ := hrel
    have B1 := B0.out.drewN m0
    obtain ⟨b10, b11, b12, b13⟩ := B1.all
    have KB := Lib.hid B1
    clear B1
    by_cases hj0 : j = 0
    · obtain rfl : L = 0 := by omega
      subst hj0
      cases s with
      | false =>
        go_wp2
        all_goals
          refine bodyPost_ret (results_cell rfl _ _ _ _ _ _ _ rfl (KB.out.set _ _) Tryz.underlying24 rfl (by kernel_rfl)) rfl ⟨rfl, ?_⟩
          (repeat' (first | (with_reducible exact Below.refl _ _) | (with_reducible assumption) | (with_reducible refine Below.alloc ?_ ?_ _) | (with_reducible refine Below.drew ?_) | (with_reducible refine bdrewN ?_ _) | (with_reducible refine Below.setCell ?_ ?_ _) | (with_reducible refine Below.frame ?_ _) | go_size))
      | true =>
        go_wp2
        all_goals
          refine bodyPost_ret (results_cell rfl _ _ _ _ _ _ _ rfl (KB.out.set _ _) Tryz.underlying24 rfl (by kernel_rfl)) rfl ⟨rfl, ?_⟩
          (repeat' (first | (with_reducible exact Below.refl _ _) | (with_reducible assumption) | (with_reducible refine Below.alloc ?_ ?_ _) | (with_reducible refine Below.drew ?_) | (with_reducible refine bdrewN ?_ _) | (with_reducible refine Below.setCell ?_ ?_ _) | (with_reducible refine Below.frame ?_ _) | go_size))
    · obtain ⟨q, rfl⟩ : ∃ q, j = q + 1 := ⟨j - 1, by omega⟩
      obtain ⟨b, off, rfl, hc⟩ := HR.out.cells (by omega)
      have c1 : w.cell? ⟨b, off + q, none⟩ = some (.int .u32 (o q)) := hc q (by omega)
      have hb : b < w.heap.size := block_lt_of_cell c1
      have ex : ((q + 1 : Nat) : Int) - 1 = (q : Int) := by omega
      have hq : ((q + 1 : Nat) : Int) > 0 := by omega
      clear hc
      by_cases hjL : q + 1 = L
      · subst hjL
        have hz : o q ≠ 0 := HT.out (by omega)
        have hzb : (o q == 0) = false := by simpa using hz
        have D := Lib.hid (show decide (0 < q + 1) = true by simp)
        cases s with
        | false =>
          go_wp2
          all_goals
            refine bodyPost_ret (results_cell rfl _ _ _ _ _ _ _ rfl (KB.out.set _ _) Tryz.underlying24 rfl (by kernel_rfl)) rfl ⟨rfl, ?_⟩
            (repeat' (first | (with_reducible exact Below.refl _ _) | (with_reducible assumption) | (with_reducible refine Below.alloc ?_ ?_ _) | (with_reducible refine Below.drew ?_) | (with_reducible refine bdrewN ?_ _) | (with_reducible refine Below.setCell ?_ ?_ _) | (with_reducible refine Below.frame ?_ _) | go_size))
        | true =>
          go_wp2
          all_goals
            refine bodyPost_ret (results_cell rfl _ _ _ _ _ _ _ rfl (KB.out.set _ _) Tryz.underlying24 rfl (by kernel_rfl)) rfl ⟨by rw [D.out]; rfl, ?_⟩
            (repeat' (first | (with_reducible exact Below.refl _ _) | (with_reducible assumption) | (with_reducible refine Below.alloc ?_ ?_ _) | (with_reducible refine Below.drew ?_) | (with_reducible refine bdrewN ?_ _) | (with_reducible refine Below.setCell ?_ ?_ _) | (with_reducible refine Below.frame ?_ _) | go_size))
      · have hz := HZ.out q (by omega) (by omega)
        go_wp2
        go_roundw
        case rel => exact ⟨q, by omega, by omega, rfl, m0, rfl⟩
        case measure => simp
end Go.Proofs.YtaagegcidbgjmaaGreatDoor.Limb
namespace Go.Proofs.YtaagegcidbgjmaaGreatDoor.Limb
open Go.RowKit Go.Sort Go.Fresh

set_option maxHeartbeats 2000000 in
theorem times_any (x y : Option Addr) (X Y cx cy : Nat) (fx fy : Nat → Int) (w : World) (hx : Rd w x X fx) (hy : Rd w y Y fy) (dx : Dig fx X) (dy : Dig fy Y) (hX : X ≤ 100000000) (hY : Y ≤ 100000000) :
    Calls Tryz.prog 140 #[.slice x X cx, .slice y Y cy] w fun e w' => ∃ o, e = .returned (.slice (some ⟨w.heap.size, 0, none⟩) (X + Y) (X + Y)) ∧ Dig o (X + Y) ∧ sumB o (X + Y) = sumB fx X * sumB fy Y ∧
      Own 74 w' w.heap.size (some ⟨w.heap.size, 0, none⟩) (X + Y) (X + Y) o ∧ Below w.heap.size w w' := by
  obtain ⟨n, hn⟩ : ∃ n, n = X + Y := ⟨_, rfl⟩
  rw [← hn]
  have HN := Lib.hid hn
  have hnb : n ≤ 200000000 := by omega
  have ew : (X : Int) + (Y : Int) = (n : Int) := by omega
  have hmk := run_make_row' (P := Tryz.prog) 22 74 (.int .u32 0) 4 Tryz.underlying22 info32 rfl .i64 .i64 n (by omega) (by omega)
  have HR1 := Lib.hid hx; have HR2 := Lib.hid hy; have DX := Lib.hid dx; have DY := Lib.hid dy
  clear hx hy dx dy hn
  go_enter Tryz.func140, Tryz.ntmps140
  go_wp2_with fail
  go_loopw [6] (fun i wr => ∃ k : Nat, k ≤ X ∧ i = .int .i64 k ∧ (∃ o, MulRow fx fy Y n k o ∧ wr.rowIs w.heap.size 74 n (uc o)) ∧ Below w.heap.size w wr) (fun i _ => X - (intOf i).toNat)
  case atStart => exact ⟨0, by omega, rfl, ⟨_, MulRow.start _ _ _ _, World.rowIs_made w (.int .u32 0) n 74⟩, by (repeat' (first | (with_reducible exact Below.refl _ _) | (with_reducible assumption) | (with_reducible refine Below.alloc ?_ ?_ _) | (with_reducible refine Below.drew ?_) | (with_reducible refine bdrewN ?_ _) | (with_reducible refine Below.setCell ?_ ?_ _) | (with_reducible refine Below.frame ?_ _) | go_size))⟩
  case round =>
    obtain ⟨k, hk, rfl, ⟨o, hM, hR⟩, G⟩ := hrel
    have KM := Lib.hid hM; have KR := Lib.hid hR; have KG1 := Lib.hid G
    clear hM hR G hmk
    by_cases hkX : k < X
    · obtain ⟨pb, po, rfl, _⟩ := (HR1.out.below KG1.out).cells (by omega)
      go_wp2_with fail
      go_loopw [7, 8] (fun on i wr2 => ∃ j : Nat, j ≤ Y ∧ i = .int .i64 j ∧ (∃ p v, on = .int .u64 v ∧ MulIn fx fy Y n k j p v ∧ wr2.rowIs w.heap.size 74 n (uc p)) ∧ Below w.heap.size w wr2) (fun _ i _ => Y - (intOf i).toNat)
      case atStart => exact ⟨0, by omega, rfl, ⟨_, _, rfl, KM.out.inner, KR.out⟩, KG1.out⟩
      case round =>
        obtain ⟨j, hj, rfl, ⟨p, v, rfl, hI, hR⟩, G⟩ := hrel
        have LM := Lib.hid hI; have LR := Lib.hid hR; have LG := Lib.hid G
        have hfz := hR.frozen
        clear hI hR G
        by_cases hjY : j < Y
        · obtain ⟨qb, qo, rfl, hc⟩ := (HR2.out.below LG.out).cells (by omega)
          have c2 : wr.cell? ⟨qb, qo + j, none⟩ = some (.int .u32 (fy j)) := hc j hjY
          obtain ⟨pb', po', e', hc1⟩ := (HR1.out.below LG.out).cells (by omega)
          cases e'
          have c1 : wr.cell? ⟨pb, po + k, none⟩ = some (.int .u32 (fx k)) := hc1 k hkX
          have hkn : k + j < n := by have := HN.out; omega
          have c3 : wr.cell? ⟨w.heap.size, k + j, none⟩ = some (.int .u32 (p (k + j))) := LR.out.cell (i := k + j) hkn
          have hx := DX.out k hkX
          have hy := DY.out j hjY
          obtain ⟨hT, hS⟩ := LM.out.step hx hy hjY (by have := HN.out; omega)
          rw [← Int.add_assoc] at hT hS
          have hpd := LM.out.dig (k + j) hkn
          have hon := LM.out.on0
          have hb := mul_bd hx hy
          have HSt := Lib.hid hS
          have w1' := IntWalk.u64_in (fx k) (by omega)
          have w2' := IntWalk.u64_in (fy j) (by omega)
          have w3' := IntWalk.u64_in (p (k + j)) (by omega)
          have w4' := IntWalk.u64_in (fx k * fy j) (by omega)
          have w5' := IntWalk.u64_in (v + fx k * fy j) (by omega)
          have w6' := IntWalk.u64_in (v + fx k * fy j + p (k + j)) (by omega)
          have t1 : (v + fx k * fy j + p (k + j)).tmod 1000000000 = (v + fx k * fy j + p (k + j)) % 1000000000 := Int.tmod_eq_emod_of_nonneg hT.1
          have t2 : (v + fx k * fy j + p (k + j)).tdiv 1000000000 = (v + fx k * fy j + p (k + j)) / 1000000000 := Int.tdiv_eq_ediv_of_nonneg hT.1
          have w7' := IntWalk.u32_in ((v + fx k * fy j + p (k + j)) % 1000000000) (by omega)
          have w8' := IntWalk.u64_in ((v + fx k * fy j + p (k + j)) / 1000000000) (by omega)
          have w9' := IntWalk.i64_in ((k : Int) + (j : Int)) (by omega)
          clear hc hc1 hS hT hpd hon hb hx hy
          go_wp2_with fail
          go_quiet (fail)
          go_wp2_with fail
          go_roundw
          case rel => exact ⟨j + 1, by omega, by go_num, ⟨_, _, rfl, HSt.out, rows_upd (w := wr.drewN nq) LR.out _⟩, (bdrewN LG.out nq).setCell (by dsimp only; omega) _⟩
          case measure => simp [intOf]; omega
        · obtain rfl : j = Y := by omega
          have hkn : k + j < n := by have := HN.out; omega
          obtain ⟨vo, hco⟩ : ∃ vo, wr.cell? ⟨w.heap.size, k + j, none⟩ = some vo := ⟨_, LR.out.cell (i := k + j) hkn⟩
          have hon := LM.out.on0
          have w7' := IntWalk.u32_in v (by omega)
          have HSt := Lib.hid (LM.out.row hkn)
          go_wp2_with fail
          go_roundw
          case rel => exact ⟨k + 1, by omega, by go_num, ⟨_, HSt.out, rows_upd LR.out _⟩, LG.out.setCell (by dsimp only; omega) _⟩
          case measure => simp [intOf]; omega
    · obtain rfl : k = X := by omega
      go_wp2_with fail
      go_ret
      exact ⟨o, rfl, KM.out.dig, KM.out.sum, Own.of_rowIs KR.out (Nat.le_refl _) (fun i hi => by have := KM.out.dig i hi; omega), KG1.out⟩
end Go.Proofs.YtaagegcidbgjmaaGreatDoor.Limb
namespace Go.Proofs.YtaagegcidbgjmaaGreatDoor.Limb
open Go.RowKit Go.Sort Go.Fresh

/-- How often, and what is left, by one part. -/
def ShortR (w : World) (n : Nat) (X by' : Int) (e : Ending) (w' : World) : Prop :=
  ∃ p, e = .returned (.tuple #[.slice (some ⟨w.heap.size, 0, none⟩) n n, .int .u32 (X % by')]) ∧ Dig p n ∧ sumB p n = X / by' ∧ Own 74 w' w.heap.size (some ⟨w.heap.size, 0, none⟩) n n p ∧ Below w.heap.size w w'


set_option maxHeartbeats 2000000 in
theorem short_any (a : Option Addr) (n c : Nat) (o : Nat → Int) (by' : Int) (w : World) (hx : Rd w a n o) (dx : Dig o n) (hn : n ≤ 200000000) (h0 : 0 < by') (h1 : by' ≤ 999999999) :
    Calls Tryz.prog 147 #[.slice a n c, .int .u32 by'] w (ShortR w n (sumB o n) by') := by
  obtain ⟨nn, hnn⟩ : ∃ nn : Nat, nn = n := ⟨_, rfl⟩
  have hmk := run_make_row' (P := Tryz.prog) 22 74 (.int .u32 0) 4 Tryz.underlying22 info32 rfl .i64 .i64 n (by omega) (by omega)
  have HR := Lib.hid hx; have DX := Lib.hid dx
  have wb := IntWalk.u64_in by' (by omega)
  clear hx dx hnn
  go_enter Tryz.func147, Tryz.ntmps147
  go_wp2_with fail
  go_loopw [6, 7] (fun rv iv wr => ∃ i : Nat, i ≤ n ∧ iv = .int .i64 ((i : Int) - 1) ∧ (∃ p rest, rv = .int .u64 rest ∧ ShortIn o n by' i p rest ∧ wr.rowIs w.heap.size 74 n (uc p)) ∧ Below w.heap.size w wr) (fun _ iv _ => (1 + intOf iv).toNat)
  case atStart => exact ⟨n, by omega, rfl, ⟨_, _, rfl, ShortIn.start _ _ _, World.rowIs_made w (.int .u32 0) n 74⟩, by (repeat' (first | (with_reducible exact Below.refl _ _) | (with_reducible assumption) | (with_reducible refine Below.alloc ?_ ?_ _) | (with_reducible refine Below.drew ?_) | (with_reducible refine bdrewN ?_ _) | (with_reducible refine Below.setCell ?_ ?_ _) | (with_reducible refine Below.frame ?_ _) | go_size))⟩
  case round =>
    obtain ⟨i, hi, rfl, ⟨p, rest, rfl, hI, hR⟩, G⟩ := hrel
    have KM := Lib.hid hI; have KR := Lib.hid hR; have KG := Lib.hid G
    have hfz := hR.frozen
    have hbd := hI.bd h0
    clear hI hR G hmk
    by_cases hi0 : i = 0
    · subst hi0
      obtain ⟨d1, d2⟩ := KM.out.done
      have HD := Lib.hid (And.intro d1 d2)
      have w1' := IntWalk.u32_in rest (by omega)
      rw [show (((0 : Nat) : Int) - 1) = -1 from rfl]
      clear d1 d2
      go_wp2_with fail
      go_ret2
      exact ⟨p, by rw [← HD.out.2]; rfl, KM.out.dig, HD.out.1, Own.of_rowIs KR.out (Nat.le_refl _) (fun i hi => by have := KM.out.dig i hi; omega), KG.out⟩
    · obtain ⟨q, rfl⟩ : ∃ q, i = q + 1 := ⟨i - 1, by omega⟩
      rw [show (((q + 1 : Nat) : Int) - 1) = (q : Int) by omega]
      obtain ⟨b, off, rfl, hc⟩ := (HR.out.below KG.out).cells (by omega)
      have c1 : wr.cell? ⟨b, off + q, none⟩ = some (.int .u32 (o q)) := hc q (by omega)
      obtain ⟨vo, hco⟩ : ∃ vo, wr.cell? ⟨w.heap.size, q, none⟩ = some vo := ⟨_, KR.out.cell (i := q) (by omega)⟩
      have ho := DX.out q (by omega)
      have hpb := part_bd h0 hbd ho
      have hm1 : rest * 1000000000 ≤ 999999998 * 1000000000 := Int.mul_le_mul_of_nonneg_right (by omega) (by omega)
      have hm2 : 0 ≤ rest * 1000000000 := Int.mul_nonneg hbd.1 (by omega)
      have hmd : 0 ≤ (rest * 1000000000 + o q) % by' ∧ (rest * 1000000000 + o q) % by' < by' := ⟨Int.emod_nonneg _ (by omega), Int.emod_lt_of_pos _ h0⟩
      have ST := Lib.hid (KM.out.step h0 DX.out (by omega))
      have ec : 1000000000 * rest = rest * 1000000000 := Int.mul_comm _ _
      have w1' := IntWalk.u64_in (rest * 1000000000) (by omega)
      have w2' := IntWalk.u64_in (o q) (by omega)
      have w3' := IntWalk.u64_in (rest * 1000000000 + o q) (by omega)
      have t1 : (rest * 1000000000 + o q).tdiv by' = (rest * 1000000000 + o q) / by' := Int.tdiv_eq_ediv_of_nonneg (by omega)
      have t2 : (rest * 1000000000 + o q).tmod by' = (rest * 1000000000 + o q) % by' := Int.tmod_eq_emod_of_nonneg (by omega)
      have w4' := IntWalk.u64_in ((rest * 1000000000 + o q) / by') (by omega)
      have w5' := IntWalk.u32_in ((rest * 1000000000 + o q) / by') (by omega)
      have w6' := IntWalk.u64_in ((rest * 1000000000 + o q) % by') (by omega)
      have hne : ¬ by' = 0 := by omega
      have hlt : q < n := by omega
      clear hc ho hpb hm1 hm2 hmd hbd
      go_wp2_with fail
      go_roundw
      case rel => exact ⟨q, by omega, rfl, ⟨_, _, rfl, ST.out, rows_upd KR.out _⟩, KG.out.setCell (by dsimp only; omega) _⟩
      case measure => simp [intOf]; omega
set_option maxHeartbeats 2000000 in
theorem small_any (a : Option Addr) (n c : Nat) (o : Nat → Int) (by' : Int) (w : World) (hx : Rd w a n o) (dx : Dig o n) (hn : n ≤ 200000000) (h0 : 0 < by') (h1 : by' ≤ 999999999) :
    Calls Tryz.prog 159 #[.slice a n c, .int .u32 by'] w (ShortR w n (sumB o n) by') := by
  obtain ⟨nn, hnn⟩ : ∃ nn : Nat, nn = n := ⟨_, rfl⟩
  have hmk := run_make_row' (P := Tryz.prog) 22 74 (.int .u32 0) 4 Tryz.underlying22 info32 rfl .i64 .i64 n (by omega) (by omega)
  have HR := Lib.hid hx; have DX := Lib.hid dx
  have wb := IntWalk.u64_in by' (by omega)
  clear hx dx hnn
  go_enter Tryz.func159, Tryz.ntmps159
  go_wp2_with fail
  go_loopw [7, 8] (fun rv iv wr => ∃ i : Nat, i ≤ n ∧ iv = .int .i64 ((i : Int) - 1) ∧ (∃ p rest, rv = .int .u64 rest ∧ ShortIn o n by' i p rest ∧ wr.rowIs w.heap.size 74 n (uc p)) ∧ Below w.heap.size w wr) (fun _ iv _ => (1 + intOf iv).toNat)
  case atStart => exact ⟨n, by omega, rfl, ⟨_, _, rfl, ShortIn.start _ _ _, World.rowIs_made w (.int .u32 0) n 74⟩, by (repeat' (first | (with_reducible exact Below.refl _ _) | (with_reducible assumption) | (with_reducible refine Below.alloc ?_ ?_ _) | (with_reducible refine Below.drew ?_) | (with_reducible refine bdrewN ?_ _) | (with_reducible refine Below.setCell ?_ ?_ _) | (with_reducible refine Below.frame ?_ _) | go_size))⟩
  case round =>
    obtain ⟨i, hi, rfl, ⟨p, rest, rfl, hI, hR⟩, G⟩ := hrel
    have KM := Lib.hid hI; have KR := Lib.hid hR; have KG := Lib.hid G
    have hfz := hR.frozen
    have hbd := hI.bd h0
    clear hI hR G hmk
    by_cases hi0 : i = 0
    · subst hi0
      obtain ⟨d1, d2⟩ := KM.out.done
      have HD := Lib.hid (And.intro d1 d2)
      have w1' := IntWalk.u32_in rest (by omega)
      rw [show (((0 : Nat) : Int) - 1) = -1 from rfl]
      clear d1 d2
      go_wp2_with fail
      go_ret2
      exact ⟨p, by rw [← HD.out.2]; rfl, KM.out.dig, HD.out.1, Own.of_rowIs KR.out (Nat.le_refl _) (fun i hi => by have := KM.out.dig i hi; omega), KG.out⟩
    · obtain ⟨q, rfl⟩ : ∃ q, i = q + 1 := ⟨i - 1, by omega⟩
      rw [show (((q + 1 : Nat) : Int) - 1) = (q : Int) by omega]
      obtain ⟨b, off, rfl, hc⟩ := (HR.out.below KG.out).cells (by omega)
      have c1 : wr.cell? ⟨b, off + q, none⟩ = some (.int .u32 (o q)) := hc q (by omega)
      obtain ⟨vo, hco⟩ : ∃ vo, wr.cell? ⟨w.heap.size, q, none⟩ = some vo := ⟨_, KR.out.cell (i := q) (by omega)⟩
      have ho := DX.out q (by omega)
      have hpb := part_bd h0 hbd ho
      have hm1 : rest * 1000000000 ≤ 999999998 * 1000000000 := Int.mul_le_mul_of_nonneg_right (by omega) (by omega)
      have hm2 : 0 ≤ rest * 1000000000 := Int.mul_nonneg hbd.1 (by omega)
      have hmd : 0 ≤ (rest * 1000000000 + o q) % by' ∧ (rest * 1000000000 + o q) % by' < by' := ⟨Int.emod_nonneg _ (by omega), Int.emod_lt_of_pos _ h0⟩
      have ST := Lib.hid (KM.out.step h0 DX.out (by omega))
      have ec : 1000000000 * rest = rest * 1000000000 := Int.mul_comm _ _
      have w1' := IntWalk.u64_in (rest * 1000000000) (by omega)
      have w2' := IntWalk.u64_in (o q) (by omega)
      have w3' := IntWalk.u64_in (rest * 1000000000 + o q) (by omega)
      have t1 : (rest * 1000000000 + o q).tdiv by' = (rest * 1000000000 + o q) / by' := Int.tdiv_eq_ediv_of_nonneg (by omega)
      have t2 : (rest * 1000000000 + o q).tmod by' = (rest * 1000000000 + o q) % by' := Int.tmod_eq_emod_of_nonneg (by omega)
      have w4' := IntWalk.u64_in ((rest * 1000000000 + o q) / by') (by omega)
      have w5' := IntWalk.u32_in ((rest * 1000000000 + o q) / by') (by omega)
      have w6' := IntWalk.u64_in ((rest * 1000000000 + o q) % by') (by omega)
      have hne : ¬ by' = 0 := by omega
      have hlt : q < n := by omega
      clear hc ho hpb hm1 hm2 hmd hbd
      go_wp2_with fail
      go_roundw
      case rel => exact ⟨q, by omega, rfl, ⟨_, _, rfl, ST.out, rows_upd KR.out _⟩, KG.out.setCell (by dsimp only; omega) _⟩
      case measure => simp [intOf]; omega
end Go.Proofs.YtaagegcidbgjmaaGreatDoor.Limb
namespace Go.Proofs.YtaagegcidbgjmaaGreatDoor.Limb
open Go.RowKit Go.Sort Go.Fresh

/-- One step of borrowing, as the reference does it: n = f k + 1000000000 + cS f k. -/
theorem less_step (f : Nat → Int) (k : Nat) (h1 : -999999999 ≤ f k ∧ f k ≤ 999999999) (h2 : -1 ≤ cS f k ∧ cS f k ≤ 0) :
    (f k + 1000000000 + cS f k) % 1000000000 = cD f k ∧ 1 - (f k + 1000000000 + cS f k) / 1000000000 = - cS f (k + 1) := by
  unfold cD; rw [cS]; omega

theorem cS_less {f : Nat → Int} {n : Nat} (h : ∀ i, i < n → -999999999 ≤ f i ∧ f i ≤ 999999999) : -1 ≤ cS f n ∧ cS f n ≤ 0 := by
  induction n with
  | zero => show -1 ≤ (0 : Int) ∧ (0 : Int) ≤ 0; omega
  | succ n ih =>
    have h1 := ih fun i hi => h i (by omega)
    have h2 := h n (by omega)
    rw [cS]; omega
theorem ownBlock_ge {w : World} {base T n : Nat} {v : Value} {xs : List Value} (h : w.ownsRow base T 1 v n xs) {g : Nat} (hg : v.ownBlock = some g) : base ≤ g := by
  rcases h.2 with ⟨rfl, _⟩ | ⟨g', cap, cur, rfl, hb, _⟩
  · cases hg
  · simp only [Value.ownBlock, Option.some.injEq] at hg; omega

set_option maxRecDepth 100000 in
set_option maxHeartbeats 2000000 in
theorem less_any (x y : Option Addr) (X Y cx cy : Nat) (fx fy : Nat → Int) (w : World) (hx : Rd w x X fx) (hy : Rd w y Y fy) (dx : Dig fx X) (dy : Dig fy Y) (hX : X ≤ 100000000) (hYX : Y ≤ X) :
    Calls Tryz.prog 143 #[.slice x X cx, .slice y Y cy] w fun e w' => ∃ v, e = .returned v ∧ w'.ownsRow w.heap.size 74 1 v X (ucs (cD fun k => part fx X k - part fy Y k) X) ∧ Below w.heap.size w w' := by
  obtain ⟨i0, hi, hz0, hz1, hz2⟩ := info_parts info32
  obtain ⟨F, hF⟩ : ∃ F : Nat → Int, F = fun k => part fx X k - part fy Y k := ⟨_, rfl⟩
  rw [← hF]
  have HF := Lib.hid hF
  have HR1 := Lib.hid hx; have HR2 := Lib.hid hy; have DX := Lib.hid dx; have DY := Lib.hid dy
  clear hx hy dx dy hF
  go_enter Tryz.func143, Tryz.ntmps143
  go_wp2_with fail
  go_loopw [5, 6, 7] (fun v ow i wr => ∃ k : Nat, k ≤ X ∧ i = .int .i64 k ∧ ow = .int .u32 (- cS F k) ∧ wr.ownsRow w.heap.size 74 1 v k (ucs (cD F) k) ∧ Below w.heap.size w wr) (fun _ _ i _ => X - (intOf i).toNat)
  case atStart => exact ⟨0, by omega, rfl, rfl, Own.row_nil _ _ _, by (repeat' (first | (with_reducible exact Below.refl _ _) | (with_reducible assumption) | (with_reducible refine Below.alloc ?_ ?_ _) | (with_reducible refine Below.drew ?_) | (with_reducible refine bdrewN ?_ _) | (with_reducible refine Below.setCell ?_ ?_ _) | (with_reducible refine Below.frame ?_ _) | go_size))⟩
  case round =>
    obtain ⟨k, hk, rfl, rfl, hO, hG⟩ := hrel
    have HO := Lib.hid hO; have HG := Lib.hid hG
    clear hO hG
    by_cases hkX : k < X
    · obtain ⟨xb, xo, rfl, hc⟩ := (HR1.out.below HG.out).cells (by omega)
      have c1 : wr.cell? ⟨xb, xo + k, none⟩ = some (.int .u32 (fx k)) := hc k hkX
      have hfx := DX.out k hkX
      have bd : ∀ i, i < X → -999999999 ≤ F i ∧ F i ≤ 999999999 := fun i hi => by
        have h1 := DX.out i hi
        simp only [HF.out, part, if_pos hi]
        split
        · have h2 := DY.out i (by omega); omega
        · omega
      have hcs := cS_less (f := F) (n := k) fun i hi => bd i (by omega)
      have hFk := bd k hkX
      obtain ⟨E1, E2⟩ := less_step F k (by omega) hcs
      have E2 := Lib.hid E2
      obtain ⟨q, hq⟩ : ∃ q, q = - cS F k := ⟨_, rfl⟩
      have hqb : 0 ≤ q ∧ q ≤ 1 := by omega
      have u1 := IntWalk.u32_in (fx k + 1000000000) (by omega)
      have u2 := IntWalk.u32_in (fx k + 1000000000 - q) (by omega)
      rw [← hq]
      by_cases hkY : k < Y
      · have hfy := DY.out k hkY
        have hFv : F k = fx k - fy k := by simp only [HF.out, part, if_pos hkX, if_pos hkY]
        obtain ⟨yb, yo, rfl, hc2⟩ := (HR2.out.below HG.out).cells (by omega)
        have c2 : wr.cell? ⟨yb, yo + k, none⟩ = some (.int .u32 (fy k)) := hc2 k hkY
        have u3 := IntWalk.u32_in (fx k + 1000000000 - q - fy k) (by omega)
        have t1 : (fx k + 1000000000 - q - fy k).tmod 1000000000 = cD F k := by rw [Int.tmod_eq_emod_of_nonneg (by omega), ← E1]; congr 1; omega
        have t2 : (fx k + 1000000000 - q - fy k).tdiv 1000000000 = 1 + cS F (k + 1) := by
          have h2 := E2.out
          have e : fx k + 1000000000 - q - fy k = F k + 1000000000 + cS F k := by omega
          rw [Int.tdiv_eq_ediv_of_nonneg (by omega), e]
          omega
        have hcs2 := cS_less (f := F) (n := k + 1) fun i hi => bd i (by omega)
        have hcd := cD_Dig F (k + 1) k (by omega)
        have u4 := IntWalk.u32_in (cD F k) (by omega)
        have u5 := IntWalk.u32_in (1 + cS F (k + 1)) (by omega)
        have u6 := IntWalk.u32_in (1 - (1 + cS F (k + 1))) (by omega)
        have ez : 1 - (1 + cS F (k + 1)) = - cS F (k + 1) := by omega
        rw [ez] at u6
        clear hc hc2 bd E1 hq
        go_wp2_with (first | (at_builtin; refine wpList_append_own _ rfl _ _ 22 rfl w.heap.size 74 i0 (.int .u32 0) 1 4 Tryz.underlying22 hi hz0 hz1 hz2 rfl (by decide) _ _ _ rfl (HO.out.alloc _) ⟨wr.heap.size, 0, none⟩ 1 1 [.int .u32 (cD F k)] rfl rfl ?c1 ?c2 ?c3 ?c4 ?c5 ?_))
        case c1 =>
          intro t u ht
          match t, ht with
          | 0, ht => simp at ht; subst ht; simp [Addr.add]
        case c2 => intro u hu; simp at hu; subst hu; rfl
        case c3 => unfold maxLen; omega
        case c4 => omega
        case c5 => have := HG.out.size; simp; omega
        intro v' w1 hown' hgrow _
        have O2 := Lib.hid (show w1.ownsRow w.heap.size 74 1 v' (k + 1) (ucs (cD F) (k + 1)) by rw [ucs_succ]; exact hown')
        have G2 := Lib.hid ((HG.out.alloc HG.out.size _).grown hgrow (by have := HG.out.size; simp; omega) (fun g hg => ownBlock_ge HO.out hg))
        clear hown' hgrow
        go_wp2_with fail
        go_roundw
        case rel => exact ⟨k + 1, by omega, by go_num, rfl, O2.out, G2.out⟩
        case measure => simp [intOf]; omega
      · have hFv : F k = fx k := by simp only [HF.out, part, if_pos hkX, if_neg hkY]; omega
        have t1 : (fx k + 1000000000 - q).tmod 1000000000 = cD F k := by rw [Int.tmod_eq_emod_of_nonneg (by omega), ← E1]; congr 1; omega
        have t2 : (fx k + 1000000000 - q).tdiv 1000000000 = 1 + cS F (k + 1) := by
          have h2 := E2.out
          have e : fx k + 1000000000 - q = F k + 1000000000 + cS F k := by omega
          rw [Int.tdiv_eq_ediv_of_nonneg (by omega), e]
          omega
        have hcs2 := cS_less (f := F) (n := k + 1) fun i hi => bd i (by omega)
        have hcd := cD_Dig F (k + 1) k (by omega)
        have u4 := IntWalk.u32_in (cD F k) (by omega)
        have u5 := IntWalk.u32_in (1 + cS F (k + 1)) (by omega)
        have u6 := IntWalk.u32_in (1 - (1 + cS F (k + 1))) (by omega)
        have ez : 1 - (1 + cS F (k + 1)) = - cS F (k + 1) := by omega
        rw [ez] at u6
        clear hc bd E1 hq
        go_wp2_with (first | (at_builtin; refine wpList_append_own _ rfl _ _ 22 rfl w.heap.size 74 i0 (.int .u32 0) 1 4 Tryz.underlying22 hi hz0 hz1 hz2 rfl (by decide) _ _ _ rfl (HO.out.alloc _) ⟨wr.heap.size, 0, none⟩ 1 1 [.int .u32 (cD F k)] rfl rfl ?c1 ?c2 ?c3 ?c4 ?c5 ?_))
        case c1 =>
          intro t u ht
          match t, ht with
          | 0, ht => simp at ht; subst ht; simp [Addr.add]
        case c2 => intro u hu; simp at hu; subst hu; rfl
        case c3 => unfold maxLen; omega
        case c4 => omega
        case c5 => have := HG.out.size; simp; omega
        intro v' w1 hown' hgrow _
        have O2 := Lib.hid (show w1.ownsRow w.heap.size 74 1 v' (k + 1) (ucs (cD F) (k + 1)) by rw [ucs_succ]; exact hown')
        have G2 := Lib.hid ((HG.out.alloc HG.out.size _).grown hgrow (by have := HG.out.size; simp; omega) (fun g hg => ownBlock_ge HO.out hg))
        clear hown' hgrow
        go_wp2_with fail
        go_roundw
        case rel => exact ⟨k + 1, by omega, by go_num, rfl, O2.out, G2.out⟩
        case measure => simp [intOf]; omega
    · obtain rfl : k = X := by omega
      go_wp2_with fail
      go_ret
      exact ⟨_, rfl, HO.out, HG.out⟩
end Go.Proofs.YtaagegcidbgjmaaGreatDoor.Limb
namespace Go.Proofs.YtaagegcidbgjmaaGreatDoor.Limb
open Go.RowKit Go.Sort Go.Fresh

theorem cf_wide (args : Array Value) (w : World) : (callFunc 166 args).run Tryz.prog w = .ok (.enter 166 args) w := by kernel_rfl

set_option maxHeartbeats 1000000 in
theorem wideFn (w : World) (b1 b2 : Nat) (p : Option Addr) (f : Nat → Int) (nx d : Nat) (by' : Int) (k : Nat) (c1 : w.cell? ⟨b1, 0, none⟩ = some (.slice p nx d)) (c2 : w.cell? ⟨b2, 0, none⟩ = some (.int .u32 by')) (hp : Rd w p nx f)
    (hx : nx ≤ 1000000000) (hk : k ≤ 1000000000) (hb : 0 ≤ by' ∧ by' ≤ 999999999) (r1 : 0 ≤ part f nx k ∧ part f nx k ≤ 999999999) :
    Calls Tryz.prog 166 #[.int .i64 k, .pointer (some ⟨b1, 0, none⟩), .pointer (some ⟨b2, 0, none⟩)] w fun e w' => e = .returned (.int .i64 (part f nx k * by')) ∧ Below w.heap.size w w' := by
  have P := Lib.hid (fun (w1 : World) (h : ∃ m, w1 = w.drewN m) => part_any p nx d f k w1 (by obtain ⟨m, rfl⟩ := h; exact hp.drewN m) hx hk)
  have m1 : part f nx k * by' ≤ 999999999 * 999999999 := Int.mul_le_mul r1.2 hb.2 hb.1 (by omega)
  have m2 : 0 ≤ part f nx k * by' := Int.mul_nonneg r1.1 hb.1
  have e1 := IntWalk.i64_in (part f nx k * by') (by omega)
  have e2 := IntWalk.i64_in by' (by omega)
  generalize part f nx k = u at *
  clear hp m1 m2
  go_enter Tryz.func166, Tryz.ntmps166
  go_wp2_with fail
  go_quiet (first | with_reducible exact quietOf (P.out _ ⟨_, rfl⟩))
  go_wp2
  go_ret
  exact ⟨rfl, bdrewN (Below.refl _ _) _⟩

set_option maxHeartbeats 1000000 in
theorem wide_any (a : Option Addr) (n c : Nat) (o : Nat → Int) (by' : Int) (w : World) (hx : Rd w a n o) (dx : Dig o n) (hn : n ≤ 200000000) (hb : 0 ≤ by' ∧ by' ≤ 999999999) :
    Calls Tryz.prog 156 #[.slice a n c, .int .u32 by'] w fun e w' => ∃ g p, e = .returned (.slice (some ⟨g, 0, none⟩) (n + 1) (n + 1)) ∧ Dig p (n + 1) ∧ sumB p (n + 1) = sumB o n * by' ∧ Own 74 w' w.heap.size (some ⟨g, 0, none⟩) (n + 1) (n + 1) p ∧ Below w.heap.size w w' := by
  have hp : ∀ k, 0 ≤ part o n k ∧ part o n k ≤ 999999999 := by
    intro k
    unfold part
    split
    · have := dx k (by omega); omega
    · omega
  obtain ⟨N, hN⟩ : ∃ N, N = n + 1 := ⟨_, rfl⟩
  have hs : sumB (fun k => part o n k * by') N = sumB o n * by' := by rw [sumB_times, sumB_part _ (by omega)]
  have hbd := sumB_bd dx
  have hlt : sumB o n * by' < (pw N : Int) := by
    rw [hN, pw_succ]
    have h1 : sumB o n * by' ≤ sumB o n * 999999999 := Int.mul_le_mul_of_nonneg_left hb.2 hbd.1
    omega
  have hfit := (cS_fits (f := fun k => part o n k * by') (n := N) (by rw [hs]; exact Int.mul_nonneg hbd.1 hb.1) (by rw [hs]; exact hlt)).2
  have HS := Lib.hid (hfit.trans hs)
  have HR := Lib.hid hx
  obtain ⟨W, hW⟩ : ∃ W, W = ((w.alloc (.cells #[.slice a n c] 22)).alloc (.cells #[.int .u32 by'] 74)) := ⟨_, rfl⟩
  have hbW : Below w.heap.size w W := by rw [hW]; exact ((Below.refl _ _).alloc (by go_size) _).alloc (by go_size) _
  have k1 : W.cell? ⟨w.heap.size, 0, none⟩ = some (.slice a n c) := by
    have h : W.heap[w.heap.size]? = some (.cells #[.slice a n c] 22 (0, 0)) := by
      rw [hW, Below.heap_alloc _ _ _ (by simp)]; exact heap_alloc_new w _
    rw [cell_of_row _ _ _ _ _ _ h]; rfl
  have k2 : W.cell? ⟨w.heap.size + 1, 0, none⟩ = some (.int .u32 by') := by
    have h := heap_alloc_new (w.alloc (.cells #[.slice a n c] 22)) (.cells #[.int .u32 by'] 74)
    rw [World.size_alloc, ← hW] at h
    rw [cell_of_row _ _ _ _ _ _ h]; rfl
  have hsz : w.heap.size + 1 < W.heap.size := by rw [hW]; simp
  have CA := Lib.hid (carry_any 166 #[.pointer (some ⟨w.heap.size, 0, none⟩), .pointer (some ⟨w.heap.size + 1, 0, none⟩)] N (fun k => part o n k * by') 0 by' W (by omega) cf_wide
    (fun k hk w1 hb1 => wideFn w1 w.heap.size (w.heap.size + 1) a o n c by' k ((hb1.cell (p := ⟨w.heap.size, 0, none⟩) (by dsimp only; omega)).trans k1) ((hb1.cell (p := ⟨w.heap.size + 1, 0, none⟩) (by dsimp only; omega)).trans k2)
      (HR.out.below (hbW.trans (hb1.mono hbW.size))) (by omega) (by omega) hb (hp k))
    (fun k _ => by
      have h1 := hp k
      have h2 : part o n k * by' ≤ 999999999 * by' := Int.mul_le_mul_of_nonneg_right h1.2 hb.1
      have h3 : 0 ≤ part o n k * by' := Int.mul_nonneg h1.1 hb.1
      omega) (by omega) (by omega) (by omega) (by omega))
  have HW := Lib.hid hW
  have HB := Lib.hid hbW
  have ew : IntKind.i64.wrap ((n : Int) + 1) = (N : Int) := by rw [IntWalk.i64_in _ (by omega)]; omega
  have HN := Lib.hid hN
  clear hx dx hp hs hbd hlt hfit hW hbW k1 k2 hsz hN
  go_enter Tryz.func156, Tryz.ntmps156
  go_wp2_with fail
  rw [show ((w.alloc (.cells #[.slice a n c] 22)).alloc (.cells #[.int .u32 by'] 74)) = W from HW.out.symm]
  refine CA.out.mono ?_
  rintro e w1 ⟨rfl, hO, hb1⟩
  have HO := Lib.hid hO
  have HB1 := Lib.hid (HB.out.trans (hb1.mono HB.out.size))
  clear hO hb1 CA
  go_wp2
  go_ret
  refine ⟨_, cD (fun k => part o n k * by'), by rw [← HN.out]; rfl, cD_Dig _ _, by rw [← HN.out]; exact HS.out, ?_, HB1.out⟩
  rw [← HN.out]
  exact HO.out.mono HB.out.size
end Go.Proofs.YtaagegcidbgjmaaGreatDoor.Limb
namespace Go.Proofs.YtaagegcidbgjmaaGreatDoor.Limb
open Go.RowKit Go.Sort Go.Fresh

set_option maxRecDepth 100000 in
set_option maxHeartbeats 4000000 in
theorem more_any (x y : Option Addr) (X Y cx cy M : Nat) (fx fy : Nat → Int) (w : World) (hx : Rd w x X fx) (hy : Rd w y Y fy) (dx : Dig fx X) (dy : Dig fy Y) (hX : X ≤ 100000000) (hY : Y ≤ 100000000) (hM1 : X ≤ M) (hM2 : Y ≤ M) (hM3 : M = X ∨ M = Y) :
    Calls Tryz.prog 142 #[.slice x X cx, .slice y Y cy] w fun e w' => ∃ v K, e = .returned v ∧ M ≤ K ∧ K ≤ M + 1 ∧ cS (fun k => part fx X k + part fy Y k) K = 0 ∧ w'.ownsRow w.heap.size 74 1 v K (ucs (cD fun k => part fx X k + part fy Y k) K) ∧ Below w.heap.size w w' := by
  obtain ⟨i0, hi, hz0, hz1, hz2⟩ := info_parts info32
  obtain ⟨F, hF⟩ : ∃ F : Nat → Int, F = fun k => part fx X k + part fy Y k := ⟨_, rfl⟩
  rw [← hF]
  have HF := Lib.hid hF
  have HR1 := Lib.hid hx; have HR2 := Lib.hid hy; have DX := Lib.hid dx; have DY := Lib.hid dy
  have BD := Lib.hid (show ∀ i, 0 * 999999999 ≤ F i ∧ F i ≤ 2 * 999999999 from fun i => by
    simp only [HF.out, part]
    split <;> split
    · have := dx i (by omega); have := dy i (by omega); omega
    · have := dx i (by omega); omega
    · have := dy i (by omega); omega
    · omega)
  clear hx hy dx dy hF
  go_enter Tryz.func142, Tryz.ntmps142
  go_wp2_with fail
  go_loopw [5, 6, 7] (fun v ow i wr => ∃ k : Nat, k ≤ M + 1 ∧ (k = M + 1 → cS F k = 0) ∧ i = .int .i64 k ∧ ow = .int .u32 (cS F k) ∧ wr.ownsRow w.heap.size 74 1 v k (ucs (cD F) k) ∧ Below w.heap.size w wr) (fun _ _ i _ => M + 1 - (intOf i).toNat)
  case atStart => exact ⟨0, by omega, fun h => by omega, rfl, rfl, Own.row_nil _ _ _, by (repeat' (first | (with_reducible exact Below.refl _ _) | (with_reducible assumption) | (with_reducible refine Below.alloc ?_ ?_ _) | (with_reducible refine Below.drew ?_) | (with_reducible refine bdrewN ?_ _) | (with_reducible refine Below.setCell ?_ ?_ _) | (with_reducible refine Below.frame ?_ _) | go_size))⟩
  case round =>
    obtain ⟨k, hk, hkM, rfl, rfl, hO, hG⟩ := hrel
    have HO := Lib.hid hO; have HG := Lib.hid hG
    have hcs := cS_bd (f := F) (lo := 0) (hi := 2) (n := k) (by omega) (by omega) (fun i _ => BD.out i)
    have hcs2 := cS_bd (f := F) (lo := 0) (hi := 2) (n := k + 1) (by omega) (by omega) (fun i _ => BD.out i)
    obtain ⟨q, hq⟩ : ∃ q, q = cS F k := ⟨_, rfl⟩
    rw [← hq]
    clear hO hG
    by_cases hkX : k < X
    · by_cases hkY : k < Y
      · have hFv : F k = fx k + fy k := by simp only [HF.out, part, if_pos hkX, if_pos hkY]
        have hfx := DX.out k hkX
        obtain ⟨xb, xo, rfl, hc⟩ := (HR1.out.below HG.out).cells (by omega)
        have c1 : wr.cell? ⟨xb, xo + k, none⟩ = some (.int .u32 (fx k)) := hc k hkX
        clear hc
        have u1 := IntWalk.u32_in (q + fx k) (by omega)
        have hfy := DY.out k hkY
        obtain ⟨yb, yo, rfl, hc⟩ := (HR2.out.below HG.out).cells (by omega)
        have c2 : wr.cell? ⟨yb, yo + k, none⟩ = some (.int .u32 (fy k)) := hc k hkY
        clear hc
        have u2 := IntWalk.u32_in (q + fx k + fy k) (by omega)
        have e : q + fx k + fy k = F k + cS F k := by omega
        have t1 : (q + fx k + fy k).tmod 1000000000 = cD F k := by rw [Int.tmod_eq_emod_of_nonneg (by omega), e]; rfl
        have t2 : (q + fx k + fy k).tdiv 1000000000 = cS F (k + 1) := by rw [Int.tdiv_eq_ediv_of_nonneg (by omega), e]; rfl
        have hcd := cD_Dig F (k + 1) k (by omega)
        have u4 := IntWalk.u32_in (cD F k) (by omega)
        have hl : k + 1 = M + 1 → cS F (k + 1) = 0 := fun h => by rw [cS]; omega
        have HLs := Lib.hid hl
        clear e hq hFv hl
        go_wp2_with (first | (at_builtin; refine wpList_append_own _ rfl _ _ 22 rfl w.heap.size 74 i0 (.int .u32 0) 1 4 Tryz.underlying22 hi hz0 hz1 hz2 rfl (by decide) _ _ _ rfl (HO.out.alloc _) ⟨wr.heap.size, 0, none⟩ 1 1 [.int .u32 (cD F k)] rfl rfl ?c1 ?c2 ?c3 ?c4 ?c5 ?_))
        case c1 =>
          intro t u ht
          match t, ht with
          | 0, ht => simp at ht; subst ht; simp [Addr.add]
        case c2 => intro u hu; simp at hu; subst hu; rfl
        case c3 => unfold maxLen; omega
        case c4 => omega
        case c5 => have := HG.out.size; simp; omega
        intro v' w1 hown' hgrow _
        have O2 := Lib.hid (show w1.ownsRow w.heap.size 74 1 v' (k + 1) (ucs (cD F) (k + 1)) by rw [ucs_succ]; exact hown')
        have G2 := Lib.hid ((HG.out.alloc HG.out.size _).grown hgrow (by have := HG.out.size; simp; omega) (fun g hg => ownBlock_ge HO.out hg))
        clear hown' hgrow
        go_wp2_with fail
        go_roundw
        case rel => exact ⟨k + 1, by omega, HLs.out, by go_num, rfl, O2.out, G2.out⟩
        case measure => simp [intOf]; omega
      · have hFv : F k = fx k + 0 := by simp only [HF.out, part, if_pos hkX, if_neg hkY]
        have hfx := DX.out k hkX
        obtain ⟨xb, xo, rfl, hc⟩ := (HR1.out.below HG.out).cells (by omega)
        have c1 : wr.cell? ⟨xb, xo + k, none⟩ = some (.int .u32 (fx k)) := hc k hkX
        clear hc
        have u1 := IntWalk.u32_in (q + fx k) (by omega)
        have e : q + fx k = F k + cS F k := by omega
        have t1 : (q + fx k).tmod 1000000000 = cD F k := by rw [Int.tmod_eq_emod_of_nonneg (by omega), e]; rfl
        have t2 : (q + fx k).tdiv 1000000000 = cS F (k + 1) := by rw [Int.tdiv_eq_ediv_of_nonneg (by omega), e]; rfl
        have hcd := cD_Dig F (k + 1) k (by omega)
        have u4 := IntWalk.u32_in (cD F k) (by omega)
        have hl : k + 1 = M + 1 → cS F (k + 1) = 0 := fun h => by rw [cS]; omega
        have HLs := Lib.hid hl
        clear e hq hFv hl
        go_wp2_with (first | (at_builtin; refine wpList_append_own _ rfl _ _ 22 rfl w.heap.size 74 i0 (.int .u32 0) 1 4 Tryz.underlying22 hi hz0 hz1 hz2 rfl (by decide) _ _ _ rfl (HO.out.alloc _) ⟨wr.heap.size, 0, none⟩ 1 1 [.int .u32 (cD F k)] rfl rfl ?c1 ?c2 ?c3 ?c4 ?c5 ?_))
        case c1 =>
          intro t u ht
          match t, ht with
          | 0, ht => simp at ht; subst ht; simp [Addr.add]
        case c2 => intro u hu; simp at hu; subst hu; rfl
        case c3 => unfold maxLen; omega
        case c4 => omega
        case c5 => have := HG.out.size; simp; omega
        intro v' w1 hown' hgrow _
        have O2 := Lib.hid (show w1.ownsRow w.heap.size 74 1 v' (k + 1) (ucs (cD F) (k + 1)) by rw [ucs_succ]; exact hown')
        have G2 := Lib.hid ((HG.out.alloc HG.out.size _).grown hgrow (by have := HG.out.size; simp; omega) (fun g hg => ownBlock_ge HO.out hg))
        clear hown' hgrow
        go_wp2_with fail
        go_roundw
        case rel => exact ⟨k + 1, by omega, HLs.out, by go_num, rfl, O2.out, G2.out⟩
        case measure => simp [intOf]; omega
    · by_cases hkY : k < Y
      · have hFv : F k = 0 + fy k := by simp only [HF.out, part, if_neg hkX, if_pos hkY]
        have hfy := DY.out k hkY
        obtain ⟨yb, yo, rfl, hc⟩ := (HR2.out.below HG.out).cells (by omega)
        have c2 : wr.cell? ⟨yb, yo + k, none⟩ = some (.int .u32 (fy k)) := hc k hkY
        clear hc
        have u2 := IntWalk.u32_in (q + fy k) (by omega)
        have e : q + fy k = F k + cS F k := by omega
        have t1 : (q + fy k).tmod 1000000000 = cD F k := by rw [Int.tmod_eq_emod_of_nonneg (by omega), e]; rfl
        have t2 : (q + fy k).tdiv 1000000000 = cS F (k + 1) := by rw [Int.tdiv_eq_ediv_of_nonneg (by omega), e]; rfl
        have hcd := cD_Dig F (k + 1) k (by omega)
        have u4 := IntWalk.u32_in (cD F k) (by omega)
        have hl : k + 1 = M + 1 → cS F (k + 1) = 0 := fun h => by rw [cS]; omega
        have HLs := Lib.hid hl
        clear e hq hFv hl
        go_wp2_with (first | (at_builtin; refine wpList_append_own _ rfl _ _ 22 rfl w.heap.size 74 i0 (.int .u32 0) 1 4 Tryz.underlying22 hi hz0 hz1 hz2 rfl (by decide) _ _ _ rfl (HO.out.alloc _) ⟨wr.heap.size, 0, none⟩ 1 1 [.int .u32 (cD F k)] rfl rfl ?c1 ?c2 ?c3 ?c4 ?c5 ?_))
        case c1 =>
          intro t u ht
          match t, ht with
          | 0, ht => simp at ht; subst ht; simp [Addr.add]
        case c2 => intro u hu; simp at hu; subst hu; rfl
        case c3 => unfold maxLen; omega
        case c4 => omega
        case c5 => have := HG.out.size; simp; omega
        intro v' w1 hown' hgrow _
        have O2 := Lib.hid (show w1.ownsRow w.heap.size 74 1 v' (k + 1) (ucs (cD F) (k + 1)) by rw [ucs_succ]; exact hown')
        have G2 := Lib.hid ((HG.out.alloc HG.out.size _).grown hgrow (by have := HG.out.size; simp; omega) (fun g hg => ownBlock_ge HO.out hg))
        clear hown' hgrow
        go_wp2_with fail
        go_roundw
        case rel => exact ⟨k + 1, by omega, HLs.out, by go_num, rfl, O2.out, G2.out⟩
        case measure => simp [intOf]; omega
      · by_cases hq0 : q > 0
        · have hkM2 : k ≤ M := by
            rcases Nat.lt_or_ge M k with h | h
            · have := hkM (by omega); omega
            · exact h
          have hFv : F k = 0 + 0 := by simp only [HF.out, part, if_neg hkX, if_neg hkY]
          have e : q = F k + cS F k := by omega
          have t1 : (q).tmod 1000000000 = cD F k := by rw [Int.tmod_eq_emod_of_nonneg (by omega), e]; rfl
          have t2 : (q).tdiv 1000000000 = cS F (k + 1) := by rw [Int.tdiv_eq_ediv_of_nonneg (by omega), e]; rfl
          have hcd := cD_Dig F (k + 1) k (by omega)
          have u4 := IntWalk.u32_in (cD F k) (by omega)
          have hl : k + 1 = M + 1 → cS F (k + 1) = 0 := fun h => by rw [cS]; omega
          have hgt : q > 0 := hq0
          have HLs := Lib.hid hl
          clear e hq hFv hl
          go_wp2_with (first | (at_builtin; refine wpList_append_own _ rfl _ _ 22 rfl w.heap.size 74 i0 (.int .u32 0) 1 4 Tryz.underlying22 hi hz0 hz1 hz2 rfl (by decide) _ _ _ rfl (HO.out.alloc _) ⟨wr.heap.size, 0, none⟩ 1 1 [.int .u32 (cD F k)] rfl rfl ?c1 ?c2 ?c3 ?c4 ?c5 ?_))
          case c1 =>
            intro t u ht
            match t, ht with
            | 0, ht => simp at ht; subst ht; simp [Addr.add]
          case c2 => intro u hu; simp at hu; subst hu; rfl
          case c3 => unfold maxLen; omega
          case c4 => omega
          case c5 => have := HG.out.size; simp; omega
          intro v' w1 hown' hgrow _
          have O2 := Lib.hid (show w1.ownsRow w.heap.size 74 1 v' (k + 1) (ucs (cD F) (k + 1)) by rw [ucs_succ]; exact hown')
          have G2 := Lib.hid ((HG.out.alloc HG.out.size _).grown hgrow (by have := HG.out.size; simp; omega) (fun g hg => ownBlock_ge HO.out hg))
          clear hown' hgrow
          go_wp2_with fail
          go_roundw
          case rel => exact ⟨k + 1, by omega, HLs.out, by go_num, rfl, O2.out, G2.out⟩
          case measure => simp [intOf]; omega
        · have hE := Lib.hid (And.intro (show M ≤ k by omega) (And.intro (show k ≤ M + 1 by omega) (show cS F k = 0 by omega)))
          have hn0 : ¬ q > 0 := hq0
          obtain rfl : q = 0 := by omega
          clear hq hn0 hq0 hkM
          go_wp2_with fail
          go_ret
          exact ⟨_, k, rfl, hE.out.1, hE.out.2.1, hE.out.2.2, HO.out, HG.out⟩
end Go.Proofs.YtaagegcidbgjmaaGreatDoor.Limb
namespace Go.Proofs.YtaagegcidbgjmaaGreatDoor.Limb
open Go.RowKit Go.Sort Go.Fresh

/-- append to nothing, as an equation, in whatever world the source may be read. -/
theorem append_nil_run (a : Option Addr) (n cap : Nat) (o : Nat → Int) (w : World) (base ty : Nat) (h : Rd w a n o) (hn : n ≤ 1000000000) (hb : base ≤ w.heap.size) :
    ∃ a' cap' w', (Builtin.append_ #[22, 22] ty #[.slice none 0 0, .slice a n cap]).run Tryz.prog w = .ok (.slice a' n cap') w' ∧ Own 74 w' base a' n cap' o ∧ (a' = none → cap' = 0) ∧ Below w.heap.size w w' := by
  obtain ⟨i0, hi, hz0, hz1, hz2⟩ := info_parts info32
  cases a with
  | none =>
    obtain rfl : n = 0 := by
      rcases Nat.eq_zero_or_pos n with h0 | h0
      · exact h0
      · obtain ⟨b, off, e, _⟩ := h.cells h0; cases e
    refine ⟨none, 0, w, ?_, ⟨Nat.le_refl _, Or.inl ⟨rfl, rfl, rfl⟩, fun i hi => by omega⟩, fun _ => rfl, Below.refl _ _⟩
    simp [Builtin.append_, run_underlying (P := Tryz.prog) Tryz.underlying22, sizeOf, typeInfo, hi, Builtin.lenOf, Builtin.firstCells]
  | some p =>
    obtain ⟨b, off, pt⟩ := p
    obtain ⟨v', w', hrun, hown, hgrow, _⟩ := run_append_own (P := Tryz.prog) w base 22 ty 74 i0 (.int .u32 0) 1 4 Tryz.underlying22 hi hz0 hz1 hz2 rfl (by decide) (.slice none 0 0) 0 [] (Own.row_nil w base o) ⟨b, off, pt⟩ n cap (ucs o n) (by rw [ucs_len]; omega)
      (by
        intro j u hj
        obtain ⟨hjn, rfl⟩ := ucs_get' hj
        obtain ⟨b', off', e, hc⟩ := h.cells (by omega)
        cases e
        rw [Addr.add_lit]
        exact hc j hjn) ucs_one (by unfold maxLen; omega) (by omega) hb
    have hown : w'.ownsRow base 74 1 v' n (ucs o n) := by simpa using hown
    obtain ⟨a', cap', rfl, hO, hN⟩ := Own.of_row hown h.rng
    exact ⟨a', cap', w', hrun, hO, hN, (Below.refl _ w).grown hgrow (Nat.le_refl _) (by intro k hk; simp [Value.ownBlock] at hk)⟩

/-- What an append makes, as a spec's fact. -/
theorem own_num2 {T L b : Nat} {s : Bool} {x : Option Addr × Nat} {o : Nat → Int} {w : World} (h : ∃ y : Option Addr × Nat, numV s x.1 L x.2 = numV s y.1 L y.2 ∧ Own T w b y.1 L y.2 o ∧ (y.1 = none → y.2 = 0)) : Own T w b x.1 L x.2 o ∧ (x.1 = none → x.2 = 0) := by
  obtain ⟨y, e, h⟩ := h
  simp only [Value.agg.injEq, Array.mk.injEq, List.cons.injEq, Value.slice.injEq, true_and, and_true] at e
  rw [e.1, e.2]
  exact h

theorem gives_append {P : Program} {o : Oper} {a : Act} {w w' : World} {Post : Value → World → Prop} {v u r : Value} (s x : Operand) (t : TypeId)
    (ho : o.op = .call { callee := .builtin .append, args := #[s, x], argTypes := #[t, t] }) (hs : a.eval s = v) (hx : a.eval x = u)
    (hr : (Builtin.append_ #[t, t] o.type #[v, u]).run P w = .ok r w') (hP : Post r w' ∧ Below w.heap.size w w') : givesUpon P w Post ((execOp a.eval o).run P w) := by
  unfold execOp
  simp only [ho, resolve, invoke, builtin, Sem.run_bind, Sem.run_pure, Result.andThen_ok, List.map_toArray, List.map_cons, List.map_nil, hs, hx, hr]
  exact hP

set_option maxHeartbeats 1000000 in
theorem twin_any (s : Bool) (a : Option Addr) (n cap : Nat) (o : Nat → Int) (w : World) (h : Rd w a n o) (hn : n ≤ 1000000000) :
    Calls Tryz.prog 103 #[numV s a n cap] w fun e w' => ∃ a' cap', e = .returned (numV s a' n cap') ∧ Own 74 w' w.heap.size a' n cap' o ∧ (a' = none → cap' = 0) ∧ Below w.heap.size w w' := by
  have HR := Lib.hid h
  have B1 := ((Bx.new w 24 (.bool s) (.slice a n cap)).alloc (.cells #[.bool false, .slice none 0 0] 24))
  have B2 := (Bx.new2 w (.cells #[.bool s, .slice a n cap] 24) 24 (.bool false) (.slice none 0 0))
  clear h
  go_enter Tryz.func103, Tryz.ntmps103
  go_upto_region 2 with (fail)
  obtain ⟨W, hW⟩ : ∃ W, W = ((w.alloc (.cells #[.bool s, .slice a n cap] 24)).alloc (.cells #[.bool false, .slice none 0 0] 24)) := ⟨_, rfl⟩
  have G1 := Lib.hid (((Below.refl _ _).alloc (by go_size) _ |>.alloc (by go_size) _) : Below w.heap.size w ((w.alloc (.cells #[.bool s, .slice a n cap] 24)).alloc (.cells #[.bool false, .slice none 0 0] 24)))
  rw [← hW] at B1 B2 G1
  rw [show ((w.alloc (.cells #[.bool s, .slice a n cap] 24)).alloc (.cells #[.bool false, .slice none 0 0] 24)) = W from hW.symm]
  have HB1 := Lib.hid B1; have HB2 := Lib.hid B2
  clear hW B1 B2
  have HS1 := Lib.hid (fun (w' : World) (hb : Below W.heap.size W w') => And.intro (HB1.out.below hb HB1.out.lt).c0 (HB1.out.below hb HB1.out.lt).c1)
  have AP := Lib.hid (fun (w' : World) (hb : Below W.heap.size W w') (ty : Nat) => append_nil_run a n cap o w' W.heap.size ty (HR.out.below (G1.out.trans (hb.mono G1.out.size))) hn hb.size)
  refine wp_region_fresh 7 (spOf [(5, Sp.made (fun x : Option Addr × Nat => .slice x.1 n x.2) (fun x w' => Own 74 w' W.heap.size x.1 n x.2 o ∧ (x.1 = none → x.2 = 0)))])
    (fun w' => Below W.heap.size W w') (by kernel_rfl) (by kernel_rfl)
    (spOf_cons (Sp.made_keeps fun x w w' h hb => ⟨h.1.below hb, h.2⟩) spOf_nil) (fun _ _ h hb => h.trans (hb.mono h.size)) ((Below.refl _ _).drew) ?_
  simp only [List.take_succ_cons, List.take_zero, List.drop_succ_cons, List.drop_zero]
  (refine wpF_reads rfl rfl ?_ (fun w' hw' => ?_) ?_; rotate_left; · (have hb' := Has.world hw'; (skip); clear hw'; go_simp; try rfl))
  (refine wpF_reads rfl rfl ?_ (fun w' hw' => ?_) ?_; rotate_left; · (have hb' := Has.world hw'; (have hs := HS1.out _ hb'); clear hw'; go_simp; try rfl))
  (refine wpF_reads rfl rfl ?_ (fun w' hw' => ?_) ?_; rotate_left; · (have hb' := Has.world hw'; (skip); clear hw'; go_simp; try rfl))
  (refine wpF_reads rfl rfl ?_ (fun w' hw' => ?_) ?_; rotate_left; · (have hb' := Has.world hw'; (skip); clear hw'; go_simp; try rfl))
  (refine wpF_reads rfl rfl ?_ (fun w' hw' => ?_) ?_; rotate_left; · (have hb' := Has.world hw'; (have hs := HS1.out _ hb'); clear hw'; go_simp; try rfl))
  refine wpF_spec rfl rfl (fun w' hw' => ?_) ?_
  · have hb' : Below W.heap.size W w' := hw'.world
    obtain ⟨a', cap', w'', hrun, hO, hN, hb⟩ := AP.out w' hb' 22
    clear hw'
    exact gives_append _ _ 22 rfl rfl rfl hrun ⟨⟨⟨(a', cap'), rfl⟩, ⟨(a', cap'), rfl, hO, hN⟩⟩, hb⟩
  rintro _ ⟨x, rfl⟩
  (refine wpF_reads rfl rfl ?_ (fun w' hw' => ?_) ?_; rotate_left; · (have hb' := Has.world hw'; (skip); clear hw'; go_simp; try rfl))
  refine wpF_nil (fun w5 hb5 hF5 => ?_)
  have OA := own_clone (x := x) (L := n) (T := 74) (o := o) (b := W.heap.size) (hF5 5)
  have HO := Lib.hid OA
  have B2 := HB2.out.below hb5 HB2.out.lt
  have HB5 := Lib.hid B2
  obtain ⟨b30, b31, b32, b33⟩ := B2.all
  have HG5 := Lib.hid (G1.out.trans (hb5.mono G1.out.size))
  have hz4 := HB2.out.lt
  have hz5 := G1.out.size
  clear hF5 OA B2 hb5 HS1 AP
  go_wp2_with fail
  refine bodyPost_ret (results_cell rfl _ _ _ _ _ _ _ rfl (HB5.out.set _ _) Tryz.underlying24 rfl (by kernel_rfl)) rfl ⟨x.1, x.2, rfl, ?_, HO.out.2, ?_⟩
  · exact ((HO.out.1.other (by dsimp only; omega) _).other (by dsimp only; omega) _).mono hz5
  · exact (HG5.out.setCell (by dsimp only; omega) _).setCell (by dsimp only; omega) _
end Go.Proofs.YtaagegcidbgjmaaGreatDoor.Limb
