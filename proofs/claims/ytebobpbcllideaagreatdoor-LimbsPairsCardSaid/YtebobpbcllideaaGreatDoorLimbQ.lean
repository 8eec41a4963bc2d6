/-
  The walks of the document's answer for limbs: Cmp, Sign, Add, Mul.
-/
import Derived.Test.YtebobpbcllideaaGreatDoorLimbP
import Derived.Test.YtebobpbcllideaaGreatDoorLimbJ
namespace Go.Proofs.YtebobpbcllideaaGreatDoor.Limb
open Go.RowKit Go.Sort Go.Fresh

/-- A number comes back, in a list of the call's own, with whatever room behind. -/
def ResF (w : World) (z : Int) (e : Ending) (w' : World) : Prop :=
  ∃ a cap, e = .returned (numV (decide (z < 0)) a (lenB z.natAbs) cap) ∧ Own 57 w' w.heap.size a (lenB z.natAbs) cap (dgi z.natAbs) ∧ Below w.heap.size w w'
/-- An amount comes back, in a list of the call's own. -/
def AmtR (w : World) (N : Nat) (e : Ending) (w' : World) : Prop :=
  ∃ a K cap o, e = .returned (.slice a K cap) ∧ Dig o K ∧ sumB o K = (N : Int) ∧ K ≤ 1000000000 ∧ Own 57 w' w.heap.size a K cap o ∧ Below w.heap.size w w'

theorem more_own (x y : Nat) (a b : Option Addr) (ca cb : Nat) (w : World) (ha : Rd w a (lenB x) (dgi x)) (hb : Rd w b (lenB y) (dgi y)) (hx : lenB x ≤ 100000000) (hy : lenB y ≤ 100000000) :
    Calls Tryz.prog 39 #[.slice a (lenB x) ca, .slice b (lenB y) cb] w (AmtR w (x + y)) := by
  obtain ⟨M, hM1, hM2, hM3, hM4⟩ : ∃ M, lenB x ≤ M ∧ lenB y ≤ M ∧ (M = lenB x ∨ M = lenB y) ∧ M ≤ 100000000 := by
    rcases Nat.le_total (lenB x) (lenB y) with h | h
    · exact ⟨lenB y, h, Nat.le_refl _, .inr rfl, hy⟩
    · exact ⟨lenB x, Nat.le_refl _, h, .inl rfl, hx⟩
  refine (more_any a b (lenB x) (lenB y) ca cb M (dgi x) (dgi y) w ha hb (dgi_Dig _ _) (dgi_Dig _ _) hx hy hM1 hM2 hM3).mono ?_
  rintro e w' ⟨v, K, rfl, h1, h2, h3, h4, h5⟩
  obtain ⟨a', cap', rfl, hO, -⟩ := Own.of_row h4 (fun i hi => by have := cD_Dig (fun k => part (dgi x) (lenB x) k + part (dgi y) (lenB y) k) K i hi; omega)
  refine ⟨a', K, cap', _, rfl, cD_Dig _ _, ?_, by omega, hO, h5⟩
  have h := cS_sum (fun k => part (dgi x) (lenB x) k + part (dgi y) (lenB y) k) K
  rw [h3, sumB_plus, sumB_part _ (by omega), sumB_part _ (by omega), sumB_dgi, sumB_dgi] at h
  omega
theorem less_own (x y : Nat) (a b : Option Addr) (ca cb : Nat) (w : World) (ha : Rd w a (lenB x) (dgi x)) (hb : Rd w b (lenB y) (dgi y)) (hx : lenB x ≤ 100000000) (hy : y ≤ x) :
    Calls Tryz.prog 40 #[.slice a (lenB x) ca, .slice b (lenB y) cb] w (AmtR w (x - y)) := by
  have hl := lenB_mono hy
  refine (less_any a b (lenB x) (lenB y) ca cb (dgi x) (dgi y) w ha hb (dgi_Dig _ _) (dgi_Dig _ _) hx hl).mono ?_
  rintro e w' ⟨v, rfl, h4, h5⟩
  obtain ⟨a', cap', rfl, hO, -⟩ := Own.of_row h4 (fun i hi => by have := cD_Dig (fun k => part (dgi x) (lenB x) k - part (dgi y) (lenB y) k) (lenB x) i hi; omega)
  refine ⟨a', lenB x, cap', _, rfl, cD_Dig _ _, ?_, by omega, hO, h5⟩
  have e : (fun k => part (dgi x) (lenB x) k - part (dgi y) (lenB y) k) = fun k => part (dgi x) (lenB x) k + part (dgi y) (lenB y) k * (-1) := by funext k; omega
  have hs : sumB (fun k => part (dgi x) (lenB x) k - part (dgi y) (lenB y) k) (lenB x) = (x : Int) - y := by
    rw [e, sumB_plus, sumB_times, sumB_part _ (Nat.le_refl _), sumB_part _ hl, sumB_dgi, sumB_dgi]; omega
  have hlt := lt_pw_lenB x
  have h := (cS_fits (f := fun k => part (dgi x) (lenB x) k - part (dgi y) (lenB y) k) (n := lenB x) (by rw [hs]; omega) (by rw [hs]; omega)).2
  rw [h, hs]; omega
theorem times_own (x y : Nat) (a b : Option Addr) (ca cb : Nat) (w : World) (ha : Rd w a (lenB x) (dgi x)) (hb : Rd w b (lenB y) (dgi y)) (hx : lenB x ≤ 100000000) (hy : lenB y ≤ 100000000) :
    Calls Tryz.prog 41 #[.slice a (lenB x) ca, .slice b (lenB y) cb] w (AmtR w (x * y)) := by
  refine (times_any a b (lenB x) (lenB y) ca cb (dgi x) (dgi y) w ha hb (dgi_Dig _ _) (dgi_Dig _ _) hx hy).mono ?_
  rintro e w' ⟨o, rfl, h1, h2, h3, h4⟩
  refine ⟨_, _, _, o, rfl, h1, ?_, by omega, h3, h4⟩
  rw [h2, sumB_dgi, sumB_dgi]; omega

theorem Own.short {T : Nat} {w : World} {base : Nat} {a : Option Addr} {n cap L : Nat} {o o' : Nat → Int} (h : Own T w base a n cap o) (hL : L ≤ n) (e : ∀ i, i < L → o i = o' i) : Own T w base a L cap o' := by
  refine ⟨Nat.le_trans hL h.le, ?_, fun i hi => by rw [← e i hi]; exact h.rng i (by omega)⟩
  rcases h.place with ⟨e0, h0, h1⟩ | ⟨g, cur, ha, hbg, hg, hcap, hc⟩
  · exact Or.inl ⟨e0, by omega, by omega⟩
  · exact Or.inr ⟨g, cur, ha, hbg, hg, hcap, fun i hi => by rw [hc i (by omega)]; show some (Value.int .u32 (o i)) = _; rw [e i hi]⟩
/-- What num makes of it. -/
theorem own_fit {T : Nat} {w : World} {base : Nat} {a : Option Addr} {n cap N : Nat} {o : Nat → Int} (h : Own T w base a n cap o) (hd : Dig o n) (hs : sumB o n = (N : Int)) : Own T w base a (lenB N) cap (dgi N) := by
  have e : (sumB o n).toNat = N := by omega
  have h1 := lenB_le_of hd
  rw [e] at h1
  refine h.short h1 fun i hi => ?_
  have h2 := dg_sumB hd i (by omega)
  rw [e] at h2
  exact h2.symm
theorem num_own (s sB : Bool) (a : Option Addr) (n cap N b : Nat) (o : Nat → Int) (w : World) (h : Own 57 w b a n cap o) (hd : Dig o n) (hn : n ≤ 1000000000) (hs : sumB o n = (N : Int)) (hB : (s && decide (0 < lenB N)) = sB) :
    Calls Tryz.prog 38 #[.bool s, .slice a n cap] w fun e w' => e = .returned (numV sB a (lenB N) cap) ∧ Below w.heap.size w w' := by
  have h1 := num_any s a n cap o w h.rd hd hn h.le
  rw [show (sumB o n).toNat = N by omega, hB] at h1
  exact h1
/-- An amount, as a spec's fact. -/
def AmtF (b N : Nat) (x : Option Addr × Nat × Nat) (w : World) : Prop := ∃ o, Dig o x.2.1 ∧ sumB o x.2.1 = (N : Int) ∧ x.2.1 ≤ 1000000000 ∧ Own 57 w b x.1 x.2.1 x.2.2 o
theorem AmtF.keeps {b N : Nat} (x : Option Addr × Nat × Nat) (w w' : World) (h : AmtF b N x w) (hb : Below w.heap.size w w') : AmtF b N x w' := by
  obtain ⟨o, h1, h2, h3, h4⟩ := h
  exact ⟨o, h1, h2, h3, h4.below hb⟩
theorem amt_of {b N : Nat} {x : Option Addr × Nat × Nat} {w : World} (h : ∃ y : Option Addr × Nat × Nat, Value.slice x.1 x.2.1 x.2.2 = .slice y.1 y.2.1 y.2.2 ∧ AmtF b N y w) : AmtF b N x w := by
  obtain ⟨⟨y1, y2, y3⟩, e, h⟩ := h
  obtain ⟨x1, x2, x3⟩ := x
  simp only [Value.slice.injEq] at e
  obtain ⟨rfl, rfl, rfl⟩ := e
  exact h
theorem own_numc {T L b : Nat} {s : Bool} {x : Option Addr × Nat} {o : Nat → Int} {w : World} (h : ∃ y : Option Addr × Nat, numV s x.1 L x.2 = numV s y.1 L y.2 ∧ Own T w b y.1 L y.2 o) : Own T w b x.1 L x.2 o := by
  obtain ⟨y, e, h⟩ := h
  simp only [Value.agg.injEq, Array.mk.injEq, List.cons.injEq, Value.slice.injEq, true_and, and_true] at e
  rw [e.1, e.2]
  exact h

theorem plus_plain (z1 z2 : Int) (h : decide (z1 < 0) = decide (z2 < 0)) : z1.natAbs + z2.natAbs = (z1 + z2).natAbs ∧ (decide (z1 < 0) && decide (0 < lenB (z1 + z2).natAbs)) = decide (z1 + z2 < 0) := by
  have e0 := pos_len (z := z1 + z2)
  by_cases h1 : z1 < 0 <;> by_cases h2 : z2 < 0 <;> simp only [h1, h2, decide_true, decide_false, reduceCtorEq] at h <;> refine ⟨by omega, ?_⟩ <;> simp only [h1, decide_true, decide_false, Bool.true_and, Bool.false_and]
  · exact decide_eq_decide.2 (e0.trans (by omega))
  · exact (decide_eq_false (by omega)).symm
theorem minus_plain (zp zq : Int) (h : zq.natAbs ≤ zp.natAbs) (hs : ¬ decide (zp < 0) = decide (zq < 0)) : zp.natAbs - zq.natAbs = (zp + zq).natAbs ∧ (decide (zp < 0) && decide (0 < lenB (zp + zq).natAbs)) = decide (zp + zq < 0) := by
  have h3 := add_plain zp zq (-1) h (by rw [if_neg hs])
  exact ⟨by omega, h3.2.2⟩


set_option maxHeartbeats 1000000 in
theorem rcmp_any (s1 : Bool) (a1 : Option Addr) (n1 c1 : Nat) (o1 : Nat → Int) (s2 : Bool) (a2 : Option Addr) (n2 c2 : Nat) (o2 : Nat → Int) (w : World)
    (h1 : Rd w a1 n1 o1) (hn1 : n1 ≤ 100000000) (hc1 : n1 ≤ c1) (h2 : Rd w a2 n2 o2) (hn2 : n2 ≤ 100000000) (hc2 : n2 ≤ c2) :
    Calls Tryz.prog 12 #[numV s1 a1 n1 c1, numV s2 a2 n2 c2] w fun e w' => e = .returned (.int .i64 (cmpZ (valN s1 n1 o1) (valN s2 n2 o2))) ∧ Below w.heap.size w w' := by
  obtain ⟨x1, d1, r1, l1, m1, O1⟩ := fit_any s1 a1 n1 c1 o1 w h1 (by omega) hc1
  obtain ⟨x2, d2, r2, l2, m2, O2⟩ := fit_any s2 a2 n2 c2 o2 w h2 (by omega) hc2
  generalize valN s1 n1 o1 = z1 at r1 l1 m1 O1 ⊢
  have HO1 := Lib.hid O1; clear O1
  generalize valN s2 n2 o2 = z2 at r2 l2 m2 O2 ⊢
  have HO2 := Lib.hid O2; clear O2
  have HR := Lib.hid (And.intro r1 r2)
  clear h1 h2 r1 r2
  have HB1 := Lib.hid ((Bx.new w 24 (.bool s1) (.slice a1 n1 c1)).alloc (.cells #[.bool s2, .slice a2 n2 c2] 24))
  have HB2 := Lib.hid (Bx.new2 w (.cells #[.bool s1, .slice a1 n1 c1] 24) 24 (.bool s2) (.slice a2 n2 c2))
  go_enter Tryz.func12, Tryz.ntmps12
  go_wp2_with fail
  refine (HO1.out _ ?_).mono ?_
  · (repeat' (first | (with_reducible exact Below.refl _ _) | (with_reducible assumption) | (with_reducible refine Below.alloc ?_ ?_ _) | (with_reducible refine Below.drew ?_) | (with_reducible refine bdrewN ?_ _) | (with_reducible refine Below.setCell ?_ ?_ _) | (with_reducible refine Below.frame ?_ _) | go_size))
  rintro e w1 ⟨rfl, hb1⟩
  have B1 := HB1.out.below hb1 HB1.out.lt
  have B2 := HB2.out.below hb1 HB2.out.lt
  have G1 := Lib.hid (((Below.refl _ _).alloc (by go_size) _ |>.alloc (by go_size) _).trans (hb1.mono (by go_size)) : Below w.heap.size w w1)
  have K1 := Lib.hid B1; have K2 := Lib.hid B2
  obtain ⟨b10, b11, b12, b13⟩ := B1.all
  obtain ⟨b20, b21, b22, b23⟩ := B2.all
  clear HB1 HB2 B1 B2 hb1
  go_wp2_with fail
  refine (HO2.out _ ?_).mono ?_
  · have := G1.out; (repeat' (first | (with_reducible exact Below.refl _ _) | (with_reducible assumption) | (with_reducible refine Below.alloc ?_ ?_ _) | (with_reducible refine Below.drew ?_) | (with_reducible refine bdrewN ?_ _) | (with_reducible refine Below.setCell ?_ ?_ _) | (with_reducible refine Below.frame ?_ _) | go_size))
  rintro e w2 ⟨rfl, hb2⟩
  have B1 := (K1.out.set (.bool (decide (z1 < 0))) (.slice x1 (lenB z1.natAbs) d1)).below hb2 (by simpa using K1.out.lt)
  have B2 := ((K2.out.other (a := ⟨w.heap.size, 0, none⟩) (by dsimp only; omega) (.bool (decide (z1 < 0)))).other (a := ⟨w.heap.size, 1, none⟩) (by dsimp only; omega) (.slice x1 (lenB z1.natAbs) d1)).below hb2 (by simpa using K2.out.lt)
  have G2 := Lib.hid (((G1.out.setCell (by simp) _).setCell (by simp) _).trans (hb2.mono (by simpa using G1.out.size)) : Below w.heap.size w w2)
  have C1 := Lib.hid B1; have C2 := Lib.hid B2
  obtain ⟨b10, b11, b12, b13⟩ := B1.all
  obtain ⟨b20, b21, b22, b23⟩ := B2.all
  clear K1 K2 B1 B2 hb2 G1
  go_upto_region 3 with (fail)
  obtain ⟨W, hW⟩ : ∃ W, W = ((w2.setCell ⟨w.heap.size + 1, 0, none⟩ (.bool (decide (z2 < 0)))).setCell ⟨w.heap.size + 1, 1, none⟩ (.slice x2 (lenB z2.natAbs) d2)) := ⟨_, rfl⟩
  have B1 := (C1.out.other (a := ⟨w.heap.size + 1, 0, none⟩) (by dsimp only; omega) (.bool (decide (z2 < 0)))).other (a := ⟨w.heap.size + 1, 1, none⟩) (by dsimp only; omega) (.slice x2 (lenB z2.natAbs) d2)
  have B2 := C2.out.set (.bool (decide (z2 < 0))) (.slice x2 (lenB z2.natAbs) d2)
  have G3 := (G2.out.setCell (p := ⟨w.heap.size + 1, 0, none⟩) (by simp) (.bool (decide (z2 < 0)))).setCell (p := ⟨w.heap.size + 1, 1, none⟩) (by simp) (.slice x2 (lenB z2.natAbs) d2)
  rw [← hW] at B1 B2 G3
  rw [show ((w2.setCell ⟨w.heap.size + 1, 0, none⟩ (.bool (decide (z2 < 0)))).setCell ⟨w.heap.size + 1, 1, none⟩ (.slice x2 (lenB z2.natAbs) d2)) = W from hW.symm]
  have KG := Lib.hid G3
  have AM := Lib.hid (order_any z1.natAbs z2.natAbs x1 x2 d1 d2 W (HR.out.1.below G3) (HR.out.2.below G3) (by omega) (by omega))
  have AN := Lib.hid (order_any z2.natAbs z1.natAbs x2 x1 d2 d1 W (HR.out.2.below G3) (HR.out.1.below G3) (by omega) (by omega))
  have E := Lib.hid (cmpZ_amounts z1 z2)
  clear b10 b11 b12 b13 b20 b21 b22 b23 C1 C2 hW G2 G3 HO1 HO2
  obtain ⟨b10, b11, b12, b13⟩ := B1.all
  obtain ⟨b20, b21, b22, b23⟩ := B2.all
  clear B1 B2
  by_cases n1 : z1 < 0 <;> by_cases n2 : z2 < 0
  · have E2 := Lib.hid (E.out.trans (by rw [if_pos n1, if_pos n2]))
    rw [decide_eq_true n1] at b10
    rw [decide_eq_true n2] at b20
    clear n1 n2 E
    go_wp2_with fail
    refine AN.out.mono ?_
    rintro e w2 ⟨rfl, m, rfl⟩
    go_wp2
    go_ret
    exact ⟨by rw [E2.out]; rfl, bdrewN KG.out m⟩
  · have E2 := Lib.hid (E.out.trans (by rw [if_pos n1, if_neg n2]))
    rw [decide_eq_true n1] at b10
    rw [decide_eq_false n2] at b20
    clear n1 n2 E
    go_wp2
    go_ret
    exact ⟨by rw [E2.out]; rfl, KG.out⟩
  · have E2 := Lib.hid (E.out.trans (by rw [if_neg n1, if_pos n2]))
    rw [decide_eq_false n1] at b10
    rw [decide_eq_true n2] at b20
    clear n1 n2 E
    go_wp2
    go_ret
    exact ⟨by rw [E2.out]; rfl, KG.out⟩
  · have E2 := Lib.hid (E.out.trans (by rw [if_neg n1, if_neg n2]))
    rw [decide_eq_false n1] at b10
    rw [decide_eq_false n2] at b20
    clear n1 n2 E
    go_wp2_with fail
    refine AM.out.mono ?_
    rintro e w2 ⟨rfl, m, rfl⟩
    go_wp2
    go_ret
    exact ⟨by rw [E2.out]; rfl, bdrewN KG.out m⟩

set_option maxHeartbeats 1000000 in
theorem rsign_any (s1 : Bool) (a1 : Option Addr) (n1 c1 : Nat) (o1 : Nat → Int) (w : World) (h1 : Rd w a1 n1 o1) (hn1 : n1 ≤ 100000000) (hc1 : n1 ≤ c1) :
    Calls Tryz.prog 14 #[numV s1 a1 n1 c1] w fun e w' => e = .returned (.int .i64 (cmpZ (valN s1 n1 o1) 0)) ∧ Below w.heap.size w w' := by
  obtain ⟨x1, d1, r1, l1, m1, O1⟩ := fit_any s1 a1 n1 c1 o1 w h1 (by omega) hc1
  generalize valN s1 n1 o1 = z1 at r1 l1 m1 O1 ⊢
  have HO1 := Lib.hid O1; clear O1
  have HB1 := Lib.hid (Bx.new w 24 (.bool s1) (.slice a1 n1 c1))
  clear h1 r1
  go_enter Tryz.func14, Tryz.ntmps14
  go_wp2_with fail
  refine (HO1.out _ ?_).mono ?_
  · (repeat' (first | (with_reducible exact Below.refl _ _) | (with_reducible assumption) | (with_reducible refine Below.alloc ?_ ?_ _) | (with_reducible refine Below.drew ?_) | (with_reducible refine bdrewN ?_ _) | (with_reducible refine Below.setCell ?_ ?_ _) | (with_reducible refine Below.frame ?_ _) | go_size))
  rintro e w1 ⟨rfl, hb1⟩
  have B1 := HB1.out.below hb1 HB1.out.lt
  have G1 := Lib.hid (((Below.refl _ _).alloc (by go_size) _).trans (hb1.mono (by go_size)) : Below w.heap.size w w1)
  obtain ⟨b10, b11, b12, b13⟩ := B1.all
  clear HB1 B1 hb1 HO1
  obtain ⟨L, hL⟩ : ∃ L, L = lenB z1.natAbs := ⟨_, rfl⟩
  rw [← hL] at l1 m1 ⊢
  rcases Int.lt_trichotomy z1 0 with h | h | h
  · have E := Lib.hid (cmpZ_lt (x := z1) (y := 0) h)
    rw [decide_eq_true h]
    clear h
    go_wp2
    go_ret
    exact ⟨by rw [E.out]; rfl, (G1.out.setCell (by simp) _).setCell (by simp) _⟩
  · have E := Lib.hid (cmpZ_eq (x := z1) (y := 0) h)
    rw [decide_eq_false (by omega)]
    obtain rfl : L = 0 := by rw [hL, h]; exact lenB_zero
    clear h hL
    go_wp2
    go_ret
    exact ⟨by rw [E.out]; rfl, (G1.out.setCell (by simp) _).setCell (by simp) _⟩
  · have E := Lib.hid (cmpZ_gt (x := z1) (y := 0) h)
    rw [decide_eq_false (by omega)]
    have h0 : (L : Int) > 0 := by have := (pos_len (z := z1)).2 (by omega); omega
    clear h hL
    go_wp2
    go_ret
    exact ⟨by rw [E.out]; rfl, (G1.out.setCell (by simp) _).setCell (by simp) _⟩
end Go.Proofs.YtebobpbcllideaaGreatDoor.Limb
