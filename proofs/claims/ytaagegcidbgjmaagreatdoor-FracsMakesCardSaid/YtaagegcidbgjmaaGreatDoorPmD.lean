/-
  The walks of the document's answer for limbs: Cmp, Sign, Add, Mul.
  A Book's lists of parts: what stays as it was; a store, and one part more behind a list of one's own; marks.
  The walks of the document's answer for limbs: Add, Mul.
  The walk of a Book's fillLimb: marks into all lists.
  The walks of Of, of limbs and of the document's answer: a number of 64 bits, as parts.
  The walks of the document's answer for limbs: Neg, Sub.
-/
import Derived.Test.YtaagegcidbgjmaaGreatDoorPmC
import Derived.Deep.DeepCutAuto
namespace Go.Proofs.YtaagegcidbgjmaaGreatDoor.Limb
open Go.RowKit Go.Sort Go.Fresh

/-- A number comes back, in a list of the call's own, with whatever room behind. -/
def ResF (w : World) (z : Int) (e : Ending) (w' : World) : Prop :=
  ∃ a cap, e = .returned (numV (decide (z < 0)) a (lenB z.natAbs) cap) ∧ Own 74 w' w.heap.size a (lenB z.natAbs) cap (dgi z.natAbs) ∧ Below w.heap.size w w'
/-- An amount comes back, in a list of the call's own. -/
def AmtR (w : World) (N : Nat) (e : Ending) (w' : World) : Prop :=
  ∃ a K cap o, e = .returned (.slice a K cap) ∧ Dig o K ∧ sumB o K = (N : Int) ∧ K ≤ 1000000000 ∧ Own 74 w' w.heap.size a K cap o ∧ Below w.heap.size w w'

theorem more_own (x y : Nat) (a b : Option Addr) (ca cb : Nat) (w : World) (ha : Rd w a (lenB x) (dgi x)) (hb : Rd w b (lenB y) (dgi y)) (hx : lenB x ≤ 100000000) (hy : lenB y ≤ 100000000) :
    Calls Tryz.prog 142 #[.slice a (lenB x) ca, .slice b (lenB y) cb] w (AmtR w (x + y)) := by
  obtain ⟨M, hM1, hM2, hM3, hM4⟩ : ∃ M, lenB x ≤ M ∧ lenB y ≤ M ∧ (M = lenB x ∨ M = lenB y) ∧ M ≤ 100000000 := by
    rcases Nat.le_total (lenB x) (lenB y) with h | h
    · exact ⟨lenB y, h, Nat.le_refl _, .inr rfl, hy⟩
    · exact ⟨lenB x, Nat.le_refl _, h, .inl rfl, hx⟩
  refine (more_any a b (lenB x) (lenB y) ca cb M (dgi x) (dgi y) w ha hb (dgi_Dig _ _) (dgi_Dig _ _) hx hy hM1 hM2 hM3).mono ?_
  rintro e w' ⟨v, K, rfl, h1, h2, h3, h4, h5⟩
  obtain ⟨a', cap', rfl, hO, -⟩ := Own.of_row h4 (fun i hi => by have := cD_Dig (fun k => part (dgi x) (lenB x) k + part (dgi y) (lenB y) k) K i hi; omega)
  refine ⟨a', K, cap', _, rfl, cD_Dig _ _, ?_, by omega, hO, h5⟩
  have h := cS_sum (fun k => part (dgi x) (lenB x) k + part (dgi y) (lenB y) k) K
  rw [h3, sumB_plus, sumB_part _ (by omega), sumB_part _ (by omega), sumB_dgi, sumB_dgi] at h
  omega
theorem less_own (x y : Nat) (a b : Option Addr) (ca cb : Nat) (w : World) (ha : Rd w a (lenB x) (dgi x)) (hb : Rd w b (lenB y) (dgi y)) (hx : lenB x ≤ 100000000) (hy : y ≤ x) :
    Calls Tryz.prog 143 #[.slice a (lenB x) ca, .slice b (lenB y) cb] w (AmtR w (x - y)) := by
  have hl := lenB_mono hy
  refine (less_any a b (lenB x) (lenB y) ca cb (dgi x) (dgi y) w ha hb (dgi_Dig _ _) (dgi_Dig _ _) hx hl).mono ?_
  rintro e w' ⟨v, rfl, h4, h5⟩
  obtain ⟨a', cap', rfl, hO, -⟩ := Own.of_row h4 (fun i hi => by have := cD_Dig (fun k => part (dgi x) (lenB x) k - part (dgi y) (lenB y) k) (lenB x) i hi; omega)
  refine ⟨a', lenB x, cap', _, rfl, cD_Dig _ _, ?_, by omega, hO, h5⟩
  have e : (fun k => part (dgi x) (lenB x) k - part (dgi y) (lenB y) k) = fun k => part (dgi x) (lenB x) k + part (dgi y) (lenB y) k * (-1) := by funext k; omega
  have hs : sumB (fun k => part (dgi x) (lenB x) k - part (dgi y) (lenB y) k) (lenB x) = (x : Int) - y := by
    rw [e, sumB_plus, sumB_times, sumB_part _ (Nat.le_refl _), sumB_part _ hl, sumB_dgi, sumB_dgi]; omega
  have hlt := lt_pw_lenB x
  have h := (cS_fits (f := fun k => part (dgi x) (lenB x) k - part (dgi y) (lenB y) k) (n := lenB x) (by rw [hs]; omega) (by rw [hs]; omega)).2
  rw [h, hs]; omega
theorem times_own (x y : Nat) (a b : Option Addr) (ca cb : Nat) (w : World) (ha : Rd w a (lenB x) (dgi x)) (hb : Rd w b (lenB y) (dgi y)) (hx : lenB x ≤ 100000000) (hy : lenB y ≤ 100000000) :
    Calls Tryz.prog 140 #[.slice a (lenB x) ca, .slice b (lenB y) cb] w (AmtR w (x * y)) := by
  refine (times_any a b (lenB x) (lenB y) ca cb (dgi x) (dgi y) w ha hb (dgi_Dig _ _) (dgi_Dig _ _) hx hy).mono ?_
  rintro e w' ⟨o, rfl, h1, h2, h3, h4⟩
  refine ⟨_, _, _, o, rfl, h1, ?_, by omega, h3, h4⟩
  rw [h2, sumB_dgi, sumB_dgi]; omega

theorem Own.short {T : Nat} {w : World} {base : Nat} {a : Option Addr} {n cap L : Nat} {o o' : Nat → Int} (h : Own T w base a n cap o) (hL : L ≤ n) (e : ∀ i, i < L → o i = o' i) : Own T w base a L cap o' := by
  refine ⟨Nat.le_trans hL h.le, ?_, fun i hi => by rw [← e i hi]; exact h.rng i (by omega)⟩
  rcases h.place with ⟨e0, h0, h1⟩ | ⟨g, cur, ha, hbg, hg, hcap, hc⟩
  · exact Or.inl ⟨e0, by omega, by omega⟩
  · exact Or.inr ⟨g, cur, ha, hbg, hg, hcap, fun i hi => by rw [hc i (by omega)]; show some (Value.int .u32 (o i)) = _; rw [e i hi]⟩
/-- What num makes of it. -/
theorem own_fit {T : Nat} {w : World} {base : Nat} {a : Option Addr} {n cap N : Nat} {o : Nat → Int} (h : Own T w base a n cap o) (hd : Dig o n) (hs : sumB o n = (N : Int)) : Own T w base a (lenB N) cap (dgi N) := by
  have e : (sumB o n).toNat = N := by omega
  have h1 := lenB_le_of hd
  rw [e] at h1
  refine h.short h1 fun i hi => ?_
  have h2 := dg_sumB hd i (by omega)
  rw [e] at h2
  exact h2.symm
theorem num_own (s sB : Bool) (a : Option Addr) (n cap N b : Nat) (o : Nat → Int) (w : World) (h : Own 74 w b a n cap o) (hd : Dig o n) (hn : n ≤ 1000000000) (hs : sumB o n = (N : Int)) (hB : (s && decide (0 < lenB N)) = sB) :
    Calls Tryz.prog 108 #[.bool s, .slice a n cap] w fun e w' => e = .returned (numV sB a (lenB N) cap) ∧ Below w.heap.size w w' := by
  have h1 := num_any s a n cap o w h.rd hd hn h.le
  rw [show (sumB o n).toNat = N by omega, hB] at h1
  exact h1
/-- An amount, as a spec's fact. -/
def AmtF (b N : Nat) (x : Option Addr × Nat × Nat) (w : World) : Prop := ∃ o, Dig o x.2.1 ∧ sumB o x.2.1 = (N : Int) ∧ x.2.1 ≤ 1000000000 ∧ Own 74 w b x.1 x.2.1 x.2.2 o
theorem AmtF.keeps {b N : Nat} (x : Option Addr × Nat × Nat) (w w' : World) (h : AmtF b N x w) (hb : Below w.heap.size w w') : AmtF b N x w' := by
  obtain ⟨o, h1, h2, h3, h4⟩ := h
  exact ⟨o, h1, h2, h3, h4.below hb⟩
theorem amt_of {b N : Nat} {x : Option Addr × Nat × Nat} {w : World} (h : ∃ y : Option Addr × Nat × Nat, Value.slice x.1 x.2.1 x.2.2 = .slice y.1 y.2.1 y.2.2 ∧ AmtF b N y w) : AmtF b N x w := by
  obtain ⟨⟨y1, y2, y3⟩, e, h⟩ := h
  obtain ⟨x1, x2, x3⟩ := x
  simp only [Value.slice.injEq] at e
  obtain ⟨rfl, rfl, rfl⟩ := e
  exact h
theorem own_numc {T L b : Nat} {s : Bool} {x : Option Addr × Nat} {o : Nat → Int} {w : World} (h : ∃ y : Option Addr × Nat, numV s x.1 L x.2 = numV s y.1 L y.2 ∧ Own T w b y.1 L y.2 o) : Own T w b x.1 L x.2 o := by
  obtain ⟨y, e, h⟩ := h
  simp only [Value.agg.injEq, Array.mk.injEq, List.cons.injEq, Value.slice.injEq, true_and, and_true] at e
  rw [e.1, e.2]
  exact h

theorem plus_plain (z1 z2 : Int) (h : decide (z1 < 0) = decide (z2 < 0)) : z1.natAbs + z2.natAbs = (z1 + z2).natAbs ∧ (decide (z1 < 0) && decide (0 < lenB (z1 + z2).natAbs)) = decide (z1 + z2 < 0) := by
  have e0 := pos_len (z := z1 + z2)
  by_cases h1 : z1 < 0 <;> by_cases h2 : z2 < 0 <;> simp only [h1, h2, decide_true, decide_false, reduceCtorEq] at h <;> refine ⟨by omega, ?_⟩ <;> simp only [h1, decide_true, decide_false, Bool.true_and, Bool.false_and]
  · exact decide_eq_decide.2 (e0.trans (by omega))
  · exact (decide_eq_false (by omega)).symm
theorem minus_plain (zp zq : Int) (h : zq.natAbs ≤ zp.natAbs) (hs : ¬ decide (zp < 0) = decide (zq < 0)) : zp.natAbs - zq.natAbs = (zp + zq).natAbs ∧ (decide (zp < 0) && decide (0 < lenB (zp + zq).natAbs)) = decide (zp + zq < 0) := by
  have h3 := add_plain zp zq (-1) h (by rw [if_neg hs])
  exact ⟨by omega, h3.2.2⟩


set_option maxHeartbeats 1000000 in
theorem rcmp_any (s1 : Bool) (a1 : Option Addr) (n1 c1 : Nat) (o1 : Nat → Int) (s2 : Bool) (a2 : Option Addr) (n2 c2 : Nat) (o2 : Nat → Int) (w : World)
    (h1 : Rd w a1 n1 o1) (hn1 : n1 ≤ 100000000) (hc1 : n1 ≤ c1) (h2 : Rd w a2 n2 o2) (hn2 : n2 ≤ 100000000) (hc2 : n2 ≤ c2) :
    Calls Tryz.prog 92 #[numV s1 a1 n1 c1, numV s2 a2 n2 c2] w fun e w' => e = .returned (.int .i64 (cmpZ (valN s1 n1 o1) (valN s2 n2 o2))) ∧ Below w.heap.size w w' := by
  obtain ⟨x1, d1, r1, l1, m1, O1⟩ := fit_any s1 a1 n1 c1 o1 w h1 (by omega) hc1
  obtain ⟨x2, d2, r2, l2, m2, O2⟩ := fit_any s2 a2 n2 c2 o2 w h2 (by omega) hc2
  generalize valN s1 n1 o1 = z1 at r1 l1 m1 O1 ⊢
  have HO1 := Lib.hid O1; clear O1
  generalize valN s2 n2 o2 = z2 at r2 l2 m2 O2 ⊢
  have HO2 := Lib.hid O2; clear O2
  have HR := Lib.hid (And.intro r1 r2)
  clear h1 h2 r1 r2
  have HB1 := Lib.hid ((Bx.new w 24 (.bool s1) (.slice a1 n1 c1)).alloc (.cells #[.bool s2, .slice a2 n2 c2] 24))
  have HB2 := Lib.hid (Bx.new2 w (.cells #[.bool s1, .slice a1 n1 c1] 24) 24 (.bool s2) (.slice a2 n2 c2))
  go_enter Tryz.func92, Tryz.ntmps92
  go_wp2_with fail
  refine (HO1.out _ ?_).mono ?_
  · (repeat' (first | (with_reducible exact Below.refl _ _) | (with_reducible assumption) | (with_reducible refine Below.alloc ?_ ?_ _) | (with_reducible refine Below.drew ?_) | (with_reducible refine bdrewN ?_ _) | (with_reducible refine Below.setCell ?_ ?_ _) | (with_reducible refine Below.frame ?_ _) | go_size))
  rintro e w1 ⟨rfl, hb1⟩
  have B1 := HB1.out.below hb1 HB1.out.lt
  have B2 := HB2.out.below hb1 HB2.out.lt
  have G1 := Lib.hid (((Below.refl _ _).alloc (by go_size) _ |>.alloc (by go_size) _).trans (hb1.mono (by go_size)) : Below w.heap.size w w1)
  have K1 := Lib.hid B1; have K2 := Lib.hid B2
  obtain ⟨b10, b11, b12, b13⟩ := B1.all
  obtain ⟨b20, b21, b22, b23⟩ := B2.all
  clear HB1 HB2 B1 B2 hb1
  go_wp2_with fail
  refine (HO2.out _ ?_).mono ?_
  · have := G1.out; (repeat' (first | (with_reducible exact Below.refl _ _) | (with_reducible assumption) | (with_reducible refine Below.alloc ?_ ?_ _) | (with_reducible refine Below.drew ?_) | (with_reducible refine bdrewN ?_ _) | (with_reducible refine Below.setCell ?_ ?_ _) | (with_reducible refine Below.frame ?_ _) | go_size))
  rintro e w2 ⟨rfl, hb2⟩
  have B1 := (K1.out.set (.bool (decide (z1 < 0))) (.slice x1 (lenB z1.natAbs) d1)).below hb2 (by simpa using K1.out.lt)
  have B2 := ((K2.out.other (a := ⟨w.heap.size, 0, none⟩) (by dsimp only; omega) (.bool (decide (z1 < 0)))).other (a := ⟨w.heap.size, 1, none⟩) (by dsimp only; omega) (.slice x1 (lenB z1.natAbs) d1)).below hb2 (by simpa using K2.out.lt)
  have G2 := Lib.hid (((G1.out.setCell (by simp) _).setCell (by simp) _).trans (hb2.mono (by simpa using G1.out.size)) : Below w.heap.size w w2)
  have C1 := Lib.hid B1; have C2 := Lib.hid B2
  obtain ⟨b10, b11, b12, b13⟩ := B1.all
  obtain ⟨b20, b21, b22, b23⟩ := B2.all
  clear K1 K2 B1 B2 hb2 G1
  go_upto_region 3 with (fail)
  obtain ⟨W, hW⟩ : ∃ W, W = ((w2.setCell ⟨w.heap.size + 1, 0, none⟩ (.bool (decide (z2 < 0)))).setCell ⟨w.heap.size + 1, 1, none⟩ (.slice x2 (lenB z2.natAbs) d2)) := ⟨_, rfl⟩
  have B1 := (C1.out.other (a := ⟨w.heap.size + 1, 0, none⟩) (by dsimp only; omega) (.bool (decide (z2 < 0)))).other (a := ⟨w.heap.size + 1, 1, none⟩) (by dsimp only; omega) (.slice x2 (lenB z2.natAbs) d2)
  have B2 := C2.out.set (.bool (decide (z2 < 0))) (.slice x2 (lenB z2.natAbs) d2)
  have G3 := (G2.out.setCell (p := ⟨w.heap.size + 1, 0, none⟩) (by simp) (.bool (decide (z2 < 0)))).setCell (p := ⟨w.heap.size + 1, 1, none⟩) (by simp) (.slice x2 (lenB z2.natAbs) d2)
  rw [← hW] at B1 B2 G3
  rw [show ((w2.setCell ⟨w.heap.size + 1, 0, none⟩ (.bool (decide (z2 < 0)))).setCell ⟨w.heap.size + 1, 1, none⟩ (.slice x2 (lenB z2.natAbs) d2)) = W from hW.symm]
  have KG := Lib.hid G3
  have AM := Lib.hid (order_any z1.natAbs z2.natAbs x1 x2 d1 d2 W (HR.out.1.below G3) (HR.out.2.below G3) (by omega) (by omega))
  have AN := Lib.hid (order_any z2.natAbs z1.natAbs x2 x1 d2 d1 W (HR.out.2.below G3) (HR.out.1.below G3) (by omega) (by omega))
  have E := Lib.hid (cmpZ_amounts z1 z2)
  clear b10 b11 b12 b13 b20 b21 b22 b23 C1 C2 hW G2 G3 HO1 HO2
  obtain ⟨b10, b11, b12, b13⟩ := B1.all
  obtain ⟨b20, b21, b22, b23⟩ := B2.all
  clear B1 B2
  by_cases n1 : z1 < 0 <;> by_cases n2 : z2 < 0
  · have E2 := Lib.hid (E.out.trans (by rw [if_pos n1, if_pos n2]))
    rw [decide_eq_true n1] at b10
    rw [decide_eq_true n2] at b20
    clear n1 n2 E
    go_wp2_with fail
    refine AN.out.mono ?_
    rintro e w2 ⟨rfl, m, rfl⟩
    go_wp2
    go_ret
    exact ⟨by rw [E2.out]; rfl, bdrewN KG.out m⟩
  · have E2 := Lib.hid (E.out.trans (by rw [if_pos n1, if_neg n2]))
    rw [decide_eq_true n1] at b10
    rw [decide_eq_false n2] at b20
    clear n1 n2 E
    go_wp2
    go_ret
    exact ⟨by rw [E2.out]; rfl, KG.out⟩
  · have E2 := Lib.hid (E.out.trans (by rw [if_neg n1, if_pos n2]))
    rw [decide_eq_false n1] at b10
    rw [decide_eq_true n2] at b20
    clear n1 n2 E
    go_wp2
    go_ret
    exact ⟨by rw [E2.out]; rfl, KG.out⟩
  · have E2 := Lib.hid (E.out.trans (by rw [if_neg n1, if_neg n2]))
    rw [decide_eq_false n1] at b10
    rw [decide_eq_false n2] at b20
    clear n1 n2 E
    go_wp2_with fail
    refine AM.out.mono ?_
    rintro e w2 ⟨rfl, m, rfl⟩
    go_wp2
    go_ret
    exact ⟨by rw [E2.out]; rfl, bdrewN KG.out m⟩

set_option maxHeartbeats 1000000 in
theorem rsign_any (s1 : Bool) (a1 : Option Addr) (n1 c1 : Nat) (o1 : Nat → Int) (w : World) (h1 : Rd w a1 n1 o1) (hn1 : n1 ≤ 100000000) (hc1 : n1 ≤ c1) :
    Calls Tryz.prog 35 #[numV s1 a1 n1 c1] w fun e w' => e = .returned (.int .i64 (cmpZ (valN s1 n1 o1) 0)) ∧ Below w.heap.size w w' := by
  obtain ⟨x1, d1, r1, l1, m1, O1⟩ := fit_any s1 a1 n1 c1 o1 w h1 (by omega) hc1
  generalize valN s1 n1 o1 = z1 at r1 l1 m1 O1 ⊢
  have HO1 := Lib.hid O1; clear O1
  have HB1 := Lib.hid (Bx.new w 24 (.bool s1) (.slice a1 n1 c1))
  clear h1 r1
  go_enter Tryz.func35, Tryz.ntmps35
  go_wp2_with fail
  refine (HO1.out _ ?_).mono ?_
  · (repeat' (first | (with_reducible exact Below.refl _ _) | (with_reducible assumption) | (with_reducible refine Below.alloc ?_ ?_ _) | (with_reducible refine Below.drew ?_) | (with_reducible refine bdrewN ?_ _) | (with_reducible refine Below.setCell ?_ ?_ _) | (with_reducible refine Below.frame ?_ _) | go_size))
  rintro e w1 ⟨rfl, hb1⟩
  have B1 := HB1.out.below hb1 HB1.out.lt
  have G1 := Lib.hid (((Below.refl _ _).alloc (by go_size) _).trans (hb1.mono (by go_size)) : Below w.heap.size w w1)
  obtain ⟨b10, b11, b12, b13⟩ := B1.all
  clear HB1 B1 hb1 HO1
  obtain ⟨L, hL⟩ : ∃ L, L = lenB z1.natAbs := ⟨_, rfl⟩
  rw [← hL] at l1 m1 ⊢
  rcases Int.lt_trichotomy z1 0 with h | h | h
  · have E := Lib.hid (cmpZ_lt (x := z1) (y := 0) h)
    rw [decide_eq_true h]
    clear h
    go_wp2
    go_ret
    exact ⟨by rw [E.out]; rfl, (G1.out.setCell (by simp) _).setCell (by simp) _⟩
  · have E := Lib.hid (cmpZ_eq (x := z1) (y := 0) h)
    rw [decide_eq_false (by omega)]
    obtain rfl : L = 0 := by rw [hL, h]; exact lenB_zero
    clear h hL
    go_wp2
    go_ret
    exact ⟨by rw [E.out]; rfl, (G1.out.setCell (by simp) _).setCell (by simp) _⟩
  · have E := Lib.hid (cmpZ_gt (x := z1) (y := 0) h)
    rw [decide_eq_false (by omega)]
    have h0 : (L : Int) > 0 := by have := (pos_len (z := z1)).2 (by omega); omega
    clear h hL
    go_wp2
    go_ret
    exact ⟨by rw [E.out]; rfl, (G1.out.setCell (by simp) _).setCell (by simp) _⟩
end Go.Proofs.YtaagegcidbgjmaaGreatDoor.Limb
namespace Go.Proofs.YtaagegcidbgjmaaGreatDoor.Book
open Go.RowKit Go.Sort Go.Fresh Go.Proofs.YtaagegcidbgjmaaGreatDoor.Limb

/-- All is as it was, but for some blocks. -/
structure Touch (U : Nat → Prop) (w w' : World) : Prop where
  os : w'.os = w.os
  tape : w'.tape = w.tape
  output : w'.output = w.output
  size : w.heap.size ≤ w'.heap.size
  block : ∀ k, k < w.heap.size → ¬ U k → w'.heap[k]? = w.heap[k]?
theorem Touch.refl (U : Nat → Prop) (w : World) : Touch U w w := ⟨rfl, rfl, rfl, Nat.le_refl _, fun _ _ _ => rfl⟩
theorem Touch.trans {U : Nat → Prop} {a b c : World} (h : Touch U a b) (k : Touch U b c) : Touch U a c :=
  ⟨k.os.trans h.os, k.tape.trans h.tape, k.output.trans h.output, Nat.le_trans h.size k.size, fun i hi hu => (k.block i (Nat.lt_of_lt_of_le hi h.size) hu).trans (h.block i hi hu)⟩
theorem Touch.mono {U V : Nat → Prop} {a b : World} (h : Touch U a b) (hU : ∀ k, U k → V k) : Touch V a b := ⟨h.os, h.tape, h.output, h.size, fun i hi hu => h.block i hi fun hh => hu (hU i hh)⟩
theorem Touch.weak {U V : Nat → Prop} {a b : World} (h : Touch U a b) (hU : ∀ k, k < a.heap.size → U k → V k) : Touch V a b := ⟨h.os, h.tape, h.output, h.size, fun i hi hu => h.block i hi fun hh => hu (hU i hi hh)⟩
theorem Touch.of_below {U : Nat → Prop} {a b : World} (h : Below a.heap.size a b) : Touch U a b := ⟨h.os, h.tape, h.output, h.size, fun i hi _ => h.block i hi⟩
theorem Touch.of_below' {U : Nat → Prop} {a b : World} {B : Nat} (h : Below B a b) (hU : ∀ k, B ≤ k → U k) : Touch U a b := ⟨h.os, h.tape, h.output, h.size, fun i _ hu => h.block i (by
  rcases Nat.lt_or_ge i B with h1 | h1
  · exact h1
  · exact absurd (hU i h1) hu)⟩
theorem Touch.to_below {U : Nat → Prop} {a b : World} {B : Nat} (h : Touch U a b) (hB : B ≤ a.heap.size) (hU : ∀ k, k < B → ¬ U k) : Below B a b := ⟨h.os, h.tape, h.output, h.size, fun i hi => h.block i (by omega) (hU i hi)⟩
theorem Touch.drewN {U : Nat → Prop} {a b : World} (h : Touch U a b) (m : Nat) : Touch U a (b.drewN m) := ⟨h.os, h.tape, h.output, h.size, h.block⟩
theorem Touch.drew {U : Nat → Prop} {a b : World} (h : Touch U a b) : Touch U a b.drew := ⟨h.os, h.tape, h.output, h.size, h.block⟩
theorem Touch.alloc {U : Nat → Prop} {a b : World} (h : Touch U a b) (o : Obj) : Touch U a (b.alloc o) := h.trans (Touch.of_below ((Below.refl _ _).alloc (Nat.le_refl _) o))
theorem Touch.setCell {U : Nat → Prop} {a b : World} (h : Touch U a b) {p : Addr} (hp : U p.block ∨ a.heap.size ≤ p.block) (v : Value) : Touch U a (b.setCell p v) :=
  ⟨h.os, h.tape, h.output, by simpa using h.size, fun i hi hu => by
    rw [Below.heap_setCell _ _ _ _ (fun e => by subst e; rcases hp with hp | hp; exact hu hp; omega)]
    exact h.block i hi hu⟩
theorem Touch.grown {U : Nat → Prop} {a b c : World} {row : Option Nat} (h : Touch U a b) (hg : b.grownBy c row) (hr : ∀ k, row = some k → U k ∨ a.heap.size ≤ k) : Touch U a c :=
  ⟨hg.os.trans h.os, hg.tape.trans h.tape, hg.output.trans h.output, Nat.le_trans h.size hg.size, fun i hi hu => by
    rw [hg.block i (Nat.lt_of_lt_of_le hi h.size) (fun e => by rcases hr i e.symm with h1 | h1; exact hu h1; omega)]
    exact h.block i hi hu⟩

end Go.Proofs.YtaagegcidbgjmaaGreatDoor.Book
namespace Go.Proofs.YtaagegcidbgjmaaGreatDoor.Limb
open Go.RowKit Go.Sort Go.Fresh
/-- A list is as it was, if its block is. -/
theorem Own.keep {T : Nat} {w w' : World} {base : Nat} {a : Option Addr} {n cap : Nat} {o : Nat → Int} (h : Own T w base a n cap o) (hk : ∀ p, a = some p → w'.heap[p.block]? = w.heap[p.block]?) : Own T w' base a n cap o := by
  refine ⟨h.le, ?_, h.rng⟩
  rcases h.place with h0 | ⟨g, cur, ha, hbg, hg, hcap, hc⟩
  · exact Or.inl h0
  · exact Or.inr ⟨g, cur, ha, hbg, (hk _ ha).trans hg, hcap, hc⟩
theorem Own.blk {T : Nat} {w : World} {base : Nat} {a : Option Addr} {n cap : Nat} {o : Nat → Int} (h : Own T w base a n cap o) {p : Addr} (hp : a = some p) : p = ⟨p.block, 0, none⟩ ∧ base ≤ p.block ∧ p.block < w.heap.size := by
  rcases h.place with h0 | ⟨g, cur, ha, hbg, hg, hcap, hc⟩
  · rw [h0.1] at hp; cases hp
  · obtain rfl := Option.some.inj (ha.symm.trans hp)
    exact ⟨rfl, hbg, lt_of_block hg⟩
theorem Own.some_of_pos {T : Nat} {w : World} {base : Nat} {a : Option Addr} {n cap : Nat} {o : Nat → Int} (h : Own T w base a n cap o) (hn : 0 < n) : ∃ g, a = some ⟨g, 0, none⟩ := by
  rcases h.place with h0 | ⟨g, cur, ha, _⟩
  · omega
  · exact ⟨g, ha⟩
theorem Own.fz {T : Nat} {w : World} {base g n cap : Nat} {o : Nat → Int} (h : Own T w base (some ⟨g, 0, none⟩) n cap o) (i : Nat) : w.frozen? ⟨g, i, none⟩ = false := by
  rcases h.place with h0 | ⟨g', cur, ha, hbg, hg, hcap, hc⟩
  · cases h0.1
  · cases ha; exact frozen_of_row w _ i cur T hg
theorem Own.cell {T : Nat} {w : World} {base g n cap : Nat} {o : Nat → Int} (h : Own T w base (some ⟨g, 0, none⟩) n cap o) {i : Nat} (hi : i < n) : w.cell? ⟨g, i, none⟩ = some (.int .u32 (o i)) := by
  rcases h.place with h0 | ⟨g', cur, ha, hbg, hg, hcap, hc⟩
  · cases h0.1
  · cases ha
    rw [cell_of_row _ _ _ _ _ _ hg]
    exact hc i hi
theorem Own.congr {T : Nat} {w : World} {base : Nat} {a : Option Addr} {n cap : Nat} {o o' : Nat → Int} (h : Own T w base a n cap o) (e : ∀ i, i < n → o i = o' i) : Own T w base a n cap o' := by
  refine ⟨h.le, ?_, fun i hi => by rw [← e i hi]; exact h.rng i hi⟩
  rcases h.place with h0 | ⟨g, cur, ha, hbg, hg, hcap, hc⟩
  · exact Or.inl h0
  · exact Or.inr ⟨g, cur, ha, hbg, hg, hcap, fun i hi => by rw [hc i hi]; show some (Value.int .u32 (o i)) = _; rw [e i hi]⟩
theorem Own.less {T : Nat} {w : World} {base : Nat} {a : Option Addr} {n cap L : Nat} {o : Nat → Int} (h : Own T w base a n cap o) (hL : L ≤ n) : Own T w base a L cap o := by
  refine ⟨Nat.le_trans hL h.le, ?_, fun i hi => h.rng i (by omega)⟩
  rcases h.place with ⟨e0, h0, h1⟩ | ⟨g, cur, ha, hbg, hg, hcap, hc⟩
  · exact Or.inl ⟨e0, by omega, by omega⟩
  · exact Or.inr ⟨g, cur, ha, hbg, hg, hcap, fun i hi => hc i (by omega)⟩
/-- A store into it. -/
theorem Own.put {T : Nat} {w : World} {base g n cap : Nat} {o : Nat → Int} (h : Own T w base (some ⟨g, 0, none⟩) n cap o) {t : Nat} (ht : t < n) {v : Int} (hv : 0 ≤ v ∧ v ≤ 4294967295) :
    Own T (w.setCell ⟨g, t, none⟩ (.int .u32 v)) base (some ⟨g, 0, none⟩) n cap (upd o t v) := by
  refine ⟨h.le, ?_, fun i hi => ?_⟩
  · rcases h.place with h0 | ⟨g', cur, ha, hbg, hg, hcap, hc⟩
    · cases h0.1
    · cases ha
      refine Or.inr ⟨g, cur.setIfInBounds t (.int .u32 v), rfl, hbg, heap_setCell_same w g t cur T _ hg, by simpa using hcap, fun i hi => ?_⟩
      rw [Array.getElem?_setIfInBounds]
      by_cases e : t = i
      · subst e
        have := h.le
        rw [if_pos rfl, if_pos (by omega)]
        show _ = some (Value.int .u32 (upd o t v t)); rw [upd_same]
      · rw [if_neg e]
        show _ = some (Value.int .u32 (upd o t v i)); rw [upd_ne _ _ (fun h => e h.symm)]
        exact hc i hi
  · by_cases e : i = t
    · subst e; rw [upd_same]; exact hv
    · rw [upd_ne _ _ e]; exact h.rng i hi

end Go.Proofs.YtaagegcidbgjmaaGreatDoor.Limb
namespace Go.Proofs.YtaagegcidbgjmaaGreatDoor.Book
open Go.RowKit Go.Sort Go.Fresh Go.Proofs.YtaagegcidbgjmaaGreatDoor.Limb

theorem ucs_upd {o : Nat → Int} {n : Nat} {v : Int} : ucs (upd o n v) n = ucs o n := by
  unfold ucs
  refine List.map_congr_left fun i hi => ?_
  rw [List.mem_range] at hi
  show Value.int .u32 (upd o n v i) = .int .u32 (o i)
  rw [upd_ne _ _ (by omega)]
/-- **One part more behind a list of one's own**, in whatever world. -/
theorem push_any {w : World} {base : Nat} {a : Option Addr} {n cap : Nat} {o : Nat → Int} (h : Own 74 w base a n cap o) (hn : n ≤ 1000000000) (hb : base ≤ w.heap.size) {gs : Nat} {v : Int} (hc : w.cell? ⟨gs, 0, none⟩ = some (.int .u32 v)) (hv : 0 ≤ v ∧ v ≤ 4294967295) (ty m c : Nat) (hm : m = 1) :
    ∃ a' cap' w', (Builtin.append_ #[22, 22] ty #[.slice a n cap, .slice (some ⟨gs, 0, none⟩) m c]).run Tryz.prog w = .ok (.slice a' (n + 1) cap') w' ∧ Own 74 w' base a' (n + 1) cap' (upd o n v) ∧
      ((a' = a ∧ cap' = cap ∧ w.grownBy w' (a.map (·.block))) ∨ ((∃ g, a' = some ⟨g, 0, none⟩ ∧ w.heap.size ≤ g) ∧ w.grownBy w' none ∧ cap < n + 1)) := by
  subst hm
  obtain ⟨i0, hi, hz0, hz1, hz2⟩ := info_parts info32
  have hnews : ∀ j u, [Value.int .u32 v][j]? = some u → w.cell? ((⟨gs, 0, none⟩ : Addr).add j) = some u := by
    intro j u hj
    match j, hj with
    | 0, hj =>
      simp at hj; subst hj
      rw [Addr.add_lit]; exact hc
  have h1 : ∀ u ∈ [Value.int .u32 v], u.oneCell' = true := by intro u hu; simp at hu; subst hu; rfl
  have hrng : ∀ i, i < n + 1 → 0 ≤ upd o n v i ∧ upd o n v i ≤ 4294967295 := by
    intro i hi
    by_cases e : i = n
    · subst e; rw [upd_same]; exact hv
    · rw [upd_ne _ _ e]; exact h.rng i (by omega)
  have grownOwn : ∀ old, old < n + 1 → (w.drew.alloc (.cells ((ucs o n).toArray ++ [Value.int .u32 v].toArray ++ Builtin.zeroCells (Value.int .u32 0).cells (grownCap w (n + 1) old 74 - (n + 1))) 74)).heap.size = w.heap.size + 1 ∧
      Own 74 (w.drew.alloc (.cells ((ucs o n).toArray ++ [Value.int .u32 v].toArray ++ Builtin.zeroCells (Value.int .u32 0).cells (grownCap w (n + 1) old 74 - (n + 1))) 74)) base (some ⟨w.heap.size, 0, none⟩) (n + 1) (grownCap w (n + 1) old 74) (upd o n v) ∧
      w.grownBy (w.drew.alloc (.cells ((ucs o n).toArray ++ [Value.int .u32 v].toArray ++ Builtin.zeroCells (Value.int .u32 0).cells (grownCap w (n + 1) old 74 - (n + 1))) 74)) none := by
    intro old ho
    have hge := grownCap_ge w (n + 1) old 74
    refine ⟨by simp, ⟨hge, Or.inr ⟨w.heap.size, _, rfl, hb, heap_alloc_new w.drew _, ?_, fun i hi => ?_⟩, hrng⟩, ⟨rfl, rfl, rfl, by simp, fun k hk _ => heap_alloc_old w.drew _ hk⟩⟩
    · simp only [Array.size_append, List.size_toArray, size_zeroCells, ucs_len, List.length_cons, List.length_nil]
      show _ ≤ n + (0 + 1) + _ * 1
      omega
    · rw [Array.getElem?_append_left (by simp only [Array.size_append, List.size_toArray, ucs_len, List.length_cons, List.length_nil]; omega), ← Array.getElem?_toList, Array.toList_append]
      show (ucs o n ++ [Value.int .u32 v])[i]? = some (uc (upd o n v) i)
      rw [← ucs_get (upd o n v) (n + 1) i hi, ucs_succ, ucs_upd]
      show _ = (ucs o n ++ [Value.int .u32 (upd o n v n)])[i]?
      rw [upd_same]
  rcases h.place with ⟨rfl, rfl, rfl⟩ | ⟨g, cur, rfl, hbg, hg, hcap, hcc⟩
  · have hr := run_append_nil (P := Tryz.prog) w 22 ty 74 i0 (.int .u32 0) Tryz.underlying22 hi hz0 ⟨gs, 0, none⟩ 1 c [.int .u32 v] (by rw [hz1]; rfl) hnews (by omega) (by omega) (by rw [hz2]; omega)
    have hgr := grownOwn 0 (by omega)
    simp only [Nat.zero_add, ucs, List.range_zero, List.map_nil, Array.empty_append] at hgr
    refine ⟨_, _, _, hr, hgr.2.1, Or.inr ⟨⟨_, rfl, Nat.le_refl _⟩, hgr.2.2, by omega⟩⟩
  · by_cases hroom : n + 1 ≤ cap
    · have hr := run_append_room (P := Tryz.prog) w 22 ty 74 i0 Tryz.underlying22 hi g n cap cur hg ⟨gs, 0, none⟩ 1 c [.int .u32 v] (by rw [hz1]; rfl) hnews h1 hroom (by rw [hz1]; simp; omega)
      refine ⟨_, _, _, hr, ⟨hroom, Or.inr ⟨g, _, rfl, hbg, setRow_heap w g cur _ _ _ hg, ?_, fun i hi => ?_⟩, hrng⟩, Or.inl ⟨rfl, rfl, ⟨rfl, rfl, rfl, by simp, fun k _ hk => setRow_other w g k _ (fun e => hk (by simp [e]))⟩⟩⟩
      · simp only [List.size_toArray, List.length_append, List.length_take, List.length_drop, Array.length_toList, List.length_cons, List.length_nil]
        omega
      · rw [hz1, Nat.mul_one]
        rw [List.getElem?_toArray, List.append_assoc]
        have hlt : (cur.toList.take n).length = n := by simp; omega
        by_cases e : i < n
        · rw [List.getElem?_append_left (by rw [hlt]; exact e), List.getElem?_take, if_pos e]
          have := hcc i e
          rw [Array.getElem?_toList, this]
          show some (Value.int .u32 (o i)) = some (Value.int .u32 (upd o n v i))
          rw [upd_ne _ _ (by omega)]
        · obtain rfl : i = n := by omega
          rw [List.getElem?_append_right (by rw [hlt]; exact Nat.le_refl _), hlt, Nat.sub_self]
          show some (Value.int .u32 v) = some (Value.int .u32 (upd o i v i))
          rw [upd_same]
    · have holds : ∀ j u, (ucs o n)[j]? = some u → w.cell? ((⟨g, 0, none⟩ : Addr).add j) = some u := by
        intro j u hj
        obtain ⟨hj1, rfl⟩ := ucs_get' hj
        rw [Addr.add_lit, Nat.zero_add, cell_of_row _ _ _ _ _ _ hg]
        exact hcc j hj1
      have hle := h.le
      have hr := run_append_grow (P := Tryz.prog) w 22 ty 74 i0 (.int .u32 0) Tryz.underlying22 hi hz0 ⟨g, 0, none⟩ n cap (ucs o n) (by rw [ucs_len, hz1]; omega) holds ⟨gs, 0, none⟩ 1 c [.int .u32 v] (by rw [hz1]; rfl) hnews (by omega) (by omega) (growslice_fits (by omega) (by rw [hz2]; omega))
      have hgr := grownOwn cap (by omega)
      exact ⟨_, _, _, hr, hgr.2.1, Or.inr ⟨⟨_, rfl, Nat.le_refl _⟩, hgr.2.2, by omega⟩⟩

/-- .. as a law for the walk of a list of operations. -/
theorem wpList_push {ops : Array Oper} {rest : List Oper} {oo : Oper} {ac : Act} {Q : Exit → Act → World → Prop} (hgd : oo.guard = none) (s x : Operand)
    (ho : oo.op = .call { callee := .builtin .append, args := #[s, x], argTypes := #[22, 22] })
    {w : World} {base : Nat} {a : Option Addr} {n cap : Nat} {o : Nat → Int} (hs : ac.eval s = .slice a n cap) (h : Own 74 w base a n cap o) (hn : n ≤ 1000000000) (hb : base ≤ w.heap.size)
    {gs : Nat} {v : Int} {m c : Nat} (hx : ac.eval x = .slice (some ⟨gs, 0, none⟩) m c) (hc : w.cell? ⟨gs, 0, none⟩ = some (.int .u32 v)) (hv : 0 ≤ v ∧ v ≤ 4294967295) (hm : m = 1)
    (hK : ∀ a' cap' w', Own 74 w' base a' (n + 1) cap' (upd o n v) → ((a' = a ∧ cap' = cap ∧ w.grownBy w' (a.map (·.block))) ∨ ((∃ g, a' = some ⟨g, 0, none⟩ ∧ w.heap.size ≤ g) ∧ w.grownBy w' none ∧ cap < n + 1)) →
      wpList Tryz.prog ops Q rest (ac.put oo.dst (.slice a' (n + 1) cap')) w') : wpList Tryz.prog ops Q (oo :: rest) ac w := by
  refine wpList_plain hgd fun K hK' => ?_
  obtain ⟨a', cap', w', hr, h2, h3⟩ := push_any h hn hb hc hv oo.type m c hm
  unfold Oper.wp execOp
  simp only [ho, resolve, invoke, builtin, Sem.run_bind, Sem.run_pure, Result.andThen_ok, List.map_toArray, List.map_cons, List.map_nil, hs, hx, hr]
  exact hK' _ _ (hK _ _ _ h2 h3)

/-! ### Marks -/
def mk (j : Nat) : Int := 1001 + j
theorem mk_rng {j : Nat} (h : j ≤ 1000) : 0 ≤ mk j ∧ mk j ≤ 4294967295 := by unfold mk; omega
theorem mark_any (j : Nat) (w : World) (h : j ≤ 1000) : Calls Tryz.prog 111 #[.int .i64 ((j : Int) + 1)] w fun e w' => e = .returned (.int .u32 (mk j)) ∧ w' = w := by
  have e1 := IntWalk.i64_in (1000 + ((j : Int) + 1)) (by omega)
  have e2 := IntWalk.u32_in (1000 + ((j : Int) + 1)) (by omega)
  have e3 : 1000 + ((j : Int) + 1) = mk j := by unfold mk; omega
  go_enter Tryz.func111, Tryz.ntmps111
  go_wp2
  go_ret
  exact ⟨rfl, rfl⟩
theorem is_any (x : Int) (j : Nat) (w : World) (h : j ≤ 1000) : Calls Tryz.prog 123 #[.int .u32 x, .int .i64 ((j : Int) + 1)] w fun e w' => e = .returned (.bool (x == mk j)) ∧ w' = w := by
  have e1 := IntWalk.i64_in (1000 + ((j : Int) + 1)) (by omega)
  have e2 := IntWalk.u32_in (1000 + ((j : Int) + 1)) (by omega)
  have e3 : 1000 + ((j : Int) + 1) = mk j := by unfold mk; omega
  go_enter Tryz.func123, Tryz.ntmps123
  go_wp2
  go_ret
  exact ⟨rfl, rfl⟩
end Go.Proofs.YtaagegcidbgjmaaGreatDoor.Book
namespace Go.Proofs.YtaagegcidbgjmaaGreatDoor.Limb
open Go.RowKit Go.Sort Go.Fresh





set_option maxHeartbeats 1000000 in
theorem radd_any (s1 : Bool) (a1 : Option Addr) (n1 c1 : Nat) (o1 : Nat → Int) (s2 : Bool) (a2 : Option Addr) (n2 c2 : Nat) (o2 : Nat → Int) (w : World)
    (h1 : Rd w a1 n1 o1) (hn1 : n1 ≤ 100000000) (hc1 : n1 ≤ c1) (h2 : Rd w a2 n2 o2) (hn2 : n2 ≤ 100000000) (hc2 : n2 ≤ c2) :
    Calls Tryz.prog 93 #[numV s1 a1 n1 c1, numV s2 a2 n2 c2] w (ResF w (valN s1 n1 o1 + valN s2 n2 o2)) := by
  obtain ⟨x1, d1, r1, l1, m1, O1⟩ := fit_any s1 a1 n1 c1 o1 w h1 (by omega) hc1
  obtain ⟨x2, d2, r2, l2, m2, O2⟩ := fit_any s2 a2 n2 c2 o2 w h2 (by omega) hc2
  generalize valN s1 n1 o1 = z1 at r1 l1 m1 O1 ⊢
  have HO1 := Lib.hid O1; clear O1
  generalize valN s2 n2 o2 = z2 at r2 l2 m2 O2 ⊢
  have HO2 := Lib.hid O2; clear O2
  have HR := Lib.hid (And.intro r1 r2)
  clear h1 h2 r1 r2
  have HB1 := Lib.hid (((Bx.new w 24 (.bool s1) (.slice a1 n1 c1)).alloc (.cells #[.bool s2, .slice a2 n2 c2] 24)).alloc (.cells #[.bool false, .slice none 0 0] 24))
  have HB2 := Lib.hid ((Bx.new2 w (.cells #[.bool s1, .slice a1 n1 c1] 24) 24 (.bool s2) (.slice a2 n2 c2)).alloc (.cells #[.bool false, .slice none 0 0] 24))
  have HB3 := Lib.hid (Bx.new3 w (.cells #[.bool s1, .slice a1 n1 c1] 24) (.cells #[.bool s2, .slice a2 n2 c2] 24) 24 (.bool false) (.slice none 0 0))
  go_enter Tryz.func93, Tryz.ntmps93
  go_wp2_with fail
  refine (HO1.out _ ?_).mono ?_
  · (repeat' (first | (with_reducible exact Below.refl _ _) | (with_reducible assumption) | (with_reducible refine Below.alloc ?_ ?_ _) | (with_reducible refine Below.drew ?_) | (with_reducible refine bdrewN ?_ _) | (with_reducible refine Below.setCell ?_ ?_ _) | (with_reducible refine Below.frame ?_ _) | go_size))
  rintro e w1 ⟨rfl, hb1⟩
  have B1 := HB1.out.below hb1 HB1.out.lt
  have B2 := HB2.out.below hb1 HB2.out.lt
  have B3 := HB3.out.below hb1 HB3.out.lt
  have G1 := Lib.hid (((Below.refl _ _).alloc (by go_size) _ |>.alloc (by go_size) _ |>.alloc (by go_size) _).trans (hb1.mono (by go_size)) : Below w.heap.size w w1)
  have K1 := Lib.hid B1; have K2 := Lib.hid B2; have K3 := Lib.hid B3
  obtain ⟨b10, b11, b12, b13⟩ := B1.all
  obtain ⟨b20, b21, b22, b23⟩ := B2.all
  clear HB1 HB2 HB3 B1 B2 B3 hb1
  go_wp2_with fail
  refine (HO2.out _ ?_).mono ?_
  · have := G1.out; (repeat' (first | (with_reducible exact Below.refl _ _) | (with_reducible assumption) | (with_reducible refine Below.alloc ?_ ?_ _) | (with_reducible refine Below.drew ?_) | (with_reducible refine bdrewN ?_ _) | (with_reducible refine Below.setCell ?_ ?_ _) | (with_reducible refine Below.frame ?_ _) | go_size))
  rintro e w2 ⟨rfl, hb2⟩
  have B1 := (K1.out.set (.bool (decide (z1 < 0))) (.slice x1 (lenB z1.natAbs) d1)).below hb2 (by simpa using K1.out.lt)
  have B2 := ((K2.out.other (a := ⟨w.heap.size, 0, none⟩) (by dsimp only; omega) (.bool (decide (z1 < 0)))).other (a := ⟨w.heap.size, 1, none⟩) (by dsimp only; omega) (.slice x1 (lenB z1.natAbs) d1)).below hb2 (by simpa using K2.out.lt)
  have B3 := ((K3.out.other (a := ⟨w.heap.size, 0, none⟩) (by dsimp only; omega) (.bool (decide (z1 < 0)))).other (a := ⟨w.heap.size, 1, none⟩) (by dsimp only; omega) (.slice x1 (lenB z1.natAbs) d1)).below hb2 (by simpa using K3.out.lt)
  have G2 := Lib.hid (((G1.out.setCell (by simp) _).setCell (by simp) _).trans (hb2.mono (by simpa using G1.out.size)) : Below w.heap.size w w2)
  have C1 := Lib.hid B1; have C2 := Lib.hid B2; have C3 := Lib.hid B3
  obtain ⟨b10, b11, b12, b13⟩ := B1.all
  obtain ⟨b20, b21, b22, b23⟩ := B2.all
  clear K1 K2 K3 B1 B2 B3 hb2 G1
  go_upto_region 3 with (fail)
  obtain ⟨W, hW⟩ : ∃ W, W = ((w2.setCell ⟨w.heap.size + 1, 0, none⟩ (.bool (decide (z2 < 0)))).setCell ⟨w.heap.size + 1, 1, none⟩ (.slice x2 (lenB z2.natAbs) d2)) := ⟨_, rfl⟩
  have B1 := (C1.out.other (a := ⟨w.heap.size + 1, 0, none⟩) (by dsimp only; omega) (.bool (decide (z2 < 0)))).other (a := ⟨w.heap.size + 1, 1, none⟩) (by dsimp only; omega) (.slice x2 (lenB z2.natAbs) d2)
  have B2 := C2.out.set (.bool (decide (z2 < 0))) (.slice x2 (lenB z2.natAbs) d2)
  have B3 := (C3.out.other (a := ⟨w.heap.size + 1, 0, none⟩) (by dsimp only; omega) (.bool (decide (z2 < 0)))).other (a := ⟨w.heap.size + 1, 1, none⟩) (by dsimp only; omega) (.slice x2 (lenB z2.natAbs) d2)
  have G3 := (G2.out.setCell (p := ⟨w.heap.size + 1, 0, none⟩) (by simp) (.bool (decide (z2 < 0)))).setCell (p := ⟨w.heap.size + 1, 1, none⟩) (by simp) (.slice x2 (lenB z2.natAbs) d2)
  rw [← hW] at B1 B2 B3 G3
  rw [show ((w2.setCell ⟨w.heap.size + 1, 0, none⟩ (.bool (decide (z2 < 0)))).setCell ⟨w.heap.size + 1, 1, none⟩ (.slice x2 (lenB z2.natAbs) d2)) = W from hW.symm]
  have HG := Lib.hid G3
  have HB1 := Lib.hid B1; have HB2 := Lib.hid B2; have HB3 := Lib.hid B3
  have HS1 := Lib.hid (fun (w' : World) (hb : Below W.heap.size W w') => And.intro (HB1.out.below hb HB1.out.lt).c0 (HB1.out.below hb HB1.out.lt).c1)
  have HS2 := Lib.hid (fun (w' : World) (hb : Below W.heap.size W w') => And.intro (HB2.out.below hb HB2.out.lt).c0 (HB2.out.below hb HB2.out.lt).c1)
  clear b10 b11 b12 b13 b20 b21 b22 b23 C1 C2 C3 hW G2 HO1 HO2
  have HQ := Lib.hid (And.intro (HR.out.1.below G3) (HR.out.2.below G3))
  have HL := Lib.hid (And.intro (show lenB z1.natAbs ≤ 100000000 by omega) (show lenB z2.natAbs ≤ 100000000 by omega))
  obtain ⟨b10, b11, b12, b13⟩ := B1.all
  obtain ⟨b20, b21, b22, b23⟩ := B2.all
  clear B1 B2 B3 G3
  by_cases hs : decide (z1 < 0) = decide (z2 < 0)
  · obtain ⟨N, hN⟩ : ∃ N, N = z1.natAbs + z2.natAbs := ⟨_, rfl⟩
    obtain ⟨p1, p2⟩ := plus_plain z1 z2 hs
    rw [← hN] at p1
    rw [← p1] at p2
    obtain ⟨sB, hsB⟩ : ∃ sB, sB = decide (z1 + z2 < 0) := ⟨_, rfl⟩
    rw [← hsB] at p2
    have HSB := Lib.hid p2
    have HE := Lib.hid (And.intro p1 hsB)
    have AMT := Lib.hid (fun (w' : World) (hb : Below W.heap.size W w') => more_own z1.natAbs z2.natAbs x1 x2 d1 d2 w' (HQ.out.1.below hb) (HQ.out.2.below hb) HL.out.1 HL.out.2)
    rw [← hN] at AMT
    have HSA := HS1; have HSC := HS2
    have e0 : (decide (z1 < 0) == decide (z2 < 0)) = true := by rw [hs]; simp
    clear p1 p2 hN hsB hs
    go_upto_region 4 with (fail)
    refine wp_region_fresh 8 (spOf [(6, Sp.made (fun x : Option Addr × Nat × Nat => .slice x.1 x.2.1 x.2.2) (AmtF W.heap.size N)),
        (7, Sp.made (fun x : Option Addr × Nat => numV sB x.1 (lenB N) x.2) (fun x w' => Own 74 w' W.heap.size x.1 (lenB N) x.2 (dgi N)))])
      (fun w' => Below W.heap.size W w') (by kernel_rfl) (by kernel_rfl)
      (spOf_cons (Sp.made_keeps AmtF.keeps) (spOf_cons (Sp.made_keeps fun x w w' h hb => h.below hb) spOf_nil)) (fun _ _ h hb => h.trans (hb.mono h.size)) ((Below.refl _ _).drew) ?_
    simp only [List.take_succ_cons, List.take_zero, List.drop_succ_cons, List.drop_zero]
    (refine wpF_reads rfl rfl ?_ (fun w' hw' => ?_) ?_; rotate_left; · (have hb' := Has.world hw'; (skip); clear hw'; go_simp; try rfl))
    (refine wpF_reads rfl rfl ?_ (fun w' hw' => ?_) ?_; rotate_left; · (have hb' := Has.world hw'; (have hs := HSA.out _ hb'); clear hw'; go_simp; try rfl))
    (refine wpF_reads rfl rfl ?_ (fun w' hw' => ?_) ?_; rotate_left; · (have hb' := Has.world hw'; (skip); clear hw'; go_simp; try rfl))
    (refine wpF_reads rfl rfl ?_ (fun w' hw' => ?_) ?_; rotate_left; · (have hb' := Has.world hw'; (have hs := HSA.out _ hb'); clear hw'; go_simp; try rfl))
    (refine wpF_reads rfl rfl ?_ (fun w' hw' => ?_) ?_; rotate_left; · (have hb' := Has.world hw'; (skip); clear hw'; go_simp; try rfl))
    (refine wpF_reads rfl rfl ?_ (fun w' hw' => ?_) ?_; rotate_left; · (have hb' := Has.world hw'; (have hs := HSC.out _ hb'); clear hw'; go_simp; try rfl))
    (refine wpF_spec rfl rfl (fun w' hw' => ?_) ?_; · (have hb' := Has.world hw'; go_simp; ((refine (AMT.out w' hb').mono ?_; rintro e w'' ⟨a, K, cap, o, rfl, q1, q2, q3, q4, q5⟩; exact ⟨_, rfl, ⟨⟨a, K, cap, rfl⟩, ⟨a, K, cap, rfl, o, q1, q2, q3, q4.mono hb'.size⟩⟩, q5⟩))))
    rintro _ ⟨x, rfl⟩
    (refine wpF_spec rfl rfl (fun w' hw' => ?_) ?_; · (have hb' := Has.world hw'; go_simp; ((have h7 := amt_of (x := x) (b := W.heap.size) (N := N) (hw'.fact 6 (by kernel_rfl)); obtain ⟨o, q1, q2, q3, q4⟩ := h7; refine (num_own _ sB _ _ _ N W.heap.size o w' q4 q1 q3 q2 HSB.out).mono ?_; rintro e w'' ⟨rfl, hb⟩; exact ⟨_, rfl, ⟨⟨x.1, x.2.2, rfl⟩, ⟨x.1, x.2.2, rfl, (own_fit q4 q1 q2).below hb⟩⟩, hb⟩))))
    rintro _ ⟨y, rfl⟩
    refine wpF_nil (fun w5 hb5 hF5 => ?_)
    have OA := own_numc (T := 74) (b := W.heap.size) (s := sB) (L := lenB N) (o := dgi N) (x := y) (hF5 7)
    have HO := Lib.hid OA
    have B3 := HB3.out.below hb5 HB3.out.lt
    have HB5 := Lib.hid B3
    obtain ⟨b30, b31, b32, b33⟩ := B3.all
    have HG5 := Lib.hid (HG.out.trans (hb5.mono HG.out.size))
    have hz4 := HB3.out.lt
    have hz5 := HG.out.size
    clear hF5 OA B3 hb5 HS1 HS2
    go_wp2_with fail
    unfold ResF
    rw [← HE.out.1, ← HE.out.2]
    refine bodyPost_ret (results_cell rfl _ _ _ _ _ _ _ rfl (HB5.out.set _ _) Tryz.underlying24 rfl (by kernel_rfl)) rfl ⟨y.1, y.2, rfl, ?_, ?_⟩
    · exact ((HO.out.other (by dsimp only; omega) _).other (by dsimp only; omega) _).mono hz5
    · exact (HG5.out.setCell (by dsimp only; omega) _).setCell (by dsimp only; omega) _
  · by_cases hlt : z1.natAbs < z2.natAbs
    · obtain ⟨N, hN⟩ : ∃ N, N = z2.natAbs - z1.natAbs := ⟨_, rfl⟩
      obtain ⟨p1, p2⟩ := minus_plain z2 z1 (by omega) (fun h => hs h.symm)
      rw [← hN, Int.add_comm z2 z1] at p1
      rw [Int.add_comm z2 z1, ← p1] at p2
      obtain ⟨sB, hsB⟩ : ∃ sB, sB = decide (z1 + z2 < 0) := ⟨_, rfl⟩
      rw [← hsB] at p2
      have HSB := Lib.hid p2
      have HE := Lib.hid (And.intro p1 hsB)
      have AMT := Lib.hid (fun (w' : World) (hb : Below W.heap.size W w') => less_own z2.natAbs z1.natAbs x2 x1 d2 d1 w' (HQ.out.2.below hb) (HQ.out.1.below hb) HL.out.2 (by omega))
      have AM := Lib.hid (order_any z1.natAbs z2.natAbs x1 x2 d1 d2 W HQ.out.1 HQ.out.2 (by omega) (by omega))
      rw [show cmpZ (z1.natAbs : Int) (z2.natAbs : Int) = -1 from cmpZ_lt (by omega)] at AM
      rw [← hN] at AMT
      have e0 : (decide (z1 < 0) == decide (z2 < 0)) = false := by simpa using hs
      clear p1 p2 hN hsB hs hlt
      go_upto_if 27 with (first
        | (go_at_call 141; refine AM.out.mono ?_; rintro e w2 ⟨rfl, m, rfl⟩))
      go_upto_region 6 with (fail)
      have hbm : ∃ V, V = W.drewN m ∧ Below W.heap.size W V := ⟨_, rfl, bdrewN (Below.refl _ _) m⟩
      obtain ⟨W, hV, hbm⟩ := hbm
      rw [← hV]
      have HS1 := Lib.hid (fun (w' : World) (hb : Below W.heap.size W w') => HS1.out w' (hbm.trans (hb.mono hbm.size)))
      have HS2 := Lib.hid (fun (w' : World) (hb : Below W.heap.size W w') => HS2.out w' (hbm.trans (hb.mono hbm.size)))
      have AMT := Lib.hid (fun (w' : World) (hb : Below W.heap.size W w') => AMT.out w' (hbm.trans (hb.mono hbm.size)))
      have HB3 := Lib.hid (HB3.out.below hbm HB3.out.lt)
      have HG := Lib.hid (HG.out.trans (hbm.mono HG.out.size))
      clear hV hbm AM
      have HSA := HS2; have HSC := HS1
      refine wp_region_fresh 8 (spOf [(6, Sp.made (fun x : Option Addr × Nat × Nat => .slice x.1 x.2.1 x.2.2) (AmtF W.heap.size N)),
          (7, Sp.made (fun x : Option Addr × Nat => numV sB x.1 (lenB N) x.2) (fun x w' => Own 74 w' W.heap.size x.1 (lenB N) x.2 (dgi N)))])
        (fun w' => Below W.heap.size W w') (by kernel_rfl) (by kernel_rfl)
        (spOf_cons (Sp.made_keeps AmtF.keeps) (spOf_cons (Sp.made_keeps fun x w w' h hb => h.below hb) spOf_nil)) (fun _ _ h hb => h.trans (hb.mono h.size)) ((Below.refl _ _).drew) ?_
      simp only [List.take_succ_cons, List.take_zero, List.drop_succ_cons, List.drop_zero]
      (refine wpF_reads rfl rfl ?_ (fun w' hw' => ?_) ?_; rotate_left; · (have hb' := Has.world hw'; (skip); clear hw'; go_simp; try rfl))
      (refine wpF_reads rfl rfl ?_ (fun w' hw' => ?_) ?_; rotate_left; · (have hb' := Has.world hw'; (have hs := HSA.out _ hb'); clear hw'; go_simp; try rfl))
      (refine wpF_reads rfl rfl ?_ (fun w' hw' => ?_) ?_; rotate_left; · (have hb' := Has.world hw'; (skip); clear hw'; go_simp; try rfl))
      (refine wpF_reads rfl rfl ?_ (fun w' hw' => ?_) ?_; rotate_left; · (have hb' := Has.world hw'; (have hs := HSA.out _ hb'); clear hw'; go_simp; try rfl))
      (refine wpF_reads rfl rfl ?_ (fun w' hw' => ?_) ?_; rotate_left; · (have hb' := Has.world hw'; (skip); clear hw'; go_simp; try rfl))
      (refine wpF_reads rfl rfl ?_ (fun w' hw' => ?_) ?_; rotate_left; · (have hb' := Has.world hw'; (have hs := HSC.out _ hb'); clear hw'; go_simp; try rfl))
      (refine wpF_spec rfl rfl (fun w' hw' => ?_) ?_; · (have hb' := Has.world hw'; go_simp; ((refine (AMT.out w' hb').mono ?_; rintro e w'' ⟨a, K, cap, o, rfl, q1, q2, q3, q4, q5⟩; exact ⟨_, rfl, ⟨⟨a, K, cap, rfl⟩, ⟨a, K, cap, rfl, o, q1, q2, q3, q4.mono hb'.size⟩⟩, q5⟩))))
      rintro _ ⟨x, rfl⟩
      (refine wpF_spec rfl rfl (fun w' hw' => ?_) ?_; · (have hb' := Has.world hw'; go_simp; ((have h7 := amt_of (x := x) (b := W.heap.size) (N := N) (hw'.fact 6 (by kernel_rfl)); obtain ⟨o, q1, q2, q3, q4⟩ := h7; refine (num_own _ sB _ _ _ N W.heap.size o w' q4 q1 q3 q2 HSB.out).mono ?_; rintro e w'' ⟨rfl, hb⟩; exact ⟨_, rfl, ⟨⟨x.1, x.2.2, rfl⟩, ⟨x.1, x.2.2, rfl, (own_fit q4 q1 q2).below hb⟩⟩, hb⟩))))
      rintro _ ⟨y, rfl⟩
      refine wpF_nil (fun w5 hb5 hF5 => ?_)
      have OA := own_numc (T := 74) (b := W.heap.size) (s := sB) (L := lenB N) (o := dgi N) (x := y) (hF5 7)
      have HO := Lib.hid OA
      have B3 := HB3.out.below hb5 HB3.out.lt
      have HB5 := Lib.hid B3
      obtain ⟨b30, b31, b32, b33⟩ := B3.all
      have HG5 := Lib.hid (HG.out.trans (hb5.mono HG.out.size))
      have hz4 := HB3.out.lt
      have hz5 := HG.out.size
      clear hF5 OA B3 hb5 HS1 HS2
      go_wp2_with fail
      unfold ResF
      rw [← HE.out.1, ← HE.out.2]
      refine bodyPost_ret (results_cell rfl _ _ _ _ _ _ _ rfl (HB5.out.set _ _) Tryz.underlying24 rfl (by kernel_rfl)) rfl ⟨y.1, y.2, rfl, ?_, ?_⟩
      · exact ((HO.out.other (by dsimp only; omega) _).other (by dsimp only; omega) _).mono hz5
      · exact (HG5.out.setCell (by dsimp only; omega) _).setCell (by dsimp only; omega) _
    · obtain ⟨N, hN⟩ : ∃ N, N = z1.natAbs - z2.natAbs := ⟨_, rfl⟩
      obtain ⟨p1, p2⟩ := minus_plain z1 z2 (by omega) hs
      rw [← hN] at p1
      rw [← p1] at p2
      obtain ⟨sB, hsB⟩ : ∃ sB, sB = decide (z1 + z2 < 0) := ⟨_, rfl⟩
      rw [← hsB] at p2
      have HSB := Lib.hid p2
      have HE := Lib.hid (And.intro p1 hsB)
      have AMT := Lib.hid (fun (w' : World) (hb : Below W.heap.size W w') => less_own z1.natAbs z2.natAbs x1 x2 d1 d2 w' (HQ.out.1.below hb) (HQ.out.2.below hb) HL.out.1 (by omega))
      have AM := Lib.hid (order_any z1.natAbs z2.natAbs x1 x2 d1 d2 W HQ.out.1 HQ.out.2 (by omega) (by omega))
      have hc : decide (cmpZ (z1.natAbs : Int) (z2.natAbs : Int) < 0) = false := by
        refine decide_eq_false ?_
        rcases Nat.lt_or_ge z2.natAbs z1.natAbs with h | h
        · rw [cmpZ_gt (by omega)]; omega
        · rw [cmpZ_eq (by omega)]; omega
      rw [← hN] at AMT
      have e0 : (decide (z1 < 0) == decide (z2 < 0)) = false := by simpa using hs
      generalize cmpZ (z1.natAbs : Int) (z2.natAbs : Int) = cc at AM hc
      clear p1 p2 hN hsB hs hlt
      go_upto_if 27 with (first
        | (go_at_call 141; refine AM.out.mono ?_; rintro e w2 ⟨rfl, m, rfl⟩))
      go_upto_region 7 with (fail)
      have hbm : ∃ V, V = W.drewN m ∧ Below W.heap.size W V := ⟨_, rfl, bdrewN (Below.refl _ _) m⟩
      obtain ⟨W, hV, hbm⟩ := hbm
      rw [← hV]
      have HS1 := Lib.hid (fun (w' : World) (hb : Below W.heap.size W w') => HS1.out w' (hbm.trans (hb.mono hbm.size)))
      have HS2 := Lib.hid (fun (w' : World) (hb : Below W.heap.size W w') => HS2.out w' (hbm.trans (hb.mono hbm.size)))
      have AMT := Lib.hid (fun (w' : World) (hb : Below W.heap.size W w') => AMT.out w' (hbm.trans (hb.mono hbm.size)))
      have HB3 := Lib.hid (HB3.out.below hbm HB3.out.lt)
      have HG := Lib.hid (HG.out.trans (hbm.mono HG.out.size))
      clear hV hbm AM
      have HSA := HS1; have HSC := HS2
      refine wp_region_fresh 8 (spOf [(6, Sp.made (fun x : Option Addr × Nat × Nat => .slice x.1 x.2.1 x.2.2) (AmtF W.heap.size N)),
          (7, Sp.made (fun x : Option Addr × Nat => numV sB x.1 (lenB N) x.2) (fun x w' => Own 74 w' W.heap.size x.1 (lenB N) x.2 (dgi N)))])
        (fun w' => Below W.heap.size W w') (by kernel_rfl) (by kernel_rfl)
        (spOf_cons (Sp.made_keeps AmtF.keeps) (spOf_cons (Sp.made_keeps fun x w w' h hb => h.below hb) spOf_nil)) (fun _ _ h hb => h.trans (hb.mono h.size)) ((Below.refl _ _).drew) ?_
      simp only [List.take_succ_cons, List.take_zero, List.drop_succ_cons, List.drop_zero]
      (refine wpF_reads rfl rfl ?_ (fun w' hw' => ?_) ?_; rotate_left; · (have hb' := Has.world hw'; (skip); clear hw'; go_simp; try rfl))
      (refine wpF_reads rfl rfl ?_ (fun w' hw' => ?_) ?_; rotate_left; · (have hb' := Has.world hw'; (have hs := HSA.out _ hb'); clear hw'; go_simp; try rfl))
      (refine wpF_reads rfl rfl ?_ (fun w' hw' => ?_) ?_; rotate_left; · (have hb' := Has.world hw'; (skip); clear hw'; go_simp; try rfl))
      (refine wpF_reads rfl rfl ?_ (fun w' hw' => ?_) ?_; rotate_left; · (have hb' := Has.world hw'; (have hs := HSA.out _ hb'); clear hw'; go_simp; try rfl))
      (refine wpF_reads rfl rfl ?_ (fun w' hw' => ?_) ?_; rotate_left; · (have hb' := Has.world hw'; (skip); clear hw'; go_simp; try rfl))
      (refine wpF_reads rfl rfl ?_ (fun w' hw' => ?_) ?_; rotate_left; · (have hb' := Has.world hw'; (have hs := HSC.out _ hb'); clear hw'; go_simp; try rfl))
      (refine wpF_spec rfl rfl (fun w' hw' => ?_) ?_; · (have hb' := Has.world hw'; go_simp; ((refine (AMT.out w' hb').mono ?_; rintro e w'' ⟨a, K, cap, o, rfl, q1, q2, q3, q4, q5⟩; exact ⟨_, rfl, ⟨⟨a, K, cap, rfl⟩, ⟨a, K, cap, rfl, o, q1, q2, q3, q4.mono hb'.size⟩⟩, q5⟩))))
      rintro _ ⟨x, rfl⟩
      (refine wpF_spec rfl rfl (fun w' hw' => ?_) ?_; · (have hb' := Has.world hw'; go_simp; ((have h7 := amt_of (x := x) (b := W.heap.size) (N := N) (hw'.fact 6 (by kernel_rfl)); obtain ⟨o, q1, q2, q3, q4⟩ := h7; refine (num_own _ sB _ _ _ N W.heap.size o w' q4 q1 q3 q2 HSB.out).mono ?_; rintro e w'' ⟨rfl, hb⟩; exact ⟨_, rfl, ⟨⟨x.1, x.2.2, rfl⟩, ⟨x.1, x.2.2, rfl, (own_fit q4 q1 q2).below hb⟩⟩, hb⟩))))
      rintro _ ⟨y, rfl⟩
      refine wpF_nil (fun w5 hb5 hF5 => ?_)
      have OA := own_numc (T := 74) (b := W.heap.size) (s := sB) (L := lenB N) (o := dgi N) (x := y) (hF5 7)
      have HO := Lib.hid OA
      have B3 := HB3.out.below hb5 HB3.out.lt
      have HB5 := Lib.hid B3
      obtain ⟨b30, b31, b32, b33⟩ := B3.all
      have HG5 := Lib.hid (HG.out.trans (hb5.mono HG.out.size))
      have hz4 := HB3.out.lt
      have hz5 := HG.out.size
      clear hF5 OA B3 hb5 HS1 HS2
      go_wp2_with fail
      unfold ResF
      rw [← HE.out.1, ← HE.out.2]
      refine bodyPost_ret (results_cell rfl _ _ _ _ _ _ _ rfl (HB5.out.set _ _) Tryz.underlying24 rfl (by kernel_rfl)) rfl ⟨y.1, y.2, rfl, ?_, ?_⟩
      · exact ((HO.out.other (by dsimp only; omega) _).other (by dsimp only; omega) _).mono hz5
      · exact (HG5.out.setCell (by dsimp only; omega) _).setCell (by dsimp only; omega) _

set_option maxHeartbeats 1000000 in
theorem rmul_any (s1 : Bool) (a1 : Option Addr) (n1 c1 : Nat) (o1 : Nat → Int) (s2 : Bool) (a2 : Option Addr) (n2 c2 : Nat) (o2 : Nat → Int) (w : World)
    (h1 : Rd w a1 n1 o1) (hn1 : n1 ≤ 100000000) (hc1 : n1 ≤ c1) (h2 : Rd w a2 n2 o2) (hn2 : n2 ≤ 100000000) (hc2 : n2 ≤ c2) :
    Calls Tryz.prog 89 #[numV s1 a1 n1 c1, numV s2 a2 n2 c2] w (ResF w (valN s1 n1 o1 * valN s2 n2 o2)) := by
  obtain ⟨x1, d1, r1, l1, m1, O1⟩ := fit_any s1 a1 n1 c1 o1 w h1 (by omega) hc1
  obtain ⟨x2, d2, r2, l2, m2, O2⟩ := fit_any s2 a2 n2 c2 o2 w h2 (by omega) hc2
  generalize valN s1 n1 o1 = z1 at r1 l1 m1 O1 ⊢
  have HO1 := Lib.hid O1; clear O1
  generalize valN s2 n2 o2 = z2 at r2 l2 m2 O2 ⊢
  have HO2 := Lib.hid O2; clear O2
  have HR := Lib.hid (And.intro r1 r2)
  clear h1 h2 r1 r2
  have HB1 := Lib.hid (((Bx.new w 24 (.bool s1) (.slice a1 n1 c1)).alloc (.cells #[.bool s2, .slice a2 n2 c2] 24)).alloc (.cells #[.bool false, .slice none 0 0] 24))
  have HB2 := Lib.hid ((Bx.new2 w (.cells #[.bool s1, .slice a1 n1 c1] 24) 24 (.bool s2) (.slice a2 n2 c2)).alloc (.cells #[.bool false, .slice none 0 0] 24))
  have HB3 := Lib.hid (Bx.new3 w (.cells #[.bool s1, .slice a1 n1 c1] 24) (.cells #[.bool s2, .slice a2 n2 c2] 24) 24 (.bool false) (.slice none 0 0))
  go_enter Tryz.func89, Tryz.ntmps89
  go_wp2_with fail
  refine (HO1.out _ ?_).mono ?_
  · (repeat' (first | (with_reducible exact Below.refl _ _) | (with_reducible assumption) | (with_reducible refine Below.alloc ?_ ?_ _) | (with_reducible refine Below.drew ?_) | (with_reducible refine bdrewN ?_ _) | (with_reducible refine Below.setCell ?_ ?_ _) | (with_reducible refine Below.frame ?_ _) | go_size))
  rintro e w1 ⟨rfl, hb1⟩
  have B1 := HB1.out.below hb1 HB1.out.lt
  have B2 := HB2.out.below hb1 HB2.out.lt
  have B3 := HB3.out.below hb1 HB3.out.lt
  have G1 := Lib.hid (((Below.refl _ _).alloc (by go_size) _ |>.alloc (by go_size) _ |>.alloc (by go_size) _).trans (hb1.mono (by go_size)) : Below w.heap.size w w1)
  have K1 := Lib.hid B1; have K2 := Lib.hid B2; have K3 := Lib.hid B3
  obtain ⟨b10, b11, b12, b13⟩ := B1.all
  obtain ⟨b20, b21, b22, b23⟩ := B2.all
  clear HB1 HB2 HB3 B1 B2 B3 hb1
  go_wp2_with fail
  refine (HO2.out _ ?_).mono ?_
  · have := G1.out; (repeat' (first | (with_reducible exact Below.refl _ _) | (with_reducible assumption) | (with_reducible refine Below.alloc ?_ ?_ _) | (with_reducible refine Below.drew ?_) | (with_reducible refine bdrewN ?_ _) | (with_reducible refine Below.setCell ?_ ?_ _) | (with_reducible refine Below.frame ?_ _) | go_size))
  rintro e w2 ⟨rfl, hb2⟩
  have B1 := (K1.out.set (.bool (decide (z1 < 0))) (.slice x1 (lenB z1.natAbs) d1)).below hb2 (by simpa using K1.out.lt)
  have B2 := ((K2.out.other (a := ⟨w.heap.size, 0, none⟩) (by dsimp only; omega) (.bool (decide (z1 < 0)))).other (a := ⟨w.heap.size, 1, none⟩) (by dsimp only; omega) (.slice x1 (lenB z1.natAbs) d1)).below hb2 (by simpa using K2.out.lt)
  have B3 := ((K3.out.other (a := ⟨w.heap.size, 0, none⟩) (by dsimp only; omega) (.bool (decide (z1 < 0)))).other (a := ⟨w.heap.size, 1, none⟩) (by dsimp only; omega) (.slice x1 (lenB z1.natAbs) d1)).below hb2 (by simpa using K3.out.lt)
  have G2 := Lib.hid (((G1.out.setCell (by simp) _).setCell (by simp) _).trans (hb2.mono (by simpa using G1.out.size)) : Below w.heap.size w w2)
  have C1 := Lib.hid B1; have C2 := Lib.hid B2; have C3 := Lib.hid B3
  obtain ⟨b10, b11, b12, b13⟩ := B1.all
  obtain ⟨b20, b21, b22, b23⟩ := B2.all
  clear K1 K2 K3 B1 B2 B3 hb2 G1
  go_upto_region 3 with (fail)
  obtain ⟨W, hW⟩ : ∃ W, W = ((w2.setCell ⟨w.heap.size + 1, 0, none⟩ (.bool (decide (z2 < 0)))).setCell ⟨w.heap.size + 1, 1, none⟩ (.slice x2 (lenB z2.natAbs) d2)) := ⟨_, rfl⟩
  have B1 := (C1.out.other (a := ⟨w.heap.size + 1, 0, none⟩) (by dsimp only; omega) (.bool (decide (z2 < 0)))).other (a := ⟨w.heap.size + 1, 1, none⟩) (by dsimp only; omega) (.slice x2 (lenB z2.natAbs) d2)
  have B2 := C2.out.set (.bool (decide (z2 < 0))) (.slice x2 (lenB z2.natAbs) d2)
  have B3 := (C3.out.other (a := ⟨w.heap.size + 1, 0, none⟩) (by dsimp only; omega) (.bool (decide (z2 < 0)))).other (a := ⟨w.heap.size + 1, 1, none⟩) (by dsimp only; omega) (.slice x2 (lenB z2.natAbs) d2)
  have G3 := (G2.out.setCell (p := ⟨w.heap.size + 1, 0, none⟩) (by simp) (.bool (decide (z2 < 0)))).setCell (p := ⟨w.heap.size + 1, 1, none⟩) (by simp) (.slice x2 (lenB z2.natAbs) d2)
  rw [← hW] at B1 B2 B3 G3
  rw [show ((w2.setCell ⟨w.heap.size + 1, 0, none⟩ (.bool (decide (z2 < 0)))).setCell ⟨w.heap.size + 1, 1, none⟩ (.slice x2 (lenB z2.natAbs) d2)) = W from hW.symm]
  have HG := Lib.hid G3
  have HB1 := Lib.hid B1; have HB2 := Lib.hid B2; have HB3 := Lib.hid B3
  have HS1 := Lib.hid (fun (w' : World) (hb : Below W.heap.size W w') => And.intro (HB1.out.below hb HB1.out.lt).c0 (HB1.out.below hb HB1.out.lt).c1)
  have HS2 := Lib.hid (fun (w' : World) (hb : Below W.heap.size W w') => And.intro (HB2.out.below hb HB2.out.lt).c0 (HB2.out.below hb HB2.out.lt).c1)
  clear b10 b11 b12 b13 b20 b21 b22 b23 C1 C2 C3 hW G2 HO1 HO2
  have HQ := Lib.hid (And.intro (HR.out.1.below G3) (HR.out.2.below G3))
  have HL := Lib.hid (And.intro (show lenB z1.natAbs ≤ 100000000 by omega) (show lenB z2.natAbs ≤ 100000000 by omega))
  clear B1 B2 B3 G3
  obtain ⟨N, hN⟩ : ∃ N, N = z1.natAbs * z2.natAbs := ⟨_, rfl⟩
  have p1 : N = (z1 * z2).natAbs := by rw [hN, Int.natAbs_mul]
  have p2 := mul_sign z1 z2
  rw [← p1] at p2
  obtain ⟨sB, hsB⟩ : ∃ sB, sB = decide (z1 * z2 < 0) := ⟨_, rfl⟩
  rw [← hsB] at p2
  have HSB := Lib.hid p2
  have HE := Lib.hid (And.intro p1 hsB)
  have AMT := Lib.hid (fun (w' : World) (hb : Below W.heap.size W w') => times_own z1.natAbs z2.natAbs x1 x2 d1 d2 w' (HQ.out.1.below hb) (HQ.out.2.below hb) HL.out.1 HL.out.2)
  rw [← hN] at AMT
  clear p1 p2 hN hsB
  refine wp_region_fresh 11 (spOf [(9, Sp.made (fun x : Option Addr × Nat × Nat => .slice x.1 x.2.1 x.2.2) (AmtF W.heap.size N)),
      (10, Sp.made (fun x : Option Addr × Nat => numV sB x.1 (lenB N) x.2) (fun x w' => Own 74 w' W.heap.size x.1 (lenB N) x.2 (dgi N)))])
    (fun w' => Below W.heap.size W w') (by kernel_rfl) (by kernel_rfl)
    (spOf_cons (Sp.made_keeps AmtF.keeps) (spOf_cons (Sp.made_keeps fun x w w' h hb => h.below hb) spOf_nil)) (fun _ _ h hb => h.trans (hb.mono h.size)) ((Below.refl _ _).drew) ?_
  simp only [List.take_succ_cons, List.take_zero, List.drop_succ_cons, List.drop_zero]
  (refine wpF_reads rfl rfl ?_ (fun w' hw' => ?_) ?_; rotate_left; · (have hb' := Has.world hw'; (skip); clear hw'; go_simp; try rfl))
  (refine wpF_reads rfl rfl ?_ (fun w' hw' => ?_) ?_; rotate_left; · (have hb' := Has.world hw'; (have hs := HS1.out _ hb'); clear hw'; go_simp; try rfl))
  (refine wpF_reads rfl rfl ?_ (fun w' hw' => ?_) ?_; rotate_left; · (have hb' := Has.world hw'; (skip); clear hw'; go_simp; try rfl))
  (refine wpF_reads rfl rfl ?_ (fun w' hw' => ?_) ?_; rotate_left; · (have hb' := Has.world hw'; (have hs := HS2.out _ hb'); clear hw'; go_simp; try rfl))
  (refine wpF_reads rfl rfl ?_ (fun w' hw' => ?_) ?_; rotate_left; · (have hb' := Has.world hw'; (skip); clear hw'; go_simp; try rfl))
  (refine wpF_reads rfl rfl ?_ (fun w' hw' => ?_) ?_; rotate_left; · (have hb' := Has.world hw'; (skip); clear hw'; go_simp; try rfl))
  (refine wpF_reads rfl rfl ?_ (fun w' hw' => ?_) ?_; rotate_left; · (have hb' := Has.world hw'; (have hs := HS1.out _ hb'); clear hw'; go_simp; try rfl))
  (refine wpF_reads rfl rfl ?_ (fun w' hw' => ?_) ?_; rotate_left; · (have hb' := Has.world hw'; (skip); clear hw'; go_simp; try rfl))
  (refine wpF_reads rfl rfl ?_ (fun w' hw' => ?_) ?_; rotate_left; · (have hb' := Has.world hw'; (have hs := HS2.out _ hb'); clear hw'; go_simp; try rfl))
  (refine wpF_spec rfl rfl (fun w' hw' => ?_) ?_; · (have hb' := Has.world hw'; go_simp; ((refine (AMT.out w' hb').mono ?_; rintro e w'' ⟨a, K, cap, o, rfl, q1, q2, q3, q4, q5⟩; exact ⟨_, rfl, ⟨⟨a, K, cap, rfl⟩, ⟨a, K, cap, rfl, o, q1, q2, q3, q4.mono hb'.size⟩⟩, q5⟩))))
  rintro _ ⟨x, rfl⟩
  (refine wpF_spec rfl rfl (fun w' hw' => ?_) ?_; · (have hb' := Has.world hw'; go_simp; ((have h7 := amt_of (x := x) (b := W.heap.size) (N := N) (hw'.fact 9 (by kernel_rfl)); obtain ⟨o, q1, q2, q3, q4⟩ := h7; refine (num_own _ sB _ _ _ N W.heap.size o w' q4 q1 q3 q2 HSB.out).mono ?_; rintro e w'' ⟨rfl, hb⟩; exact ⟨_, rfl, ⟨⟨x.1, x.2.2, rfl⟩, ⟨x.1, x.2.2, rfl, (own_fit q4 q1 q2).below hb⟩⟩, hb⟩))))
  rintro _ ⟨y, rfl⟩
  refine wpF_nil (fun w5 hb5 hF5 => ?_)
  have OA := own_numc (T := 74) (b := W.heap.size) (s := sB) (L := lenB N) (o := dgi N) (x := y) (hF5 10)
  have HO := Lib.hid OA
  have B3 := HB3.out.below hb5 HB3.out.lt
  have HB5 := Lib.hid B3
  obtain ⟨b30, b31, b32, b33⟩ := B3.all
  have HG5 := Lib.hid (HG.out.trans (hb5.mono HG.out.size))
  have hz4 := HB3.out.lt
  have hz5 := HG.out.size
  clear hF5 OA B3 hb5 HS1 HS2
  go_wp2_with fail
  unfold ResF
  rw [← HE.out.1, ← HE.out.2]
  refine bodyPost_ret (results_cell rfl _ _ _ _ _ _ _ rfl (HB5.out.set _ _) Tryz.underlying24 rfl (by kernel_rfl)) rfl ⟨y.1, y.2, rfl, ?_, ?_⟩
  · exact ((HO.out.other (by dsimp only; omega) _).other (by dsimp only; omega) _).mono hz5
  · exact (HG5.out.setCell (by dsimp only; omega) _).setCell (by dsimp only; omega) _
end Go.Proofs.YtaagegcidbgjmaaGreatDoor.Limb
namespace Go.Proofs.YtaagegcidbgjmaaGreatDoor.Book
open Go.RowKit Go.Sort Go.Fresh Go.Proofs.YtaagegcidbgjmaaGreatDoor.Limb

/-- A Book's cells. -/
def bkf (k : Nat) (v : Value) (i : Nat) : Value := if i = 0 then .int .i64 k else if i = 2 then v else .slice none 0 0
/-- The row of what it holds: each list, what it became, its number. -/
def Arr (w : World) (vb k : Nat) (A : Nat → Option Addr) (N C : Nat → Nat) (X : Nat → Value) : Prop :=
  ∃ m f, w.rowIs vb 86 m f ∧ ∀ j, j < k → 3 * j + 2 < m ∧ f (3 * j) = .slice (A j) (N j) (C j) ∧ f (3 * j + 1) = X j ∧ f (3 * j + 2) = .int .i64 ((j : Int) + 1)
theorem Arr.cells {w : World} {vb k : Nat} {A : Nat → Option Addr} {N C : Nat → Nat} {X : Nat → Value} (h : Arr w vb k A N C X) {j : Nat} (hj : j < k) :
    w.cell? ⟨vb, j * 3, none⟩ = some (.slice (A j) (N j) (C j)) ∧ w.cell? ⟨vb, j * 3 + 1, none⟩ = some (X j) ∧ w.cell? ⟨vb, j * 3 + 2, none⟩ = some (.int .i64 ((j : Int) + 1)) ∧ (∀ i, w.frozen? ⟨vb, i, none⟩ = false) ∧ vb < w.heap.size := by
  obtain ⟨m, f, hR, hE⟩ := h
  obtain ⟨h1, h2, h3, h4⟩ := hE j hj
  rw [Nat.mul_comm j 3]
  exact ⟨by rw [← h2]; exact hR.cell (by omega), by rw [← h3]; exact hR.cell (by omega), by rw [← h4]; exact hR.cell (by omega), hR.frozen, hR.lt⟩
theorem Arr.keep {w w' : World} {vb k : Nat} {A : Nat → Option Addr} {N C : Nat → Nat} {X : Nat → Value} (h : Arr w vb k A N C X) (e : w'.heap[vb]? = w.heap[vb]?) : Arr w' vb k A N C X := by
  obtain ⟨m, f, hR, hE⟩ := h
  exact ⟨m, f, hR.of_block e, hE⟩
theorem Arr.lt {w : World} {vb k : Nat} {A : Nat → Option Addr} {N C : Nat → Nat} {X : Nat → Value} (h : Arr w vb k A N C X) : vb < w.heap.size := by
  obtain ⟨m, f, hR, hE⟩ := h
  exact hR.lt
theorem Arr.setLong {w : World} {vb k : Nat} {A : Nat → Option Addr} {N C : Nat → Nat} {X : Nat → Value} (h : Arr w vb k A N C X) (i : Nat) (v : Value) : Arr (w.setCell ⟨vb, i * 3 + 1, none⟩ v) vb k A N C (fun j => if j = i then v else X j) := by
  obtain ⟨m, f, hR, hE⟩ := h
  refine ⟨m, _, hR.set (i * 3 + 1) v, fun j hj => ?_⟩
  obtain ⟨h1, h2, h3, h4⟩ := hE j hj
  refine ⟨h1, ?_, ?_, ?_⟩
  · rw [if_neg (by omega)]; exact h2
  · show (if 3 * j + 1 = i * 3 + 1 then v else f (3 * j + 1)) = if j = i then v else X j
    by_cases e : j = i
    · subst e; rw [if_pos (by omega), if_pos rfl]
    · rw [if_neg (by omega), if_neg e]; exact h3
  · rw [if_neg (by omega)]; exact h4
/-- The blocks of the lists. -/
def UA (k : Nat) (A : Nat → Option Addr) (g : Nat) : Prop := ∃ j, j < k ∧ ∃ p, A j = some p ∧ p.block = g
/-- No two lists lie in one block. -/
def Part (k : Nat) (A : Nat → Option Addr) : Prop := ∀ i, i < k → ∀ j, j < k → i ≠ j → ∀ p q, A i = some p → A j = some q → p.block ≠ q.block

/-- One cell of list i is written. -/
theorem own_step {k i t g : Nat} {A : Nat → Option Addr} {N C : Nat → Nat} {O : Nat → Nat → Int} {w : World} {v : Int} (hD : Part k A) (hO : ∀ j, j < k → Own 74 w 0 (A j) (N j) (C j) (O j)) (hi : i < k) (hg : A i = some ⟨g, 0, none⟩) (ht : t < N i) (hv : 0 ≤ v ∧ v ≤ 4294967295) :
    ∀ j, j < k → Own 74 (w.setCell ⟨g, t, none⟩ (.int .u32 v)) 0 (A j) (N j) (C j) (if j = i then upd (O i) t v else O j) := by
  intro j hj
  by_cases e : j = i
  · subst e
    rw [if_pos rfl, hg]
    have h := hO j hj
    rw [hg] at h
    exact h.put ht hv
  · rw [if_neg e]
    exact (hO j hj).keep fun p hp => Below.heap_setCell _ _ _ _ (fun he => hD j hj i hi e p _ hp hg he)

def hcell (a : Option Addr) (n c : Nat) (x : Value) (q : Int) (i : Nat) : Value := if i = 0 then .slice a n c else if i = 1 then x else .int .i64 q

set_option maxHeartbeats 4000000 in
theorem fill_any (b vb k cap : Nat) (A : Nat → Option Addr) (N C : Nat → Nat) (O : Nat → Nat → Int) (w : World) (hk : k ≤ 1000) (hB : w.rowIs b 47 13 (bkf k (.slice (some ⟨vb, 0, none⟩) k cap)))
    (hA : Arr w vb k A N C (fun _ => .slice none 0 0)) (hO : ∀ j, j < k → Own 74 w 0 (A j) (N j) (C j) (O j)) (hN : ∀ j, j < k → N j ≤ 1000000000) (hS : ¬ UA k A b ∧ ¬ UA k A vb) (hD : Part k A) :
    Calls Tryz.prog 43 #[.pointer (some ⟨b, 0, none⟩)] w fun e w' => (∃ v, e = .returned v) ∧ Touch (UA k A) w w' ∧ ∀ j, j < k → Own 74 w' 0 (A j) (N j) (C j) (fun _ => mk j) := by
  have HB := Lib.hid hB; have HA := Lib.hid hA; have HO := Lib.hid hO; have HS := Lib.hid hS; have HD := Lib.hid hD; have HN := Lib.hid hN
  clear hB hA hO hS hD hN
  go_enter Tryz.func43, Tryz.ntmps43
  go_wp2_with fail
  go_loopw [2] (fun v wr => ∃ i : Nat, i ≤ k ∧ v = .int .i64 i ∧ Touch (UA k A) w wr ∧ ∃ OO : Nat → Nat → Int, (∀ j, j < k → Own 74 wr 0 (A j) (N j) (C j) (OO j)) ∧ ∀ j, j < i → ∀ c, c < N j → OO j c = mk j) (fun v _ => k - (intOf v).toNat)
  case atStart => exact ⟨0, by omega, rfl, Touch.refl _ _, O, HO.out, fun j hj => by omega⟩
  case round =>
    obtain ⟨w1, rfl⟩ : ∃ w1, w1 = wr := ⟨_, rfl⟩
    obtain ⟨i, hik, rfl, hT, OO, hOO, hM⟩ := hrel
    have KT := Lib.hid hT; have KO := Lib.hid hOO; have KM := Lib.hid hM
    have KB := Lib.hid (HB.out.of_block (hT.block _ HB.out.lt HS.out.1))
    have KA := Lib.hid (HA.out.keep (hT.block _ HA.out.lt HS.out.2))
    clear hT hOO hM
    have b2 : w1.cell? ⟨b, 2, none⟩ = some (.slice (some ⟨vb, 0, none⟩) k cap) := KB.out.cell (i := 2) (by omega)
    by_cases hi : i < k
    · obtain ⟨a0, a1, a2, -, hvb⟩ := KA.out.cells hi
      obtain ⟨a, ha⟩ : ∃ a, a = A i := ⟨_, rfl⟩
      obtain ⟨n, hn⟩ : ∃ n, n = N i := ⟨_, rfl⟩
      obtain ⟨c, hc⟩ : ∃ c, c = C i := ⟨_, rfl⟩
      rw [← ha, ← hn, ← hc] at a0
      have EA := Lib.hid ha; have EN := Lib.hid hn; have EC := Lib.hid hc
      have hnb : n ≤ 1000000000 := by rw [hn]; exact HN.out i hi
      clear ha hn hc
      go_wp2_with fail
      go_loopw [4] (fun v wr2 => ∃ t : Nat, t ≤ n ∧ v = .int .i64 t ∧ wr2.rowIs w1.heap.size 86 3 (hcell a n c (.slice none 0 0) ((i : Int) + 1)) ∧ Touch (UA k A) w wr2 ∧
        ∃ OO : Nat → Nat → Int, (∀ j, j < k → Own 74 wr2 0 (A j) (N j) (C j) (OO j)) ∧ (∀ j, j < i → ∀ c, c < N j → OO j c = mk j) ∧ ∀ c, c < t → OO i c = mk i) (fun v _ => n - (intOf v).toNat)
      case atStart =>
        refine ⟨0, by omega, rfl, ?_, KT.out.alloc _, OO, fun j hj => (KO.out j hj).below ((Below.refl _ _).alloc (Nat.le_refl _) _), KM.out, fun c hc => by omega⟩
        have h := World.rowIs_alloc w1 #[Value.slice a n c, Value.slice none 0 0, Value.int IntKind.i64 ((i : Int) + 1)] 86 (hcell a n c (.slice none 0 0) ((i : Int) + 1)) (fun q hq => by
          match q, hq with
          | 0, _ => rfl
          | 1, _ => rfl
          | 2, _ => rfl)
        exact h
      case round =>
        obtain ⟨t, htn, rfl, hH, hT2, OO2, hOO2, hM2, hM3⟩ := hrel
        have LT := Lib.hid hT2; have LO := Lib.hid hOO2; have LM := Lib.hid (And.intro hM2 hM3); have LH := Lib.hid hH
        have hwr : w.heap.size ≤ w1.heap.size := KT.out.size
        have hc0 : wr.cell? ⟨w1.heap.size, 0, none⟩ = some (.slice a n c) := hH.cell (i := 0) (by omega)
        have hc2 : wr.cell? ⟨w1.heap.size, 2, none⟩ = some (.int .i64 ((i : Int) + 1)) := hH.cell (i := 2) (by omega)
        clear hH hT2 hOO2 hM2 hM3
        by_cases ht : t < n
        · obtain ⟨g, hg⟩ := (LO.out i hi).some_of_pos (by rw [← EN.out]; omega)
          obtain rfl := EA.out.trans hg
          have hO := LO.out i hi
          rw [← EA.out, ← EN.out] at hO
          obtain ⟨vo, hco⟩ : ∃ vo, wr.cell? ⟨g, t, none⟩ = some vo := ⟨_, hO.cell ht⟩
          have hfz := hO.fz
          have hglt := (hO.blk rfl).2.2
          have hgw : g < w.heap.size := ((HO.out i hi).blk hg).2.2
          have HS1 := Lib.hid (fun (w' : World) (hb : Below wr.heap.size wr w') => And.intro ((hb.cell (p := ⟨w1.heap.size, 0, none⟩) LH.out.lt).trans hc0) ((hb.cell (p := ⟨w1.heap.size, 2, none⟩) LH.out.lt).trans hc2))
          have hlt : w1.heap.size < wr.heap.size := LH.out.lt
          clear hO
          go_wp2_with fail
          refine wp_region_fresh 7 (spOf [(5, Sp.know (.int .u32 (mk i)))]) (fun w' => Below wr.heap.size wr w') (by kernel_rfl) (by kernel_rfl)
            (spOf_cons (Sp.know_keeps _) spOf_nil) (fun _ _ h hb => h.trans (hb.mono h.size)) ((Below.refl _ _).drew) ?_
          simp only [List.take_succ_cons, List.take_zero, List.drop_succ_cons, List.drop_zero]
          (refine wpF_reads rfl rfl ?_ (fun w' hw' => ?_) ?_; rotate_left; · (have hb' := Has.world hw'; (skip); clear hw'; go_simp; try rfl))
          (refine wpF_reads rfl rfl ?_ (fun w' hw' => ?_) ?_; rotate_left; · (have hb' := Has.world hw'; (have hs := HS1.out _ hb'); clear hw'; go_simp; try rfl))
          (refine wpF_reads rfl rfl ?_ (fun w' hw' => ?_) ?_; rotate_left; · (have hb' := Has.world hw'; (skip); clear hw'; go_simp; try rfl))
          (refine wpF_reads rfl rfl ?_ (fun w' hw' => ?_) ?_; rotate_left; · (have hb' := Has.world hw'; (skip); clear hw'; go_simp; try rfl))
          (refine wpF_reads rfl rfl ?_ (fun w' hw' => ?_) ?_; rotate_left; · (have hb' := Has.world hw'; (have hs := HS1.out _ hb'); clear hw'; go_simp; try rfl))
          (refine wpF_spec rfl rfl (fun w' hw' => ?_) ?_; · (have hb' := Has.world hw'; go_simp; ((refine (mark_any i w' (by omega)).mono ?_; rintro e w'' ⟨rfl, rfl⟩; exact ⟨_, rfl, rfl, Below.refl _ _⟩))))
          rintro _ rfl
          (refine wpF_reads rfl rfl ?_ (fun w' hw' => ?_) ?_; rotate_left; · (have hb' := Has.world hw'; (skip); clear hw'; go_simp; try rfl))
          refine wpF_nil (fun w5 hb5 hF5 => ?_)
          clear hF5 HS1
          have LH := Lib.hid (LH.out.of_block (hb5.block _ LH.out.lt))
          have LT := Lib.hid (LT.out.trans (Touch.of_below (hb5.mono (Nat.le_refl _))))
          have LO := Lib.hid (fun j hj => (LO.out j hj).below hb5)
          have hco := (hb5.cell (p := ⟨g, t, none⟩) hglt).trans hco
          have hfz := fun q => (hb5.frozen (p := ⟨g, q, none⟩) hglt).trans (hfz q)
          have ST := Lib.hid (own_step HD.out LO.out hi hg (by rw [← EN.out]; exact ht) (mk_rng (j := i) (by omega)))
          clear hb5
          go_wp2_with fail
          go_roundw
          case rel =>
            refine ⟨t + 1, by omega, by go_num, LH.out.setOther (by dsimp only; omega) _, LT.out.setCell (p := ⟨g, t, none⟩) (Or.inl ⟨i, hi, _, hg, rfl⟩) _, _, ST.out, ?_, ?_⟩
            · intro j hj c hc
              rw [if_neg (by omega)]
              exact LM.out.1 j hj c hc
            · intro c hc
              rw [if_pos rfl]
              by_cases e : c = t
              · subst e; exact upd_same _ _ _
              · rw [upd_ne _ _ e]; exact LM.out.2 c (by omega)
          case measure => simp [intOf]; omega
        · obtain rfl : t = n := by omega
          go_wp2_with fail
          go_roundw
          case rel =>
            refine ⟨i + 1, by omega, by go_num, LT.out, OO2, LO.out, fun j hj c hc => ?_⟩
            by_cases e : j = i
            · subst e; exact LM.out.2 c (by rw [EN.out]; exact hc)
            · exact LM.out.1 j (by omega) c hc
          case measure => simp [intOf]; omega
    · obtain rfl : i = k := by omega
      go_wp2_with fail
      (try simp only [Exit.inBlock, Exit.then])
      refine bodyPost_end (results_none rfl _ _ _) rfl ?_
      exact ⟨⟨_, rfl⟩, KT.out, fun j hj => (KO.out j hj).congr fun c hc => KM.out j hj c hc⟩
end Go.Proofs.YtaagegcidbgjmaaGreatDoor.Book
namespace Go.Proofs.YtaagegcidbgjmaaGreatDoor.Limb
open Go.RowKit Go.Sort Go.Fresh

theorem pw_div_succ (M k : Nat) : M / pw k / 1000000000 = M / pw (k + 1) := by rw [pw_succ, Nat.div_div_eq_div_mul]
theorem pw_div_pos {M k : Nat} : 0 < M / pw k ↔ k < lenB M := by
  constructor
  · intro h
    refine lenB_ge ?_
    rcases Nat.lt_or_ge M (pw k) with h1 | h1
    · rw [Nat.div_eq_of_lt h1] at h; omega
    · exact h1
  · intro h
    exact Nat.div_pos (pw_le_of_lenB h) (pw_pos k)
theorem u64_of_neg {M : Nat} (h0 : 0 < M) (h1 : M ≤ 9223372036854775808) : ∃ U, IntKind.u64.wrap (-(M : Int)) = U ∧ IntKind.u64.wrap (-U) = (M : Int) := by
  refine ⟨18446744073709551616 - (M : Int), ?_, ?_⟩
  · show (-(M : Int)) % 18446744073709551616 = _
    omega
  · show (-(18446744073709551616 - (M : Int))) % 18446744073709551616 = _
    omega
theorem len3 {M : Nat} (h : M ≤ 9223372036854775808) : lenB M ≤ 3 := lenB_le (Nat.lt_of_le_of_lt h (by decide))
theorem neg_canon (M : Nat) (h0 : 0 < M) : (true && decide (0 < lenB M)) = decide (-(M : Int) < 0) := by
  have h1 : 0 < lenB M := by
    have := lenB_pos (m := M) (by omega); omega
  rw [decide_eq_true h1, decide_eq_true (show -(M : Int) < 0 by omega)]; rfl
theorem pos_canon (M : Nat) : (false && decide (0 < lenB M)) = decide ((M : Int) < 0) := by
  rw [decide_eq_false (show ¬ (M : Int) < 0 by omega)]; rfl

set_option maxRecDepth 100000 in
set_option maxHeartbeats 2000000 in
theorem of64_pos (M : Nat) (w : World) (h : M ≤ 9223372036854775807) : Calls Tryz.prog 37 #[.int .i64 (M : Int)] w (ResN w (M : Int)) := by
  obtain ⟨i0, hi, hz0, hz1, hz2⟩ := info_parts info32
  have e1 := IntWalk.u64_in (M : Int) (by omega)
  have hlt : ¬ (M : Int) < 0 := by omega
  have hge : (0 : Int) ≤ (M : Int) := by omega
  have HM := Lib.hid (show M ≤ 9223372036854775808 by omega)
  clear h
  go_enter Tryz.func37, Tryz.ntmps37
  have HLN := Lib.hid (len3 HM.out)
  go_wp2_with fail
  go_loopw [3, 4] (fun x v wr => ∃ k : Nat, k ≤ lenB M ∧ x = .int .u64 ((M / pw k : Nat) : Int) ∧ wr.ownsRow (w.heap.size + 1) 74 1 v k (ucs (dgi M) k) ∧ Below w.heap.size w wr ∧ Bx wr w.heap.size 24 (.bool false) (.slice none 0 0)) (fun x _ _ => (intOf x).toNat)
  case atStart => exact ⟨0, Nat.zero_le _, by rw [pw_zero, Nat.div_one], Own.row_nil _ _ _, by (repeat' (first | (with_reducible exact Below.refl _ _) | (with_reducible assumption) | (with_reducible refine Below.alloc ?_ ?_ _) | (with_reducible refine Below.drew ?_) | (with_reducible refine bdrewN ?_ _) | (with_reducible refine Below.setCell ?_ ?_ _) | (with_reducible refine Below.frame ?_ _) | go_size)), Bx.new _ _ _ _⟩
  case round =>
    obtain ⟨k, hk, rfl, hO, hG, hB⟩ := hrel
    obtain ⟨X, hX⟩ : ∃ X, X = M / pw k := ⟨_, rfl⟩
    have HXM := Lib.hid hX
    have HXle := Lib.hid (show X ≤ 9223372036854775808 by rw [hX]; exact Nat.le_trans (Nat.div_le_self _ _) HM.out)
    have HP := Lib.hid (pw_div_pos (M := M) (k := k))
    have HD := Lib.hid (pw_div_succ M k)
    rw [← hX] at HP HD ⊢
    have HO := Lib.hid hO; have HG := Lib.hid hG; have HB := Lib.hid hB; have HK := Lib.hid hk
    clear hO hG hB hX hk
    by_cases h0 : 0 < X
    · have hk2 : k < lenB M := HP.out.1 h0
      have t1 : (X : Int).tmod 1000000000 = dgi M k := by
        rw [Int.tmod_eq_emod_of_nonneg (by omega)]
        have hdg : X % 1000000000 = dg M k := by rw [HXM.out]; rfl
        show _ = ((dg M k : Nat) : Int); omega
      obtain ⟨Y, hY⟩ : ∃ Y, Y = M / pw (k + 1) := ⟨_, rfl⟩
      rw [← hY] at HD
      have HY := Lib.hid hY
      clear hY
      have t2 : (X : Int).tdiv 1000000000 = (Y : Int) := by rw [Int.tdiv_eq_ediv_of_nonneg (by omega), ← HD.out]; omega
      have hdb : 0 ≤ dgi M k ∧ dgi M k ≤ 999999999 := by have := dgi_Dig M (k + 1) k (by omega); omega
      have u1 := IntWalk.u32_in (dgi M k) (by omega)
      have u2 := IntWalk.u64_in (dgi M k) (by omega)
      have u3 := IntWalk.u64_in (Y : Int) (by have h9 := HD.out; have := HXle.out; omega)
      have hx0 : 0 < (X : Int) := by omega
      have hL3 := HLN.out
      have HLE := Lib.hid (show Y < X by have h9 := HD.out; omega)
      go_wp2_with (first | (at_builtin; refine wpList_append_own _ rfl _ _ 22 rfl (w.heap.size + 1) 74 i0 (.int .u32 0) 1 4 Tryz.underlying22 hi hz0 hz1 hz2 rfl (by decide) _ _ _ rfl (HO.out.alloc _) ⟨wr.heap.size, 0, none⟩ 1 1 [.int .u32 (dgi M k)] rfl rfl ?c1 ?c2 ?c3 ?c4 ?c5 ?_))
      case c1 =>
        intro t u ht
        match t, ht with
        | 0, ht => simp at ht; subst ht; simp [Addr.add]
      case c2 => intro u hu; simp at hu; subst hu; rfl
      case c3 => unfold maxLen; omega
      case c4 => omega
      case c5 => have := HB.out.lt; simp; omega
      intro v' w1 hown' hgrow _
      have O2 := Lib.hid (show w1.ownsRow (w.heap.size + 1) 74 1 v' (k + 1) (ucs (dgi M) (k + 1)) by rw [ucs_succ]; exact hown')
      have G2 := Lib.hid ((HG.out.alloc HG.out.size _).grown hgrow (by have := HG.out.size; simp; omega) (fun g hg => Nat.le_of_succ_le (ownBlock_ge HO.out hg)))
      have B2 := Lib.hid ((HB.out.alloc (.cells #[.int .u32 (dgi M k)] 74)).of (hgrow.block w.heap.size (HB.out.alloc _).lt (fun e => by have := ownBlock_ge HO.out e.symm; omega)))
      clear hown' hgrow
      go_wp2_with fail
      go_roundw
      case rel => exact ⟨k + 1, by omega, by rw [HY.out], O2.out, G2.out, B2.out⟩
      case measure => simp [intOf]; have h9 := HLE.out; omega
    · obtain rfl : X = 0 := by omega
      obtain rfl : k = lenB M := by have := HK.out; have := mt HP.out.2 (by omega); omega
      obtain ⟨a, cap, rfl, hOw, hcap⟩ := Own.of_row HO.out (fun i hi => by have := dgi_Dig M (lenB M) i hi; omega)
      have HOW := Lib.hid hOw
      have HCP := Lib.hid hcap
      clear h0 hOw hcap
      have hL3 := HLN.out
      have CUT := Lib.hid (cut_any false a (lenB M) cap (dgi M) wr HOW.out.rd (dgi_Dig _ _) (by omega) HOW.out.le HCP.out)
      rw [sumB_dgi, Int.toNat_natCast, pos_canon M] at CUT
      go_wp2_with fail
      refine CUT.out.mono ?_
      rintro e w2 ⟨rfl, hb2⟩
      have B3 := HB.out.below hb2 HB.out.lt
      have HB3 := Lib.hid B3
      have HO3 := Lib.hid (HOW.out.below hb2)
      have HG3 := Lib.hid (HG.out.trans (hb2.mono HG.out.size))
      obtain ⟨b30, b31, b32, b33⟩ := B3.all
      clear B3 hb2 CUT
      go_wp2_with fail
      refine bodyPost_ret (results_cell rfl _ _ _ _ _ _ _ rfl (HB3.out.set _ _) Tryz.underlying24 rfl (by kernel_rfl)) rfl ⟨a, by first | (rw [show ((M : Int)).natAbs = M by omega]; done) | (rw [show ((M : Int)).natAbs = M by omega, decide_eq_true (show -(M : Int) < 0 by omega)]), ?_, ?_, ?_⟩
      · rw [show ((M : Int)).natAbs = M by omega]; exact (((HO3.out.cut (Nat.le_refl _) (fun i _ => rfl)).other (by dsimp only; omega) _).other (by dsimp only; omega) _).mono (by omega)
      · rw [show ((M : Int)).natAbs = M by omega]; intro h; have h1 := HO3.out.le; have h2 := HCP.out h; omega
      · exact (HG3.out.setCell (by dsimp only; omega) _).setCell (by dsimp only; omega) _
set_option maxRecDepth 100000 in
set_option maxHeartbeats 2000000 in
theorem of64_neg (M : Nat) (w : World) (h0 : 0 < M) (h : M ≤ 9223372036854775808) : Calls Tryz.prog 37 #[.int .i64 (-(M : Int))] w (ResN w (-(M : Int))) := by
  obtain ⟨i0, hi, hz0, hz1, hz2⟩ := info_parts info32
  obtain ⟨U, e1, e2⟩ := u64_of_neg h0 h
  have hlt : -(M : Int) < 0 := by omega
  have H0 := Lib.hid h0
  have hp0 : (0 : Int) < (M : Int) := by omega
  have HM := Lib.hid (show M ≤ 9223372036854775808 by omega)
  clear h
  go_enter Tryz.func37, Tryz.ntmps37
  have HLN := Lib.hid (len3 HM.out)
  go_wp2_with fail
  go_loopw [3, 4] (fun x v wr => ∃ k : Nat, k ≤ lenB M ∧ x = .int .u64 ((M / pw k : Nat) : Int) ∧ wr.ownsRow (w.heap.size + 1) 74 1 v k (ucs (dgi M) k) ∧ Below w.heap.size w wr ∧ Bx wr w.heap.size 24 (.bool false) (.slice none 0 0)) (fun x _ _ => (intOf x).toNat)
  case atStart => exact ⟨0, Nat.zero_le _, by rw [pw_zero, Nat.div_one], Own.row_nil _ _ _, by (repeat' (first | (with_reducible exact Below.refl _ _) | (with_reducible assumption) | (with_reducible refine Below.alloc ?_ ?_ _) | (with_reducible refine Below.drew ?_) | (with_reducible refine bdrewN ?_ _) | (with_reducible refine Below.setCell ?_ ?_ _) | (with_reducible refine Below.frame ?_ _) | go_size)), Bx.new _ _ _ _⟩
  case round =>
    obtain ⟨k, hk, rfl, hO, hG, hB⟩ := hrel
    obtain ⟨X, hX⟩ : ∃ X, X = M / pw k := ⟨_, rfl⟩
    have HXM := Lib.hid hX
    have HXle := Lib.hid (show X ≤ 9223372036854775808 by rw [hX]; exact Nat.le_trans (Nat.div_le_self _ _) HM.out)
    have HP := Lib.hid (pw_div_pos (M := M) (k := k))
    have HD := Lib.hid (pw_div_succ M k)
    rw [← hX] at HP HD ⊢
    have HO := Lib.hid hO; have HG := Lib.hid hG; have HB := Lib.hid hB; have HK := Lib.hid hk
    clear hO hG hB hX hk
    by_cases h0 : 0 < X
    · have hk2 : k < lenB M := HP.out.1 h0
      have t1 : (X : Int).tmod 1000000000 = dgi M k := by
        rw [Int.tmod_eq_emod_of_nonneg (by omega)]
        have hdg : X % 1000000000 = dg M k := by rw [HXM.out]; rfl
        show _ = ((dg M k : Nat) : Int); omega
      obtain ⟨Y, hY⟩ : ∃ Y, Y = M / pw (k + 1) := ⟨_, rfl⟩
      rw [← hY] at HD
      have HY := Lib.hid hY
      clear hY
      have t2 : (X : Int).tdiv 1000000000 = (Y : Int) := by rw [Int.tdiv_eq_ediv_of_nonneg (by omega), ← HD.out]; omega
      have hdb : 0 ≤ dgi M k ∧ dgi M k ≤ 999999999 := by have := dgi_Dig M (k + 1) k (by omega); omega
      have u1 := IntWalk.u32_in (dgi M k) (by omega)
      have u2 := IntWalk.u64_in (dgi M k) (by omega)
      have u3 := IntWalk.u64_in (Y : Int) (by have h9 := HD.out; have := HXle.out; omega)
      have hx0 : 0 < (X : Int) := by omega
      have hL3 := HLN.out
      have HLE := Lib.hid (show Y < X by have h9 := HD.out; omega)
      go_wp2_with (first | (at_builtin; refine wpList_append_own _ rfl _ _ 22 rfl (w.heap.size + 1) 74 i0 (.int .u32 0) 1 4 Tryz.underlying22 hi hz0 hz1 hz2 rfl (by decide) _ _ _ rfl (HO.out.alloc _) ⟨wr.heap.size, 0, none⟩ 1 1 [.int .u32 (dgi M k)] rfl rfl ?c1 ?c2 ?c3 ?c4 ?c5 ?_))
      case c1 =>
        intro t u ht
        match t, ht with
        | 0, ht => simp at ht; subst ht; simp [Addr.add]
      case c2 => intro u hu; simp at hu; subst hu; rfl
      case c3 => unfold maxLen; omega
      case c4 => omega
      case c5 => have := HB.out.lt; simp; omega
      intro v' w1 hown' hgrow _
      have O2 := Lib.hid (show w1.ownsRow (w.heap.size + 1) 74 1 v' (k + 1) (ucs (dgi M) (k + 1)) by rw [ucs_succ]; exact hown')
      have G2 := Lib.hid ((HG.out.alloc HG.out.size _).grown hgrow (by have := HG.out.size; simp; omega) (fun g hg => Nat.le_of_succ_le (ownBlock_ge HO.out hg)))
      have B2 := Lib.hid ((HB.out.alloc (.cells #[.int .u32 (dgi M k)] 74)).of (hgrow.block w.heap.size (HB.out.alloc _).lt (fun e => by have := ownBlock_ge HO.out e.symm; omega)))
      clear hown' hgrow
      go_wp2_with fail
      go_roundw
      case rel => exact ⟨k + 1, by omega, by rw [HY.out], O2.out, G2.out, B2.out⟩
      case measure => simp [intOf]; have h9 := HLE.out; omega
    · obtain rfl : X = 0 := by omega
      obtain rfl : k = lenB M := by have := HK.out; have := mt HP.out.2 (by omega); omega
      obtain ⟨a, cap, rfl, hOw, hcap⟩ := Own.of_row HO.out (fun i hi => by have := dgi_Dig M (lenB M) i hi; omega)
      have HOW := Lib.hid hOw
      have HCP := Lib.hid hcap
      clear h0 hOw hcap
      have hL3 := HLN.out
      have CUT := Lib.hid (cut_any true a (lenB M) cap (dgi M) wr HOW.out.rd (dgi_Dig _ _) (by omega) HOW.out.le HCP.out)
      rw [sumB_dgi, Int.toNat_natCast, neg_canon M H0.out] at CUT
      go_wp2_with fail
      refine CUT.out.mono ?_
      rintro e w2 ⟨rfl, hb2⟩
      have B3 := HB.out.below hb2 HB.out.lt
      have HB3 := Lib.hid B3
      have HO3 := Lib.hid (HOW.out.below hb2)
      have HG3 := Lib.hid (HG.out.trans (hb2.mono HG.out.size))
      obtain ⟨b30, b31, b32, b33⟩ := B3.all
      clear B3 hb2 CUT
      go_wp2_with fail
      refine bodyPost_ret (results_cell rfl _ _ _ _ _ _ _ rfl (HB3.out.set _ _) Tryz.underlying24 rfl (by kernel_rfl)) rfl ⟨a, by first | (rw [show (-(M : Int)).natAbs = M by omega]; done) | (rw [show (-(M : Int)).natAbs = M by omega, decide_eq_true (show -(M : Int) < 0 by omega)]), ?_, ?_, ?_⟩
      · rw [show (-(M : Int)).natAbs = M by omega]; exact (((HO3.out.cut (Nat.le_refl _) (fun i _ => rfl)).other (by dsimp only; omega) _).other (by dsimp only; omega) _).mono (by omega)
      · rw [show (-(M : Int)).natAbs = M by omega]; intro h; have h1 := HO3.out.le; have h2 := HCP.out h; omega
      · exact (HG3.out.setCell (by dsimp only; omega) _).setCell (by dsimp only; omega) _
set_option maxRecDepth 100000 in
set_option maxHeartbeats 2000000 in
theorem rof64_pos (M : Nat) (w : World) (h : M ≤ 9223372036854775807) : Calls Tryz.prog 39 #[.int .i64 (M : Int)] w (ResF w (M : Int)) := by
  obtain ⟨i0, hi, hz0, hz1, hz2⟩ := info_parts info32
  have e1 := IntWalk.u64_in (M : Int) (by omega)
  have hlt : ¬ (M : Int) < 0 := by omega
  have hge : (0 : Int) ≤ (M : Int) := by omega
  have HM := Lib.hid (show M ≤ 9223372036854775808 by omega)
  clear h
  go_enter Tryz.func39, Tryz.ntmps39
  have HLN := Lib.hid (len3 HM.out)
  go_wp2_with fail
  go_loopw [4, 5] (fun x v wr => ∃ k : Nat, k ≤ lenB M ∧ x = .int .u64 ((M / pw k : Nat) : Int) ∧ wr.ownsRow (w.heap.size + 1) 74 1 v k (ucs (dgi M) k) ∧ Below w.heap.size w wr ∧ Bx wr w.heap.size 24 (.bool false) (.slice none 0 0)) (fun x _ _ => (intOf x).toNat)
  case atStart => exact ⟨0, Nat.zero_le _, by rw [pw_zero, Nat.div_one], Own.row_nil _ _ _, by (repeat' (first | (with_reducible exact Below.refl _ _) | (with_reducible assumption) | (with_reducible refine Below.alloc ?_ ?_ _) | (with_reducible refine Below.drew ?_) | (with_reducible refine bdrewN ?_ _) | (with_reducible refine Below.setCell ?_ ?_ _) | (with_reducible refine Below.frame ?_ _) | go_size)), Bx.new _ _ _ _⟩
  case round =>
    obtain ⟨k, hk, rfl, hO, hG, hB⟩ := hrel
    obtain ⟨X, hX⟩ : ∃ X, X = M / pw k := ⟨_, rfl⟩
    have HXM := Lib.hid hX
    have HXle := Lib.hid (show X ≤ 9223372036854775808 by rw [hX]; exact Nat.le_trans (Nat.div_le_self _ _) HM.out)
    have HP := Lib.hid (pw_div_pos (M := M) (k := k))
    have HD := Lib.hid (pw_div_succ M k)
    rw [← hX] at HP HD ⊢
    have HO := Lib.hid hO; have HG := Lib.hid hG; have HB := Lib.hid hB; have HK := Lib.hid hk
    clear hO hG hB hX hk
    by_cases h0 : 0 < X
    · have hk2 : k < lenB M := HP.out.1 h0
      have t1 : (X : Int).tmod 1000000000 = dgi M k := by
        rw [Int.tmod_eq_emod_of_nonneg (by omega)]
        have hdg : X % 1000000000 = dg M k := by rw [HXM.out]; rfl
        show _ = ((dg M k : Nat) : Int); omega
      obtain ⟨Y, hY⟩ : ∃ Y, Y = M / pw (k + 1) := ⟨_, rfl⟩
      rw [← hY] at HD
      have HY := Lib.hid hY
      clear hY
      have t2 : (X : Int).tdiv 1000000000 = (Y : Int) := by rw [Int.tdiv_eq_ediv_of_nonneg (by omega), ← HD.out]; omega
      have hdb : 0 ≤ dgi M k ∧ dgi M k ≤ 999999999 := by have := dgi_Dig M (k + 1) k (by omega); omega
      have u1 := IntWalk.u32_in (dgi M k) (by omega)
      have u2 := IntWalk.u64_in (dgi M k) (by omega)
      have u3 := IntWalk.u64_in (Y : Int) (by have h9 := HD.out; have := HXle.out; omega)
      have hx0 : 0 < (X : Int) := by omega
      have hL3 := HLN.out
      have HLE := Lib.hid (show Y < X by have h9 := HD.out; omega)
      go_wp2_with (first | (at_builtin; refine wpList_append_own _ rfl _ _ 22 rfl (w.heap.size + 1) 74 i0 (.int .u32 0) 1 4 Tryz.underlying22 hi hz0 hz1 hz2 rfl (by decide) _ _ _ rfl (HO.out.alloc _) ⟨wr.heap.size, 0, none⟩ 1 1 [.int .u32 (dgi M k)] rfl rfl ?c1 ?c2 ?c3 ?c4 ?c5 ?_))
      case c1 =>
        intro t u ht
        match t, ht with
        | 0, ht => simp at ht; subst ht; simp [Addr.add]
      case c2 => intro u hu; simp at hu; subst hu; rfl
      case c3 => unfold maxLen; omega
      case c4 => omega
      case c5 => have := HB.out.lt; simp; omega
      intro v' w1 hown' hgrow _
      have O2 := Lib.hid (show w1.ownsRow (w.heap.size + 1) 74 1 v' (k + 1) (ucs (dgi M) (k + 1)) by rw [ucs_succ]; exact hown')
      have G2 := Lib.hid ((HG.out.alloc HG.out.size _).grown hgrow (by have := HG.out.size; simp; omega) (fun g hg => Nat.le_of_succ_le (ownBlock_ge HO.out hg)))
      have B2 := Lib.hid ((HB.out.alloc (.cells #[.int .u32 (dgi M k)] 74)).of (hgrow.block w.heap.size (HB.out.alloc _).lt (fun e => by have := ownBlock_ge HO.out e.symm; omega)))
      clear hown' hgrow
      go_wp2_with fail
      go_roundw
      case rel => exact ⟨k + 1, by omega, by rw [HY.out], O2.out, G2.out, B2.out⟩
      case measure => simp [intOf]; have h9 := HLE.out; omega
    · obtain rfl : X = 0 := by omega
      obtain rfl : k = lenB M := by have := HK.out; have := mt HP.out.2 (by omega); omega
      obtain ⟨a, cap, rfl, hOw, hcap⟩ := Own.of_row HO.out (fun i hi => by have := dgi_Dig M (lenB M) i hi; omega)
      have HOW := Lib.hid hOw
      have HCP := Lib.hid hcap
      clear h0 hOw hcap
      have hL3 := HLN.out
      have NUM := Lib.hid (num_own false (decide ((M : Int) < 0)) a (lenB M) cap M _ (dgi M) wr HOW.out (dgi_Dig _ _) (by omega) (sumB_dgi M) (pos_canon M))
      go_wp2_with fail
      refine NUM.out.mono ?_
      rintro e w2 ⟨rfl, hb2⟩
      have B3 := HB.out.below hb2 HB.out.lt
      have HB3 := Lib.hid B3
      have HO3 := Lib.hid (HOW.out.below hb2)
      have HG3 := Lib.hid (HG.out.trans (hb2.mono HG.out.size))
      obtain ⟨b30, b31, b32, b33⟩ := B3.all
      clear B3 hb2 NUM
      go_wp2_with fail
      have hna : (((M : Int) : Int)).natAbs = M := by omega
      rw [← hna] at HO3
      refine bodyPost_ret (results_cell rfl _ _ _ _ _ _ _ rfl (HB3.out.set _ _) Tryz.underlying24 rfl (by kernel_rfl)) rfl ⟨a, cap, by first | (rw [hna]; done) | (rw [hna, decide_eq_true (show -(M : Int) < 0 by omega)]), ?_, ?_⟩
      · exact ((HO3.out.other (by dsimp only; omega) _).other (by dsimp only; omega) _).mono (by omega)
      · exact (HG3.out.setCell (by dsimp only; omega) _).setCell (by dsimp only; omega) _
set_option maxRecDepth 100000 in
set_option maxHeartbeats 2000000 in
theorem rof64_neg (M : Nat) (w : World) (h0 : 0 < M) (h : M ≤ 9223372036854775808) : Calls Tryz.prog 39 #[.int .i64 (-(M : Int))] w (ResF w (-(M : Int))) := by
  obtain ⟨i0, hi, hz0, hz1, hz2⟩ := info_parts info32
  obtain ⟨U, e1, e2⟩ := u64_of_neg h0 h
  have hlt : -(M : Int) < 0 := by omega
  have H0 := Lib.hid h0
  have hp0 : (0 : Int) < (M : Int) := by omega
  have HM := Lib.hid (show M ≤ 9223372036854775808 by omega)
  clear h
  go_enter Tryz.func39, Tryz.ntmps39
  have HLN := Lib.hid (len3 HM.out)
  go_wp2_with fail
  go_loopw [4, 5] (fun x v wr => ∃ k : Nat, k ≤ lenB M ∧ x = .int .u64 ((M / pw k : Nat) : Int) ∧ wr.ownsRow (w.heap.size + 1) 74 1 v k (ucs (dgi M) k) ∧ Below w.heap.size w wr ∧ Bx wr w.heap.size 24 (.bool false) (.slice none 0 0)) (fun x _ _ => (intOf x).toNat)
  case atStart => exact ⟨0, Nat.zero_le _, by rw [pw_zero, Nat.div_one], Own.row_nil _ _ _, by (repeat' (first | (with_reducible exact Below.refl _ _) | (with_reducible assumption) | (with_reducible refine Below.alloc ?_ ?_ _) | (with_reducible refine Below.drew ?_) | (with_reducible refine bdrewN ?_ _) | (with_reducible refine Below.setCell ?_ ?_ _) | (with_reducible refine Below.frame ?_ _) | go_size)), Bx.new _ _ _ _⟩
  case round =>
    obtain ⟨k, hk, rfl, hO, hG, hB⟩ := hrel
    obtain ⟨X, hX⟩ : ∃ X, X = M / pw k := ⟨_, rfl⟩
    have HXM := Lib.hid hX
    have HXle := Lib.hid (show X ≤ 9223372036854775808 by rw [hX]; exact Nat.le_trans (Nat.div_le_self _ _) HM.out)
    have HP := Lib.hid (pw_div_pos (M := M) (k := k))
    have HD := Lib.hid (pw_div_succ M k)
    rw [← hX] at HP HD ⊢
    have HO := Lib.hid hO; have HG := Lib.hid hG; have HB := Lib.hid hB; have HK := Lib.hid hk
    clear hO hG hB hX hk
    by_cases h0 : 0 < X
    · have hk2 : k < lenB M := HP.out.1 h0
      have t1 : (X : Int).tmod 1000000000 = dgi M k := by
        rw [Int.tmod_eq_emod_of_nonneg (by omega)]
        have hdg : X % 1000000000 = dg M k := by rw [HXM.out]; rfl
        show _ = ((dg M k : Nat) : Int); omega
      obtain ⟨Y, hY⟩ : ∃ Y, Y = M / pw (k + 1) := ⟨_, rfl⟩
      rw [← hY] at HD
      have HY := Lib.hid hY
      clear hY
      have t2 : (X : Int).tdiv 1000000000 = (Y : Int) := by rw [Int.tdiv_eq_ediv_of_nonneg (by omega), ← HD.out]; omega
      have hdb : 0 ≤ dgi M k ∧ dgi M k ≤ 999999999 := by have := dgi_Dig M (k + 1) k (by omega); omega
      have u1 := IntWalk.u32_in (dgi M k) (by omega)
      have u2 := IntWalk.u64_in (dgi M k) (by omega)
      have u3 := IntWalk.u64_in (Y : Int) (by have h9 := HD.out; have := HXle.out; omega)
      have hx0 : 0 < (X : Int) := by omega
      have hL3 := HLN.out
      have HLE := Lib.hid (show Y < X by have h9 := HD.out; omega)
      go_wp2_with (first | (at_builtin; refine wpList_append_own _ rfl _ _ 22 rfl (w.heap.size + 1) 74 i0 (.int .u32 0) 1 4 Tryz.underlying22 hi hz0 hz1 hz2 rfl (by decide) _ _ _ rfl (HO.out.alloc _) ⟨wr.heap.size, 0, none⟩ 1 1 [.int .u32 (dgi M k)] rfl rfl ?c1 ?c2 ?c3 ?c4 ?c5 ?_))
      case c1 =>
        intro t u ht
        match t, ht with
        | 0, ht => simp at ht; subst ht; simp [Addr.add]
      case c2 => intro u hu; simp at hu; subst hu; rfl
      case c3 => unfold maxLen; omega
      case c4 => omega
      case c5 => have := HB.out.lt; simp; omega
      intro v' w1 hown' hgrow _
      have O2 := Lib.hid (show w1.ownsRow (w.heap.size + 1) 74 1 v' (k + 1) (ucs (dgi M) (k + 1)) by rw [ucs_succ]; exact hown')
      have G2 := Lib.hid ((HG.out.alloc HG.out.size _).grown hgrow (by have := HG.out.size; simp; omega) (fun g hg => Nat.le_of_succ_le (ownBlock_ge HO.out hg)))
      have B2 := Lib.hid ((HB.out.alloc (.cells #[.int .u32 (dgi M k)] 74)).of (hgrow.block w.heap.size (HB.out.alloc _).lt (fun e => by have := ownBlock_ge HO.out e.symm; omega)))
      clear hown' hgrow
      go_wp2_with fail
      go_roundw
      case rel => exact ⟨k + 1, by omega, by rw [HY.out], O2.out, G2.out, B2.out⟩
      case measure => simp [intOf]; have h9 := HLE.out; omega
    · obtain rfl : X = 0 := by omega
      obtain rfl : k = lenB M := by have := HK.out; have := mt HP.out.2 (by omega); omega
      obtain ⟨a, cap, rfl, hOw, hcap⟩ := Own.of_row HO.out (fun i hi => by have := dgi_Dig M (lenB M) i hi; omega)
      have HOW := Lib.hid hOw
      have HCP := Lib.hid hcap
      clear h0 hOw hcap
      have hL3 := HLN.out
      have NUM := Lib.hid (num_own true (decide ((-(M : Int)) < 0)) a (lenB M) cap M _ (dgi M) wr HOW.out (dgi_Dig _ _) (by omega) (sumB_dgi M) (neg_canon M H0.out))
      go_wp2_with fail
      refine NUM.out.mono ?_
      rintro e w2 ⟨rfl, hb2⟩
      have B3 := HB.out.below hb2 HB.out.lt
      have HB3 := Lib.hid B3
      have HO3 := Lib.hid (HOW.out.below hb2)
      have HG3 := Lib.hid (HG.out.trans (hb2.mono HG.out.size))
      obtain ⟨b30, b31, b32, b33⟩ := B3.all
      clear B3 hb2 NUM
      go_wp2_with fail
      have hna : (((-(M : Int)) : Int)).natAbs = M := by omega
      rw [← hna] at HO3
      refine bodyPost_ret (results_cell rfl _ _ _ _ _ _ _ rfl (HB3.out.set _ _) Tryz.underlying24 rfl (by kernel_rfl)) rfl ⟨a, cap, by first | (rw [hna]; done) | (rw [hna, decide_eq_true (show -(M : Int) < 0 by omega)]), ?_, ?_⟩
      · exact ((HO3.out.other (by dsimp only; omega) _).other (by dsimp only; omega) _).mono (by omega)
      · exact (HG3.out.setCell (by dsimp only; omega) _).setCell (by dsimp only; omega) _
theorem of64_any (n : Int) (w : World) (h1 : -9223372036854775808 ≤ n) (h2 : n ≤ 9223372036854775807) : Calls Tryz.prog 37 #[.int .i64 n] w (ResN w n) := by
  rcases Int.lt_or_le n 0 with h | h
  · obtain ⟨M, rfl⟩ : ∃ M : Nat, n = -(M : Int) := ⟨n.natAbs, by omega⟩
    exact of64_neg M w (by omega) (by omega)
  · obtain ⟨M, rfl⟩ : ∃ M : Nat, n = (M : Int) := ⟨n.natAbs, by omega⟩
    exact of64_pos M w (by omega)
theorem rof64_any (n : Int) (w : World) (h1 : -9223372036854775808 ≤ n) (h2 : n ≤ 9223372036854775807) : Calls Tryz.prog 39 #[.int .i64 n] w (ResF w n) := by
  rcases Int.lt_or_le n 0 with h | h
  · obtain ⟨M, rfl⟩ : ∃ M : Nat, n = -(M : Int) := ⟨n.natAbs, by omega⟩
    exact rof64_neg M w (by omega) (by omega)
  · obtain ⟨M, rfl⟩ : ∃ M : Nat, n = (M : Int) := ⟨n.natAbs, by omega⟩
    exact rof64_pos M w (by omega)
end Go.Proofs.YtaagegcidbgjmaaGreatDoor.Limb
namespace Go.Proofs.YtaagegcidbgjmaaGreatDoor.Limb
open Go.RowKit Go.Sort Go.Fresh

set_option maxHeartbeats 1000000 in
theorem rneg_any (s1 : Bool) (a1 : Option Addr) (n1 c1 : Nat) (o1 : Nat → Int) (w : World) (h1 : Rd w a1 n1 o1) (hn1 : n1 ≤ 100000000) (hc1 : n1 ≤ c1) :
    Calls Tryz.prog 101 #[numV s1 a1 n1 c1] w (ResF w (- valN s1 n1 o1)) := by
  obtain ⟨x1, d1, r1, l1, m1, O1⟩ := fit_any s1 a1 n1 c1 o1 w h1 (by omega) hc1
  generalize valN s1 n1 o1 = z1 at r1 l1 m1 O1 ⊢
  have HO1 := Lib.hid O1; clear O1
  have HR := Lib.hid r1
  clear h1 r1
  have HB1 := Lib.hid ((Bx.new w 24 (.bool s1) (.slice a1 n1 c1)).alloc (.cells #[.bool false, .slice none 0 0] 24))
  have HB2 := Lib.hid (Bx.new2 w (.cells #[.bool s1, .slice a1 n1 c1] 24) 24 (.bool false) (.slice none 0 0))
  obtain ⟨sB, hsB⟩ : ∃ sB, sB = decide (-z1 < 0) := ⟨_, rfl⟩
  have HSB := Lib.hid (And.intro ((neg_sign z1).trans hsB.symm) hsB)
  clear hsB
  go_enter Tryz.func101, Tryz.ntmps101
  go_wp2_with fail
  refine (HO1.out _ ?_).mono ?_
  · (repeat' (first | (with_reducible exact Below.refl _ _) | (with_reducible assumption) | (with_reducible refine Below.alloc ?_ ?_ _) | (with_reducible refine Below.drew ?_) | (with_reducible refine bdrewN ?_ _) | (with_reducible refine Below.setCell ?_ ?_ _) | (with_reducible refine Below.frame ?_ _) | go_size))
  rintro e w1 ⟨rfl, hb1⟩
  have B1 := HB1.out.below hb1 HB1.out.lt
  have B2 := HB2.out.below hb1 HB2.out.lt
  have G1 := Lib.hid (((Below.refl _ _).alloc (by go_size) _ |>.alloc (by go_size) _).trans (hb1.mono (by go_size)) : Below w.heap.size w w1)
  have K1 := Lib.hid B1; have K2 := Lib.hid B2
  clear HB1 HB2 B1 B2 hb1
  go_wp2_with fail
  refine (twin_any (decide (z1 < 0)) x1 (lenB z1.natAbs) d1 (dgi z1.natAbs) w1 (HR.out.below G1.out) (by omega)).mono ?_
  rintro e w2 ⟨a, cap, rfl, hO, -, hb2⟩
  have B1 := K1.out.below hb2 K1.out.lt
  have B2 := K2.out.below hb2 K2.out.lt
  have G2 := Lib.hid (G1.out.trans (hb2.mono G1.out.size))
  have C1 := Lib.hid B1; have C2 := Lib.hid B2
  have HO := Lib.hid (hO.mono G1.out.size)
  have hlt := K2.out.lt
  have HOw := Lib.hid hO
  obtain ⟨b10, b11, b12, b13⟩ := B1.all
  clear K1 K2 B1 B2 hb2 G1 hO
  go_upto_region 2 with (fail)
  obtain ⟨W, hW⟩ : ∃ W, W = ((w2.setCell ⟨w.heap.size, 0, none⟩ (.bool (decide (z1 < 0)))).setCell ⟨w.heap.size, 1, none⟩ (.slice a (lenB z1.natAbs) cap)) := ⟨_, rfl⟩
  have B1 := C1.out.set (.bool (decide (z1 < 0))) (.slice a (lenB z1.natAbs) cap)
  have B2 := (C2.out.other (a := ⟨w.heap.size, 0, none⟩) (by dsimp only; omega) (.bool (decide (z1 < 0)))).other (a := ⟨w.heap.size, 1, none⟩) (by dsimp only; omega) (.slice a (lenB z1.natAbs) cap)
  have G3 := (G2.out.setCell (p := ⟨w.heap.size, 0, none⟩) (by simp) (.bool (decide (z1 < 0)))).setCell (p := ⟨w.heap.size, 1, none⟩) (by simp) (.slice a (lenB z1.natAbs) cap)
  have O3 := (HOw.out.other (p := ⟨w.heap.size, 0, none⟩) (by dsimp only; omega) (.bool (decide (z1 < 0)))).other (p := ⟨w.heap.size, 1, none⟩) (by dsimp only; omega) (.slice a (lenB z1.natAbs) cap)
  rw [← hW] at B1 B2 G3 O3
  rw [show ((w2.setCell ⟨w.heap.size, 0, none⟩ (.bool (decide (z1 < 0)))).setCell ⟨w.heap.size, 1, none⟩ (.slice a (lenB z1.natAbs) cap)) = W from hW.symm]
  have HB2 := Lib.hid B2
  have HG := Lib.hid G3
  have HN := Lib.hid (num_own (!decide (z1 < 0)) sB a (lenB z1.natAbs) cap z1.natAbs _ (dgi z1.natAbs) W O3 (dgi_Dig _ _) (by omega) (sumB_dgi _) HSB.out.1)
  have HO3 := Lib.hid O3
  clear b10 b11 b12 b13 C1 C2 hW G2 HO1 HO HOw O3 G3
  obtain ⟨b10, b11, b12, b13⟩ := B1.all
  clear B1 B2
  go_wp2_with fail
  refine HN.out.mono ?_
  rintro e w3 ⟨rfl, hb3⟩
  have B2 := HB2.out.below hb3 HB2.out.lt
  have HB5 := Lib.hid B2
  obtain ⟨b30, b31, b32, b33⟩ := B2.all
  have HG5 := Lib.hid (HG.out.trans (hb3.mono HG.out.size))
  have HO5 := Lib.hid (HO3.out.below hb3)
  clear HO3 HG HB2 HN B2 hb3 b10 b11 b12 b13
  go_wp2_with fail
  unfold ResF
  rw [Int.natAbs_neg, ← HSB.out.2]
  refine bodyPost_ret (results_cell rfl _ _ _ _ _ _ _ rfl (HB5.out.set _ _) Tryz.underlying24 rfl (by kernel_rfl)) rfl ⟨a, cap, rfl, ?_, ?_⟩
  · exact ((HO5.out.other (by dsimp only; omega) _).other (by dsimp only; omega) _).mono (by omega)
  · exact (HG5.out.setCell (by dsimp only; omega) _).setCell (by dsimp only; omega) _

set_option maxHeartbeats 1000000 in
theorem rsub_any (s1 : Bool) (a1 : Option Addr) (n1 c1 : Nat) (o1 : Nat → Int) (s2 : Bool) (a2 : Option Addr) (n2 c2 : Nat) (o2 : Nat → Int) (w : World)
    (h1 : Rd w a1 n1 o1) (hn1 : n1 ≤ 100000000) (hc1 : n1 ≤ c1) (h2 : Rd w a2 n2 o2) (hn2 : n2 ≤ 100000000) (hc2 : n2 ≤ c2) :
    Calls Tryz.prog 150 #[numV s1 a1 n1 c1, numV s2 a2 n2 c2] w (ResF w (valN s1 n1 o1 - valN s2 n2 o2)) := by
  have hl2 : lenB (valN s2 n2 o2).natAbs ≤ n2 := by
    obtain ⟨_, _, _, l2, _⟩ := fit_any s2 a2 n2 c2 o2 w h2 (by omega) hc2
    exact l2
  have NEG := Lib.hid (fun (w' : World) (hb : Below w.heap.size w w') => rneg_any s2 a2 n2 c2 o2 w' (h2.below hb) hn2 hc2)
  obtain ⟨z1, hz1⟩ : ∃ z1, z1 = valN s1 n1 o1 := ⟨_, rfl⟩
  obtain ⟨z2, hz2⟩ : ∃ z2, z2 = valN s2 n2 o2 := ⟨_, rfl⟩
  rw [← hz2] at NEG hl2
  rw [← hz1, ← hz2]
  obtain ⟨L2, hL2⟩ : ∃ L2, L2 = lenB z2.natAbs := ⟨_, rfl⟩
  obtain ⟨sB, hsB⟩ : ∃ sB, sB = decide (-z2 < 0) := ⟨_, rfl⟩
  obtain ⟨sC, hsC⟩ : ∃ sC, sC = decide (z1 - z2 < 0) := ⟨_, rfl⟩
  obtain ⟨N, hN⟩ : ∃ N, N = (z1 - z2).natAbs := ⟨_, rfl⟩
  have ADD := Lib.hid (fun (w' : World) (hb : Below w.heap.size w w') (x : Option Addr) (d : Nat) (hr : Rd w' x (lenB z2.natAbs) (dgi z2.natAbs)) (hd : lenB z2.natAbs ≤ d) => radd_any s1 a1 n1 c1 o1 sB x (lenB z2.natAbs) d (dgi z2.natAbs) w' (h1.below hb) hn1 hc1 hr (by omega) hd)
  rw [canon_neg z2 sB hsB, ← hz1, ← Int.sub_eq_add_neg] at ADD
  unfold ResF at NEG ADD
  rw [Int.natAbs_neg] at NEG
  rw [← hsB] at NEG
  rw [← hsC, ← hN] at ADD
  have HE := Lib.hid (And.intro hN hsC)
  clear hz1 hz2 hsB hsC hN h1 h2 hL2
  have HB1 := Lib.hid (((Bx.new w 24 (.bool s1) (.slice a1 n1 c1)).alloc (.cells #[.bool s2, .slice a2 n2 c2] 24)).alloc (.cells #[.bool false, .slice none 0 0] 24))
  have HB2 := Lib.hid ((Bx.new2 w (.cells #[.bool s1, .slice a1 n1 c1] 24) 24 (.bool s2) (.slice a2 n2 c2)).alloc (.cells #[.bool false, .slice none 0 0] 24))
  have HB3 := Lib.hid (Bx.new3 w (.cells #[.bool s1, .slice a1 n1 c1] 24) (.cells #[.bool s2, .slice a2 n2 c2] 24) 24 (.bool false) (.slice none 0 0))
  have G := Lib.hid (((Below.refl _ _).alloc (by go_size) _ |>.alloc (by go_size) _ |>.alloc (by go_size) _) : Below w.heap.size w (((w.alloc (.cells #[.bool s1, .slice a1 n1 c1] 24)).alloc (.cells #[.bool s2, .slice a2 n2 c2] 24)).alloc (.cells #[.bool false, .slice none 0 0] 24)))
  go_enter Tryz.func150, Tryz.ntmps150
  go_upto_region 1 with (fail)
  obtain ⟨W, hW⟩ : ∃ W, W = (((w.alloc (.cells #[.bool s1, .slice a1 n1 c1] 24)).alloc (.cells #[.bool s2, .slice a2 n2 c2] 24)).alloc (.cells #[.bool false, .slice none 0 0] 24)) := ⟨_, rfl⟩
  rw [← hW] at HB1 HB2 HB3 G
  rw [show (((w.alloc (.cells #[.bool s1, .slice a1 n1 c1] 24)).alloc (.cells #[.bool s2, .slice a2 n2 c2] 24)).alloc (.cells #[.bool false, .slice none 0 0] 24)) = W from hW.symm]
  have HS1 := Lib.hid (fun (w' : World) (hb : Below W.heap.size W w') => And.intro (HB1.out.below hb HB1.out.lt).c0 (HB1.out.below hb HB1.out.lt).c1)
  have HS2 := Lib.hid (fun (w' : World) (hb : Below W.heap.size W w') => And.intro (HB2.out.below hb HB2.out.lt).c0 (HB2.out.below hb HB2.out.lt).c1)
  have HG := G
  clear hW G
  refine wp_region_fresh 4 (spOf [(2, Sp.made (fun x : Option Addr × Nat => numV sB x.1 (lenB z2.natAbs) x.2) (fun x w' => Own 74 w' W.heap.size x.1 (lenB z2.natAbs) x.2 (dgi z2.natAbs))),
      (3, Sp.made (fun x : Option Addr × Nat => numV sC x.1 (lenB N) x.2) (fun x w' => Own 74 w' W.heap.size x.1 (lenB N) x.2 (dgi N)))])
    (fun w' => Below W.heap.size W w') (by kernel_rfl) (by kernel_rfl)
    (spOf_cons (Sp.made_keeps fun x w w' h hb => h.below hb) (spOf_cons (Sp.made_keeps fun x w w' h hb => h.below hb) spOf_nil)) (fun _ _ h hb => h.trans (hb.mono h.size)) ((Below.refl _ _).drew) ?_
  simp only [List.take_succ_cons, List.take_zero, List.drop_succ_cons, List.drop_zero]
  (refine wpF_reads rfl rfl ?_ (fun w' hw' => ?_) ?_; rotate_left; · (have hb' := Has.world hw'; (have hs := HS1.out _ hb'); clear hw'; go_simp; try rfl))
  (refine wpF_reads rfl rfl ?_ (fun w' hw' => ?_) ?_; rotate_left; · (have hb' := Has.world hw'; (have hs := HS2.out _ hb'); clear hw'; go_simp; try rfl))
  (refine wpF_spec rfl rfl (fun w' hw' => ?_) ?_; · (have hb' := Has.world hw'; go_simp; ((refine (NEG.out w' (HG.out.trans (hb'.mono HG.out.size))).mono ?_; rintro e w'' ⟨a, cap, rfl, q, hb⟩; exact ⟨_, rfl, ⟨⟨a, cap, rfl⟩, ⟨a, cap, rfl, q.mono hb'.size⟩⟩, hb⟩))))
  rintro _ ⟨x, rfl⟩
  (refine wpF_spec rfl rfl (fun w' hw' => ?_) ?_; · (have hb' := Has.world hw'; go_simp; ((have h7 := own_numc (T := 74) (x := x) (b := W.heap.size) (s := sB) (L := lenB z2.natAbs) (o := dgi z2.natAbs) (hw'.fact 2 (by kernel_rfl)); refine (ADD.out w' (HG.out.trans (hb'.mono HG.out.size)) x.1 x.2 h7.rd h7.le).mono ?_; rintro e w'' ⟨a, cap, rfl, q, hb⟩; exact ⟨_, rfl, ⟨⟨a, cap, rfl⟩, ⟨a, cap, rfl, q.mono hb'.size⟩⟩, hb⟩))))
  rintro _ ⟨y, rfl⟩
  refine wpF_nil (fun w5 hb5 hF5 => ?_)
  have OA := own_numc (T := 74) (b := W.heap.size) (s := sC) (L := lenB N) (o := dgi N) (x := y) (hF5 3)
  have HO := Lib.hid OA
  have B3 := HB3.out.below hb5 HB3.out.lt
  have HB5 := Lib.hid B3
  obtain ⟨b30, b31, b32, b33⟩ := B3.all
  have HG5 := Lib.hid (HG.out.trans (hb5.mono HG.out.size))
  have hz4 := HB3.out.lt
  have hz5 := HG.out.size
  clear hF5 OA B3 hb5 HS1 HS2
  go_wp2_with fail
  unfold ResF
  rw [← HE.out.1, ← HE.out.2]
  refine bodyPost_ret (results_cell rfl _ _ _ _ _ _ _ rfl (HB5.out.set _ _) Tryz.underlying24 rfl (by kernel_rfl)) rfl ⟨y.1, y.2, rfl, ?_, ?_⟩
  · exact ((HO.out.other (by dsimp only; omega) _).other (by dsimp only; omega) _).mono hz5
  · exact (HG5.out.setCell (by dsimp only; omega) _).setCell (by dsimp only; omega) _
end Go.Proofs.YtaagegcidbgjmaaGreatDoor.Limb
