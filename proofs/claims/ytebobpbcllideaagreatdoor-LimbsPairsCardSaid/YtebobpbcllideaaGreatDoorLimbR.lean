/-
  The walks of the document's answer for limbs: Add, Mul.
-/
import Derived.Test.YtebobpbcllideaaGreatDoorLimbQ
namespace Go.Proofs.YtebobpbcllideaaGreatDoor.Limb
open Go.RowKit Go.Sort Go.Fresh





set_option maxHeartbeats 1000000 in
theorem radd_any (s1 : Bool) (a1 : Option Addr) (n1 c1 : Nat) (o1 : Nat → Int) (s2 : Bool) (a2 : Option Addr) (n2 c2 : Nat) (o2 : Nat → Int) (w : World)
    (h1 : Rd w a1 n1 o1) (hn1 : n1 ≤ 100000000) (hc1 : n1 ≤ c1) (h2 : Rd w a2 n2 o2) (hn2 : n2 ≤ 100000000) (hc2 : n2 ≤ c2) :
    Calls Tryz.prog 16 #[numV s1 a1 n1 c1, numV s2 a2 n2 c2] w (ResF w (valN s1 n1 o1 + valN s2 n2 o2)) := by
  obtain ⟨x1, d1, r1, l1, m1, O1⟩ := fit_any s1 a1 n1 c1 o1 w h1 (by omega) hc1
  obtain ⟨x2, d2, r2, l2, m2, O2⟩ := fit_any s2 a2 n2 c2 o2 w h2 (by omega) hc2
  generalize valN s1 n1 o1 = z1 at r1 l1 m1 O1 ⊢
  have HO1 := Lib.hid O1; clear O1
  generalize valN s2 n2 o2 = z2 at r2 l2 m2 O2 ⊢
  have HO2 := Lib.hid O2; clear O2
  have HR := Lib.hid (And.intro r1 r2)
  clear h1 h2 r1 r2
  have HB1 := Lib.hid (((Bx.new w 24 (.bool s1) (.slice a1 n1 c1)).alloc (.cells #[.bool s2, .slice a2 n2 c2] 24)).alloc (.cells #[.bool false, .slice none 0 0] 24))
  have HB2 := Lib.hid ((Bx.new2 w (.cells #[.bool s1, .slice a1 n1 c1] 24) 24 (.bool s2) (.slice a2 n2 c2)).alloc (.cells #[.bool false, .slice none 0 0] 24))
  have HB3 := Lib.hid (Bx.new3 w (.cells #[.bool s1, .slice a1 n1 c1] 24) (.cells #[.bool s2, .slice a2 n2 c2] 24) 24 (.bool false) (.slice none 0 0))
  go_enter Tryz.func16, Tryz.ntmps16
  go_wp2_with fail
  refine (HO1.out _ ?_).mono ?_
  · (repeat' (first | (with_reducible exact Below.refl _ _) | (with_reducible assumption) | (with_reducible refine Below.alloc ?_ ?_ _) | (with_reducible refine Below.drew ?_) | (with_reducible refine bdrewN ?_ _) | (with_reducible refine Below.setCell ?_ ?_ _) | (with_reducible refine Below.frame ?_ _) | go_size))
  rintro e w1 ⟨rfl, hb1⟩
  have B1 := HB1.out.below hb1 HB1.out.lt
  have B2 := HB2.out.below hb1 HB2.out.lt
  have B3 := HB3.out.below hb1 HB3.out.lt
  have G1 := Lib.hid (((Below.refl _ _).alloc (by go_size) _ |>.alloc (by go_size) _ |>.alloc (by go_size) _).trans (hb1.mono (by go_size)) : Below w.heap.size w w1)
  have K1 := Lib.hid B1; have K2 := Lib.hid B2; have K3 := Lib.hid B3
  obtain ⟨b10, b11, b12, b13⟩ := B1.all
  obtain ⟨b20, b21, b22, b23⟩ := B2.all
  clear HB1 HB2 HB3 B1 B2 B3 hb1
  go_wp2_with fail
  refine (HO2.out _ ?_).mono ?_
  · have := G1.out; (repeat' (first | (with_reducible exact Below.refl _ _) | (with_reducible assumption) | (with_reducible refine Below.alloc ?_ ?_ _) | (with_reducible refine Below.drew ?_) | (with_reducible refine bdrewN ?_ _) | (with_reducible refine Below.setCell ?_ ?_ _) | (with_reducible refine Below.frame ?_ _) | go_size))
  rintro e w2 ⟨rfl, hb2⟩
  have B1 := (K1.out.set (.bool (decide (z1 < 0))) (.slice x1 (lenB z1.natAbs) d1)).below hb2 (by simpa using K1.out.lt)
  have B2 := ((K2.out.other (a := ⟨w.heap.size, 0, none⟩) (by dsimp only; omega) (.bool (decide (z1 < 0)))).other (a := ⟨w.heap.size, 1, none⟩) (by dsimp only; omega) (.slice x1 (lenB z1.natAbs) d1)).below hb2 (by simpa using K2.out.lt)
  have B3 := ((K3.out.other (a := ⟨w.heap.size, 0, none⟩) (by dsimp only; omega) (.bool (decide (z1 < 0)))).other (a := ⟨w.heap.size, 1, none⟩) (by dsimp only; omega) (.slice x1 (lenB z1.natAbs) d1)).below hb2 (by simpa using K3.out.lt)
  have G2 := Lib.hid (((G1.out.setCell (by simp) _).setCell (by simp) _).trans (hb2.mono (by simpa using G1.out.size)) : Below w.heap.size w w2)
  have C1 := Lib.hid B1; have C2 := Lib.hid B2; have C3 := Lib.hid B3
  obtain ⟨b10, b11, b12, b13⟩ := B1.all
  obtain ⟨b20, b21, b22, b23⟩ := B2.all
  clear K1 K2 K3 B1 B2 B3 hb2 G1
  go_upto_region 3 with (fail)
  obtain ⟨W, hW⟩ : ∃ W, W = ((w2.setCell ⟨w.heap.size + 1, 0, none⟩ (.bool (decide (z2 < 0)))).setCell ⟨w.heap.size + 1, 1, none⟩ (.slice x2 (lenB z2.natAbs) d2)) := ⟨_, rfl⟩
  have B1 := (C1.out.other (a := ⟨w.heap.size + 1, 0, none⟩) (by dsimp only; omega) (.bool (decide (z2 < 0)))).other (a := ⟨w.heap.size + 1, 1, none⟩) (by dsimp only; omega) (.slice x2 (lenB z2.natAbs) d2)
  have B2 := C2.out.set (.bool (decide (z2 < 0))) (.slice x2 (lenB z2.natAbs) d2)
  have B3 := (C3.out.other (a := ⟨w.heap.size + 1, 0, none⟩) (by dsimp only; omega) (.bool (decide (z2 < 0)))).other (a := ⟨w.heap.size + 1, 1, none⟩) (by dsimp only; omega) (.slice x2 (lenB z2.natAbs) d2)
  have G3 := (G2.out.setCell (p := ⟨w.heap.size + 1, 0, none⟩) (by simp) (.bool (decide (z2 < 0)))).setCell (p := ⟨w.heap.size + 1, 1, none⟩) (by simp) (.slice x2 (lenB z2.natAbs) d2)
  rw [← hW] at B1 B2 B3 G3
  rw [show ((w2.setCell ⟨w.heap.size + 1, 0, none⟩ (.bool (decide (z2 < 0)))).setCell ⟨w.heap.size + 1, 1, none⟩ (.slice x2 (lenB z2.natAbs) d2)) = W from hW.symm]
  have HG := Lib.hid G3
  have HB1 := Lib.hid B1; have HB2 := Lib.hid B2; have HB3 := Lib.hid B3
  have HS1 := Lib.hid (fun (w' : World) (hb : Below W.heap.size W w') => And.intro (HB1.out.below hb HB1.out.lt).c0 (HB1.out.below hb HB1.out.lt).c1)
  have HS2 := Lib.hid (fun (w' : World) (hb : Below W.heap.size W w') => And.intro (HB2.out.below hb HB2.out.lt).c0 (HB2.out.below hb HB2.out.lt).c1)
  clear b10 b11 b12 b13 b20 b21 b22 b23 C1 C2 C3 hW G2 HO1 HO2
  have HQ := Lib.hid (And.intro (HR.out.1.below G3) (HR.out.2.below G3))
  have HL := Lib.hid (And.intro (show lenB z1.natAbs ≤ 100000000 by omega) (show lenB z2.natAbs ≤ 100000000 by omega))
  obtain ⟨b10, b11, b12, b13⟩ := B1.all
  obtain ⟨b20, b21, b22, b23⟩ := B2.all
  clear B1 B2 B3 G3
  by_cases hs : decide (z1 < 0) = decide (z2 < 0)
  · obtain ⟨N, hN⟩ : ∃ N, N = z1.natAbs + z2.natAbs := ⟨_, rfl⟩
    obtain ⟨p1, p2⟩ := plus_plain z1 z2 hs
    rw [← hN] at p1
    rw [← p1] at p2
    obtain ⟨sB, hsB⟩ : ∃ sB, sB = decide (z1 + z2 < 0) := ⟨_, rfl⟩
    rw [← hsB] at p2
    have HSB := Lib.hid p2
    have HE := Lib.hid (And.intro p1 hsB)
    have AMT := Lib.hid (fun (w' : World) (hb : Below W.heap.size W w') => more_own z1.natAbs z2.natAbs x1 x2 d1 d2 w' (HQ.out.1.below hb) (HQ.out.2.below hb) HL.out.1 HL.out.2)
    rw [← hN] at AMT
    have HSA := HS1; have HSC := HS2
    have e0 : (decide (z1 < 0) == decide (z2 < 0)) = true := by rw [hs]; simp
    clear p1 p2 hN hsB hs
    go_upto_region 4 with (fail)
    refine wp_region_fresh 8 (spOf [(6, Sp.made (fun x : Option Addr × Nat × Nat => .slice x.1 x.2.1 x.2.2) (AmtF W.heap.size N)),
        (7, Sp.made (fun x : Option Addr × Nat => numV sB x.1 (lenB N) x.2) (fun x w' => Own 57 w' W.heap.size x.1 (lenB N) x.2 (dgi N)))])
      (fun w' => Below W.heap.size W w') (by kernel_rfl) (by kernel_rfl)
      (spOf_cons (Sp.made_keeps AmtF.keeps) (spOf_cons (Sp.made_keeps fun x w w' h hb => h.below hb) spOf_nil)) (fun _ _ h hb => h.trans (hb.mono h.size)) ((Below.refl _ _).drew) ?_
    simp only [List.take_succ_cons, List.take_zero, List.drop_succ_cons, List.drop_zero]
    (refine wpF_reads rfl rfl ?_ (fun w' hw' => ?_) ?_; rotate_left; · (have hb' := Has.world hw'; (skip); clear hw'; go_simp; try rfl))
    (refine wpF_reads rfl rfl ?_ (fun w' hw' => ?_) ?_; rotate_left; · (have hb' := Has.world hw'; (have hs := HSA.out _ hb'); clear hw'; go_simp; try rfl))
    (refine wpF_reads rfl rfl ?_ (fun w' hw' => ?_) ?_; rotate_left; · (have hb' := Has.world hw'; (skip); clear hw'; go_simp; try rfl))
    (refine wpF_reads rfl rfl ?_ (fun w' hw' => ?_) ?_; rotate_left; · (have hb' := Has.world hw'; (have hs := HSA.out _ hb'); clear hw'; go_simp; try rfl))
    (refine wpF_reads rfl rfl ?_ (fun w' hw' => ?_) ?_; rotate_left; · (have hb' := Has.world hw'; (skip); clear hw'; go_simp; try rfl))
    (refine wpF_reads rfl rfl ?_ (fun w' hw' => ?_) ?_; rotate_left; · (have hb' := Has.world hw'; (have hs := HSC.out _ hb'); clear hw'; go_simp; try rfl))
    (refine wpF_spec rfl rfl (fun w' hw' => ?_) ?_; · (have hb' := Has.world hw'; go_simp; ((refine (AMT.out w' hb').mono ?_; rintro e w'' ⟨a, K, cap, o, rfl, q1, q2, q3, q4, q5⟩; exact ⟨_, rfl, ⟨⟨a, K, cap, rfl⟩, ⟨a, K, cap, rfl, o, q1, q2, q3, q4.mono hb'.size⟩⟩, q5⟩))))
    rintro _ ⟨x, rfl⟩
    (refine wpF_spec rfl rfl (fun w' hw' => ?_) ?_; · (have hb' := Has.world hw'; go_simp; ((have h7 := amt_of (x := x) (b := W.heap.size) (N := N) (hw'.fact 6 (by kernel_rfl)); obtain ⟨o, q1, q2, q3, q4⟩ := h7; refine (num_own _ sB _ _ _ N W.heap.size o w' q4 q1 q3 q2 HSB.out).mono ?_; rintro e w'' ⟨rfl, hb⟩; exact ⟨_, rfl, ⟨⟨x.1, x.2.2, rfl⟩, ⟨x.1, x.2.2, rfl, (own_fit q4 q1 q2).below hb⟩⟩, hb⟩))))
    rintro _ ⟨y, rfl⟩
    refine wpF_nil (fun w5 hb5 hF5 => ?_)
    have OA := own_numc (T := 57) (b := W.heap.size) (s := sB) (L := lenB N) (o := dgi N) (x := y) (hF5 7)
    have HO := Lib.hid OA
    have B3 := HB3.out.below hb5 HB3.out.lt
    have HB5 := Lib.hid B3
    obtain ⟨b30, b31, b32, b33⟩ := B3.all
    have HG5 := Lib.hid (HG.out.trans (hb5.mono HG.out.size))
    have hz4 := HB3.out.lt
    have hz5 := HG.out.size
    clear hF5 OA B3 hb5 HS1 HS2
    go_wp2_with fail
    unfold ResF
    rw [← HE.out.1, ← HE.out.2]
    refine bodyPost_ret (results_cell rfl _ _ _ _ _ _ _ rfl (HB5.out.set _ _) Tryz.underlying24 rfl (by kernel_rfl)) rfl ⟨y.1, y.2, rfl, ?_, ?_⟩
    · exact ((HO.out.other (by dsimp only; omega) _).other (by dsimp only; omega) _).mono hz5
    · exact (HG5.out.setCell (by dsimp only; omega) _).setCell (by dsimp only; omega) _
  · by_cases hlt : z1.natAbs < z2.natAbs
    · obtain ⟨N, hN⟩ : ∃ N, N = z2.natAbs - z1.natAbs := ⟨_, rfl⟩
      obtain ⟨p1, p2⟩ := minus_plain z2 z1 (by omega) (fun h => hs h.symm)
      rw [← hN, Int.add_comm z2 z1] at p1
      rw [Int.add_comm z2 z1, ← p1] at p2
      obtain ⟨sB, hsB⟩ : ∃ sB, sB = decide (z1 + z2 < 0) := ⟨_, rfl⟩
      rw [← hsB] at p2
      have HSB := Lib.hid p2
      have HE := Lib.hid (And.intro p1 hsB)
      have AMT := Lib.hid (fun (w' : World) (hb : Below W.heap.size W w') => less_own z2.natAbs z1.natAbs x2 x1 d2 d1 w' (HQ.out.2.below hb) (HQ.out.1.below hb) HL.out.2 (by omega))
      have AM := Lib.hid (order_any z1.natAbs z2.natAbs x1 x2 d1 d2 W HQ.out.1 HQ.out.2 (by omega) (by omega))
      rw [show cmpZ (z1.natAbs : Int) (z2.natAbs : Int) = -1 from cmpZ_lt (by omega)] at AM
      rw [← hN] at AMT
      have e0 : (decide (z1 < 0) == decide (z2 < 0)) = false := by simpa using hs
      clear p1 p2 hN hsB hs hlt
      go_upto_if 27 with (first
        | (go_at_call 36; refine AM.out.mono ?_; rintro e w2 ⟨rfl, m, rfl⟩))
      go_upto_region 6 with (fail)
      have hbm : ∃ V, V = W.drewN m ∧ Below W.heap.size W V := ⟨_, rfl, bdrewN (Below.refl _ _) m⟩
      obtain ⟨W, hV, hbm⟩ := hbm
      rw [← hV]
      have HS1 := Lib.hid (fun (w' : World) (hb : Below W.heap.size W w') => HS1.out w' (hbm.trans (hb.mono hbm.size)))
      have HS2 := Lib.hid (fun (w' : World) (hb : Below W.heap.size W w') => HS2.out w' (hbm.trans (hb.mono hbm.size)))
      have AMT := Lib.hid (fun (w' : World) (hb : Below W.heap.size W w') => AMT.out w' (hbm.trans (hb.mono hbm.size)))
      have HB3 := Lib.hid (HB3.out.below hbm HB3.out.lt)
      have HG := Lib.hid (HG.out.trans (hbm.mono HG.out.size))
      clear hV hbm AM
      have HSA := HS2; have HSC := HS1
      refine wp_region_fresh 8 (spOf [(6, Sp.made (fun x : Option Addr × Nat × Nat => .slice x.1 x.2.1 x.2.2) (AmtF W.heap.size N)),
          (7, Sp.made (fun x : Option Addr × Nat => numV sB x.1 (lenB N) x.2) (fun x w' => Own 57 w' W.heap.size x.1 (lenB N) x.2 (dgi N)))])
        (fun w' => Below W.heap.size W w') (by kernel_rfl) (by kernel_rfl)
        (spOf_cons (Sp.made_keeps AmtF.keeps) (spOf_cons (Sp.made_keeps fun x w w' h hb => h.below hb) spOf_nil)) (fun _ _ h hb => h.trans (hb.mono h.size)) ((Below.refl _ _).drew) ?_
      simp only [List.take_succ_cons, List.take_zero, List.drop_succ_cons, List.drop_zero]
      (refine wpF_reads rfl rfl ?_ (fun w' hw' => ?_) ?_; rotate_left; · (have hb' := Has.world hw'; (skip); clear hw'; go_simp; try rfl))
      (refine wpF_reads rfl rfl ?_ (fun w' hw' => ?_) ?_; rotate_left; · (have hb' := Has.world hw'; (have hs := HSA.out _ hb'); clear hw'; go_simp; try rfl))
      (refine wpF_reads rfl rfl ?_ (fun w' hw' => ?_) ?_; rotate_left; · (have hb' := Has.world hw'; (skip); clear hw'; go_simp; try rfl))
      (refine wpF_reads rfl rfl ?_ (fun w' hw' => ?_) ?_; rotate_left; · (have hb' := Has.world hw'; (have hs := HSA.out _ hb'); clear hw'; go_simp; try rfl))
      (refine wpF_reads rfl rfl ?_ (fun w' hw' => ?_) ?_; rotate_left; · (have hb' := Has.world hw'; (skip); clear hw'; go_simp; try rfl))
      (refine wpF_reads rfl rfl ?_ (fun w' hw' => ?_) ?_; rotate_left; · (have hb' := Has.world hw'; (have hs := HSC.out _ hb'); clear hw'; go_simp; try rfl))
      (refine wpF_spec rfl rfl (fun w' hw' => ?_) ?_; · (have hb' := Has.world hw'; go_simp; ((refine (AMT.out w' hb').mono ?_; rintro e w'' ⟨a, K, cap, o, rfl, q1, q2, q3, q4, q5⟩; exact ⟨_, rfl, ⟨⟨a, K, cap, rfl⟩, ⟨a, K, cap, rfl, o, q1, q2, q3, q4.mono hb'.size⟩⟩, q5⟩))))
      rintro _ ⟨x, rfl⟩
      (refine wpF_spec rfl rfl (fun w' hw' => ?_) ?_; · (have hb' := Has.world hw'; go_simp; ((have h7 := amt_of (x := x) (b := W.heap.size) (N := N) (hw'.fact 6 (by kernel_rfl)); obtain ⟨o, q1, q2, q3, q4⟩ := h7; refine (num_own _ sB _ _ _ N W.heap.size o w' q4 q1 q3 q2 HSB.out).mono ?_; rintro e w'' ⟨rfl, hb⟩; exact ⟨_, rfl, ⟨⟨x.1, x.2.2, rfl⟩, ⟨x.1, x.2.2, rfl, (own_fit q4 q1 q2).below hb⟩⟩, hb⟩))))
      rintro _ ⟨y, rfl⟩
      refine wpF_nil (fun w5 hb5 hF5 => ?_)
      have OA := own_numc (T := 57) (b := W.heap.size) (s := sB) (L := lenB N) (o := dgi N) (x := y) (hF5 7)
      have HO := Lib.hid OA
      have B3 := HB3.out.below hb5 HB3.out.lt
      have HB5 := Lib.hid B3
      obtain ⟨b30, b31, b32, b33⟩ := B3.all
      have HG5 := Lib.hid (HG.out.trans (hb5.mono HG.out.size))
      have hz4 := HB3.out.lt
      have hz5 := HG.out.size
      clear hF5 OA B3 hb5 HS1 HS2
      go_wp2_with fail
      unfold ResF
      rw [← HE.out.1, ← HE.out.2]
      refine bodyPost_ret (results_cell rfl _ _ _ _ _ _ _ rfl (HB5.out.set _ _) Tryz.underlying24 rfl (by kernel_rfl)) rfl ⟨y.1, y.2, rfl, ?_, ?_⟩
      · exact ((HO.out.other (by dsimp only; omega) _).other (by dsimp only; omega) _).mono hz5
      · exact (HG5.out.setCell (by dsimp only; omega) _).setCell (by dsimp only; omega) _
    · obtain ⟨N, hN⟩ : ∃ N, N = z1.natAbs - z2.natAbs := ⟨_, rfl⟩
      obtain ⟨p1, p2⟩ := minus_plain z1 z2 (by omega) hs
      rw [← hN] at p1
      rw [← p1] at p2
      obtain ⟨sB, hsB⟩ : ∃ sB, sB = decide (z1 + z2 < 0) := ⟨_, rfl⟩
      rw [← hsB] at p2
      have HSB := Lib.hid p2
      have HE := Lib.hid (And.intro p1 hsB)
      have AMT := Lib.hid (fun (w' : World) (hb : Below W.heap.size W w') => less_own z1.natAbs z2.natAbs x1 x2 d1 d2 w' (HQ.out.1.below hb) (HQ.out.2.below hb) HL.out.1 (by omega))
      have AM := Lib.hid (order_any z1.natAbs z2.natAbs x1 x2 d1 d2 W HQ.out.1 HQ.out.2 (by omega) (by omega))
      have hc : decide (cmpZ (z1.natAbs : Int) (z2.natAbs : Int) < 0) = false := by
        refine decide_eq_false ?_
        rcases Nat.lt_or_ge z2.natAbs z1.natAbs with h | h
        · rw [cmpZ_gt (by omega)]; omega
        · rw [cmpZ_eq (by omega)]; omega
      rw [← hN] at AMT
      have e0 : (decide (z1 < 0) == decide (z2 < 0)) = false := by simpa using hs
      generalize cmpZ (z1.natAbs : Int) (z2.natAbs : Int) = cc at AM hc
      clear p1 p2 hN hsB hs hlt
      go_upto_if 27 with (first
        | (go_at_call 36; refine AM.out.mono ?_; rintro e w2 ⟨rfl, m, rfl⟩))
      go_upto_region 7 with (fail)
      have hbm : ∃ V, V = W.drewN m ∧ Below W.heap.size W V := ⟨_, rfl, bdrewN (Below.refl _ _) m⟩
      obtain ⟨W, hV, hbm⟩ := hbm
      rw [← hV]
      have HS1 := Lib.hid (fun (w' : World) (hb : Below W.heap.size W w') => HS1.out w' (hbm.trans (hb.mono hbm.size)))
      have HS2 := Lib.hid (fun (w' : World) (hb : Below W.heap.size W w') => HS2.out w' (hbm.trans (hb.mono hbm.size)))
      have AMT := Lib.hid (fun (w' : World) (hb : Below W.heap.size W w') => AMT.out w' (hbm.trans (hb.mono hbm.size)))
      have HB3 := Lib.hid (HB3.out.below hbm HB3.out.lt)
      have HG := Lib.hid (HG.out.trans (hbm.mono HG.out.size))
      clear hV hbm AM
      have HSA := HS1; have HSC := HS2
      refine wp_region_fresh 8 (spOf [(6, Sp.made (fun x : Option Addr × Nat × Nat => .slice x.1 x.2.1 x.2.2) (AmtF W.heap.size N)),
          (7, Sp.made (fun x : Option Addr × Nat => numV sB x.1 (lenB N) x.2) (fun x w' => Own 57 w' W.heap.size x.1 (lenB N) x.2 (dgi N)))])
        (fun w' => Below W.heap.size W w') (by kernel_rfl) (by kernel_rfl)
        (spOf_cons (Sp.made_keeps AmtF.keeps) (spOf_cons (Sp.made_keeps fun x w w' h hb => h.below hb) spOf_nil)) (fun _ _ h hb => h.trans (hb.mono h.size)) ((Below.refl _ _).drew) ?_
      simp only [List.take_succ_cons, List.take_zero, List.drop_succ_cons, List.drop_zero]
      (refine wpF_reads rfl rfl ?_ (fun w' hw' => ?_) ?_; rotate_left; · (have hb' := Has.world hw'; (skip); clear hw'; go_simp; try rfl))
      (refine wpF_reads rfl rfl ?_ (fun w' hw' => ?_) ?_; rotate_left; · (have hb' := Has.world hw'; (have hs := HSA.out _ hb'); clear hw'; go_simp; try rfl))
      (refine wpF_reads rfl rfl ?_ (fun w' hw' => ?_) ?_; rotate_left; · (have hb' := Has.world hw'; (skip); clear hw'; go_simp; try rfl))
      (refine wpF_reads rfl rfl ?_ (fun w' hw' => ?_) ?_; rotate_left; · (have hb' := Has.world hw'; (have hs := HSA.out _ hb'); clear hw'; go_simp; try rfl))
      (refine wpF_reads rfl rfl ?_ (fun w' hw' => ?_) ?_; rotate_left; · (have hb' := Has.world hw'; (skip); clear hw'; go_simp; try rfl))
      (refine wpF_reads rfl rfl ?_ (fun w' hw' => ?_) ?_; rotate_left; · (have hb' := Has.world hw'; (have hs := HSC.out _ hb'); clear hw'; go_simp; try rfl))
      (refine wpF_spec rfl rfl (fun w' hw' => ?_) ?_; · (have hb' := Has.world hw'; go_simp; ((refine (AMT.out w' hb').mono ?_; rintro e w'' ⟨a, K, cap, o, rfl, q1, q2, q3, q4, q5⟩; exact ⟨_, rfl, ⟨⟨a, K, cap, rfl⟩, ⟨a, K, cap, rfl, o, q1, q2, q3, q4.mono hb'.size⟩⟩, q5⟩))))
      rintro _ ⟨x, rfl⟩
      (refine wpF_spec rfl rfl (fun w' hw' => ?_) ?_; · (have hb' := Has.world hw'; go_simp; ((have h7 := amt_of (x := x) (b := W.heap.size) (N := N) (hw'.fact 6 (by kernel_rfl)); obtain ⟨o, q1, q2, q3, q4⟩ := h7; refine (num_own _ sB _ _ _ N W.heap.size o w' q4 q1 q3 q2 HSB.out).mono ?_; rintro e w'' ⟨rfl, hb⟩; exact ⟨_, rfl, ⟨⟨x.1, x.2.2, rfl⟩, ⟨x.1, x.2.2, rfl, (own_fit q4 q1 q2).below hb⟩⟩, hb⟩))))
      rintro _ ⟨y, rfl⟩
      refine wpF_nil (fun w5 hb5 hF5 => ?_)
      have OA := own_numc (T := 57) (b := W.heap.size) (s := sB) (L := lenB N) (o := dgi N) (x := y) (hF5 7)
      have HO := Lib.hid OA
      have B3 := HB3.out.below hb5 HB3.out.lt
      have HB5 := Lib.hid B3
      obtain ⟨b30, b31, b32, b33⟩ := B3.all
      have HG5 := Lib.hid (HG.out.trans (hb5.mono HG.out.size))
      have hz4 := HB3.out.lt
      have hz5 := HG.out.size
      clear hF5 OA B3 hb5 HS1 HS2
      go_wp2_with fail
      unfold ResF
      rw [← HE.out.1, ← HE.out.2]
      refine bodyPost_ret (results_cell rfl _ _ _ _ _ _ _ rfl (HB5.out.set _ _) Tryz.underlying24 rfl (by kernel_rfl)) rfl ⟨y.1, y.2, rfl, ?_, ?_⟩
      · exact ((HO.out.other (by dsimp only; omega) _).other (by dsimp only; omega) _).mono hz5
      · exact (HG5.out.setCell (by dsimp only; omega) _).setCell (by dsimp only; omega) _

set_option maxHeartbeats 1000000 in
theorem rmul_any (s1 : Bool) (a1 : Option Addr) (n1 c1 : Nat) (o1 : Nat → Int) (s2 : Bool) (a2 : Option Addr) (n2 c2 : Nat) (o2 : Nat → Int) (w : World)
    (h1 : Rd w a1 n1 o1) (hn1 : n1 ≤ 100000000) (hc1 : n1 ≤ c1) (h2 : Rd w a2 n2 o2) (hn2 : n2 ≤ 100000000) (hc2 : n2 ≤ c2) :
    Calls Tryz.prog 18 #[numV s1 a1 n1 c1, numV s2 a2 n2 c2] w (ResF w (valN s1 n1 o1 * valN s2 n2 o2)) := by
  obtain ⟨x1, d1, r1, l1, m1, O1⟩ := fit_any s1 a1 n1 c1 o1 w h1 (by omega) hc1
  obtain ⟨x2, d2, r2, l2, m2, O2⟩ := fit_any s2 a2 n2 c2 o2 w h2 (by omega) hc2
  generalize valN s1 n1 o1 = z1 at r1 l1 m1 O1 ⊢
  have HO1 := Lib.hid O1; clear O1
  generalize valN s2 n2 o2 = z2 at r2 l2 m2 O2 ⊢
  have HO2 := Lib.hid O2; clear O2
  have HR := Lib.hid (And.intro r1 r2)
  clear h1 h2 r1 r2
  have HB1 := Lib.hid (((Bx.new w 24 (.bool s1) (.slice a1 n1 c1)).alloc (.cells #[.bool s2, .slice a2 n2 c2] 24)).alloc (.cells #[.bool false, .slice none 0 0] 24))
  have HB2 := Lib.hid ((Bx.new2 w (.cells #[.bool s1, .slice a1 n1 c1] 24) 24 (.bool s2) (.slice a2 n2 c2)).alloc (.cells #[.bool false, .slice none 0 0] 24))
  have HB3 := Lib.hid (Bx.new3 w (.cells #[.bool s1, .slice a1 n1 c1] 24) (.cells #[.bool s2, .slice a2 n2 c2] 24) 24 (.bool false) (.slice none 0 0))
  go_enter Tryz.func18, Tryz.ntmps18
  go_wp2_with fail
  refine (HO1.out _ ?_).mono ?_
  · (repeat' (first | (with_reducible exact Below.refl _ _) | (with_reducible assumption) | (with_reducible refine Below.alloc ?_ ?_ _) | (with_reducible refine Below.drew ?_) | (with_reducible refine bdrewN ?_ _) | (with_reducible refine Below.setCell ?_ ?_ _) | (with_reducible refine Below.frame ?_ _) | go_size))
  rintro e w1 ⟨rfl, hb1⟩
  have B1 := HB1.out.below hb1 HB1.out.lt
  have B2 := HB2.out.below hb1 HB2.out.lt
  have B3 := HB3.out.below hb1 HB3.out.lt
  have G1 := Lib.hid (((Below.refl _ _).alloc (by go_size) _ |>.alloc (by go_size) _ |>.alloc (by go_size) _).trans (hb1.mono (by go_size)) : Below w.heap.size w w1)
  have K1 := Lib.hid B1; have K2 := Lib.hid B2; have K3 := Lib.hid B3
  obtain ⟨b10, b11, b12, b13⟩ := B1.all
  obtain ⟨b20, b21, b22, b23⟩ := B2.all
  clear HB1 HB2 HB3 B1 B2 B3 hb1
  go_wp2_with fail
  refine (HO2.out _ ?_).mono ?_
  · have := G1.out; (repeat' (first | (with_reducible exact Below.refl _ _) | (with_reducible assumption) | (with_reducible refine Below.alloc ?_ ?_ _) | (with_reducible refine Below.drew ?_) | (with_reducible refine bdrewN ?_ _) | (with_reducible refine Below.setCell ?_ ?_ _) | (with_reducible refine Below.frame ?_ _) | go_size))
  rintro e w2 ⟨rfl, hb2⟩
  have B1 := (K1.out.set (.bool (decide (z1 < 0))) (.slice x1 (lenB z1.natAbs) d1)).below hb2 (by simpa using K1.out.lt)
  have B2 := ((K2.out.other (a := ⟨w.heap.size, 0, none⟩) (by dsimp only; omega) (.bool (decide (z1 < 0)))).other (a := ⟨w.heap.size, 1, none⟩) (by dsimp only; omega) (.slice x1 (lenB z1.natAbs) d1)).below hb2 (by simpa using K2.out.lt)
  have B3 := ((K3.out.other (a := ⟨w.heap.size, 0, none⟩) (by dsimp only; omega) (.bool (decide (z1 < 0)))).other (a := ⟨w.heap.size, 1, none⟩) (by dsimp only; omega) (.slice x1 (lenB z1.natAbs) d1)).below hb2 (by simpa using K3.out.lt)
  have G2 := Lib.hid (((G1.out.setCell (by simp) _).setCell (by simp) _).trans (hb2.mono (by simpa using G1.out.size)) : Below w.heap.size w w2)
  have C1 := Lib.hid B1; have C2 := Lib.hid B2; have C3 := Lib.hid B3
  obtain ⟨b10, b11, b12, b13⟩ := B1.all
  obtain ⟨b20, b21, b22, b23⟩ := B2.all
  clear K1 K2 K3 B1 B2 B3 hb2 G1
  go_upto_region 3 with (fail)
  obtain ⟨W, hW⟩ : ∃ W, W = ((w2.setCell ⟨w.heap.size + 1, 0, none⟩ (.bool (decide (z2 < 0)))).setCell ⟨w.heap.size + 1, 1, none⟩ (.slice x2 (lenB z2.natAbs) d2)) := ⟨_, rfl⟩
  have B1 := (C1.out.other (a := ⟨w.heap.size + 1, 0, none⟩) (by dsimp only; omega) (.bool (decide (z2 < 0)))).other (a := ⟨w.heap.size + 1, 1, none⟩) (by dsimp only; omega) (.slice x2 (lenB z2.natAbs) d2)
  have B2 := C2.out.set (.bool (decide (z2 < 0))) (.slice x2 (lenB z2.natAbs) d2)
  have B3 := (C3.out.other (a := ⟨w.heap.size + 1, 0, none⟩) (by dsimp only; omega) (.bool (decide (z2 < 0)))).other (a := ⟨w.heap.size + 1, 1, none⟩) (by dsimp only; omega) (.slice x2 (lenB z2.natAbs) d2)
  have G3 := (G2.out.setCell (p := ⟨w.heap.size + 1, 0, none⟩) (by simp) (.bool (decide (z2 < 0)))).setCell (p := ⟨w.heap.size + 1, 1, none⟩) (by simp) (.slice x2 (lenB z2.natAbs) d2)
  rw [← hW] at B1 B2 B3 G3
  rw [show ((w2.setCell ⟨w.heap.size + 1, 0, none⟩ (.bool (decide (z2 < 0)))).setCell ⟨w.heap.size + 1, 1, none⟩ (.slice x2 (lenB z2.natAbs) d2)) = W from hW.symm]
  have HG := Lib.hid G3
  have HB1 := Lib.hid B1; have HB2 := Lib.hid B2; have HB3 := Lib.hid B3
  have HS1 := Lib.hid (fun (w' : World) (hb : Below W.heap.size W w') => And.intro (HB1.out.below hb HB1.out.lt).c0 (HB1.out.below hb HB1.out.lt).c1)
  have HS2 := Lib.hid (fun (w' : World) (hb : Below W.heap.size W w') => And.intro (HB2.out.below hb HB2.out.lt).c0 (HB2.out.below hb HB2.out.lt).c1)
  clear b10 b11 b12 b13 b20 b21 b22 b23 C1 C2 C3 hW G2 HO1 HO2
  have HQ := Lib.hid (And.intro (HR.out.1.below G3) (HR.out.2.below G3))
  have HL := Lib.hid (And.intro (show lenB z1.natAbs ≤ 100000000 by omega) (show lenB z2.natAbs ≤ 100000000 by omega))
  clear B1 B2 B3 G3
  obtain ⟨N, hN⟩ : ∃ N, N = z1.natAbs * z2.natAbs := ⟨_, rfl⟩
  have p1 : N = (z1 * z2).natAbs := by rw [hN, Int.natAbs_mul]
  have p2 := mul_sign z1 z2
  rw [← p1] at p2
  obtain ⟨sB, hsB⟩ : ∃ sB, sB = decide (z1 * z2 < 0) := ⟨_, rfl⟩
  rw [← hsB] at p2
  have HSB := Lib.hid p2
  have HE := Lib.hid (And.intro p1 hsB)
  have AMT := Lib.hid (fun (w' : World) (hb : Below W.heap.size W w') => times_own z1.natAbs z2.natAbs x1 x2 d1 d2 w' (HQ.out.1.below hb) (HQ.out.2.below hb) HL.out.1 HL.out.2)
  rw [← hN] at AMT
  clear p1 p2 hN hsB
  refine wp_region_fresh 11 (spOf [(9, Sp.made (fun x : Option Addr × Nat × Nat => .slice x.1 x.2.1 x.2.2) (AmtF W.heap.size N)),
      (10, Sp.made (fun x : Option Addr × Nat => numV sB x.1 (lenB N) x.2) (fun x w' => Own 57 w' W.heap.size x.1 (lenB N) x.2 (dgi N)))])
    (fun w' => Below W.heap.size W w') (by kernel_rfl) (by kernel_rfl)
    (spOf_cons (Sp.made_keeps AmtF.keeps) (spOf_cons (Sp.made_keeps fun x w w' h hb => h.below hb) spOf_nil)) (fun _ _ h hb => h.trans (hb.mono h.size)) ((Below.refl _ _).drew) ?_
  simp only [List.take_succ_cons, List.take_zero, List.drop_succ_cons, List.drop_zero]
  (refine wpF_reads rfl rfl ?_ (fun w' hw' => ?_) ?_; rotate_left; · (have hb' := Has.world hw'; (skip); clear hw'; go_simp; try rfl))
  (refine wpF_reads rfl rfl ?_ (fun w' hw' => ?_) ?_; rotate_left; · (have hb' := Has.world hw'; (have hs := HS1.out _ hb'); clear hw'; go_simp; try rfl))
  (refine wpF_reads rfl rfl ?_ (fun w' hw' => ?_) ?_; rotate_left; · (have hb' := Has.world hw'; (skip); clear hw'; go_simp; try rfl))
  (refine wpF_reads rfl rfl ?_ (fun w' hw' => ?_) ?_; rotate_left; · (have hb' := Has.world hw'; (have hs := HS2.out _ hb'); clear hw'; go_simp; try rfl))
  (refine wpF_reads rfl rfl ?_ (fun w' hw' => ?_) ?_; rotate_left; · (have hb' := Has.world hw'; (skip); clear hw'; go_simp; try rfl))
  (refine wpF_reads rfl rfl ?_ (fun w' hw' => ?_) ?_; rotate_left; · (have hb' := Has.world hw'; (skip); clear hw'; go_simp; try rfl))
  (refine wpF_reads rfl rfl ?_ (fun w' hw' => ?_) ?_; rotate_left; · (have hb' := Has.world hw'; (have hs := HS1.out _ hb'); clear hw'; go_simp; try rfl))
  (refine wpF_reads rfl rfl ?_ (fun w' hw' => ?_) ?_; rotate_left; · (have hb' := Has.world hw'; (skip); clear hw'; go_simp; try rfl))
  (refine wpF_reads rfl rfl ?_ (fun w' hw' => ?_) ?_; rotate_left; · (have hb' := Has.world hw'; (have hs := HS2.out _ hb'); clear hw'; go_simp; try rfl))
  (refine wpF_spec rfl rfl (fun w' hw' => ?_) ?_; · (have hb' := Has.world hw'; go_simp; ((refine (AMT.out w' hb').mono ?_; rintro e w'' ⟨a, K, cap, o, rfl, q1, q2, q3, q4, q5⟩; exact ⟨_, rfl, ⟨⟨a, K, cap, rfl⟩, ⟨a, K, cap, rfl, o, q1, q2, q3, q4.mono hb'.size⟩⟩, q5⟩))))
  rintro _ ⟨x, rfl⟩
  (refine wpF_spec rfl rfl (fun w' hw' => ?_) ?_; · (have hb' := Has.world hw'; go_simp; ((have h7 := amt_of (x := x) (b := W.heap.size) (N := N) (hw'.fact 9 (by kernel_rfl)); obtain ⟨o, q1, q2, q3, q4⟩ := h7; refine (num_own _ sB _ _ _ N W.heap.size o w' q4 q1 q3 q2 HSB.out).mono ?_; rintro e w'' ⟨rfl, hb⟩; exact ⟨_, rfl, ⟨⟨x.1, x.2.2, rfl⟩, ⟨x.1, x.2.2, rfl, (own_fit q4 q1 q2).below hb⟩⟩, hb⟩))))
  rintro _ ⟨y, rfl⟩
  refine wpF_nil (fun w5 hb5 hF5 => ?_)
  have OA := own_numc (T := 57) (b := W.heap.size) (s := sB) (L := lenB N) (o := dgi N) (x := y) (hF5 10)
  have HO := Lib.hid OA
  have B3 := HB3.out.below hb5 HB3.out.lt
  have HB5 := Lib.hid B3
  obtain ⟨b30, b31, b32, b33⟩ := B3.all
  have HG5 := Lib.hid (HG.out.trans (hb5.mono HG.out.size))
  have hz4 := HB3.out.lt
  have hz5 := HG.out.size
  clear hF5 OA B3 hb5 HS1 HS2
  go_wp2_with fail
  unfold ResF
  rw [← HE.out.1, ← HE.out.2]
  refine bodyPost_ret (results_cell rfl _ _ _ _ _ _ _ rfl (HB5.out.set _ _) Tryz.underlying24 rfl (by kernel_rfl)) rfl ⟨y.1, y.2, rfl, ?_, ?_⟩
  · exact ((HO.out.other (by dsimp only; omega) _).other (by dsimp only; omega) _).mono hz5
  · exact (HG5.out.setCell (by dsimp only; omega) _).setCell (by dsimp only; omega) _
end Go.Proofs.YtebobpbcllideaaGreatDoor.Limb
