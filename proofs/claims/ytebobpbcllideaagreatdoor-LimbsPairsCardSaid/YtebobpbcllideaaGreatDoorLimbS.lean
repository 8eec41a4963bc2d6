/-
  The walks of the document's answer for limbs: Neg, Sub.
-/
import Derived.Test.YtebobpbcllideaaGreatDoorLimbR
namespace Go.Proofs.YtebobpbcllideaaGreatDoor.Limb
open Go.RowKit Go.Sort Go.Fresh

set_option maxHeartbeats 1000000 in
theorem rneg_any (s1 : Bool) (a1 : Option Addr) (n1 c1 : Nat) (o1 : Nat → Int) (w : World) (h1 : Rd w a1 n1 o1) (hn1 : n1 ≤ 100000000) (hc1 : n1 ≤ c1) :
    Calls Tryz.prog 19 #[numV s1 a1 n1 c1] w (ResF w (- valN s1 n1 o1)) := by
  obtain ⟨x1, d1, r1, l1, m1, O1⟩ := fit_any s1 a1 n1 c1 o1 w h1 (by omega) hc1
  generalize valN s1 n1 o1 = z1 at r1 l1 m1 O1 ⊢
  have HO1 := Lib.hid O1; clear O1
  have HR := Lib.hid r1
  clear h1 r1
  have HB1 := Lib.hid ((Bx.new w 24 (.bool s1) (.slice a1 n1 c1)).alloc (.cells #[.bool false, .slice none 0 0] 24))
  have HB2 := Lib.hid (Bx.new2 w (.cells #[.bool s1, .slice a1 n1 c1] 24) 24 (.bool false) (.slice none 0 0))
  obtain ⟨sB, hsB⟩ : ∃ sB, sB = decide (-z1 < 0) := ⟨_, rfl⟩
  have HSB := Lib.hid (And.intro ((neg_sign z1).trans hsB.symm) hsB)
  clear hsB
  go_enter Tryz.func19, Tryz.ntmps19
  go_wp2_with fail
  refine (HO1.out _ ?_).mono ?_
  · (repeat' (first | (with_reducible exact Below.refl _ _) | (with_reducible assumption) | (with_reducible refine Below.alloc ?_ ?_ _) | (with_reducible refine Below.drew ?_) | (with_reducible refine bdrewN ?_ _) | (with_reducible refine Below.setCell ?_ ?_ _) | (with_reducible refine Below.frame ?_ _) | go_size))
  rintro e w1 ⟨rfl, hb1⟩
  have B1 := HB1.out.below hb1 HB1.out.lt
  have B2 := HB2.out.below hb1 HB2.out.lt
  have G1 := Lib.hid (((Below.refl _ _).alloc (by go_size) _ |>.alloc (by go_size) _).trans (hb1.mono (by go_size)) : Below w.heap.size w w1)
  have K1 := Lib.hid B1; have K2 := Lib.hid B2
  clear HB1 HB2 B1 B2 hb1
  go_wp2_with fail
  refine (twin_any (decide (z1 < 0)) x1 (lenB z1.natAbs) d1 (dgi z1.natAbs) w1 (HR.out.below G1.out) (by omega)).mono ?_
  rintro e w2 ⟨a, cap, rfl, hO, -, hb2⟩
  have B1 := K1.out.below hb2 K1.out.lt
  have B2 := K2.out.below hb2 K2.out.lt
  have G2 := Lib.hid (G1.out.trans (hb2.mono G1.out.size))
  have C1 := Lib.hid B1; have C2 := Lib.hid B2
  have HO := Lib.hid (hO.mono G1.out.size)
  have hlt := K2.out.lt
  have HOw := Lib.hid hO
  obtain ⟨b10, b11, b12, b13⟩ := B1.all
  clear K1 K2 B1 B2 hb2 G1 hO
  go_upto_region 2 with (fail)
  obtain ⟨W, hW⟩ : ∃ W, W = ((w2.setCell ⟨w.heap.size, 0, none⟩ (.bool (decide (z1 < 0)))).setCell ⟨w.heap.size, 1, none⟩ (.slice a (lenB z1.natAbs) cap)) := ⟨_, rfl⟩
  have B1 := C1.out.set (.bool (decide (z1 < 0))) (.slice a (lenB z1.natAbs) cap)
  have B2 := (C2.out.other (a := ⟨w.heap.size, 0, none⟩) (by dsimp only; omega) (.bool (decide (z1 < 0)))).other (a := ⟨w.heap.size, 1, none⟩) (by dsimp only; omega) (.slice a (lenB z1.natAbs) cap)
  have G3 := (G2.out.setCell (p := ⟨w.heap.size, 0, none⟩) (by simp) (.bool (decide (z1 < 0)))).setCell (p := ⟨w.heap.size, 1, none⟩) (by simp) (.slice a (lenB z1.natAbs) cap)
  have O3 := (HOw.out.other (p := ⟨w.heap.size, 0, none⟩) (by dsimp only; omega) (.bool (decide (z1 < 0)))).other (p := ⟨w.heap.size, 1, none⟩) (by dsimp only; omega) (.slice a (lenB z1.natAbs) cap)
  rw [← hW] at B1 B2 G3 O3
  rw [show ((w2.setCell ⟨w.heap.size, 0, none⟩ (.bool (decide (z1 < 0)))).setCell ⟨w.heap.size, 1, none⟩ (.slice a (lenB z1.natAbs) cap)) = W from hW.symm]
  have HB2 := Lib.hid B2
  have HG := Lib.hid G3
  have HN := Lib.hid (num_own (!decide (z1 < 0)) sB a (lenB z1.natAbs) cap z1.natAbs _ (dgi z1.natAbs) W O3 (dgi_Dig _ _) (by omega) (sumB_dgi _) HSB.out.1)
  have HO3 := Lib.hid O3
  clear b10 b11 b12 b13 C1 C2 hW G2 HO1 HO HOw O3 G3
  obtain ⟨b10, b11, b12, b13⟩ := B1.all
  clear B1 B2
  go_wp2_with fail
  refine HN.out.mono ?_
  rintro e w3 ⟨rfl, hb3⟩
  have B2 := HB2.out.below hb3 HB2.out.lt
  have HB5 := Lib.hid B2
  obtain ⟨b30, b31, b32, b33⟩ := B2.all
  have HG5 := Lib.hid (HG.out.trans (hb3.mono HG.out.size))
  have HO5 := Lib.hid (HO3.out.below hb3)
  clear HO3 HG HB2 HN B2 hb3 b10 b11 b12 b13
  go_wp2_with fail
  unfold ResF
  rw [Int.natAbs_neg, ← HSB.out.2]
  refine bodyPost_ret (results_cell rfl _ _ _ _ _ _ _ rfl (HB5.out.set _ _) Tryz.underlying24 rfl (by kernel_rfl)) rfl ⟨a, cap, rfl, ?_, ?_⟩
  · exact ((HO5.out.other (by dsimp only; omega) _).other (by dsimp only; omega) _).mono (by omega)
  · exact (HG5.out.setCell (by dsimp only; omega) _).setCell (by dsimp only; omega) _

set_option maxHeartbeats 1000000 in
theorem rsub_any (s1 : Bool) (a1 : Option Addr) (n1 c1 : Nat) (o1 : Nat → Int) (s2 : Bool) (a2 : Option Addr) (n2 c2 : Nat) (o2 : Nat → Int) (w : World)
    (h1 : Rd w a1 n1 o1) (hn1 : n1 ≤ 100000000) (hc1 : n1 ≤ c1) (h2 : Rd w a2 n2 o2) (hn2 : n2 ≤ 100000000) (hc2 : n2 ≤ c2) :
    Calls Tryz.prog 17 #[numV s1 a1 n1 c1, numV s2 a2 n2 c2] w (ResF w (valN s1 n1 o1 - valN s2 n2 o2)) := by
  have hl2 : lenB (valN s2 n2 o2).natAbs ≤ n2 := by
    obtain ⟨_, _, _, l2, _⟩ := fit_any s2 a2 n2 c2 o2 w h2 (by omega) hc2
    exact l2
  have NEG := Lib.hid (fun (w' : World) (hb : Below w.heap.size w w') => rneg_any s2 a2 n2 c2 o2 w' (h2.below hb) hn2 hc2)
  obtain ⟨z1, hz1⟩ : ∃ z1, z1 = valN s1 n1 o1 := ⟨_, rfl⟩
  obtain ⟨z2, hz2⟩ : ∃ z2, z2 = valN s2 n2 o2 := ⟨_, rfl⟩
  rw [← hz2] at NEG hl2
  rw [← hz1, ← hz2]
  obtain ⟨L2, hL2⟩ : ∃ L2, L2 = lenB z2.natAbs := ⟨_, rfl⟩
  obtain ⟨sB, hsB⟩ : ∃ sB, sB = decide (-z2 < 0) := ⟨_, rfl⟩
  obtain ⟨sC, hsC⟩ : ∃ sC, sC = decide (z1 - z2 < 0) := ⟨_, rfl⟩
  obtain ⟨N, hN⟩ : ∃ N, N = (z1 - z2).natAbs := ⟨_, rfl⟩
  have ADD := Lib.hid (fun (w' : World) (hb : Below w.heap.size w w') (x : Option Addr) (d : Nat) (hr : Rd w' x (lenB z2.natAbs) (dgi z2.natAbs)) (hd : lenB z2.natAbs ≤ d) => radd_any s1 a1 n1 c1 o1 sB x (lenB z2.natAbs) d (dgi z2.natAbs) w' (h1.below hb) hn1 hc1 hr (by omega) hd)
  rw [canon_neg z2 sB hsB, ← hz1, ← Int.sub_eq_add_neg] at ADD
  unfold ResF at NEG ADD
  rw [Int.natAbs_neg] at NEG
  rw [← hsB] at NEG
  rw [← hsC, ← hN] at ADD
  have HE := Lib.hid (And.intro hN hsC)
  clear hz1 hz2 hsB hsC hN h1 h2 hL2
  have HB1 := Lib.hid (((Bx.new w 24 (.bool s1) (.slice a1 n1 c1)).alloc (.cells #[.bool s2, .slice a2 n2 c2] 24)).alloc (.cells #[.bool false, .slice none 0 0] 24))
  have HB2 := Lib.hid ((Bx.new2 w (.cells #[.bool s1, .slice a1 n1 c1] 24) 24 (.bool s2) (.slice a2 n2 c2)).alloc (.cells #[.bool false, .slice none 0 0] 24))
  have HB3 := Lib.hid (Bx.new3 w (.cells #[.bool s1, .slice a1 n1 c1] 24) (.cells #[.bool s2, .slice a2 n2 c2] 24) 24 (.bool false) (.slice none 0 0))
  have G := Lib.hid (((Below.refl _ _).alloc (by go_size) _ |>.alloc (by go_size) _ |>.alloc (by go_size) _) : Below w.heap.size w (((w.alloc (.cells #[.bool s1, .slice a1 n1 c1] 24)).alloc (.cells #[.bool s2, .slice a2 n2 c2] 24)).alloc (.cells #[.bool false, .slice none 0 0] 24)))
  go_enter Tryz.func17, Tryz.ntmps17
  go_upto_region 1 with (fail)
  obtain ⟨W, hW⟩ : ∃ W, W = (((w.alloc (.cells #[.bool s1, .slice a1 n1 c1] 24)).alloc (.cells #[.bool s2, .slice a2 n2 c2] 24)).alloc (.cells #[.bool false, .slice none 0 0] 24)) := ⟨_, rfl⟩
  rw [← hW] at HB1 HB2 HB3 G
  rw [show (((w.alloc (.cells #[.bool s1, .slice a1 n1 c1] 24)).alloc (.cells #[.bool s2, .slice a2 n2 c2] 24)).alloc (.cells #[.bool false, .slice none 0 0] 24)) = W from hW.symm]
  have HS1 := Lib.hid (fun (w' : World) (hb : Below W.heap.size W w') => And.intro (HB1.out.below hb HB1.out.lt).c0 (HB1.out.below hb HB1.out.lt).c1)
  have HS2 := Lib.hid (fun (w' : World) (hb : Below W.heap.size W w') => And.intro (HB2.out.below hb HB2.out.lt).c0 (HB2.out.below hb HB2.out.lt).c1)
  have HG := G
  clear hW G
  refine wp_region_fresh 4 (spOf [(2, Sp.made (fun x : Option Addr × Nat => numV sB x.1 (lenB z2.natAbs) x.2) (fun x w' => Own 57 w' W.heap.size x.1 (lenB z2.natAbs) x.2 (dgi z2.natAbs))),
      (3, Sp.made (fun x : Option Addr × Nat => numV sC x.1 (lenB N) x.2) (fun x w' => Own 57 w' W.heap.size x.1 (lenB N) x.2 (dgi N)))])
    (fun w' => Below W.heap.size W w') (by kernel_rfl) (by kernel_rfl)
    (spOf_cons (Sp.made_keeps fun x w w' h hb => h.below hb) (spOf_cons (Sp.made_keeps fun x w w' h hb => h.below hb) spOf_nil)) (fun _ _ h hb => h.trans (hb.mono h.size)) ((Below.refl _ _).drew) ?_
  simp only [List.take_succ_cons, List.take_zero, List.drop_succ_cons, List.drop_zero]
  (refine wpF_reads rfl rfl ?_ (fun w' hw' => ?_) ?_; rotate_left; · (have hb' := Has.world hw'; (have hs := HS1.out _ hb'); clear hw'; go_simp; try rfl))
  (refine wpF_reads rfl rfl ?_ (fun w' hw' => ?_) ?_; rotate_left; · (have hb' := Has.world hw'; (have hs := HS2.out _ hb'); clear hw'; go_simp; try rfl))
  (refine wpF_spec rfl rfl (fun w' hw' => ?_) ?_; · (have hb' := Has.world hw'; go_simp; ((refine (NEG.out w' (HG.out.trans (hb'.mono HG.out.size))).mono ?_; rintro e w'' ⟨a, cap, rfl, q, hb⟩; exact ⟨_, rfl, ⟨⟨a, cap, rfl⟩, ⟨a, cap, rfl, q.mono hb'.size⟩⟩, hb⟩))))
  rintro _ ⟨x, rfl⟩
  (refine wpF_spec rfl rfl (fun w' hw' => ?_) ?_; · (have hb' := Has.world hw'; go_simp; ((have h7 := own_numc (T := 57) (x := x) (b := W.heap.size) (s := sB) (L := lenB z2.natAbs) (o := dgi z2.natAbs) (hw'.fact 2 (by kernel_rfl)); refine (ADD.out w' (HG.out.trans (hb'.mono HG.out.size)) x.1 x.2 h7.rd h7.le).mono ?_; rintro e w'' ⟨a, cap, rfl, q, hb⟩; exact ⟨_, rfl, ⟨⟨a, cap, rfl⟩, ⟨a, cap, rfl, q.mono hb'.size⟩⟩, hb⟩))))
  rintro _ ⟨y, rfl⟩
  refine wpF_nil (fun w5 hb5 hF5 => ?_)
  have OA := own_numc (T := 57) (b := W.heap.size) (s := sC) (L := lenB N) (o := dgi N) (x := y) (hF5 3)
  have HO := Lib.hid OA
  have B3 := HB3.out.below hb5 HB3.out.lt
  have HB5 := Lib.hid B3
  obtain ⟨b30, b31, b32, b33⟩ := B3.all
  have HG5 := Lib.hid (HG.out.trans (hb5.mono HG.out.size))
  have hz4 := HB3.out.lt
  have hz5 := HG.out.size
  clear hF5 OA B3 hb5 HS1 HS2
  go_wp2_with fail
  unfold ResF
  rw [← HE.out.1, ← HE.out.2]
  refine bodyPost_ret (results_cell rfl _ _ _ _ _ _ _ rfl (HB5.out.set _ _) Tryz.underlying24 rfl (by kernel_rfl)) rfl ⟨y.1, y.2, rfl, ?_, ?_⟩
  · exact ((HO.out.other (by dsimp only; omega) _).other (by dsimp only; omega) _).mono hz5
  · exact (HG5.out.setCell (by dsimp only; omega) _).setCell (by dsimp only; omega) _
end Go.Proofs.YtebobpbcllideaaGreatDoor.Limb
