/-
  The walks of Neg, Cmp, Sign of package limbs.
-/
import Derived.Test.YtebobpbcllideaaGreatDoorLimbH
namespace Go.Proofs.YtebobpbcllideaaGreatDoor.Limb
open Go.RowKit Go.Sort Go.Fresh

/-- What Clone makes, as a spec's fact. -/
theorem own_clone {T L b : Nat} {x : Option Addr × Nat} {o : Nat → Int} {w : World} (h : ∃ y : Option Addr × Nat, Value.slice x.1 L x.2 = .slice y.1 L y.2 ∧ Own T w b y.1 L y.2 o ∧ (y.1 = none → y.2 = 0)) : Own T w b x.1 L x.2 o ∧ (x.1 = none → x.2 = 0) := by
  obtain ⟨y, e, h⟩ := h
  simp only [Value.slice.injEq] at e
  rw [e.1, e.2.2]
  exact h
theorem pos_len {z : Int} : 0 < lenB z.natAbs ↔ z ≠ 0 := by
  constructor
  · intro h1 h2; rw [h2, show Int.natAbs 0 = 0 from rfl, lenB_zero] at h1; omega
  · intro h1
    rcases Nat.eq_zero_or_pos (lenB z.natAbs) with h2 | h2
    · have := lenB_eq_zero.1 h2; omega
    · exact h2
theorem neg_sign (z : Int) : ((!decide (z < 0)) && decide (0 < lenB z.natAbs)) = decide (-z < 0) := by
  have e0 := pos_len (z := z)
  by_cases h1 : z < 0
  · simp only [h1, decide_true, Bool.not_true, Bool.false_and]
    exact (decide_eq_false (by omega)).symm
  · simp only [h1, decide_false, Bool.not_false, Bool.true_and]
    exact decide_eq_decide.2 (e0.trans (by omega))

set_option maxHeartbeats 1000000 in
theorem neg_any (s1 : Bool) (a1 : Option Addr) (n1 c1 : Nat) (o1 : Nat → Int) (w : World)
    (h1 : Rd w a1 n1 o1) (hn1 : n1 ≤ 100000000) (hc1 : n1 ≤ c1) :
    Calls Tryz.prog 10 #[numV s1 a1 n1 c1] w (ResN w (- valN s1 n1 o1)) := by
  obtain ⟨x2, d2, r2, l2, m2, O2⟩ := of_any s1 a1 n1 c1 o1 w h1 (by omega) hc1
  generalize valN s1 n1 o1 = z2 at r2 l2 m2 O2 ⊢
  have HO2 := Lib.hid O2
  have HR2 := Lib.hid r2
  have HB1 := Lib.hid ((Bx.new w 24 (.bool s1) (.slice a1 n1 c1)).alloc (.cells #[.bool false, .slice none 0 0] 24))
  have HB2 := Lib.hid (Bx.new2 w (.cells #[.bool s1, .slice a1 n1 c1] 24) 24 (.bool false) (.slice none 0 0))
  clear O2 h1 r2
  go_enter Tryz.func10, Tryz.ntmps10
  go_wp2_with fail
  refine (HO2.out _ ?_).mono ?_
  · (repeat' (first | (with_reducible exact Below.refl _ _) | (with_reducible assumption) | (with_reducible refine Below.alloc ?_ ?_ _) | (with_reducible refine Below.drew ?_) | (with_reducible refine bdrewN ?_ _) | (with_reducible refine Below.setCell ?_ ?_ _) | (with_reducible refine Below.frame ?_ _) | go_size))
  rintro e w1 ⟨rfl, hb1⟩
  have B1 := HB1.out.below hb1 HB1.out.lt
  have B2 := HB2.out.below hb1 HB2.out.lt
  have G1 := Lib.hid (((Below.refl _ _).alloc (by go_size) _ |>.alloc (by go_size) _).trans (hb1.mono (by go_size)) : Below w.heap.size w w1)
  have K1 := Lib.hid B1; have K2 := Lib.hid B2
  obtain ⟨b10, b11, b12, b13⟩ := B1.all
  clear HB1 HB2 B1 B2 hb1
  go_upto_region 2 with (fail)
  obtain ⟨W, hW⟩ : ∃ W, W = ((w1.setCell ⟨w.heap.size, 0, none⟩ (.bool (decide (z2 < 0)))).setCell ⟨w.heap.size, 1, none⟩ (.slice x2 (lenB z2.natAbs) d2)) := ⟨_, rfl⟩
  rw [← hW]
  have HB1 := Lib.hid (K1.out.set (.bool (decide (z2 < 0))) (.slice x2 (lenB z2.natAbs) d2))
  have HB2 := Lib.hid ((K2.out.other (a := ⟨w.heap.size, 0, none⟩) (by dsimp only; omega) (.bool (decide (z2 < 0)))).other (a := ⟨w.heap.size, 1, none⟩) (by dsimp only; omega) (.slice x2 (lenB z2.natAbs) d2))
  have HG := Lib.hid ((G1.out.setCell (p := ⟨w.heap.size, 0, none⟩) (Nat.le_refl _) (.bool (decide (z2 < 0)))).setCell (p := ⟨w.heap.size, 1, none⟩) (Nat.le_refl _) (.slice x2 (lenB z2.natAbs) d2))
  rw [← hW] at HB1 HB2 HG
  clear hW b10 b11 b12 b13 K1 K2 G1
  have HS1 := Lib.hid (fun (w' : World) (hb : Below W.heap.size W w') => And.intro (HB1.out.below hb HB1.out.lt).c0 (HB1.out.below hb HB1.out.lt).c1)
  have CL := Lib.hid (fun (w' : World) (hb : Below W.heap.size W w') => clone_any x2 (lenB z2.natAbs) d2 (dgi z2.natAbs) w' (HR2.out.below (HG.out.trans (hb.mono HG.out.size))) (by omega))
  have CUT := Lib.hid (fun (w' : World) (x : Option Addr × Nat) (ho : Own 57 w' W.heap.size x.1 (lenB z2.natAbs) x.2 (dgi z2.natAbs)) (hx : x.1 = none → x.2 = 0) => cut_any (!decide (z2 < 0)) x.1 (lenB z2.natAbs) x.2 (dgi z2.natAbs) w' ho.rd (dgi_Dig _ _) (by omega) ho.le hx)
  rw [sumB_dgi, Int.toNat_natCast, neg_sign] at CUT
  obtain ⟨sB, hsB⟩ : ∃ sB, sB = decide (-z2 < 0) := ⟨_, rfl⟩
  rw [← hsB] at CUT
  have HSB := Lib.hid hsB
  clear hsB
  refine wp_region_fresh 7 (spOf [(5, Sp.made (fun x : Option Addr × Nat => .slice x.1 (lenB z2.natAbs) x.2) (fun x w' => Own 57 w' W.heap.size x.1 (lenB z2.natAbs) x.2 (dgi z2.natAbs) ∧ (x.1 = none → x.2 = 0))),
      (6, Sp.made (fun a : Option Addr => numV sB a (lenB z2.natAbs) (lenB z2.natAbs)) (fun a w' => Own 57 w' W.heap.size a (lenB z2.natAbs) (lenB z2.natAbs) (dgi z2.natAbs) ∧ (a = none → lenB z2.natAbs = 0)))])
    (fun w' => Below W.heap.size W w') (by kernel_rfl) (by kernel_rfl)
    (spOf_cons (Sp.made_keeps fun x w w' h hb => ⟨h.1.below hb, h.2⟩) (spOf_cons (Sp.made_keeps fun x w w' h hb => ⟨h.1.below hb, h.2⟩) spOf_nil)) (fun _ _ h hb => h.trans (hb.mono h.size)) ((Below.refl _ _).drew) ?_
  simp only [List.take_succ_cons, List.take_zero, List.drop_succ_cons, List.drop_zero]
  (refine wpF_reads rfl rfl ?_ (fun w' hw' => ?_) ?_; rotate_left; · (have hb' := Has.world hw'; (skip); clear hw'; go_simp; try rfl))
  (refine wpF_reads rfl rfl ?_ (fun w' hw' => ?_) ?_; rotate_left; · (have hb' := Has.world hw'; (have hs := HS1.out _ hb'); clear hw'; go_simp; try rfl))
  (refine wpF_reads rfl rfl ?_ (fun w' hw' => ?_) ?_; rotate_left; · (have hb' := Has.world hw'; (skip); clear hw'; go_simp; try rfl))
  (refine wpF_reads rfl rfl ?_ (fun w' hw' => ?_) ?_; rotate_left; · (have hb' := Has.world hw'; (skip); clear hw'; go_simp; try rfl))
  (refine wpF_reads rfl rfl ?_ (fun w' hw' => ?_) ?_; rotate_left; · (have hb' := Has.world hw'; (have hs := HS1.out _ hb'); clear hw'; go_simp; try rfl))
  (refine wpF_spec rfl rfl (fun w' hw' => ?_) ?_; · (have hb' := Has.world hw'; go_simp; ((refine (CL.out w' hb').mono ?_; rintro e w'' ⟨a', cap', rfl, ho, hn, hb⟩; exact ⟨_, rfl, ⟨⟨a', cap', rfl⟩, ⟨a', cap', rfl, ho.mono hb'.size, hn⟩⟩, hb⟩))))
  rintro _ ⟨x, rfl⟩
  (refine wpF_spec rfl rfl (fun w' hw' => ?_) ?_; · (have hb' := Has.world hw'; go_simp; ((have h7 := own_clone (x := x) (L := lenB z2.natAbs) (T := 57) (o := dgi z2.natAbs) (b := W.heap.size) (hw'.fact 5 (by kernel_rfl)); refine (CUT.out w' x h7.1 h7.2).mono ?_; rintro e w'' ⟨rfl, hb⟩; exact ⟨_, rfl, ⟨⟨_, rfl⟩, ⟨_, rfl, (h7.1.below hb).cut (Nat.le_refl _) (fun _ _ => rfl), fun h => by have := h7.1.le; have := h7.2 h; omega⟩⟩, hb⟩))))
  rintro _ ⟨a, rfl⟩
  refine wpF_nil (fun w5 hb5 hF5 => ?_)
  have OA := own_num (T := 57) (b := W.heap.size) (s := sB) (L := lenB z2.natAbs) (o := dgi z2.natAbs) (a := a) (p := fun x => x = none → lenB z2.natAbs = 0) (hF5 6)
  have HO := Lib.hid OA
  have B2 := HB2.out.below hb5 HB2.out.lt
  have HB5 := Lib.hid B2
  obtain ⟨b30, b31, b32, b33⟩ := B2.all
  have HG5 := Lib.hid (HG.out.trans (hb5.mono HG.out.size))
  have hz4 := HB2.out.lt
  have hz5 := HG.out.size
  clear hF5 OA B2 hb5 HS1 CL CUT
  go_wp2_with fail
  unfold ResN
  rw [Int.natAbs_neg, ← HSB.out]
  refine bodyPost_ret (results_cell rfl _ _ _ _ _ _ _ rfl (HB5.out.set _ _) Tryz.underlying24 rfl (by kernel_rfl)) rfl ⟨a, rfl, ?_, HO.out.2, ?_⟩
  · exact ((HO.out.1.other (by dsimp only; omega) _).other (by dsimp only; omega) _).mono hz5
  · exact (HG5.out.setCell (by dsimp only; omega) _).setCell (by dsimp only; omega) _

/-- The order of two numbers, by their amounts. -/
theorem cmpZ_amounts (x y : Int) : cmpZ x y = if x < 0 then (if y < 0 then cmpZ (y.natAbs : Int) (x.natAbs : Int) else -1) else if y < 0 then 1 else cmpZ (x.natAbs : Int) (y.natAbs : Int) := by
  by_cases h1 : x < 0 <;> by_cases h2 : y < 0
  · rw [if_pos h1, if_pos h2]; exact cmpZ_congr (by omega) (by omega)
  · rw [if_pos h1, if_neg h2]; exact cmpZ_lt (by omega)
  · rw [if_neg h1, if_pos h2]; exact cmpZ_gt (by omega)
  · rw [if_neg h1, if_neg h2]; exact cmpZ_congr (by omega) (by omega)

set_option maxHeartbeats 1000000 in
theorem cmp_any (s1 : Bool) (a1 : Option Addr) (n1 c1 : Nat) (o1 : Nat → Int) (s2 : Bool) (a2 : Option Addr) (n2 c2 : Nat) (o2 : Nat → Int) (w : World)
    (h1 : Rd w a1 n1 o1) (hn1 : n1 ≤ 100000000) (hc1 : n1 ≤ c1) (h2 : Rd w a2 n2 o2) (hn2 : n2 ≤ 100000000) (hc2 : n2 ≤ c2) :
    Calls Tryz.prog 11 #[numV s1 a1 n1 c1, numV s2 a2 n2 c2] w fun e w' => e = .returned (.int .i64 (cmpZ (valN s1 n1 o1) (valN s2 n2 o2))) ∧ Below w.heap.size w w' := by
  obtain ⟨x1, d1, r1, l1, m1, O1⟩ := of_any s1 a1 n1 c1 o1 w h1 (by omega) hc1
  obtain ⟨x2, d2, r2, l2, m2, O2⟩ := of_any s2 a2 n2 c2 o2 w h2 (by omega) hc2
  generalize valN s1 n1 o1 = z1 at r1 l1 m1 O1 ⊢
  have HO1 := Lib.hid O1; clear O1
  generalize valN s2 n2 o2 = z2 at r2 l2 m2 O2 ⊢
  have HO2 := Lib.hid O2; clear O2
  have B1 := ((Bx.new w 24 (.bool s1) (.slice a1 n1 c1)).alloc (.cells #[.bool s2, .slice a2 n2 c2] 24))
  have B2 := (Bx.new2 w (.cells #[.bool s1, .slice a1 n1 c1] 24) 24 (.bool s2) (.slice a2 n2 c2))
  go_enter Tryz.func11, Tryz.ntmps11
  go_upto_region 1 with (fail)
  obtain ⟨W, hW⟩ : ∃ W, W = ((w.alloc (.cells #[.bool s1, .slice a1 n1 c1] 24)).alloc (.cells #[.bool s2, .slice a2 n2 c2] 24)) := ⟨_, rfl⟩
  have G1 := Lib.hid (((Below.refl _ _).alloc (by go_size) _ |>.alloc (by go_size) _) : Below w.heap.size w ((w.alloc (.cells #[.bool s1, .slice a1 n1 c1] 24)).alloc (.cells #[.bool s2, .slice a2 n2 c2] 24)))
  rw [← hW] at B1 B2 G1
  rw [show ((w.alloc (.cells #[.bool s1, .slice a1 n1 c1] 24)).alloc (.cells #[.bool s2, .slice a2 n2 c2] 24)) = W from hW.symm]
  clear hW
  go_cut [] (fun wx => Bx wx w.heap.size 24 (.bool (decide (z1 < 0))) (.slice x1 (lenB z1.natAbs) d1) ∧ Bx wx (w.heap.size + 1) 24 (.bool (decide (z2 < 0))) (.slice x2 (lenB z2.natAbs) d2) ∧ Below w.heap.size w wx)
  case first =>
    have HS1 := Lib.hid (fun (w' : World) (hb : Below W.heap.size W w') => And.intro (B1.below hb B1.lt).c0 (B1.below hb B1.lt).c1)
    have HS2 := Lib.hid (fun (w' : World) (hb : Below W.heap.size W w') => And.intro (B2.below hb B2.lt).c0 (B2.below hb B2.lt).c1)
    have HB1 := Lib.hid B1; have HB2 := Lib.hid B2
    clear B1 B2
    refine wp_region_fresh 4 (spOf [(1, Sp.know (numV (decide (z1 < 0)) x1 (lenB z1.natAbs) d1)), (3, Sp.know (numV (decide (z2 < 0)) x2 (lenB z2.natAbs) d2))]) (fun w' => Below W.heap.size W w') (by kernel_rfl) (by kernel_rfl)
      (spOf_cons (Sp.know_keeps _) (spOf_cons (Sp.know_keeps _) spOf_nil)) (fun _ _ h hb => h.trans (hb.mono h.size)) ((Below.refl _ _).drew) ?_
    simp only [List.take_succ_cons, List.take_zero, List.drop_succ_cons, List.drop_zero]
    (refine wpF_reads rfl rfl ?_ (fun w' hw' => ?_) ?_; rotate_left; · (have hb' := Has.world hw'; (have hs := HS1.out _ hb'); clear hw'; go_simp; try rfl))
    (refine wpF_spec rfl rfl (fun w' hw' => ?_) ?_; · (have hb' := Has.world hw'; go_simp; ((refine (HO1.out w' (G1.out.trans (hb'.mono G1.out.size))).mono ?_; rintro e w'' ⟨rfl, hb⟩; exact ⟨_, rfl, rfl, hb⟩))))
    rintro _ rfl
    (refine wpF_reads rfl rfl ?_ (fun w' hw' => ?_) ?_; rotate_left; · (have hb' := Has.world hw'; (have hs := HS2.out _ hb'); clear hw'; go_simp; try rfl))
    (refine wpF_spec rfl rfl (fun w' hw' => ?_) ?_; · (have hb' := Has.world hw'; go_simp; ((refine (HO2.out w' (G1.out.trans (hb'.mono G1.out.size))).mono ?_; rintro e w'' ⟨rfl, hb⟩; exact ⟨_, rfl, rfl, hb⟩))))
    rintro _ rfl
    refine wpF_nil (fun w1 hb1 hF => ?_)
    clear hF
    have C1 := HB1.out.below hb1 HB1.out.lt
    have C2 := HB2.out.below hb1 HB2.out.lt
    have G2 := G1.out.trans (hb1.mono G1.out.size)
    have K1 := Lib.hid C1; have K2 := Lib.hid C2
    obtain ⟨b10, b11, b12, b13⟩ := C1.all
    obtain ⟨b20, b21, b22, b23⟩ := C2.all
    have KG := Lib.hid G2
    clear C1 C2 hb1 HS1 HS2 G2
    go_wp2_with fail
    go_meet
    case rel =>
      exact ⟨((K1.out.set _ _).other (by dsimp only; omega) _).other (by dsimp only; omega) _, ((K2.out.other (by dsimp only; omega) _).other (by dsimp only; omega) _).set _ _  ,
        (((KG.out.setCell (by simp) _).setCell (by simp) _).setCell (by simp) _).setCell (by simp) _⟩
  case rest =>
    obtain ⟨B1, B2, G1⟩ := hcut
    obtain ⟨w1, rfl⟩ : ∃ w1, w1 = wc := ⟨_, rfl⟩
    have R1 := r1.below G1
    have R2 := r2.below G1
    have AM := Lib.hid (amounts_any z1.natAbs z2.natAbs x1 x2 d1 d2 w1 R1 R2 (by omega) (by omega))
    have AN := Lib.hid (amounts_any z2.natAbs z1.natAbs x2 x1 d2 d1 w1 R2 R1 (by omega) (by omega))
    have KG := Lib.hid G1
    have E := Lib.hid (cmpZ_amounts z1 z2)
    obtain ⟨b10, b11, b12, b13⟩ := B1.all
    obtain ⟨b20, b21, b22, b23⟩ := B2.all
    clear B1 B2 G1 R1 R2 r1 r2 h1 h2 HO1 HO2
    by_cases n1 : z1 < 0 <;> by_cases n2 : z2 < 0
    · have E2 := Lib.hid (E.out.trans (by rw [if_pos n1, if_pos n2]))
      rw [decide_eq_true n1] at b10
      rw [decide_eq_true n2] at b20
      clear n1 n2 E
      go_wp2_with fail
      refine AN.out.mono ?_
      rintro e w2 ⟨rfl, m, rfl⟩
      go_wp2
      go_ret
      exact ⟨by rw [E2.out]; rfl, bdrewN KG.out m⟩
    · have E2 := Lib.hid (E.out.trans (by rw [if_pos n1, if_neg n2]))
      rw [decide_eq_true n1] at b10
      rw [decide_eq_false n2] at b20
      clear n1 n2 E
      go_wp2
      go_ret
      exact ⟨by rw [E2.out]; rfl, KG.out⟩
    · have E2 := Lib.hid (E.out.trans (by rw [if_neg n1, if_pos n2]))
      rw [decide_eq_false n1] at b10
      rw [decide_eq_true n2] at b20
      clear n1 n2 E
      go_wp2
      go_ret
      exact ⟨by rw [E2.out]; rfl, KG.out⟩
    · have E2 := Lib.hid (E.out.trans (by rw [if_neg n1, if_neg n2]))
      rw [decide_eq_false n1] at b10
      rw [decide_eq_false n2] at b20
      clear n1 n2 E
      go_wp2_with fail
      refine AM.out.mono ?_
      rintro e w2 ⟨rfl, m, rfl⟩
      go_wp2
      go_ret
      exact ⟨by rw [E2.out]; rfl, bdrewN KG.out m⟩

theorem valN_none : valN false 0 (fun _ => 0) = 0 := by
  unfold valN
  split <;> rfl
set_option maxHeartbeats 400000 in
theorem sign_any (s1 : Bool) (a1 : Option Addr) (n1 c1 : Nat) (o1 : Nat → Int) (w : World) (h1 : Rd w a1 n1 o1) (hn1 : n1 ≤ 100000000) (hc1 : n1 ≤ c1) :
    Calls Tryz.prog 13 #[numV s1 a1 n1 c1] w fun e w' => e = .returned (.int .i64 (cmpZ (valN s1 n1 o1) 0)) ∧ Below w.heap.size w w' := by
  have HR := Lib.hid h1
  clear h1
  go_enter Tryz.func13, Tryz.ntmps13
  go_wp2_with fail
  refine (cmp_any s1 a1 n1 c1 o1 false none 0 0 (fun _ => 0) _ (HR.out.below (w' := _) ?_) hn1 hc1 (Rd.nil _ _ _) (by omega) (Nat.le_refl _)).mono ?_
  · (repeat' (first | (with_reducible exact Below.refl _ _) | (with_reducible assumption) | (with_reducible refine Below.alloc ?_ ?_ _) | (with_reducible refine Below.drew ?_) | (with_reducible refine bdrewN ?_ _) | (with_reducible refine Below.setCell ?_ ?_ _) | (with_reducible refine Below.frame ?_ _) | go_size))
  rw [valN_none]
  rintro e w1 ⟨rfl, hb1⟩
  have G1 := ((Below.refl _ _).alloc (by go_size) _).trans (hb1.mono (by go_size))
  clear hb1
  go_wp2
  go_ret
  exact ⟨rfl, G1⟩
end Go.Proofs.YtebobpbcllideaaGreatDoor.Limb
