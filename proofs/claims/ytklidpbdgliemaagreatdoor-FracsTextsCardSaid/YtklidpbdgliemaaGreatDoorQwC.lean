/-
  The walk of a Book's fillLimb: marks into all lists.
-/
import Derived.Test.YtklidpbdgliemaaGreatDoorQwB
import Derived.Laws.OwnMore
import Derived.Deep.DeepCutAuto
set_option linter.unusedSimpArgs false
set_option linter.unusedVariables false
namespace Go.Proofs.YtklidpbdgliemaaGreatDoor.Limb
open Go.RowKit Go.Sort Go.Fresh
theorem own_clone {T L b : Nat} {x : Option Addr × Nat} {o : Nat → Int} {w : World} (h : ∃ y : Option Addr × Nat, Value.slice x.1 L x.2 = .slice y.1 L y.2 ∧ Own T w b y.1 L y.2 o ∧ (y.1 = none → y.2 = 0)) : Own T w b x.1 L x.2 o ∧ (x.1 = none → x.2 = 0) := by
  obtain ⟨y, e, h⟩ := h
  simp only [Value.slice.injEq] at e
  rw [e.1, e.2.2]
  exact h
theorem pos_len {z : Int} : 0 < lenB z.natAbs ↔ z ≠ 0 := by
  constructor
  · intro h1 h2; rw [h2, show Int.natAbs 0 = 0 from rfl, lenB_zero] at h1; omega
  · intro h1
    rcases Nat.eq_zero_or_pos (lenB z.natAbs) with h2 | h2
    · have := lenB_eq_zero.1 h2; omega
    · exact h2
theorem neg_sign (z : Int) : ((!decide (z < 0)) && decide (0 < lenB z.natAbs)) = decide (-z < 0) := by
  have e0 := pos_len (z := z)
  by_cases h1 : z < 0
  · simp only [h1, decide_true, Bool.not_true, Bool.false_and]
    exact (decide_eq_false (by omega)).symm
  · simp only [h1, decide_false, Bool.not_false, Bool.true_and]
    exact decide_eq_decide.2 (e0.trans (by omega))
set_option maxHeartbeats 1000000 in
theorem neg_any (s1 : Bool) (a1 : Option Addr) (n1 c1 : Nat) (o1 : Nat → Int) (w : World)
    (h1 : Rd w a1 n1 o1) (hn1 : n1 ≤ 100000000) (hc1 : n1 ≤ c1) :
    Calls Tryz.prog 111 #[numV s1 a1 n1 c1] w (ResN w (- valN s1 n1 o1)) := by
  obtain ⟨x2, d2, r2, l2, m2, O2⟩ := of_any s1 a1 n1 c1 o1 w h1 (by omega) hc1
  generalize valN s1 n1 o1 = z2 at r2 l2 m2 O2 ⊢
  have HO2 := Lib.hid O2
  have HR2 := Lib.hid r2
  have HB1 := Lib.hid ((Bx.new w 24 (.bool s1) (.slice a1 n1 c1)).alloc (.cells #[.bool false, .slice none 0 0] 24))
  have HB2 := Lib.hid (Bx.new2 w (.cells #[.bool s1, .slice a1 n1 c1] 24) 24 (.bool false) (.slice none 0 0))
  clear O2 h1 r2
  go_enter Tryz.func111, Tryz.ntmps111
  go_wp2_with fail
  refine (HO2.out _ ?_).mono ?_
  · (repeat' (first | (with_reducible exact Below.refl _ _) | (with_reducible assumption) | (with_reducible refine Below.alloc ?_ ?_ _) | (with_reducible refine Below.drew ?_) | (with_reducible refine bdrewN ?_ _) | (with_reducible refine Below.setCell ?_ ?_ _) | (with_reducible refine Below.frame ?_ _) | go_size))
  rintro e w1 ⟨rfl, hb1⟩
  have B1 := HB1.out.below hb1 HB1.out.lt
  have B2 := HB2.out.below hb1 HB2.out.lt
  have G1 := Lib.hid (((Below.refl _ _).alloc (by go_size) _ |>.alloc (by go_size) _).trans (hb1.mono (by go_size)) : Below w.heap.size w w1)
  have K1 := Lib.hid B1; have K2 := Lib.hid B2
  obtain ⟨b10, b11, b12, b13⟩ := B1.all
  clear HB1 HB2 B1 B2 hb1
  go_upto_region 2 with (fail)
  obtain ⟨W, hW⟩ : ∃ W, W = ((w1.setCell ⟨w.heap.size, 0, none⟩ (.bool (decide (z2 < 0)))).setCell ⟨w.heap.size, 1, none⟩ (.slice x2 (lenB z2.natAbs) d2)) := ⟨_, rfl⟩
  rw [← hW]
  have HB1 := Lib.hid (K1.out.set (.bool (decide (z2 < 0))) (.slice x2 (lenB z2.natAbs) d2))
  have HB2 := Lib.hid ((K2.out.other (a := ⟨w.heap.size, 0, none⟩) (by dsimp only; omega) (.bool (decide (z2 < 0)))).other (a := ⟨w.heap.size, 1, none⟩) (by dsimp only; omega) (.slice x2 (lenB z2.natAbs) d2))
  have HG := Lib.hid ((G1.out.setCell (p := ⟨w.heap.size, 0, none⟩) (Nat.le_refl _) (.bool (decide (z2 < 0)))).setCell (p := ⟨w.heap.size, 1, none⟩) (Nat.le_refl _) (.slice x2 (lenB z2.natAbs) d2))
  rw [← hW] at HB1 HB2 HG
  clear hW b10 b11 b12 b13 K1 K2 G1
  have HS1 := Lib.hid (fun (w' : World) (hb : Below W.heap.size W w') => And.intro (HB1.out.below hb HB1.out.lt).c0 (HB1.out.below hb HB1.out.lt).c1)
  have CL := Lib.hid (fun (w' : World) (hb : Below W.heap.size W w') => clone_any x2 (lenB z2.natAbs) d2 (dgi z2.natAbs) w' (HR2.out.below (HG.out.trans (hb.mono HG.out.size))) (by omega))
  have CUT := Lib.hid (fun (w' : World) (x : Option Addr × Nat) (ho : Own 80 w' W.heap.size x.1 (lenB z2.natAbs) x.2 (dgi z2.natAbs)) (hx : x.1 = none → x.2 = 0) => cut_any (!decide (z2 < 0)) x.1 (lenB z2.natAbs) x.2 (dgi z2.natAbs) w' ho.rd (dgi_Dig _ _) (by omega) ho.le hx)
  rw [sumB_dgi, Int.toNat_natCast, neg_sign] at CUT
  obtain ⟨sB, hsB⟩ : ∃ sB, sB = decide (-z2 < 0) := ⟨_, rfl⟩
  rw [← hsB] at CUT
  have HSB := Lib.hid hsB
  clear hsB
  refine wp_region_fresh 7 (spOf [(5, Sp.made (fun x : Option Addr × Nat => .slice x.1 (lenB z2.natAbs) x.2) (fun x w' => Own 80 w' W.heap.size x.1 (lenB z2.natAbs) x.2 (dgi z2.natAbs) ∧ (x.1 = none → x.2 = 0))),
      (6, Sp.made (fun a : Option Addr => numV sB a (lenB z2.natAbs) (lenB z2.natAbs)) (fun a w' => Own 80 w' W.heap.size a (lenB z2.natAbs) (lenB z2.natAbs) (dgi z2.natAbs) ∧ (a = none → lenB z2.natAbs = 0)))])
    (fun w' => Below W.heap.size W w') (by kernel_rfl) (by kernel_rfl)
    (spOf_cons (Sp.made_keeps fun x w w' h hb => ⟨h.1.below hb, h.2⟩) (spOf_cons (Sp.made_keeps fun x w w' h hb => ⟨h.1.below hb, h.2⟩) spOf_nil)) (fun _ _ h hb => h.trans (hb.mono h.size)) ((Below.refl _ _).drew) ?_
  simp only [List.take_succ_cons, List.take_zero, List.drop_succ_cons, List.drop_zero]
  (refine wpF_reads rfl rfl ?_ (fun w' hw' => ?_) ?_; rotate_left; · (have hb' := Has.world hw'; (skip); clear hw'; go_simp; try rfl))
  (refine wpF_reads rfl rfl ?_ (fun w' hw' => ?_) ?_; rotate_left; · (have hb' := Has.world hw'; (have hs := HS1.out _ hb'); clear hw'; go_simp; try rfl))
  (refine wpF_reads rfl rfl ?_ (fun w' hw' => ?_) ?_; rotate_left; · (have hb' := Has.world hw'; (skip); clear hw'; go_simp; try rfl))
  (refine wpF_reads rfl rfl ?_ (fun w' hw' => ?_) ?_; rotate_left; · (have hb' := Has.world hw'; (skip); clear hw'; go_simp; try rfl))
  (refine wpF_reads rfl rfl ?_ (fun w' hw' => ?_) ?_; rotate_left; · (have hb' := Has.world hw'; (have hs := HS1.out _ hb'); clear hw'; go_simp; try rfl))
  (refine wpF_spec rfl rfl (fun w' hw' => ?_) ?_; · (have hb' := Has.world hw'; go_simp; ((refine (CL.out w' hb').mono ?_; rintro e w'' ⟨a', cap', rfl, ho, hn, hb⟩; exact ⟨_, rfl, ⟨⟨a', cap', rfl⟩, ⟨a', cap', rfl, ho.mono hb'.size, hn⟩⟩, hb⟩))))
  rintro _ ⟨x, rfl⟩
  (refine wpF_spec rfl rfl (fun w' hw' => ?_) ?_; · (have hb' := Has.world hw'; go_simp; ((have h7 := own_clone (x := x) (L := lenB z2.natAbs) (T := 80) (o := dgi z2.natAbs) (b := W.heap.size) (hw'.fact 5 (by kernel_rfl)); refine (CUT.out w' x h7.1 h7.2).mono ?_; rintro e w'' ⟨rfl, hb⟩; exact ⟨_, rfl, ⟨⟨_, rfl⟩, ⟨_, rfl, (h7.1.below hb).cut (Nat.le_refl _) (fun _ _ => rfl), fun h => by have := h7.1.le; have := h7.2 h; omega⟩⟩, hb⟩))))
  rintro _ ⟨a, rfl⟩
  refine wpF_nil (fun w5 hb5 hF5 => ?_)
  have OA := own_num (T := 80) (b := W.heap.size) (s := sB) (L := lenB z2.natAbs) (o := dgi z2.natAbs) (a := a) (p := fun x => x = none → lenB z2.natAbs = 0) (hF5 6)
  have HO := Lib.hid OA
  have B2 := HB2.out.below hb5 HB2.out.lt
  have HB5 := Lib.hid B2
  obtain ⟨b30, b31, b32, b33⟩ := B2.all
  have HG5 := Lib.hid (HG.out.trans (hb5.mono HG.out.size))
  have hz4 := HB2.out.lt
  have hz5 := HG.out.size
  clear hF5 OA B2 hb5 HS1 CL CUT
  go_wp2_with fail
  unfold ResN
  rw [Int.natAbs_neg, ← HSB.out]
  refine bodyPost_ret (results_cell rfl _ _ _ _ _ _ _ rfl (HB5.out.set _ _) Tryz.underlying24 rfl (by kernel_rfl)) rfl ⟨a, rfl, ?_, HO.out.2, ?_⟩
  · exact ((HO.out.1.other (by dsimp only; omega) _).other (by dsimp only; omega) _).mono hz5
  · exact (HG5.out.setCell (by dsimp only; omega) _).setCell (by dsimp only; omega) _
theorem cmpZ_amounts (x y : Int) : cmpZ x y = if x < 0 then (if y < 0 then cmpZ (y.natAbs : Int) (x.natAbs : Int) else -1) else if y < 0 then 1 else cmpZ (x.natAbs : Int) (y.natAbs : Int) := by
  by_cases h1 : x < 0 <;> by_cases h2 : y < 0
  · rw [if_pos h1, if_pos h2]; exact cmpZ_congr (by omega) (by omega)
  · rw [if_pos h1, if_neg h2]; exact cmpZ_lt (by omega)
  · rw [if_neg h1, if_pos h2]; exact cmpZ_gt (by omega)
  · rw [if_neg h1, if_neg h2]; exact cmpZ_congr (by omega) (by omega)
set_option maxHeartbeats 1000000 in
theorem cmp_any (s1 : Bool) (a1 : Option Addr) (n1 c1 : Nat) (o1 : Nat → Int) (s2 : Bool) (a2 : Option Addr) (n2 c2 : Nat) (o2 : Nat → Int) (w : World)
    (h1 : Rd w a1 n1 o1) (hn1 : n1 ≤ 100000000) (hc1 : n1 ≤ c1) (h2 : Rd w a2 n2 o2) (hn2 : n2 ≤ 100000000) (hc2 : n2 ≤ c2) :
    Calls Tryz.prog 102 #[numV s1 a1 n1 c1, numV s2 a2 n2 c2] w fun e w' => e = .returned (.int .i64 (cmpZ (valN s1 n1 o1) (valN s2 n2 o2))) ∧ Below w.heap.size w w' := by
  obtain ⟨x1, d1, r1, l1, m1, O1⟩ := of_any s1 a1 n1 c1 o1 w h1 (by omega) hc1
  obtain ⟨x2, d2, r2, l2, m2, O2⟩ := of_any s2 a2 n2 c2 o2 w h2 (by omega) hc2
  generalize valN s1 n1 o1 = z1 at r1 l1 m1 O1 ⊢
  have HO1 := Lib.hid O1; clear O1
  generalize valN s2 n2 o2 = z2 at r2 l2 m2 O2 ⊢
  have HO2 := Lib.hid O2; clear O2
  have B1 := ((Bx.new w 24 (.bool s1) (.slice a1 n1 c1)).alloc (.cells #[.bool s2, .slice a2 n2 c2] 24))
  have B2 := (Bx.new2 w (.cells #[.bool s1, .slice a1 n1 c1] 24) 24 (.bool s2) (.slice a2 n2 c2))
  go_enter Tryz.func102, Tryz.ntmps102
  go_upto_region 1 with (fail)
  obtain ⟨W, hW⟩ : ∃ W, W = ((w.alloc (.cells #[.bool s1, .slice a1 n1 c1] 24)).alloc (.cells #[.bool s2, .slice a2 n2 c2] 24)) := ⟨_, rfl⟩
  have G1 := Lib.hid (((Below.refl _ _).alloc (by go_size) _ |>.alloc (by go_size) _) : Below w.heap.size w ((w.alloc (.cells #[.bool s1, .slice a1 n1 c1] 24)).alloc (.cells #[.bool s2, .slice a2 n2 c2] 24)))
  rw [← hW] at B1 B2 G1
  rw [show ((w.alloc (.cells #[.bool s1, .slice a1 n1 c1] 24)).alloc (.cells #[.bool s2, .slice a2 n2 c2] 24)) = W from hW.symm]
  clear hW
  go_cut [] (fun wx => Bx wx w.heap.size 24 (.bool (decide (z1 < 0))) (.slice x1 (lenB z1.natAbs) d1) ∧ Bx wx (w.heap.size + 1) 24 (.bool (decide (z2 < 0))) (.slice x2 (lenB z2.natAbs) d2) ∧ Below w.heap.size w wx)
  case first =>
    have HS1 := Lib.hid (fun (w' : World) (hb : Below W.heap.size W w') => And.intro (B1.below hb B1.lt).c0 (B1.below hb B1.lt).c1)
    have HS2 := Lib.hid (fun (w' : World) (hb : Below W.heap.size W w') => And.intro (B2.below hb B2.lt).c0 (B2.below hb B2.lt).c1)
    have HB1 := Lib.hid B1; have HB2 := Lib.hid B2
    clear B1 B2
    refine wp_region_fresh 4 (spOf [(1, Sp.know (numV (decide (z1 < 0)) x1 (lenB z1.natAbs) d1)), (3, Sp.know (numV (decide (z2 < 0)) x2 (lenB z2.natAbs) d2))]) (fun w' => Below W.heap.size W w') (by kernel_rfl) (by kernel_rfl)
      (spOf_cons (Sp.know_keeps _) (spOf_cons (Sp.know_keeps _) spOf_nil)) (fun _ _ h hb => h.trans (hb.mono h.size)) ((Below.refl _ _).drew) ?_
    simp only [List.take_succ_cons, List.take_zero, List.drop_succ_cons, List.drop_zero]
    (refine wpF_reads rfl rfl ?_ (fun w' hw' => ?_) ?_; rotate_left; · (have hb' := Has.world hw'; (have hs := HS1.out _ hb'); clear hw'; go_simp; try rfl))
    (refine wpF_spec rfl rfl (fun w' hw' => ?_) ?_; · (have hb' := Has.world hw'; go_simp; ((refine (HO1.out w' (G1.out.trans (hb'.mono G1.out.size))).mono ?_; rintro e w'' ⟨rfl, hb⟩; exact ⟨_, rfl, rfl, hb⟩))))
    rintro _ rfl
    (refine wpF_reads rfl rfl ?_ (fun w' hw' => ?_) ?_; rotate_left; · (have hb' := Has.world hw'; (have hs := HS2.out _ hb'); clear hw'; go_simp; try rfl))
    (refine wpF_spec rfl rfl (fun w' hw' => ?_) ?_; · (have hb' := Has.world hw'; go_simp; ((refine (HO2.out w' (G1.out.trans (hb'.mono G1.out.size))).mono ?_; rintro e w'' ⟨rfl, hb⟩; exact ⟨_, rfl, rfl, hb⟩))))
    rintro _ rfl
    refine wpF_nil (fun w1 hb1 hF => ?_)
    clear hF
    have C1 := HB1.out.below hb1 HB1.out.lt
    have C2 := HB2.out.below hb1 HB2.out.lt
    have G2 := G1.out.trans (hb1.mono G1.out.size)
    have K1 := Lib.hid C1; have K2 := Lib.hid C2
    obtain ⟨b10, b11, b12, b13⟩ := C1.all
    obtain ⟨b20, b21, b22, b23⟩ := C2.all
    have KG := Lib.hid G2
    clear C1 C2 hb1 HS1 HS2 G2
    go_wp2_with fail
    go_meet
    case rel =>
      exact ⟨((K1.out.set _ _).other (by dsimp only; omega) _).other (by dsimp only; omega) _, ((K2.out.other (by dsimp only; omega) _).other (by dsimp only; omega) _).set _ _  ,
        (((KG.out.setCell (by simp) _).setCell (by simp) _).setCell (by simp) _).setCell (by simp) _⟩
  case rest =>
    obtain ⟨B1, B2, G1⟩ := hcut
    obtain ⟨w1, rfl⟩ : ∃ w1, w1 = wc := ⟨_, rfl⟩
    have R1 := r1.below G1
    have R2 := r2.below G1
    have AM := Lib.hid (amounts_any z1.natAbs z2.natAbs x1 x2 d1 d2 w1 R1 R2 (by omega) (by omega))
    have AN := Lib.hid (amounts_any z2.natAbs z1.natAbs x2 x1 d2 d1 w1 R2 R1 (by omega) (by omega))
    have KG := Lib.hid G1
    have E := Lib.hid (cmpZ_amounts z1 z2)
    obtain ⟨b10, b11, b12, b13⟩ := B1.all
    obtain ⟨b20, b21, b22, b23⟩ := B2.all
    clear B1 B2 G1 R1 R2 r1 r2 h1 h2 HO1 HO2
    by_cases n1 : z1 < 0 <;> by_cases n2 : z2 < 0
    · have E2 := Lib.hid (E.out.trans (by rw [if_pos n1, if_pos n2]))
      rw [decide_eq_true n1] at b10
      rw [decide_eq_true n2] at b20
      clear n1 n2 E
      go_wp2_with fail
      refine AN.out.mono ?_
      rintro e w2 ⟨rfl, m, rfl⟩
      go_wp2
      go_ret
      exact ⟨by rw [E2.out]; rfl, bdrewN KG.out m⟩
    · have E2 := Lib.hid (E.out.trans (by rw [if_pos n1, if_neg n2]))
      rw [decide_eq_true n1] at b10
      rw [decide_eq_false n2] at b20
      clear n1 n2 E
      go_wp2
      go_ret
      exact ⟨by rw [E2.out]; rfl, KG.out⟩
    · have E2 := Lib.hid (E.out.trans (by rw [if_neg n1, if_pos n2]))
      rw [decide_eq_false n1] at b10
      rw [decide_eq_true n2] at b20
      clear n1 n2 E
      go_wp2
      go_ret
      exact ⟨by rw [E2.out]; rfl, KG.out⟩
    · have E2 := Lib.hid (E.out.trans (by rw [if_neg n1, if_neg n2]))
      rw [decide_eq_false n1] at b10
      rw [decide_eq_false n2] at b20
      clear n1 n2 E
      go_wp2_with fail
      refine AM.out.mono ?_
      rintro e w2 ⟨rfl, m, rfl⟩
      go_wp2
      go_ret
      exact ⟨by rw [E2.out]; rfl, bdrewN KG.out m⟩
theorem valN_none : valN false 0 (fun _ => 0) = 0 := by
  unfold valN
  split <;> rfl
set_option maxHeartbeats 400000 in
theorem sign_any (s1 : Bool) (a1 : Option Addr) (n1 c1 : Nat) (o1 : Nat → Int) (w : World) (h1 : Rd w a1 n1 o1) (hn1 : n1 ≤ 100000000) (hc1 : n1 ≤ c1) :
    Calls Tryz.prog 31 #[numV s1 a1 n1 c1] w fun e w' => e = .returned (.int .i64 (cmpZ (valN s1 n1 o1) 0)) ∧ Below w.heap.size w w' := by
  have HR := Lib.hid h1
  clear h1
  go_enter Tryz.func31, Tryz.ntmps31
  go_wp2_with fail
  refine (cmp_any s1 a1 n1 c1 o1 false none 0 0 (fun _ => 0) _ (HR.out.below (w' := _) ?_) hn1 hc1 (Rd.nil _ _ _) (by omega) (Nat.le_refl _)).mono ?_
  · (repeat' (first | (with_reducible exact Below.refl _ _) | (with_reducible assumption) | (with_reducible refine Below.alloc ?_ ?_ _) | (with_reducible refine Below.drew ?_) | (with_reducible refine bdrewN ?_ _) | (with_reducible refine Below.setCell ?_ ?_ _) | (with_reducible refine Below.frame ?_ _) | go_size))
  rw [valN_none]
  rintro e w1 ⟨rfl, hb1⟩
  have G1 := ((Below.refl _ _).alloc (by go_size) _).trans (hb1.mono (by go_size))
  clear hb1
  go_wp2
  go_ret
  exact ⟨rfl, G1⟩
open Classical in
set_option maxHeartbeats 1000000 in
theorem rcheck_any (s : Bool) (a : Option Addr) (n cap : Nat) (o : Nat → Int) (w : World) (h : Rd w a n o) (hn : n ≤ 1000000000) :
    Calls Tryz.prog 47 #[numV s a n cap] w fun e w' => e = .returned (.bool (decide (okN s n o))) ∧ Below w.heap.size w w' := by
  obtain ⟨k0, hk0, hf, hb⟩ := first_bad o n
  have HF := Lib.hid hf
  have HB := Lib.hid hb
  have HR := Lib.hid h
  have EN := Lib.hid (fun (hk : k0 < n) => show decide (okN s n o) = false from decide_eq_false fun hh => by have := hh.1 k0 hk; have := hb hk; omega)
  have E0 := Lib.hid (fun (h0 : n = 0) => show decide (okN s n o) = !s by
        subst h0
        cases s with
        | false => exact decide_eq_true ⟨fun i hi => by omega, fun _ => rfl, fun h => by omega⟩
        | true => exact decide_eq_false fun hh => by have := hh.2.1 rfl; contradiction)
  have E1 := Lib.hid (fun (h0 : 0 < n) (hk : ¬ k0 < n) => show decide (okN s n o) = (o (n - 1) != 0) by
        by_cases hz : o (n - 1) = 0
        · rw [hz]; exact decide_eq_false fun hh => hh.2.2 (by omega) hz
        · rw [show (o (n - 1) != 0) = true by simpa using hz]
          exact decide_eq_true ⟨fun i hi => hf i (by omega), fun h => by omega, fun _ => hz⟩)
  clear hf hb h
  go_enter Tryz.func47, Tryz.ntmps47
  go_wp2_with fail
  go_loopw [3] (fun i wr => ∃ j : Nat, j ≤ k0 ∧ i = .int .i64 j ∧ wr = w.alloc (.cells #[.bool s, .slice a n cap] 24)) (fun i _ => n - (intOf i).toNat)
  case atStart => exact ⟨0, by omega, rfl, rfl⟩
  case round =>
    obtain ⟨j, hj, rfl, rfl⟩ := hrel
    by_cases hjn : j < n
    · obtain ⟨b, off, rfl, hc⟩ := HR.out.cells (by omega)
      have c1 : w.cell? ⟨b, off + j, none⟩ = some (.int .u32 (o j)) := hc j hjn
      have hlt : b < w.heap.size := block_lt_of_cell c1
      clear hc
      by_cases hjk : j < k0
      · have D := HF.out j hjk
        go_wp2_with fail
        go_roundw
        case rel => exact ⟨j + 1, by omega, by go_num, by trivial⟩
        case measure => simp [intOf]; omega
      · obtain rfl : j = k0 := by omega
        have D := HB.out hjn
        go_wp2_with fail
        go_ret
        exact ⟨by rw [EN.out hjn]; rfl, by (repeat' (first | (with_reducible exact Below.refl _ _) | (with_reducible assumption) | (with_reducible refine Below.alloc ?_ ?_ _) | (with_reducible refine Below.drew ?_) | (with_reducible refine bdrewN ?_ _) | (with_reducible refine Below.setCell ?_ ?_ _) | (with_reducible refine Below.frame ?_ _) | go_size))⟩
    · have hkn : ¬ k0 < n := by omega
      obtain rfl : j = n := by omega
      by_cases h0 : j = 0
      · have E := Lib.hid (E0.out h0)
        subst h0
        go_wp2_with fail
        go_ret
        exact ⟨by rw [E.out]; rfl, by (repeat' (first | (with_reducible exact Below.refl _ _) | (with_reducible assumption) | (with_reducible refine Below.alloc ?_ ?_ _) | (with_reducible refine Below.drew ?_) | (with_reducible refine bdrewN ?_ _) | (with_reducible refine Below.setCell ?_ ?_ _) | (with_reducible refine Below.frame ?_ _) | go_size))⟩
      · obtain ⟨q, rfl⟩ : ∃ q, j = q + 1 := ⟨j - 1, by omega⟩
        have E := Lib.hid (E1.out (by omega) hkn)
        obtain ⟨b, off, rfl, hc⟩ := HR.out.cells (by omega)
        have c1 : w.cell? ⟨b, off + q, none⟩ = some (.int .u32 (o q)) := hc q (by omega)
        have hlt : b < w.heap.size := block_lt_of_cell c1
        have ex : ((q + 1 : Nat) : Int) - 1 = (q : Int) := by omega
        have ez : (decide (((q + 1 : Nat) : Int) = 0)) = false := by simp; omega
        clear hc
        go_wp2_with fail
        go_ret
        exact ⟨by rw [E.out]; rfl, by (repeat' (first | (with_reducible exact Below.refl _ _) | (with_reducible assumption) | (with_reducible refine Below.alloc ?_ ?_ _) | (with_reducible refine Below.drew ?_) | (with_reducible refine bdrewN ?_ _) | (with_reducible refine Below.setCell ?_ ?_ _) | (with_reducible refine Below.frame ?_ _) | go_size))⟩
open Classical in
set_option maxHeartbeats 1000000 in
theorem fit_any (s : Bool) (a : Option Addr) (n cap : Nat) (o : Nat → Int) (w : World) (h : Rd w a n o) (hn : n ≤ 1000000000) (hcap : n ≤ cap) :
    ∃ a' cap', Rd w a' (lenB (valN s n o).natAbs) (dgi (valN s n o).natAbs) ∧ lenB (valN s n o).natAbs ≤ n ∧ lenB (valN s n o).natAbs ≤ cap' ∧
      ∀ w1, Below w.heap.size w w1 → Calls Tryz.prog 120 #[numV s a n cap] w1 fun e w' => e = .returned (numV (decide (valN s n o < 0)) a' (lenB (valN s n o).natAbs) cap') ∧ Below w1.heap.size w1 w' := by
  by_cases hk : okN s n o
  · obtain ⟨f1, f2, f3⟩ := of_facts s n o hk h.rng
    rw [f1, f2]
    refine ⟨a, cap, h.congr f3, Nat.le_refl _, hcap, fun w1 hb1 => ?_⟩
    have C := Lib.hid (fun (w2 : World) (hw : Below w1.heap.size w1 w2) => rcheck_any s a n cap o w2 (h.below (hb1.trans (hw.mono hb1.size))) hn)
    rw [decide_eq_true hk] at C
    clear h f1 f2 f3 hk hb1
    go_enter Tryz.func120, Tryz.ntmps120
    go_wp2_with fail
    refine (C.out _ ?_).mono ?_
    · (repeat' (first | (with_reducible exact Below.refl _ _) | (with_reducible assumption) | (with_reducible refine Below.alloc ?_ ?_ _) | (with_reducible refine Below.drew ?_) | (with_reducible refine bdrewN ?_ _) | (with_reducible refine Below.setCell ?_ ?_ _) | (with_reducible refine Below.frame ?_ _) | go_size))
    rintro e w2 ⟨rfl, hb2⟩
    have B1 := ((Bx.new w1 24 (.bool s) (.slice a n cap)).alloc (.cells #[.bool false, .slice none 0 0] 24)).below hb2 (by simp; omega)
    have B2 := (Bx.new2 w1 (.cells #[.bool s, .slice a n cap] 24) 24 (.bool false) (.slice none 0 0)).below hb2 (by simp)
    have hb0 : Below w1.heap.size w1 w2 := ((Below.refl _ _).alloc (Nat.le_refl _) _ |>.alloc (by go_size) _).trans (hb2.mono (by go_size))
    obtain ⟨b10, b11, b12, b13⟩ := B1.all
    obtain ⟨b20, b21, b22, b23⟩ := B2.all
    have HB := Lib.hid B2
    clear hb2 B1 B2
    go_wp2
    refine bodyPost_ret (results_cell rfl _ _ _ _ _ _ _ rfl (HB.out.set _ _) Tryz.underlying24 rfl (by kernel_rfl)) rfl ⟨rfl, ?_⟩
    (repeat' (first | (with_reducible exact Below.refl _ _) | (with_reducible assumption) | (with_reducible refine Below.alloc ?_ ?_ _) | (with_reducible refine Below.drew ?_) | (with_reducible refine bdrewN ?_ _) | (with_reducible refine Below.setCell ?_ ?_ _) | (with_reducible refine Below.frame ?_ _) | go_size))
  · rw [show valN s n o = 0 from valN_not hk]
    rw [show (Int.natAbs 0) = 0 from rfl, lenB_zero, show decide ((0 : Int) < 0) = false from rfl]
    refine ⟨none, 0, Rd.nil _ _ _, Nat.zero_le _, Nat.le_refl _, fun w1 hb1 => ?_⟩
    have C := Lib.hid (fun (w2 : World) (hw : Below w1.heap.size w1 w2) => rcheck_any s a n cap o w2 (h.below (hb1.trans (hw.mono hb1.size))) hn)
    rw [decide_eq_false hk] at C
    clear h hk hb1
    go_enter Tryz.func120, Tryz.ntmps120
    go_wp2_with fail
    refine (C.out _ ?_).mono ?_
    · (repeat' (first | (with_reducible exact Below.refl _ _) | (with_reducible assumption) | (with_reducible refine Below.alloc ?_ ?_ _) | (with_reducible refine Below.drew ?_) | (with_reducible refine bdrewN ?_ _) | (with_reducible refine Below.setCell ?_ ?_ _) | (with_reducible refine Below.frame ?_ _) | go_size))
    rintro e w2 ⟨rfl, hb2⟩
    have B2 := (Bx.new2 w1 (.cells #[.bool s, .slice a n cap] 24) 24 (.bool false) (.slice none 0 0)).below hb2 (by simp)
    have hb0 : Below w1.heap.size w1 w2 := ((Below.refl _ _).alloc (Nat.le_refl _) _ |>.alloc (by go_size) _).trans (hb2.mono (by go_size))
    obtain ⟨b20, b21, b22, b23⟩ := B2.all
    have HB := Lib.hid B2
    clear hb2 B2
    go_wp2
    refine bodyPost_ret (results_cell rfl _ _ _ _ _ _ _ rfl (HB.out.set _ _) Tryz.underlying24 rfl (by kernel_rfl)) rfl ⟨rfl, ?_⟩
    (repeat' (first | (with_reducible exact Below.refl _ _) | (with_reducible assumption) | (with_reducible refine Below.alloc ?_ ?_ _) | (with_reducible refine Below.drew ?_) | (with_reducible refine bdrewN ?_ _) | (with_reducible refine Below.setCell ?_ ?_ _) | (with_reducible refine Below.frame ?_ _) | go_size))
theorem rows_upd {w : World} {g n j : Nat} {p : Nat → Int} (h : w.rowIs g 80 n (uc p)) (v : Int) : (w.setCell ⟨g, j, none⟩ (.int .u32 v)).rowIs g 80 n (uc (upd p j v)) :=
  (h.set j (.int .u32 v)).congr fun i hi => by
    by_cases e : i = j
    · subst e; rw [if_pos rfl]; show _ = Value.int .u32 (upd p i v i); rw [upd_same]
    · rw [if_neg e]; show Value.int .u32 (p i) = Value.int .u32 (upd p j v i); rw [upd_ne p v e]
set_option maxHeartbeats 1000000 in
theorem order_any (x y : Nat) (a b : Option Addr) (ca cb : Nat) (w : World) (ha : Rd w a (lenB x) (dgi x)) (hb : Rd w b (lenB y) (dgi y)) (hx : lenB x ≤ 1000000000) (hy : lenB y ≤ 1000000000) :
    Calls Tryz.prog 208 #[.slice a (lenB x) ca, .slice b (lenB y) cb] w fun e w' => e = .returned (.int .i64 (cmpZ x y)) ∧ ∃ m, w' = w.drewN m := by
  obtain ⟨k0, hD⟩ := topDiff_any (dgi x) (dgi y) (lenB x)
  have TC := Lib.hid (fun (h : lenB x = lenB y) => by
    have hC := topDiff_cmp (dgi_Dig x _) (dgi_Dig y _) hD
    rw [sumB_dgi, show sumB (dgi y) (lenB x) = y by rw [h]; exact sumB_dgi y] at hC
    exact hC)
  have CL := Lib.hid (And.intro (fun (h : lenB x < lenB y) => (cmpZ_lt (by have := cmp_len h; omega) : cmpZ x y = -1)) (fun (h : lenB y < lenB x) => (cmpZ_gt (by have := cmp_len h; omega) : cmpZ x y = 1)))
  obtain ⟨hk0, heq, hne⟩ := hD
  have EQ := Lib.hid heq
  have NE := Lib.hid hne
  have HA := Lib.hid ha; have HB := Lib.hid hb
  clear heq hne ha hb
  obtain ⟨fx, hfx⟩ : ∃ fx, fx = dgi x := ⟨_, rfl⟩
  obtain ⟨fy, hfy⟩ : ∃ fy, fy = dgi y := ⟨_, rfl⟩
  rw [← hfx] at TC EQ NE HA
  rw [← hfy] at TC EQ NE HB
  clear hfx hfy
  generalize cmpZ (x : Int) (y : Int) = r at *
  generalize lenB x = X at *
  generalize lenB y = Y at *
  rcases Nat.lt_trichotomy X Y with h | h | h
  · have E := Lib.hid (CL.out.1 h)
    have hd : ((X : Int) == (Y : Int)) = false := by simp; omega
    go_enter Tryz.func208, Tryz.ntmps208
    go_wp2
    go_ret
    exact ⟨by rw [E.out]; rfl, 0, rfl⟩
  · subst h
    have E := Lib.hid (TC.out rfl)
    go_enter Tryz.func208, Tryz.ntmps208
    go_wp2_with fail
    go_loopw [5] (fun i wr => ∃ j : Nat, k0 ≤ j ∧ j ≤ X ∧ i = .int .i64 ((j : Int) - 1) ∧ ∃ m, wr = w.drewN m) (fun i _ => (1 + intOf i).toNat)
    case atStart => exact ⟨X, hk0, Nat.le_refl _, rfl, 0, rfl⟩
    case round =>
      obtain ⟨j, hj, hjn, rfl, m0, rfl⟩ := hrel
      by_cases hj0 : j = 0
      · subst hj0
        have Z := Lib.hid (show r = 0 by rw [E.out, if_pos (by omega)])
        rw [show (((0 : Nat) : Int) - 1) = -1 from rfl]
        go_wp2
        go_ret
        exact ⟨by rw [Z.out]; rfl, m0, rfl⟩
      · obtain ⟨q, rfl⟩ : ∃ q, j = q + 1 := ⟨j - 1, by omega⟩
        rw [show (((q + 1 : Nat) : Int) - 1) = (q : Int) by omega]
        obtain ⟨b1, o1, rfl, hc1⟩ := HA.out.cells (by omega)
        obtain ⟨b2, o2, rfl, hc2⟩ := HB.out.cells (by omega)
        have c1 : w.cell? ⟨b1, o1 + q, none⟩ = some (.int .u32 (fx q)) := hc1 q (by omega)
        have c2 : w.cell? ⟨b2, o2 + q, none⟩ = some (.int .u32 (fy q)) := hc2 q (by omega)
        have lx : q < X := by omega
        clear hc1 hc2
        rcases Int.lt_trichotomy (fx q) (fy q) with hlt | hlt | hlt
        · have hkq : k0 = q + 1 := by
            rcases Nat.lt_or_ge q k0 with h | h
            · omega
            · have := EQ.out q h lx; omega
          have Z := Lib.hid (show r = -1 by rw [E.out, if_neg (by omega), hkq]; exact cmpZ_lt hlt)
          have d1 : decide (fx q < fy q) = true := decide_eq_true hlt
          clear hkq
          go_wp2
          go_quiet (fail)
          go_wp2
          go_ret
          exact ⟨by rw [Z.out]; rfl, _, by rw [World.drewN_drewN]⟩
        · have hkq : k0 ≤ q := by
            rcases Nat.lt_or_ge q k0 with h | h
            · have h2 := NE.out (by omega)
              rw [show k0 - 1 = q by omega] at h2
              exact absurd hlt h2
            · exact h
          have d1 : decide (fx q < fy q) = false := decide_eq_false (by omega)
          have d2 : decide (fx q > fy q) = false := decide_eq_false (by omega)
          have d3 : decide (fy q < fx q) = false := decide_eq_false (by omega)
          have n1 : ¬ fx q < fy q := by omega
          have n2 : ¬ fy q < fx q := by omega
          clear hlt
          go_wp2
          go_quiet (fail)
          go_wp2
          go_quiet (fail)
          go_wp2
          go_roundw
          case rel => exact ⟨q, hkq, by omega, rfl, _, rfl⟩
          case measure => simp [intOf]; omega
        · have hkq : k0 = q + 1 := by
            rcases Nat.lt_or_ge q k0 with h | h
            · omega
            · have := EQ.out q h lx; omega
          have Z := Lib.hid (show r = 1 by rw [E.out, if_neg (by omega), hkq]; exact cmpZ_gt hlt)
          have n1 : ¬ fx q < fy q := by omega
          have d1 : decide (fx q < fy q) = false := decide_eq_false n1
          clear hkq
          go_wp2
          go_quiet (fail)
          go_wp2
          go_quiet (fail)
          go_wp2
          go_ret
          exact ⟨by rw [Z.out]; rfl, _, by rw [World.drewN_drewN, World.drewN_drewN]⟩
  · have E := Lib.hid (CL.out.2 h)
    have hd : ((X : Int) == (Y : Int)) = false := by simp; omega
    go_enter Tryz.func208, Tryz.ntmps208
    go_wp2
    go_ret
    exact ⟨by rw [E.out]; rfl, 0, rfl⟩
set_option maxHeartbeats 1000000 in
theorem num_any (s : Bool) (a : Option Addr) (n cap : Nat) (o : Nat → Int) (w : World) (h : Rd w a n o) (hd : Dig o n) (hn : n ≤ 1000000000) (hcap : n ≤ cap) :
    Calls Tryz.prog 114 #[.bool s, .slice a n cap] w fun e w' => e = .returned (numV (s && decide (0 < lenB (sumB o n).toNat)) a (lenB (sumB o n).toNat) cap) ∧ Below w.heap.size w w' := by
  have HL := Lib.hid (lenB_le_of hd)
  have HZ := Lib.hid (fun i => cut_zero (i := i) hd)
  have HT := Lib.hid (cut_last hd)
  generalize lenB (sumB o n).toNat = L at HL HZ HT ⊢
  have HR := Lib.hid h
  clear hd h
  have B0 := Lib.hid (Bx.new w 24 (.bool false) (.slice none 0 0))
  go_enter Tryz.func114, Tryz.ntmps114
  go_wp2_with fail
  go_loopw [1] (fun v wr => ∃ j : Nat, L ≤ j ∧ j ≤ n ∧ v = .slice a j cap ∧ ∃ m, wr = (w.alloc (.cells #[.bool false, .slice none 0 0] 24)).drewN m) (fun v _ => match v with | .slice _ j _ => j | _ => 0)
  case atStart => exact ⟨n, HL.out, Nat.le_refl _, rfl, 0, rfl⟩
  case round =>
    obtain ⟨j, hj, hjn, rfl, m0, rfl⟩ := hrel
    have B1 := B0.out.drewN m0
    obtain ⟨b10, b11, b12, b13⟩ := B1.all
    have KB := Lib.hid B1
    clear B1
    by_cases hj0 : j = 0
    · obtain rfl : L = 0 := by omega
      subst hj0
      cases s with
      | false =>
        go_wp2
        all_goals
          refine bodyPost_ret (results_cell rfl _ _ _ _ _ _ _ rfl (KB.out.set _ _) Tryz.underlying24 rfl (by kernel_rfl)) rfl ⟨rfl, ?_⟩
          (repeat' (first | (with_reducible exact Below.refl _ _) | (with_reducible assumption) | (with_reducible refine Below.alloc ?_ ?_ _) | (with_reducible refine Below.drew ?_) | (with_reducible refine bdrewN ?_ _) | (with_reducible refine Below.setCell ?_ ?_ _) | (with_reducible refine Below.frame ?_ _) | go_size))
      | true =>
        go_wp2
        all_goals
          refine bodyPost_ret (results_cell rfl _ _ _ _ _ _ _ rfl (KB.out.set _ _) Tryz.underlying24 rfl (by kernel_rfl)) rfl ⟨rfl, ?_⟩
          (repeat' (first | (with_reducible exact Below.refl _ _) | (with_reducible assumption) | (with_reducible refine Below.alloc ?_ ?_ _) | (with_reducible refine Below.drew ?_) | (with_reducible refine bdrewN ?_ _) | (with_reducible refine Below.setCell ?_ ?_ _) | (with_reducible refine Below.frame ?_ _) | go_size))
    · obtain ⟨q, rfl⟩ : ∃ q, j = q + 1 := ⟨j - 1, by omega⟩
      obtain ⟨b, off, rfl, hc⟩ := HR.out.cells (by omega)
      have c1 : w.cell? ⟨b, off + q, none⟩ = some (.int .u32 (o q)) := hc q (by omega)
      have hb : b < w.heap.size := block_lt_of_cell c1
      have ex : ((q + 1 : Nat) : Int) - 1 = (q : Int) := by omega
      have hq : ((q + 1 : Nat) : Int) > 0 := by omega
      clear hc
      by_cases hjL : q + 1 = L
      · subst hjL
        have hz : o q ≠ 0 := HT.out (by omega)
        have hzb : (o q == 0) = false := by simpa using hz
        have D := Lib.hid (show decide (0 < q + 1) = true by simp)
        cases s with
        | false =>
          go_wp2
          all_goals
            refine bodyPost_ret (results_cell rfl _ _ _ _ _ _ _ rfl (KB.out.set _ _) Tryz.underlying24 rfl (by kernel_rfl)) rfl ⟨rfl, ?_⟩
            (repeat' (first | (with_reducible exact Below.refl _ _) | (with_reducible assumption) | (with_reducible refine Below.alloc ?_ ?_ _) | (with_reducible refine Below.drew ?_) | (with_reducible refine bdrewN ?_ _) | (with_reducible refine Below.setCell ?_ ?_ _) | (with_reducible refine Below.frame ?_ _) | go_size))
        | true =>
          go_wp2
          all_goals
            refine bodyPost_ret (results_cell rfl _ _ _ _ _ _ _ rfl (KB.out.set _ _) Tryz.underlying24 rfl (by kernel_rfl)) rfl ⟨by rw [D.out]; rfl, ?_⟩
            (repeat' (first | (with_reducible exact Below.refl _ _) | (with_reducible assumption) | (with_reducible refine Below.alloc ?_ ?_ _) | (with_reducible refine Below.drew ?_) | (with_reducible refine bdrewN ?_ _) | (with_reducible refine Below.setCell ?_ ?_ _) | (with_reducible refine Below.frame ?_ _) | go_size))
      · have hz := HZ.out q (by omega) (by omega)
        go_wp2
        go_roundw
        case rel => exact ⟨q, by omega, by omega, rfl, m0, rfl⟩
        case measure => simp
def ShortR (w : World) (n : Nat) (X by' : Int) (e : Ending) (w' : World) : Prop :=
  ∃ p, e = .returned (.tuple #[.slice (some ⟨w.heap.size, 0, none⟩) n n, .int .u32 (X % by')]) ∧ Dig p n ∧ sumB p n = X / by' ∧ Own 80 w' w.heap.size (some ⟨w.heap.size, 0, none⟩) n n p ∧ Below w.heap.size w w'
set_option maxHeartbeats 2000000 in
theorem short_any (a : Option Addr) (n c : Nat) (o : Nat → Int) (by' : Int) (w : World) (hx : Rd w a n o) (dx : Dig o n) (hn : n ≤ 200000000) (h0 : 0 < by') (h1 : by' ≤ 999999999) :
    Calls Tryz.prog 172 #[.slice a n c, .int .u32 by'] w (ShortR w n (sumB o n) by') := by
  obtain ⟨nn, hnn⟩ : ∃ nn : Nat, nn = n := ⟨_, rfl⟩
  have hmk := run_make_row' (P := Tryz.prog) 22 80 (.int .u32 0) 4 Tryz.underlying22 info32 rfl .i64 .i64 n (by omega) (by omega)
  have HR := Lib.hid hx; have DX := Lib.hid dx
  have wb := IntWalk.u64_in by' (by omega)
  clear hx dx hnn
  go_enter Tryz.func172, Tryz.ntmps172
  go_wp2_with fail
  go_loopw [6, 7] (fun rv iv wr => ∃ i : Nat, i ≤ n ∧ iv = .int .i64 ((i : Int) - 1) ∧ (∃ p rest, rv = .int .u64 rest ∧ ShortIn o n by' i p rest ∧ wr.rowIs w.heap.size 80 n (uc p)) ∧ Below w.heap.size w wr) (fun _ iv _ => (1 + intOf iv).toNat)
  case atStart => exact ⟨n, by omega, rfl, ⟨_, _, rfl, ShortIn.start _ _ _, World.rowIs_made w (.int .u32 0) n 80⟩, by (repeat' (first | (with_reducible exact Below.refl _ _) | (with_reducible assumption) | (with_reducible refine Below.alloc ?_ ?_ _) | (with_reducible refine Below.drew ?_) | (with_reducible refine bdrewN ?_ _) | (with_reducible refine Below.setCell ?_ ?_ _) | (with_reducible refine Below.frame ?_ _) | go_size))⟩
  case round =>
    obtain ⟨i, hi, rfl, ⟨p, rest, rfl, hI, hR⟩, G⟩ := hrel
    have KM := Lib.hid hI; have KR := Lib.hid hR; have KG := Lib.hid G
    have hfz := hR.frozen
    have hbd := hI.bd h0
    clear hI hR G hmk
    by_cases hi0 : i = 0
    · subst hi0
      obtain ⟨d1, d2⟩ := KM.out.done
      have HD := Lib.hid (And.intro d1 d2)
      have w1' := IntWalk.u32_in rest (by omega)
      rw [show (((0 : Nat) : Int) - 1) = -1 from rfl]
      clear d1 d2
      go_wp2_with fail
      go_ret2
      exact ⟨p, by rw [← HD.out.2]; rfl, KM.out.dig, HD.out.1, Own.of_rowIs KR.out (Nat.le_refl _) (fun i hi => by have := KM.out.dig i hi; omega), KG.out⟩
    · obtain ⟨q, rfl⟩ : ∃ q, i = q + 1 := ⟨i - 1, by omega⟩
      rw [show (((q + 1 : Nat) : Int) - 1) = (q : Int) by omega]
      obtain ⟨b, off, rfl, hc⟩ := (HR.out.below KG.out).cells (by omega)
      have c1 : wr.cell? ⟨b, off + q, none⟩ = some (.int .u32 (o q)) := hc q (by omega)
      obtain ⟨vo, hco⟩ : ∃ vo, wr.cell? ⟨w.heap.size, q, none⟩ = some vo := ⟨_, KR.out.cell (i := q) (by omega)⟩
      have ho := DX.out q (by omega)
      have hpb := part_bd h0 hbd ho
      have hm1 : rest * 1000000000 ≤ 999999998 * 1000000000 := Int.mul_le_mul_of_nonneg_right (by omega) (by omega)
      have hm2 : 0 ≤ rest * 1000000000 := Int.mul_nonneg hbd.1 (by omega)
      have hmd : 0 ≤ (rest * 1000000000 + o q) % by' ∧ (rest * 1000000000 + o q) % by' < by' := ⟨Int.emod_nonneg _ (by omega), Int.emod_lt_of_pos _ h0⟩
      have ST := Lib.hid (KM.out.step h0 DX.out (by omega))
      have ec : 1000000000 * rest = rest * 1000000000 := Int.mul_comm _ _
      have w1' := IntWalk.u64_in (rest * 1000000000) (by omega)
      have w2' := IntWalk.u64_in (o q) (by omega)
      have w3' := IntWalk.u64_in (rest * 1000000000 + o q) (by omega)
      have t1 : (rest * 1000000000 + o q).tdiv by' = (rest * 1000000000 + o q) / by' := Int.tdiv_eq_ediv_of_nonneg (by omega)
      have t2 : (rest * 1000000000 + o q).tmod by' = (rest * 1000000000 + o q) % by' := Int.tmod_eq_emod_of_nonneg (by omega)
      have w4' := IntWalk.u64_in ((rest * 1000000000 + o q) / by') (by omega)
      have w5' := IntWalk.u32_in ((rest * 1000000000 + o q) / by') (by omega)
      have w6' := IntWalk.u64_in ((rest * 1000000000 + o q) % by') (by omega)
      have hne : ¬ by' = 0 := by omega
      have hlt : q < n := by omega
      clear hc ho hpb hm1 hm2 hmd hbd
      go_wp2_with fail
      go_roundw
      case rel => exact ⟨q, by omega, rfl, ⟨_, _, rfl, ST.out, rows_upd KR.out _⟩, KG.out.setCell (by dsimp only; omega) _⟩
      case measure => simp [intOf]; omega
set_option maxHeartbeats 2000000 in
theorem small_any (a : Option Addr) (n c : Nat) (o : Nat → Int) (by' : Int) (w : World) (hx : Rd w a n o) (dx : Dig o n) (hn : n ≤ 200000000) (h0 : 0 < by') (h1 : by' ≤ 999999999) :
    Calls Tryz.prog 206 #[.slice a n c, .int .u32 by'] w (ShortR w n (sumB o n) by') := by
  obtain ⟨nn, hnn⟩ : ∃ nn : Nat, nn = n := ⟨_, rfl⟩
  have hmk := run_make_row' (P := Tryz.prog) 22 80 (.int .u32 0) 4 Tryz.underlying22 info32 rfl .i64 .i64 n (by omega) (by omega)
  have HR := Lib.hid hx; have DX := Lib.hid dx
  have wb := IntWalk.u64_in by' (by omega)
  clear hx dx hnn
  go_enter Tryz.func206, Tryz.ntmps206
  go_wp2_with fail
  go_loopw [7, 8] (fun rv iv wr => ∃ i : Nat, i ≤ n ∧ iv = .int .i64 ((i : Int) - 1) ∧ (∃ p rest, rv = .int .u64 rest ∧ ShortIn o n by' i p rest ∧ wr.rowIs w.heap.size 80 n (uc p)) ∧ Below w.heap.size w wr) (fun _ iv _ => (1 + intOf iv).toNat)
  case atStart => exact ⟨n, by omega, rfl, ⟨_, _, rfl, ShortIn.start _ _ _, World.rowIs_made w (.int .u32 0) n 80⟩, by (repeat' (first | (with_reducible exact Below.refl _ _) | (with_reducible assumption) | (with_reducible refine Below.alloc ?_ ?_ _) | (with_reducible refine Below.drew ?_) | (with_reducible refine bdrewN ?_ _) | (with_reducible refine Below.setCell ?_ ?_ _) | (with_reducible refine Below.frame ?_ _) | go_size))⟩
  case round =>
    obtain ⟨i, hi, rfl, ⟨p, rest, rfl, hI, hR⟩, G⟩ := hrel
    have KM := Lib.hid hI; have KR := Lib.hid hR; have KG := Lib.hid G
    have hfz := hR.frozen
    have hbd := hI.bd h0
    clear hI hR G hmk
    by_cases hi0 : i = 0
    · subst hi0
      obtain ⟨d1, d2⟩ := KM.out.done
      have HD := Lib.hid (And.intro d1 d2)
      have w1' := IntWalk.u32_in rest (by omega)
      rw [show (((0 : Nat) : Int) - 1) = -1 from rfl]
      clear d1 d2
      go_wp2_with fail
      go_ret2
      exact ⟨p, by rw [← HD.out.2]; rfl, KM.out.dig, HD.out.1, Own.of_rowIs KR.out (Nat.le_refl _) (fun i hi => by have := KM.out.dig i hi; omega), KG.out⟩
    · obtain ⟨q, rfl⟩ : ∃ q, i = q + 1 := ⟨i - 1, by omega⟩
      rw [show (((q + 1 : Nat) : Int) - 1) = (q : Int) by omega]
      obtain ⟨b, off, rfl, hc⟩ := (HR.out.below KG.out).cells (by omega)
      have c1 : wr.cell? ⟨b, off + q, none⟩ = some (.int .u32 (o q)) := hc q (by omega)
      obtain ⟨vo, hco⟩ : ∃ vo, wr.cell? ⟨w.heap.size, q, none⟩ = some vo := ⟨_, KR.out.cell (i := q) (by omega)⟩
      have ho := DX.out q (by omega)
      have hpb := part_bd h0 hbd ho
      have hm1 : rest * 1000000000 ≤ 999999998 * 1000000000 := Int.mul_le_mul_of_nonneg_right (by omega) (by omega)
      have hm2 : 0 ≤ rest * 1000000000 := Int.mul_nonneg hbd.1 (by omega)
      have hmd : 0 ≤ (rest * 1000000000 + o q) % by' ∧ (rest * 1000000000 + o q) % by' < by' := ⟨Int.emod_nonneg _ (by omega), Int.emod_lt_of_pos _ h0⟩
      have ST := Lib.hid (KM.out.step h0 DX.out (by omega))
      have ec : 1000000000 * rest = rest * 1000000000 := Int.mul_comm _ _
      have w1' := IntWalk.u64_in (rest * 1000000000) (by omega)
      have w2' := IntWalk.u64_in (o q) (by omega)
      have w3' := IntWalk.u64_in (rest * 1000000000 + o q) (by omega)
      have t1 : (rest * 1000000000 + o q).tdiv by' = (rest * 1000000000 + o q) / by' := Int.tdiv_eq_ediv_of_nonneg (by omega)
      have t2 : (rest * 1000000000 + o q).tmod by' = (rest * 1000000000 + o q) % by' := Int.tmod_eq_emod_of_nonneg (by omega)
      have w4' := IntWalk.u64_in ((rest * 1000000000 + o q) / by') (by omega)
      have w5' := IntWalk.u32_in ((rest * 1000000000 + o q) / by') (by omega)
      have w6' := IntWalk.u64_in ((rest * 1000000000 + o q) % by') (by omega)
      have hne : ¬ by' = 0 := by omega
      have hlt : q < n := by omega
      clear hc ho hpb hm1 hm2 hmd hbd
      go_wp2_with fail
      go_roundw
      case rel => exact ⟨q, by omega, rfl, ⟨_, _, rfl, ST.out, rows_upd KR.out _⟩, KG.out.setCell (by dsimp only; omega) _⟩
      case measure => simp [intOf]; omega
theorem less_step (f : Nat → Int) (k : Nat) (h1 : -999999999 ≤ f k ∧ f k ≤ 999999999) (h2 : -1 ≤ cS f k ∧ cS f k ≤ 0) :
    (f k + 1000000000 + cS f k) % 1000000000 = cD f k ∧ 1 - (f k + 1000000000 + cS f k) / 1000000000 = - cS f (k + 1) := by
  unfold cD; rw [cS]; omega
theorem cS_less {f : Nat → Int} {n : Nat} (h : ∀ i, i < n → -999999999 ≤ f i ∧ f i ≤ 999999999) : -1 ≤ cS f n ∧ cS f n ≤ 0 := by
  induction n with
  | zero => show -1 ≤ (0 : Int) ∧ (0 : Int) ≤ 0; omega
  | succ n ih =>
    have h1 := ih fun i hi => h i (by omega)
    have h2 := h n (by omega)
    rw [cS]; omega
theorem ownBlock_ge {w : World} {base T n : Nat} {v : Value} {xs : List Value} (h : w.ownsRow base T 1 v n xs) {g : Nat} (hg : v.ownBlock = some g) : base ≤ g := by
  rcases h.2 with ⟨rfl, _⟩ | ⟨g', cap, cur, rfl, hb, _⟩
  · cases hg
  · simp only [Value.ownBlock, Option.some.injEq] at hg; omega
set_option maxRecDepth 100000 in
set_option maxHeartbeats 2000000 in
theorem less_any (x y : Option Addr) (X Y cx cy : Nat) (fx fy : Nat → Int) (w : World) (hx : Rd w x X fx) (hy : Rd w y Y fy) (dx : Dig fx X) (dy : Dig fy Y) (hX : X ≤ 100000000) (hYX : Y ≤ X) :
    Calls Tryz.prog 211 #[.slice x X cx, .slice y Y cy] w fun e w' => ∃ v, e = .returned v ∧ w'.ownsRow w.heap.size 80 1 v X (ucs (cD fun k => part fx X k - part fy Y k) X) ∧ Below w.heap.size w w' := by
  obtain ⟨i0, hi, hz0, hz1, hz2⟩ := info_parts info32
  obtain ⟨F, hF⟩ : ∃ F : Nat → Int, F = fun k => part fx X k - part fy Y k := ⟨_, rfl⟩
  rw [← hF]
  have HF := Lib.hid hF
  have HR1 := Lib.hid hx; have HR2 := Lib.hid hy; have DX := Lib.hid dx; have DY := Lib.hid dy
  clear hx hy dx dy hF
  go_enter Tryz.func211, Tryz.ntmps211
  go_wp2_with fail
  go_loopw [5, 6, 7] (fun v ow i wr => ∃ k : Nat, k ≤ X ∧ i = .int .i64 k ∧ ow = .int .u32 (- cS F k) ∧ wr.ownsRow w.heap.size 80 1 v k (ucs (cD F) k) ∧ Below w.heap.size w wr) (fun _ _ i _ => X - (intOf i).toNat)
  case atStart => exact ⟨0, by omega, rfl, rfl, Own.row_nil _ _ _, by (repeat' (first | (with_reducible exact Below.refl _ _) | (with_reducible assumption) | (with_reducible refine Below.alloc ?_ ?_ _) | (with_reducible refine Below.drew ?_) | (with_reducible refine bdrewN ?_ _) | (with_reducible refine Below.setCell ?_ ?_ _) | (with_reducible refine Below.frame ?_ _) | go_size))⟩
  case round =>
    obtain ⟨k, hk, rfl, rfl, hO, hG⟩ := hrel
    have HO := Lib.hid hO; have HG := Lib.hid hG
    clear hO hG
    by_cases hkX : k < X
    · obtain ⟨xb, xo, rfl, hc⟩ := (HR1.out.below HG.out).cells (by omega)
      have c1 : wr.cell? ⟨xb, xo + k, none⟩ = some (.int .u32 (fx k)) := hc k hkX
      have hfx := DX.out k hkX
      have bd : ∀ i, i < X → -999999999 ≤ F i ∧ F i ≤ 999999999 := fun i hi => by
        have h1 := DX.out i hi
        simp only [HF.out, part, if_pos hi]
        split
        · have h2 := DY.out i (by omega); omega
        · omega
      have hcs := cS_less (f := F) (n := k) fun i hi => bd i (by omega)
      have hFk := bd k hkX
      obtain ⟨E1, E2⟩ := less_step F k (by omega) hcs
      have E2 := Lib.hid E2
      obtain ⟨q, hq⟩ : ∃ q, q = - cS F k := ⟨_, rfl⟩
      have hqb : 0 ≤ q ∧ q ≤ 1 := by omega
      have u1 := IntWalk.u32_in (fx k + 1000000000) (by omega)
      have u2 := IntWalk.u32_in (fx k + 1000000000 - q) (by omega)
      rw [← hq]
      by_cases hkY : k < Y
      · have hfy := DY.out k hkY
        have hFv : F k = fx k - fy k := by simp only [HF.out, part, if_pos hkX, if_pos hkY]
        obtain ⟨yb, yo, rfl, hc2⟩ := (HR2.out.below HG.out).cells (by omega)
        have c2 : wr.cell? ⟨yb, yo + k, none⟩ = some (.int .u32 (fy k)) := hc2 k hkY
        have u3 := IntWalk.u32_in (fx k + 1000000000 - q - fy k) (by omega)
        have t1 : (fx k + 1000000000 - q - fy k).tmod 1000000000 = cD F k := by rw [Int.tmod_eq_emod_of_nonneg (by omega), ← E1]; congr 1; omega
        have t2 : (fx k + 1000000000 - q - fy k).tdiv 1000000000 = 1 + cS F (k + 1) := by
          have h2 := E2.out
          have e : fx k + 1000000000 - q - fy k = F k + 1000000000 + cS F k := by omega
          rw [Int.tdiv_eq_ediv_of_nonneg (by omega), e]
          omega
        have hcs2 := cS_less (f := F) (n := k + 1) fun i hi => bd i (by omega)
        have hcd := cD_Dig F (k + 1) k (by omega)
        have u4 := IntWalk.u32_in (cD F k) (by omega)
        have u5 := IntWalk.u32_in (1 + cS F (k + 1)) (by omega)
        have u6 := IntWalk.u32_in (1 - (1 + cS F (k + 1))) (by omega)
        have ez : 1 - (1 + cS F (k + 1)) = - cS F (k + 1) := by omega
        rw [ez] at u6
        clear hc hc2 bd E1 hq
        go_wp2_with (first | (at_builtin; refine wpList_append_own _ rfl _ _ 22 rfl w.heap.size 80 i0 (.int .u32 0) 1 4 Tryz.underlying22 hi hz0 hz1 hz2 rfl (by decide) _ _ _ rfl (HO.out.alloc _) ⟨wr.heap.size, 0, none⟩ 1 1 [.int .u32 (cD F k)] rfl rfl ?c1 ?c2 ?c3 ?c4 ?c5 ?_))
        case c1 =>
          intro t u ht
          match t, ht with
          | 0, ht => simp at ht; subst ht; simp [Addr.add]
        case c2 => intro u hu; simp at hu; subst hu; rfl
        case c3 => unfold maxLen; omega
        case c4 => omega
        case c5 => have := HG.out.size; simp; omega
        intro v' w1 hown' hgrow _
        have O2 := Lib.hid (show w1.ownsRow w.heap.size 80 1 v' (k + 1) (ucs (cD F) (k + 1)) by rw [ucs_succ]; exact hown')
        have G2 := Lib.hid ((HG.out.alloc HG.out.size _).grown hgrow (by have := HG.out.size; simp; omega) (fun g hg => ownBlock_ge HO.out hg))
        clear hown' hgrow
        go_wp2_with fail
        go_roundw
        case rel => exact ⟨k + 1, by omega, by go_num, rfl, O2.out, G2.out⟩
        case measure => simp [intOf]; omega
      · have hFv : F k = fx k := by simp only [HF.out, part, if_pos hkX, if_neg hkY]; omega
        have t1 : (fx k + 1000000000 - q).tmod 1000000000 = cD F k := by rw [Int.tmod_eq_emod_of_nonneg (by omega), ← E1]; congr 1; omega
        have t2 : (fx k + 1000000000 - q).tdiv 1000000000 = 1 + cS F (k + 1) := by
          have h2 := E2.out
          have e : fx k + 1000000000 - q = F k + 1000000000 + cS F k := by omega
          rw [Int.tdiv_eq_ediv_of_nonneg (by omega), e]
          omega
        have hcs2 := cS_less (f := F) (n := k + 1) fun i hi => bd i (by omega)
        have hcd := cD_Dig F (k + 1) k (by omega)
        have u4 := IntWalk.u32_in (cD F k) (by omega)
        have u5 := IntWalk.u32_in (1 + cS F (k + 1)) (by omega)
        have u6 := IntWalk.u32_in (1 - (1 + cS F (k + 1))) (by omega)
        have ez : 1 - (1 + cS F (k + 1)) = - cS F (k + 1) := by omega
        rw [ez] at u6
        clear hc bd E1 hq
        go_wp2_with (first | (at_builtin; refine wpList_append_own _ rfl _ _ 22 rfl w.heap.size 80 i0 (.int .u32 0) 1 4 Tryz.underlying22 hi hz0 hz1 hz2 rfl (by decide) _ _ _ rfl (HO.out.alloc _) ⟨wr.heap.size, 0, none⟩ 1 1 [.int .u32 (cD F k)] rfl rfl ?c1 ?c2 ?c3 ?c4 ?c5 ?_))
        case c1 =>
          intro t u ht
          match t, ht with
          | 0, ht => simp at ht; subst ht; simp [Addr.add]
        case c2 => intro u hu; simp at hu; subst hu; rfl
        case c3 => unfold maxLen; omega
        case c4 => omega
        case c5 => have := HG.out.size; simp; omega
        intro v' w1 hown' hgrow _
        have O2 := Lib.hid (show w1.ownsRow w.heap.size 80 1 v' (k + 1) (ucs (cD F) (k + 1)) by rw [ucs_succ]; exact hown')
        have G2 := Lib.hid ((HG.out.alloc HG.out.size _).grown hgrow (by have := HG.out.size; simp; omega) (fun g hg => ownBlock_ge HO.out hg))
        clear hown' hgrow
        go_wp2_with fail
        go_roundw
        case rel => exact ⟨k + 1, by omega, by go_num, rfl, O2.out, G2.out⟩
        case measure => simp [intOf]; omega
    · obtain rfl : k = X := by omega
      go_wp2_with fail
      go_ret
      exact ⟨_, rfl, HO.out, HG.out⟩
theorem cf_wide (args : Array Value) (w : World) : (callFunc 231 args).run Tryz.prog w = .ok (.enter 231 args) w := by kernel_rfl
set_option maxHeartbeats 1000000 in
theorem wideFn (w : World) (b1 b2 : Nat) (p : Option Addr) (f : Nat → Int) (nx d : Nat) (by' : Int) (k : Nat) (c1 : w.cell? ⟨b1, 0, none⟩ = some (.slice p nx d)) (c2 : w.cell? ⟨b2, 0, none⟩ = some (.int .u32 by')) (hp : Rd w p nx f)
    (hx : nx ≤ 1000000000) (hk : k ≤ 1000000000) (hb : 0 ≤ by' ∧ by' ≤ 999999999) (r1 : 0 ≤ part f nx k ∧ part f nx k ≤ 999999999) :
    Calls Tryz.prog 231 #[.int .i64 k, .pointer (some ⟨b1, 0, none⟩), .pointer (some ⟨b2, 0, none⟩)] w fun e w' => e = .returned (.int .i64 (part f nx k * by')) ∧ Below w.heap.size w w' := by
  have P := Lib.hid (fun (w1 : World) (h : ∃ m, w1 = w.drewN m) => part_any p nx d f k w1 (by obtain ⟨m, rfl⟩ := h; exact hp.drewN m) hx hk)
  have m1 : part f nx k * by' ≤ 999999999 * 999999999 := Int.mul_le_mul r1.2 hb.2 hb.1 (by omega)
  have m2 : 0 ≤ part f nx k * by' := Int.mul_nonneg r1.1 hb.1
  have e1 := IntWalk.i64_in (part f nx k * by') (by omega)
  have e2 := IntWalk.i64_in by' (by omega)
  generalize part f nx k = u at *
  clear hp m1 m2
  go_enter Tryz.func231, Tryz.ntmps231
  go_wp2_with fail
  go_quiet (first | with_reducible exact quietOf (P.out _ ⟨_, rfl⟩))
  go_wp2
  go_ret
  exact ⟨rfl, bdrewN (Below.refl _ _) _⟩
set_option maxHeartbeats 1000000 in
theorem wide_any (a : Option Addr) (n c : Nat) (o : Nat → Int) (by' : Int) (w : World) (hx : Rd w a n o) (dx : Dig o n) (hn : n ≤ 200000000) (hb : 0 ≤ by' ∧ by' ≤ 999999999) :
    Calls Tryz.prog 203 #[.slice a n c, .int .u32 by'] w fun e w' => ∃ g p, e = .returned (.slice (some ⟨g, 0, none⟩) (n + 1) (n + 1)) ∧ Dig p (n + 1) ∧ sumB p (n + 1) = sumB o n * by' ∧ Own 80 w' w.heap.size (some ⟨g, 0, none⟩) (n + 1) (n + 1) p ∧ Below w.heap.size w w' := by
  have hp : ∀ k, 0 ≤ part o n k ∧ part o n k ≤ 999999999 := by
    intro k
    unfold part
    split
    · have := dx k (by omega); omega
    · omega
  obtain ⟨N, hN⟩ : ∃ N, N = n + 1 := ⟨_, rfl⟩
  have hs : sumB (fun k => part o n k * by') N = sumB o n * by' := by rw [sumB_times, sumB_part _ (by omega)]
  have hbd := sumB_bd dx
  have hlt : sumB o n * by' < (pw N : Int) := by
    rw [hN, pw_succ]
    have h1 : sumB o n * by' ≤ sumB o n * 999999999 := Int.mul_le_mul_of_nonneg_left hb.2 hbd.1
    omega
  have hfit := (cS_fits (f := fun k => part o n k * by') (n := N) (by rw [hs]; exact Int.mul_nonneg hbd.1 hb.1) (by rw [hs]; exact hlt)).2
  have HS := Lib.hid (hfit.trans hs)
  have HR := Lib.hid hx
  obtain ⟨W, hW⟩ : ∃ W, W = ((w.alloc (.cells #[.slice a n c] 22)).alloc (.cells #[.int .u32 by'] 80)) := ⟨_, rfl⟩
  have hbW : Below w.heap.size w W := by rw [hW]; exact ((Below.refl _ _).alloc (by go_size) _).alloc (by go_size) _
  have k1 : W.cell? ⟨w.heap.size, 0, none⟩ = some (.slice a n c) := by
    have h : W.heap[w.heap.size]? = some (.cells #[.slice a n c] 22 (0, 0)) := by
      rw [hW, Below.heap_alloc _ _ _ (by simp)]; exact heap_alloc_new w _
    rw [cell_of_row _ _ _ _ _ _ h]; rfl
  have k2 : W.cell? ⟨w.heap.size + 1, 0, none⟩ = some (.int .u32 by') := by
    have h := heap_alloc_new (w.alloc (.cells #[.slice a n c] 22)) (.cells #[.int .u32 by'] 80)
    rw [World.size_alloc, ← hW] at h
    rw [cell_of_row _ _ _ _ _ _ h]; rfl
  have hsz : w.heap.size + 1 < W.heap.size := by rw [hW]; simp
  have CA := Lib.hid (carry_any 231 #[.pointer (some ⟨w.heap.size, 0, none⟩), .pointer (some ⟨w.heap.size + 1, 0, none⟩)] N (fun k => part o n k * by') 0 by' W (by omega) cf_wide
    (fun k hk w1 hb1 => wideFn w1 w.heap.size (w.heap.size + 1) a o n c by' k ((hb1.cell (p := ⟨w.heap.size, 0, none⟩) (by dsimp only; omega)).trans k1) ((hb1.cell (p := ⟨w.heap.size + 1, 0, none⟩) (by dsimp only; omega)).trans k2)
      (HR.out.below (hbW.trans (hb1.mono hbW.size))) (by omega) (by omega) hb (hp k))
    (fun k _ => by
      have h1 := hp k
      have h2 : part o n k * by' ≤ 999999999 * by' := Int.mul_le_mul_of_nonneg_right h1.2 hb.1
      have h3 : 0 ≤ part o n k * by' := Int.mul_nonneg h1.1 hb.1
      omega) (by omega) (by omega) (by omega) (by omega))
  have HW := Lib.hid hW
  have HB := Lib.hid hbW
  have ew : IntKind.i64.wrap ((n : Int) + 1) = (N : Int) := by rw [IntWalk.i64_in _ (by omega)]; omega
  have HN := Lib.hid hN
  clear hx dx hp hs hbd hlt hfit hW hbW k1 k2 hsz hN
  go_enter Tryz.func203, Tryz.ntmps203
  go_wp2_with fail
  rw [show ((w.alloc (.cells #[.slice a n c] 22)).alloc (.cells #[.int .u32 by'] 80)) = W from HW.out.symm]
  refine CA.out.mono ?_
  rintro e w1 ⟨rfl, hO, hb1⟩
  have HO := Lib.hid hO
  have HB1 := Lib.hid (HB.out.trans (hb1.mono HB.out.size))
  clear hO hb1 CA
  go_wp2
  go_ret
  refine ⟨_, cD (fun k => part o n k * by'), by rw [← HN.out]; rfl, cD_Dig _ _, by rw [← HN.out]; exact HS.out, ?_, HB1.out⟩
  rw [← HN.out]
  exact HO.out.mono HB.out.size
set_option maxRecDepth 100000 in
set_option maxHeartbeats 4000000 in
theorem more_any (x y : Option Addr) (X Y cx cy M : Nat) (fx fy : Nat → Int) (w : World) (hx : Rd w x X fx) (hy : Rd w y Y fy) (dx : Dig fx X) (dy : Dig fy Y) (hX : X ≤ 100000000) (hY : Y ≤ 100000000) (hM1 : X ≤ M) (hM2 : Y ≤ M) (hM3 : M = X ∨ M = Y) :
    Calls Tryz.prog 210 #[.slice x X cx, .slice y Y cy] w fun e w' => ∃ v K, e = .returned v ∧ M ≤ K ∧ K ≤ M + 1 ∧ cS (fun k => part fx X k + part fy Y k) K = 0 ∧ w'.ownsRow w.heap.size 80 1 v K (ucs (cD fun k => part fx X k + part fy Y k) K) ∧ Below w.heap.size w w' := by
  obtain ⟨i0, hi, hz0, hz1, hz2⟩ := info_parts info32
  obtain ⟨F, hF⟩ : ∃ F : Nat → Int, F = fun k => part fx X k + part fy Y k := ⟨_, rfl⟩
  rw [← hF]
  have HF := Lib.hid hF
  have HR1 := Lib.hid hx; have HR2 := Lib.hid hy; have DX := Lib.hid dx; have DY := Lib.hid dy
  have BD := Lib.hid (show ∀ i, 0 * 999999999 ≤ F i ∧ F i ≤ 2 * 999999999 from fun i => by
    simp only [HF.out, part]
    split <;> split
    · have := dx i (by omega); have := dy i (by omega); omega
    · have := dx i (by omega); omega
    · have := dy i (by omega); omega
    · omega)
  clear hx hy dx dy hF
  go_enter Tryz.func210, Tryz.ntmps210
  go_wp2_with fail
  go_loopw [5, 6, 7] (fun v ow i wr => ∃ k : Nat, k ≤ M + 1 ∧ (k = M + 1 → cS F k = 0) ∧ i = .int .i64 k ∧ ow = .int .u32 (cS F k) ∧ wr.ownsRow w.heap.size 80 1 v k (ucs (cD F) k) ∧ Below w.heap.size w wr) (fun _ _ i _ => M + 1 - (intOf i).toNat)
  case atStart => exact ⟨0, by omega, fun h => by omega, rfl, rfl, Own.row_nil _ _ _, by (repeat' (first | (with_reducible exact Below.refl _ _) | (with_reducible assumption) | (with_reducible refine Below.alloc ?_ ?_ _) | (with_reducible refine Below.drew ?_) | (with_reducible refine bdrewN ?_ _) | (with_reducible refine Below.setCell ?_ ?_ _) | (with_reducible refine Below.frame ?_ _) | go_size))⟩
  case round =>
    obtain ⟨k, hk, hkM, rfl, rfl, hO, hG⟩ := hrel
    have HO := Lib.hid hO; have HG := Lib.hid hG
    have hcs := cS_bd (f := F) (lo := 0) (hi := 2) (n := k) (by omega) (by omega) (fun i _ => BD.out i)
    have hcs2 := cS_bd (f := F) (lo := 0) (hi := 2) (n := k + 1) (by omega) (by omega) (fun i _ => BD.out i)
    obtain ⟨q, hq⟩ : ∃ q, q = cS F k := ⟨_, rfl⟩
    rw [← hq]
    clear hO hG
    by_cases hkX : k < X
    · by_cases hkY : k < Y
      · have hFv : F k = fx k + fy k := by simp only [HF.out, part, if_pos hkX, if_pos hkY]
        have hfx := DX.out k hkX
        obtain ⟨xb, xo, rfl, hc⟩ := (HR1.out.below HG.out).cells (by omega)
        have c1 : wr.cell? ⟨xb, xo + k, none⟩ = some (.int .u32 (fx k)) := hc k hkX
        clear hc
        have u1 := IntWalk.u32_in (q + fx k) (by omega)
        have hfy := DY.out k hkY
        obtain ⟨yb, yo, rfl, hc⟩ := (HR2.out.below HG.out).cells (by omega)
        have c2 : wr.cell? ⟨yb, yo + k, none⟩ = some (.int .u32 (fy k)) := hc k hkY
        clear hc
        have u2 := IntWalk.u32_in (q + fx k + fy k) (by omega)
        have e : q + fx k + fy k = F k + cS F k := by omega
        have t1 : (q + fx k + fy k).tmod 1000000000 = cD F k := by rw [Int.tmod_eq_emod_of_nonneg (by omega), e]; rfl
        have t2 : (q + fx k + fy k).tdiv 1000000000 = cS F (k + 1) := by rw [Int.tdiv_eq_ediv_of_nonneg (by omega), e]; rfl
        have hcd := cD_Dig F (k + 1) k (by omega)
        have u4 := IntWalk.u32_in (cD F k) (by omega)
        have hl : k + 1 = M + 1 → cS F (k + 1) = 0 := fun h => by rw [cS]; omega
        have HLs := Lib.hid hl
        clear e hq hFv hl
        go_wp2_with (first | (at_builtin; refine wpList_append_own _ rfl _ _ 22 rfl w.heap.size 80 i0 (.int .u32 0) 1 4 Tryz.underlying22 hi hz0 hz1 hz2 rfl (by decide) _ _ _ rfl (HO.out.alloc _) ⟨wr.heap.size, 0, none⟩ 1 1 [.int .u32 (cD F k)] rfl rfl ?c1 ?c2 ?c3 ?c4 ?c5 ?_))
        case c1 =>
          intro t u ht
          match t, ht with
          | 0, ht => simp at ht; subst ht; simp [Addr.add]
        case c2 => intro u hu; simp at hu; subst hu; rfl
        case c3 => unfold maxLen; omega
        case c4 => omega
        case c5 => have := HG.out.size; simp; omega
        intro v' w1 hown' hgrow _
        have O2 := Lib.hid (show w1.ownsRow w.heap.size 80 1 v' (k + 1) (ucs (cD F) (k + 1)) by rw [ucs_succ]; exact hown')
        have G2 := Lib.hid ((HG.out.alloc HG.out.size _).grown hgrow (by have := HG.out.size; simp; omega) (fun g hg => ownBlock_ge HO.out hg))
        clear hown' hgrow
        go_wp2_with fail
        go_roundw
        case rel => exact ⟨k + 1, by omega, HLs.out, by go_num, rfl, O2.out, G2.out⟩
        case measure => simp [intOf]; omega
      · have hFv : F k = fx k + 0 := by simp only [HF.out, part, if_pos hkX, if_neg hkY]
        have hfx := DX.out k hkX
        obtain ⟨xb, xo, rfl, hc⟩ := (HR1.out.below HG.out).cells (by omega)
        have c1 : wr.cell? ⟨xb, xo + k, none⟩ = some (.int .u32 (fx k)) := hc k hkX
        clear hc
        have u1 := IntWalk.u32_in (q + fx k) (by omega)
        have e : q + fx k = F k + cS F k := by omega
        have t1 : (q + fx k).tmod 1000000000 = cD F k := by rw [Int.tmod_eq_emod_of_nonneg (by omega), e]; rfl
        have t2 : (q + fx k).tdiv 1000000000 = cS F (k + 1) := by rw [Int.tdiv_eq_ediv_of_nonneg (by omega), e]; rfl
        have hcd := cD_Dig F (k + 1) k (by omega)
        have u4 := IntWalk.u32_in (cD F k) (by omega)
        have hl : k + 1 = M + 1 → cS F (k + 1) = 0 := fun h => by rw [cS]; omega
        have HLs := Lib.hid hl
        clear e hq hFv hl
        go_wp2_with (first | (at_builtin; refine wpList_append_own _ rfl _ _ 22 rfl w.heap.size 80 i0 (.int .u32 0) 1 4 Tryz.underlying22 hi hz0 hz1 hz2 rfl (by decide) _ _ _ rfl (HO.out.alloc _) ⟨wr.heap.size, 0, none⟩ 1 1 [.int .u32 (cD F k)] rfl rfl ?c1 ?c2 ?c3 ?c4 ?c5 ?_))
        case c1 =>
          intro t u ht
          match t, ht with
          | 0, ht => simp at ht; subst ht; simp [Addr.add]
        case c2 => intro u hu; simp at hu; subst hu; rfl
        case c3 => unfold maxLen; omega
        case c4 => omega
        case c5 => have := HG.out.size; simp; omega
        intro v' w1 hown' hgrow _
        have O2 := Lib.hid (show w1.ownsRow w.heap.size 80 1 v' (k + 1) (ucs (cD F) (k + 1)) by rw [ucs_succ]; exact hown')
        have G2 := Lib.hid ((HG.out.alloc HG.out.size _).grown hgrow (by have := HG.out.size; simp; omega) (fun g hg => ownBlock_ge HO.out hg))
        clear hown' hgrow
        go_wp2_with fail
        go_roundw
        case rel => exact ⟨k + 1, by omega, HLs.out, by go_num, rfl, O2.out, G2.out⟩
        case measure => simp [intOf]; omega
    · by_cases hkY : k < Y
      · have hFv : F k = 0 + fy k := by simp only [HF.out, part, if_neg hkX, if_pos hkY]
        have hfy := DY.out k hkY
        obtain ⟨yb, yo, rfl, hc⟩ := (HR2.out.below HG.out).cells (by omega)
        have c2 : wr.cell? ⟨yb, yo + k, none⟩ = some (.int .u32 (fy k)) := hc k hkY
        clear hc
        have u2 := IntWalk.u32_in (q + fy k) (by omega)
        have e : q + fy k = F k + cS F k := by omega
        have t1 : (q + fy k).tmod 1000000000 = cD F k := by rw [Int.tmod_eq_emod_of_nonneg (by omega), e]; rfl
        have t2 : (q + fy k).tdiv 1000000000 = cS F (k + 1) := by rw [Int.tdiv_eq_ediv_of_nonneg (by omega), e]; rfl
        have hcd := cD_Dig F (k + 1) k (by omega)
        have u4 := IntWalk.u32_in (cD F k) (by omega)
        have hl : k + 1 = M + 1 → cS F (k + 1) = 0 := fun h => by rw [cS]; omega
        have HLs := Lib.hid hl
        clear e hq hFv hl
        go_wp2_with (first | (at_builtin; refine wpList_append_own _ rfl _ _ 22 rfl w.heap.size 80 i0 (.int .u32 0) 1 4 Tryz.underlying22 hi hz0 hz1 hz2 rfl (by decide) _ _ _ rfl (HO.out.alloc _) ⟨wr.heap.size, 0, none⟩ 1 1 [.int .u32 (cD F k)] rfl rfl ?c1 ?c2 ?c3 ?c4 ?c5 ?_))
        case c1 =>
          intro t u ht
          match t, ht with
          | 0, ht => simp at ht; subst ht; simp [Addr.add]
        case c2 => intro u hu; simp at hu; subst hu; rfl
        case c3 => unfold maxLen; omega
        case c4 => omega
        case c5 => have := HG.out.size; simp; omega
        intro v' w1 hown' hgrow _
        have O2 := Lib.hid (show w1.ownsRow w.heap.size 80 1 v' (k + 1) (ucs (cD F) (k + 1)) by rw [ucs_succ]; exact hown')
        have G2 := Lib.hid ((HG.out.alloc HG.out.size _).grown hgrow (by have := HG.out.size; simp; omega) (fun g hg => ownBlock_ge HO.out hg))
        clear hown' hgrow
        go_wp2_with fail
        go_roundw
        case rel => exact ⟨k + 1, by omega, HLs.out, by go_num, rfl, O2.out, G2.out⟩
        case measure => simp [intOf]; omega
      · by_cases hq0 : q > 0
        · have hkM2 : k ≤ M := by
            rcases Nat.lt_or_ge M k with h | h
            · have := hkM (by omega); omega
            · exact h
          have hFv : F k = 0 + 0 := by simp only [HF.out, part, if_neg hkX, if_neg hkY]
          have e : q = F k + cS F k := by omega
          have t1 : (q).tmod 1000000000 = cD F k := by rw [Int.tmod_eq_emod_of_nonneg (by omega), e]; rfl
          have t2 : (q).tdiv 1000000000 = cS F (k + 1) := by rw [Int.tdiv_eq_ediv_of_nonneg (by omega), e]; rfl
          have hcd := cD_Dig F (k + 1) k (by omega)
          have u4 := IntWalk.u32_in (cD F k) (by omega)
          have hl : k + 1 = M + 1 → cS F (k + 1) = 0 := fun h => by rw [cS]; omega
          have hgt : q > 0 := hq0
          have HLs := Lib.hid hl
          clear e hq hFv hl
          go_wp2_with (first | (at_builtin; refine wpList_append_own _ rfl _ _ 22 rfl w.heap.size 80 i0 (.int .u32 0) 1 4 Tryz.underlying22 hi hz0 hz1 hz2 rfl (by decide) _ _ _ rfl (HO.out.alloc _) ⟨wr.heap.size, 0, none⟩ 1 1 [.int .u32 (cD F k)] rfl rfl ?c1 ?c2 ?c3 ?c4 ?c5 ?_))
          case c1 =>
            intro t u ht
            match t, ht with
            | 0, ht => simp at ht; subst ht; simp [Addr.add]
          case c2 => intro u hu; simp at hu; subst hu; rfl
          case c3 => unfold maxLen; omega
          case c4 => omega
          case c5 => have := HG.out.size; simp; omega
          intro v' w1 hown' hgrow _
          have O2 := Lib.hid (show w1.ownsRow w.heap.size 80 1 v' (k + 1) (ucs (cD F) (k + 1)) by rw [ucs_succ]; exact hown')
          have G2 := Lib.hid ((HG.out.alloc HG.out.size _).grown hgrow (by have := HG.out.size; simp; omega) (fun g hg => ownBlock_ge HO.out hg))
          clear hown' hgrow
          go_wp2_with fail
          go_roundw
          case rel => exact ⟨k + 1, by omega, HLs.out, by go_num, rfl, O2.out, G2.out⟩
          case measure => simp [intOf]; omega
        · have hE := Lib.hid (And.intro (show M ≤ k by omega) (And.intro (show k ≤ M + 1 by omega) (show cS F k = 0 by omega)))
          have hn0 : ¬ q > 0 := hq0
          obtain rfl : q = 0 := by omega
          clear hq hn0 hq0 hkM
          go_wp2_with fail
          go_ret
          exact ⟨_, k, rfl, hE.out.1, hE.out.2.1, hE.out.2.2, HO.out, HG.out⟩
theorem append_nil_run (a : Option Addr) (n cap : Nat) (o : Nat → Int) (w : World) (base ty : Nat) (h : Rd w a n o) (hn : n ≤ 1000000000) (hb : base ≤ w.heap.size) :
    ∃ a' cap' w', (Builtin.append_ #[22, 22] ty #[.slice none 0 0, .slice a n cap]).run Tryz.prog w = .ok (.slice a' n cap') w' ∧ Own 80 w' base a' n cap' o ∧ (a' = none → cap' = 0) ∧ Below w.heap.size w w' := by
  obtain ⟨i0, hi, hz0, hz1, hz2⟩ := info_parts info32
  cases a with
  | none =>
    obtain rfl : n = 0 := by
      rcases Nat.eq_zero_or_pos n with h0 | h0
      · exact h0
      · obtain ⟨b, off, e, _⟩ := h.cells h0; cases e
    refine ⟨none, 0, w, ?_, ⟨Nat.le_refl _, Or.inl ⟨rfl, rfl, rfl⟩, fun i hi => by omega⟩, fun _ => rfl, Below.refl _ _⟩
    simp [Builtin.append_, run_underlying (P := Tryz.prog) Tryz.underlying22, sizeOf, typeInfo, hi, Builtin.lenOf, Builtin.firstCells]
  | some p =>
    obtain ⟨b, off, pt⟩ := p
    obtain ⟨v', w', hrun, hown, hgrow, _⟩ := run_append_own (P := Tryz.prog) w base 22 ty 80 i0 (.int .u32 0) 1 4 Tryz.underlying22 hi hz0 hz1 hz2 rfl (by decide) (.slice none 0 0) 0 [] (Own.row_nil w base o) ⟨b, off, pt⟩ n cap (ucs o n) (by rw [ucs_len]; omega)
      (by
        intro j u hj
        obtain ⟨hjn, rfl⟩ := ucs_get' hj
        obtain ⟨b', off', e, hc⟩ := h.cells (by omega)
        cases e
        rw [Addr.add_lit]
        exact hc j hjn) ucs_one (by unfold maxLen; omega) (by omega) hb
    have hown : w'.ownsRow base 80 1 v' n (ucs o n) := by simpa using hown
    obtain ⟨a', cap', rfl, hO, hN⟩ := Own.of_row hown h.rng
    exact ⟨a', cap', w', hrun, hO, hN, (Below.refl _ w).grown hgrow (Nat.le_refl _) (by intro k hk; simp [Value.ownBlock] at hk)⟩
theorem gives_append {P : Program} {o : Oper} {a : Act} {w w' : World} {Post : Value → World → Prop} {v u r : Value} (s x : Operand) (t : TypeId)
    (ho : o.op = .call { callee := .builtin .append, args := #[s, x], argTypes := #[t, t] }) (hs : a.eval s = v) (hx : a.eval x = u)
    (hr : (Builtin.append_ #[t, t] o.type #[v, u]).run P w = .ok r w') (hP : Post r w' ∧ Below w.heap.size w w') : givesUpon P w Post ((execOp a.eval o).run P w) := by
  unfold execOp
  simp only [ho, resolve, invoke, builtin, Sem.run_bind, Sem.run_pure, Result.andThen_ok, List.map_toArray, List.map_cons, List.map_nil, hs, hx, hr]
  exact hP
set_option maxHeartbeats 1000000 in
theorem twin_any (s : Bool) (a : Option Addr) (n cap : Nat) (o : Nat → Int) (w : World) (h : Rd w a n o) (hn : n ≤ 1000000000) :
    Calls Tryz.prog 116 #[numV s a n cap] w fun e w' => ∃ a' cap', e = .returned (numV s a' n cap') ∧ Own 80 w' w.heap.size a' n cap' o ∧ (a' = none → cap' = 0) ∧ Below w.heap.size w w' := by
  have HR := Lib.hid h
  have B1 := ((Bx.new w 24 (.bool s) (.slice a n cap)).alloc (.cells #[.bool false, .slice none 0 0] 24))
  have B2 := (Bx.new2 w (.cells #[.bool s, .slice a n cap] 24) 24 (.bool false) (.slice none 0 0))
  clear h
  go_enter Tryz.func116, Tryz.ntmps116
  go_upto_region 2 with (fail)
  obtain ⟨W, hW⟩ : ∃ W, W = ((w.alloc (.cells #[.bool s, .slice a n cap] 24)).alloc (.cells #[.bool false, .slice none 0 0] 24)) := ⟨_, rfl⟩
  have G1 := Lib.hid (((Below.refl _ _).alloc (by go_size) _ |>.alloc (by go_size) _) : Below w.heap.size w ((w.alloc (.cells #[.bool s, .slice a n cap] 24)).alloc (.cells #[.bool false, .slice none 0 0] 24)))
  rw [← hW] at B1 B2 G1
  rw [show ((w.alloc (.cells #[.bool s, .slice a n cap] 24)).alloc (.cells #[.bool false, .slice none 0 0] 24)) = W from hW.symm]
  have HB1 := Lib.hid B1; have HB2 := Lib.hid B2
  clear hW B1 B2
  have HS1 := Lib.hid (fun (w' : World) (hb : Below W.heap.size W w') => And.intro (HB1.out.below hb HB1.out.lt).c0 (HB1.out.below hb HB1.out.lt).c1)
  have AP := Lib.hid (fun (w' : World) (hb : Below W.heap.size W w') (ty : Nat) => append_nil_run a n cap o w' W.heap.size ty (HR.out.below (G1.out.trans (hb.mono G1.out.size))) hn hb.size)
  refine wp_region_fresh 7 (spOf [(5, Sp.made (fun x : Option Addr × Nat => .slice x.1 n x.2) (fun x w' => Own 80 w' W.heap.size x.1 n x.2 o ∧ (x.1 = none → x.2 = 0)))])
    (fun w' => Below W.heap.size W w') (by kernel_rfl) (by kernel_rfl)
    (spOf_cons (Sp.made_keeps fun x w w' h hb => ⟨h.1.below hb, h.2⟩) spOf_nil) (fun _ _ h hb => h.trans (hb.mono h.size)) ((Below.refl _ _).drew) ?_
  simp only [List.take_succ_cons, List.take_zero, List.drop_succ_cons, List.drop_zero]
  (refine wpF_reads rfl rfl ?_ (fun w' hw' => ?_) ?_; rotate_left; · (have hb' := Has.world hw'; (skip); clear hw'; go_simp; try rfl))
  (refine wpF_reads rfl rfl ?_ (fun w' hw' => ?_) ?_; rotate_left; · (have hb' := Has.world hw'; (have hs := HS1.out _ hb'); clear hw'; go_simp; try rfl))
  (refine wpF_reads rfl rfl ?_ (fun w' hw' => ?_) ?_; rotate_left; · (have hb' := Has.world hw'; (skip); clear hw'; go_simp; try rfl))
  (refine wpF_reads rfl rfl ?_ (fun w' hw' => ?_) ?_; rotate_left; · (have hb' := Has.world hw'; (skip); clear hw'; go_simp; try rfl))
  (refine wpF_reads rfl rfl ?_ (fun w' hw' => ?_) ?_; rotate_left; · (have hb' := Has.world hw'; (have hs := HS1.out _ hb'); clear hw'; go_simp; try rfl))
  refine wpF_spec rfl rfl (fun w' hw' => ?_) ?_
  · have hb' : Below W.heap.size W w' := hw'.world
    obtain ⟨a', cap', w'', hrun, hO, hN, hb⟩ := AP.out w' hb' 22
    clear hw'
    exact gives_append _ _ 22 rfl rfl rfl hrun ⟨⟨⟨(a', cap'), rfl⟩, ⟨(a', cap'), rfl, hO, hN⟩⟩, hb⟩
  rintro _ ⟨x, rfl⟩
  (refine wpF_reads rfl rfl ?_ (fun w' hw' => ?_) ?_; rotate_left; · (have hb' := Has.world hw'; (skip); clear hw'; go_simp; try rfl))
  refine wpF_nil (fun w5 hb5 hF5 => ?_)
  have OA := own_clone (x := x) (L := n) (T := 80) (o := o) (b := W.heap.size) (hF5 5)
  have HO := Lib.hid OA
  have B2 := HB2.out.below hb5 HB2.out.lt
  have HB5 := Lib.hid B2
  obtain ⟨b30, b31, b32, b33⟩ := B2.all
  have HG5 := Lib.hid (G1.out.trans (hb5.mono G1.out.size))
  have hz4 := HB2.out.lt
  have hz5 := G1.out.size
  clear hF5 OA B2 hb5 HS1 AP
  go_wp2_with fail
  refine bodyPost_ret (results_cell rfl _ _ _ _ _ _ _ rfl (HB5.out.set _ _) Tryz.underlying24 rfl (by kernel_rfl)) rfl ⟨x.1, x.2, rfl, ?_, HO.out.2, ?_⟩
  · exact ((HO.out.1.other (by dsimp only; omega) _).other (by dsimp only; omega) _).mono hz5
  · exact (HG5.out.setCell (by dsimp only; omega) _).setCell (by dsimp only; omega) _
def ResF (w : World) (z : Int) (e : Ending) (w' : World) : Prop :=
  ∃ a cap, e = .returned (numV (decide (z < 0)) a (lenB z.natAbs) cap) ∧ Own 80 w' w.heap.size a (lenB z.natAbs) cap (dgi z.natAbs) ∧ Below w.heap.size w w'
def AmtR (w : World) (N : Nat) (e : Ending) (w' : World) : Prop :=
  ∃ a K cap o, e = .returned (.slice a K cap) ∧ Dig o K ∧ sumB o K = (N : Int) ∧ K ≤ 1000000000 ∧ Own 80 w' w.heap.size a K cap o ∧ Below w.heap.size w w'
theorem more_own (x y : Nat) (a b : Option Addr) (ca cb : Nat) (w : World) (ha : Rd w a (lenB x) (dgi x)) (hb : Rd w b (lenB y) (dgi y)) (hx : lenB x ≤ 100000000) (hy : lenB y ≤ 100000000) :
    Calls Tryz.prog 210 #[.slice a (lenB x) ca, .slice b (lenB y) cb] w (AmtR w (x + y)) := by
  obtain ⟨M, hM1, hM2, hM3, hM4⟩ : ∃ M, lenB x ≤ M ∧ lenB y ≤ M ∧ (M = lenB x ∨ M = lenB y) ∧ M ≤ 100000000 := by
    rcases Nat.le_total (lenB x) (lenB y) with h | h
    · exact ⟨lenB y, h, Nat.le_refl _, .inr rfl, hy⟩
    · exact ⟨lenB x, Nat.le_refl _, h, .inl rfl, hx⟩
  refine (more_any a b (lenB x) (lenB y) ca cb M (dgi x) (dgi y) w ha hb (dgi_Dig _ _) (dgi_Dig _ _) hx hy hM1 hM2 hM3).mono ?_
  rintro e w' ⟨v, K, rfl, h1, h2, h3, h4, h5⟩
  obtain ⟨a', cap', rfl, hO, -⟩ := Own.of_row h4 (fun i hi => by have := cD_Dig (fun k => part (dgi x) (lenB x) k + part (dgi y) (lenB y) k) K i hi; omega)
  refine ⟨a', K, cap', _, rfl, cD_Dig _ _, ?_, by omega, hO, h5⟩
  have h := cS_sum (fun k => part (dgi x) (lenB x) k + part (dgi y) (lenB y) k) K
  rw [h3, sumB_plus, sumB_part _ (by omega), sumB_part _ (by omega), sumB_dgi, sumB_dgi] at h
  omega
theorem less_own (x y : Nat) (a b : Option Addr) (ca cb : Nat) (w : World) (ha : Rd w a (lenB x) (dgi x)) (hb : Rd w b (lenB y) (dgi y)) (hx : lenB x ≤ 100000000) (hy : y ≤ x) :
    Calls Tryz.prog 211 #[.slice a (lenB x) ca, .slice b (lenB y) cb] w (AmtR w (x - y)) := by
  have hl := lenB_mono hy
  refine (less_any a b (lenB x) (lenB y) ca cb (dgi x) (dgi y) w ha hb (dgi_Dig _ _) (dgi_Dig _ _) hx hl).mono ?_
  rintro e w' ⟨v, rfl, h4, h5⟩
  obtain ⟨a', cap', rfl, hO, -⟩ := Own.of_row h4 (fun i hi => by have := cD_Dig (fun k => part (dgi x) (lenB x) k - part (dgi y) (lenB y) k) (lenB x) i hi; omega)
  refine ⟨a', lenB x, cap', _, rfl, cD_Dig _ _, ?_, by omega, hO, h5⟩
  have e : (fun k => part (dgi x) (lenB x) k - part (dgi y) (lenB y) k) = fun k => part (dgi x) (lenB x) k + part (dgi y) (lenB y) k * (-1) := by funext k; omega
  have hs : sumB (fun k => part (dgi x) (lenB x) k - part (dgi y) (lenB y) k) (lenB x) = (x : Int) - y := by
    rw [e, sumB_plus, sumB_times, sumB_part _ (Nat.le_refl _), sumB_part _ hl, sumB_dgi, sumB_dgi]; omega
  have hlt := lt_pw_lenB x
  have h := (cS_fits (f := fun k => part (dgi x) (lenB x) k - part (dgi y) (lenB y) k) (n := lenB x) (by rw [hs]; omega) (by rw [hs]; omega)).2
  rw [h, hs]; omega
theorem Own.short {T : Nat} {w : World} {base : Nat} {a : Option Addr} {n cap L : Nat} {o o' : Nat → Int} (h : Own T w base a n cap o) (hL : L ≤ n) (e : ∀ i, i < L → o i = o' i) : Own T w base a L cap o' := by
  refine ⟨Nat.le_trans hL h.le, ?_, fun i hi => by rw [← e i hi]; exact h.rng i (by omega)⟩
  rcases h.place with ⟨e0, h0, h1⟩ | ⟨g, cur, ha, hbg, hg, hcap, hc⟩
  · exact Or.inl ⟨e0, by omega, by omega⟩
  · exact Or.inr ⟨g, cur, ha, hbg, hg, hcap, fun i hi => by rw [hc i (by omega)]; show some (Value.int .u32 (o i)) = _; rw [e i hi]⟩
theorem own_fit {T : Nat} {w : World} {base : Nat} {a : Option Addr} {n cap N : Nat} {o : Nat → Int} (h : Own T w base a n cap o) (hd : Dig o n) (hs : sumB o n = (N : Int)) : Own T w base a (lenB N) cap (dgi N) := by
  have e : (sumB o n).toNat = N := by omega
  have h1 := lenB_le_of hd
  rw [e] at h1
  refine h.short h1 fun i hi => ?_
  have h2 := dg_sumB hd i (by omega)
  rw [e] at h2
  exact h2.symm
theorem num_own (s sB : Bool) (a : Option Addr) (n cap N b : Nat) (o : Nat → Int) (w : World) (h : Own 80 w b a n cap o) (hd : Dig o n) (hn : n ≤ 1000000000) (hs : sumB o n = (N : Int)) (hB : (s && decide (0 < lenB N)) = sB) :
    Calls Tryz.prog 114 #[.bool s, .slice a n cap] w fun e w' => e = .returned (numV sB a (lenB N) cap) ∧ Below w.heap.size w w' := by
  have h1 := num_any s a n cap o w h.rd hd hn h.le
  rw [show (sumB o n).toNat = N by omega, hB] at h1
  exact h1
def AmtF (b N : Nat) (x : Option Addr × Nat × Nat) (w : World) : Prop := ∃ o, Dig o x.2.1 ∧ sumB o x.2.1 = (N : Int) ∧ x.2.1 ≤ 1000000000 ∧ Own 80 w b x.1 x.2.1 x.2.2 o
theorem AmtF.keeps {b N : Nat} (x : Option Addr × Nat × Nat) (w w' : World) (h : AmtF b N x w) (hb : Below w.heap.size w w') : AmtF b N x w' := by
  obtain ⟨o, h1, h2, h3, h4⟩ := h
  exact ⟨o, h1, h2, h3, h4.below hb⟩
theorem amt_of {b N : Nat} {x : Option Addr × Nat × Nat} {w : World} (h : ∃ y : Option Addr × Nat × Nat, Value.slice x.1 x.2.1 x.2.2 = .slice y.1 y.2.1 y.2.2 ∧ AmtF b N y w) : AmtF b N x w := by
  obtain ⟨⟨y1, y2, y3⟩, e, h⟩ := h
  obtain ⟨x1, x2, x3⟩ := x
  simp only [Value.slice.injEq] at e
  obtain ⟨rfl, rfl, rfl⟩ := e
  exact h
theorem own_numc {T L b : Nat} {s : Bool} {x : Option Addr × Nat} {o : Nat → Int} {w : World} (h : ∃ y : Option Addr × Nat, numV s x.1 L x.2 = numV s y.1 L y.2 ∧ Own T w b y.1 L y.2 o) : Own T w b x.1 L x.2 o := by
  obtain ⟨y, e, h⟩ := h
  simp only [Value.agg.injEq, Array.mk.injEq, List.cons.injEq, Value.slice.injEq, true_and, and_true] at e
  rw [e.1, e.2]
  exact h
theorem plus_plain (z1 z2 : Int) (h : decide (z1 < 0) = decide (z2 < 0)) : z1.natAbs + z2.natAbs = (z1 + z2).natAbs ∧ (decide (z1 < 0) && decide (0 < lenB (z1 + z2).natAbs)) = decide (z1 + z2 < 0) := by
  have e0 := pos_len (z := z1 + z2)
  by_cases h1 : z1 < 0 <;> by_cases h2 : z2 < 0 <;> simp only [h1, h2, decide_true, decide_false, reduceCtorEq] at h <;> refine ⟨by omega, ?_⟩ <;> simp only [h1, decide_true, decide_false, Bool.true_and, Bool.false_and]
  · exact decide_eq_decide.2 (e0.trans (by omega))
  · exact (decide_eq_false (by omega)).symm
theorem minus_plain (zp zq : Int) (h : zq.natAbs ≤ zp.natAbs) (hs : ¬ decide (zp < 0) = decide (zq < 0)) : zp.natAbs - zq.natAbs = (zp + zq).natAbs ∧ (decide (zp < 0) && decide (0 < lenB (zp + zq).natAbs)) = decide (zp + zq < 0) := by
  have h3 := add_plain zp zq (-1) h (by rw [if_neg hs])
  exact ⟨by omega, h3.2.2⟩
set_option maxHeartbeats 1000000 in
theorem rsign_any (s1 : Bool) (a1 : Option Addr) (n1 c1 : Nat) (o1 : Nat → Int) (w : World) (h1 : Rd w a1 n1 o1) (hn1 : n1 ≤ 100000000) (hc1 : n1 ≤ c1) :
    Calls Tryz.prog 48 #[numV s1 a1 n1 c1] w fun e w' => e = .returned (.int .i64 (cmpZ (valN s1 n1 o1) 0)) ∧ Below w.heap.size w w' := by
  obtain ⟨x1, d1, r1, l1, m1, O1⟩ := fit_any s1 a1 n1 c1 o1 w h1 (by omega) hc1
  generalize valN s1 n1 o1 = z1 at r1 l1 m1 O1 ⊢
  have HO1 := Lib.hid O1; clear O1
  have HB1 := Lib.hid (Bx.new w 24 (.bool s1) (.slice a1 n1 c1))
  clear h1 r1
  go_enter Tryz.func48, Tryz.ntmps48
  go_wp2_with fail
  refine (HO1.out _ ?_).mono ?_
  · (repeat' (first | (with_reducible exact Below.refl _ _) | (with_reducible assumption) | (with_reducible refine Below.alloc ?_ ?_ _) | (with_reducible refine Below.drew ?_) | (with_reducible refine bdrewN ?_ _) | (with_reducible refine Below.setCell ?_ ?_ _) | (with_reducible refine Below.frame ?_ _) | go_size))
  rintro e w1 ⟨rfl, hb1⟩
  have B1 := HB1.out.below hb1 HB1.out.lt
  have G1 := Lib.hid (((Below.refl _ _).alloc (by go_size) _).trans (hb1.mono (by go_size)) : Below w.heap.size w w1)
  obtain ⟨b10, b11, b12, b13⟩ := B1.all
  clear HB1 B1 hb1 HO1
  obtain ⟨L, hL⟩ : ∃ L, L = lenB z1.natAbs := ⟨_, rfl⟩
  rw [← hL] at l1 m1 ⊢
  rcases Int.lt_trichotomy z1 0 with h | h | h
  · have E := Lib.hid (cmpZ_lt (x := z1) (y := 0) h)
    rw [decide_eq_true h]
    clear h
    go_wp2
    go_ret
    exact ⟨by rw [E.out]; rfl, (G1.out.setCell (by simp) _).setCell (by simp) _⟩
  · have E := Lib.hid (cmpZ_eq (x := z1) (y := 0) h)
    rw [decide_eq_false (by omega)]
    obtain rfl : L = 0 := by rw [hL, h]; exact lenB_zero
    clear h hL
    go_wp2
    go_ret
    exact ⟨by rw [E.out]; rfl, (G1.out.setCell (by simp) _).setCell (by simp) _⟩
  · have E := Lib.hid (cmpZ_gt (x := z1) (y := 0) h)
    rw [decide_eq_false (by omega)]
    have h0 : (L : Int) > 0 := by have := (pos_len (z := z1)).2 (by omega); omega
    clear h hL
    go_wp2
    go_ret
    exact ⟨by rw [E.out]; rfl, (G1.out.setCell (by simp) _).setCell (by simp) _⟩
end Go.Proofs.YtklidpbdgliemaaGreatDoor.Limb
namespace Go.Proofs.YtklidpbdgliemaaGreatDoor.Book
open Go.RowKit Go.Sort Go.Fresh Go.Proofs.YtklidpbdgliemaaGreatDoor.Limb
structure Touch (U : Nat → Prop) (w w' : World) : Prop where
  os : w'.os = w.os
  tape : w'.tape = w.tape
  output : w'.output = w.output
  size : w.heap.size ≤ w'.heap.size
  block : ∀ k, k < w.heap.size → ¬ U k → w'.heap[k]? = w.heap[k]?
theorem Touch.refl (U : Nat → Prop) (w : World) : Touch U w w := ⟨rfl, rfl, rfl, Nat.le_refl _, fun _ _ _ => rfl⟩
theorem Touch.trans {U : Nat → Prop} {a b c : World} (h : Touch U a b) (k : Touch U b c) : Touch U a c :=
  ⟨k.os.trans h.os, k.tape.trans h.tape, k.output.trans h.output, Nat.le_trans h.size k.size, fun i hi hu => (k.block i (Nat.lt_of_lt_of_le hi h.size) hu).trans (h.block i hi hu)⟩
theorem Touch.mono {U V : Nat → Prop} {a b : World} (h : Touch U a b) (hU : ∀ k, U k → V k) : Touch V a b := ⟨h.os, h.tape, h.output, h.size, fun i hi hu => h.block i hi fun hh => hu (hU i hh)⟩
theorem Touch.weak {U V : Nat → Prop} {a b : World} (h : Touch U a b) (hU : ∀ k, k < a.heap.size → U k → V k) : Touch V a b := ⟨h.os, h.tape, h.output, h.size, fun i hi hu => h.block i hi fun hh => hu (hU i hi hh)⟩
theorem Touch.of_below {U : Nat → Prop} {a b : World} (h : Below a.heap.size a b) : Touch U a b := ⟨h.os, h.tape, h.output, h.size, fun i hi _ => h.block i hi⟩
theorem Touch.to_below {U : Nat → Prop} {a b : World} {B : Nat} (h : Touch U a b) (hB : B ≤ a.heap.size) (hU : ∀ k, k < B → ¬ U k) : Below B a b := ⟨h.os, h.tape, h.output, h.size, fun i hi => h.block i (by omega) (hU i hi)⟩
theorem Touch.drewN {U : Nat → Prop} {a b : World} (h : Touch U a b) (m : Nat) : Touch U a (b.drewN m) := ⟨h.os, h.tape, h.output, h.size, h.block⟩
theorem Touch.drew {U : Nat → Prop} {a b : World} (h : Touch U a b) : Touch U a b.drew := ⟨h.os, h.tape, h.output, h.size, h.block⟩
theorem Touch.alloc {U : Nat → Prop} {a b : World} (h : Touch U a b) (o : Obj) : Touch U a (b.alloc o) := h.trans (Touch.of_below ((Below.refl _ _).alloc (Nat.le_refl _) o))
theorem Touch.setCell {U : Nat → Prop} {a b : World} (h : Touch U a b) {p : Addr} (hp : U p.block ∨ a.heap.size ≤ p.block) (v : Value) : Touch U a (b.setCell p v) :=
  ⟨h.os, h.tape, h.output, by simpa using h.size, fun i hi hu => by
    rw [Below.heap_setCell _ _ _ _ (fun e => by subst e; rcases hp with hp | hp; exact hu hp; omega)]
    exact h.block i hi hu⟩
theorem Touch.grown {U : Nat → Prop} {a b c : World} {row : Option Nat} (h : Touch U a b) (hg : b.grownBy c row) (hr : ∀ k, row = some k → U k ∨ a.heap.size ≤ k) : Touch U a c :=
  ⟨hg.os.trans h.os, hg.tape.trans h.tape, hg.output.trans h.output, Nat.le_trans h.size hg.size, fun i hi hu => by
    rw [hg.block i (Nat.lt_of_lt_of_le hi h.size) (fun e => by rcases hr i e.symm with h1 | h1; exact hu h1; omega)]
    exact h.block i hi hu⟩
end Go.Proofs.YtklidpbdgliemaaGreatDoor.Book
namespace Go.Proofs.YtklidpbdgliemaaGreatDoor.Limb
open Go.RowKit Go.Sort Go.Fresh
theorem Own.keep {T : Nat} {w w' : World} {base : Nat} {a : Option Addr} {n cap : Nat} {o : Nat → Int} (h : Own T w base a n cap o) (hk : ∀ p, a = some p → w'.heap[p.block]? = w.heap[p.block]?) : Own T w' base a n cap o := by
  refine ⟨h.le, ?_, h.rng⟩
  rcases h.place with h0 | ⟨g, cur, ha, hbg, hg, hcap, hc⟩
  · exact Or.inl h0
  · exact Or.inr ⟨g, cur, ha, hbg, (hk _ ha).trans hg, hcap, hc⟩
theorem Own.blk {T : Nat} {w : World} {base : Nat} {a : Option Addr} {n cap : Nat} {o : Nat → Int} (h : Own T w base a n cap o) {p : Addr} (hp : a = some p) : p = ⟨p.block, 0, none⟩ ∧ base ≤ p.block ∧ p.block < w.heap.size := by
  rcases h.place with h0 | ⟨g, cur, ha, hbg, hg, hcap, hc⟩
  · rw [h0.1] at hp; cases hp
  · obtain rfl := Option.some.inj (ha.symm.trans hp)
    exact ⟨rfl, hbg, lt_of_block hg⟩
theorem Own.some_of_pos {T : Nat} {w : World} {base : Nat} {a : Option Addr} {n cap : Nat} {o : Nat → Int} (h : Own T w base a n cap o) (hn : 0 < n) : ∃ g, a = some ⟨g, 0, none⟩ := by
  rcases h.place with h0 | ⟨g, cur, ha, _⟩
  · omega
  · exact ⟨g, ha⟩
theorem Own.fz {T : Nat} {w : World} {base g n cap : Nat} {o : Nat → Int} (h : Own T w base (some ⟨g, 0, none⟩) n cap o) (i : Nat) : w.frozen? ⟨g, i, none⟩ = false := by
  rcases h.place with h0 | ⟨g', cur, ha, hbg, hg, hcap, hc⟩
  · cases h0.1
  · cases ha; exact frozen_of_row w _ i cur T hg
theorem Own.cell {T : Nat} {w : World} {base g n cap : Nat} {o : Nat → Int} (h : Own T w base (some ⟨g, 0, none⟩) n cap o) {i : Nat} (hi : i < n) : w.cell? ⟨g, i, none⟩ = some (.int .u32 (o i)) := by
  rcases h.place with h0 | ⟨g', cur, ha, hbg, hg, hcap, hc⟩
  · cases h0.1
  · cases ha
    rw [cell_of_row _ _ _ _ _ _ hg]
    exact hc i hi
theorem Own.congr {T : Nat} {w : World} {base : Nat} {a : Option Addr} {n cap : Nat} {o o' : Nat → Int} (h : Own T w base a n cap o) (e : ∀ i, i < n → o i = o' i) : Own T w base a n cap o' := by
  refine ⟨h.le, ?_, fun i hi => by rw [← e i hi]; exact h.rng i hi⟩
  rcases h.place with h0 | ⟨g, cur, ha, hbg, hg, hcap, hc⟩
  · exact Or.inl h0
  · exact Or.inr ⟨g, cur, ha, hbg, hg, hcap, fun i hi => by rw [hc i hi]; show some (Value.int .u32 (o i)) = _; rw [e i hi]⟩
theorem Own.less {T : Nat} {w : World} {base : Nat} {a : Option Addr} {n cap L : Nat} {o : Nat → Int} (h : Own T w base a n cap o) (hL : L ≤ n) : Own T w base a L cap o := by
  refine ⟨Nat.le_trans hL h.le, ?_, fun i hi => h.rng i (by omega)⟩
  rcases h.place with ⟨e0, h0, h1⟩ | ⟨g, cur, ha, hbg, hg, hcap, hc⟩
  · exact Or.inl ⟨e0, by omega, by omega⟩
  · exact Or.inr ⟨g, cur, ha, hbg, hg, hcap, fun i hi => hc i (by omega)⟩
theorem Own.put {T : Nat} {w : World} {base g n cap : Nat} {o : Nat → Int} (h : Own T w base (some ⟨g, 0, none⟩) n cap o) {t : Nat} (ht : t < n) {v : Int} (hv : 0 ≤ v ∧ v ≤ 4294967295) :
    Own T (w.setCell ⟨g, t, none⟩ (.int .u32 v)) base (some ⟨g, 0, none⟩) n cap (upd o t v) := by
  refine ⟨h.le, ?_, fun i hi => ?_⟩
  · rcases h.place with h0 | ⟨g', cur, ha, hbg, hg, hcap, hc⟩
    · cases h0.1
    · cases ha
      refine Or.inr ⟨g, cur.setIfInBounds t (.int .u32 v), rfl, hbg, heap_setCell_same w g t cur T _ hg, by simpa using hcap, fun i hi => ?_⟩
      rw [Array.getElem?_setIfInBounds]
      by_cases e : t = i
      · subst e
        have := h.le
        rw [if_pos rfl, if_pos (by omega)]
        show _ = some (Value.int .u32 (upd o t v t)); rw [upd_same]
      · rw [if_neg e]
        show _ = some (Value.int .u32 (upd o t v i)); rw [upd_ne _ _ (fun h => e h.symm)]
        exact hc i hi
  · by_cases e : i = t
    · subst e; rw [upd_same]; exact hv
    · rw [upd_ne _ _ e]; exact h.rng i hi
end Go.Proofs.YtklidpbdgliemaaGreatDoor.Limb
namespace Go.Proofs.YtklidpbdgliemaaGreatDoor.Book
open Go.RowKit Go.Sort Go.Fresh Go.Proofs.YtklidpbdgliemaaGreatDoor.Limb
theorem ucs_upd {o : Nat → Int} {n : Nat} {v : Int} : ucs (upd o n v) n = ucs o n := by
  unfold ucs
  refine List.map_congr_left fun i hi => ?_
  rw [List.mem_range] at hi
  show Value.int .u32 (upd o n v i) = .int .u32 (o i)
  rw [upd_ne _ _ (by omega)]
theorem push_any {w : World} {base : Nat} {a : Option Addr} {n cap : Nat} {o : Nat → Int} (h : Own 80 w base a n cap o) (hn : n ≤ 1000000000) (hb : base ≤ w.heap.size) {gs : Nat} {v : Int} (hc : w.cell? ⟨gs, 0, none⟩ = some (.int .u32 v)) (hv : 0 ≤ v ∧ v ≤ 4294967295) (ty m c : Nat) (hm : m = 1) :
    ∃ a' cap' w', (Builtin.append_ #[22, 22] ty #[.slice a n cap, .slice (some ⟨gs, 0, none⟩) m c]).run Tryz.prog w = .ok (.slice a' (n + 1) cap') w' ∧ Own 80 w' base a' (n + 1) cap' (upd o n v) ∧
      ((a' = a ∧ cap' = cap ∧ w.grownBy w' (a.map (·.block))) ∨ ((∃ g, a' = some ⟨g, 0, none⟩ ∧ w.heap.size ≤ g) ∧ w.grownBy w' none ∧ cap < n + 1)) := by
  subst hm
  obtain ⟨i0, hi, hz0, hz1, hz2⟩ := info_parts info32
  have hnews : ∀ j u, [Value.int .u32 v][j]? = some u → w.cell? ((⟨gs, 0, none⟩ : Addr).add j) = some u := by
    intro j u hj
    match j, hj with
    | 0, hj =>
      simp at hj; subst hj
      rw [Addr.add_lit]; exact hc
  have h1 : ∀ u ∈ [Value.int .u32 v], u.oneCell' = true := by intro u hu; simp at hu; subst hu; rfl
  have hrng : ∀ i, i < n + 1 → 0 ≤ upd o n v i ∧ upd o n v i ≤ 4294967295 := by
    intro i hi
    by_cases e : i = n
    · subst e; rw [upd_same]; exact hv
    · rw [upd_ne _ _ e]; exact h.rng i (by omega)
  have grownOwn : ∀ old, old < n + 1 → (w.drew.alloc (.cells ((ucs o n).toArray ++ [Value.int .u32 v].toArray ++ Builtin.zeroCells (Value.int .u32 0).cells (grownCap w (n + 1) old 80 - (n + 1))) 80)).heap.size = w.heap.size + 1 ∧
      Own 80 (w.drew.alloc (.cells ((ucs o n).toArray ++ [Value.int .u32 v].toArray ++ Builtin.zeroCells (Value.int .u32 0).cells (grownCap w (n + 1) old 80 - (n + 1))) 80)) base (some ⟨w.heap.size, 0, none⟩) (n + 1) (grownCap w (n + 1) old 80) (upd o n v) ∧
      w.grownBy (w.drew.alloc (.cells ((ucs o n).toArray ++ [Value.int .u32 v].toArray ++ Builtin.zeroCells (Value.int .u32 0).cells (grownCap w (n + 1) old 80 - (n + 1))) 80)) none := by
    intro old ho
    have hge := grownCap_ge w (n + 1) old 80
    refine ⟨by simp, ⟨hge, Or.inr ⟨w.heap.size, _, rfl, hb, heap_alloc_new w.drew _, ?_, fun i hi => ?_⟩, hrng⟩, ⟨rfl, rfl, rfl, by simp, fun k hk _ => heap_alloc_old w.drew _ hk⟩⟩
    · simp only [Array.size_append, List.size_toArray, size_zeroCells, ucs_len, List.length_cons, List.length_nil]
      show _ ≤ n + (0 + 1) + _ * 1
      omega
    · rw [Array.getElem?_append_left (by simp only [Array.size_append, List.size_toArray, ucs_len, List.length_cons, List.length_nil]; omega), ← Array.getElem?_toList, Array.toList_append]
      show (ucs o n ++ [Value.int .u32 v])[i]? = some (uc (upd o n v) i)
      rw [← ucs_get (upd o n v) (n + 1) i hi, ucs_succ, ucs_upd]
      show _ = (ucs o n ++ [Value.int .u32 (upd o n v n)])[i]?
      rw [upd_same]
  rcases h.place with ⟨rfl, rfl, rfl⟩ | ⟨g, cur, rfl, hbg, hg, hcap, hcc⟩
  · have hr := run_append_nil (P := Tryz.prog) w 22 ty 80 i0 (.int .u32 0) Tryz.underlying22 hi hz0 ⟨gs, 0, none⟩ 1 c [.int .u32 v] (by rw [hz1]; rfl) hnews (by omega) (by omega) (by rw [hz2]; omega)
    have hgr := grownOwn 0 (by omega)
    simp only [Nat.zero_add, ucs, List.range_zero, List.map_nil, Array.empty_append] at hgr
    refine ⟨_, _, _, hr, hgr.2.1, Or.inr ⟨⟨_, rfl, Nat.le_refl _⟩, hgr.2.2, by omega⟩⟩
  · by_cases hroom : n + 1 ≤ cap
    · have hr := run_append_room (P := Tryz.prog) w 22 ty 80 i0 Tryz.underlying22 hi g n cap cur hg ⟨gs, 0, none⟩ 1 c [.int .u32 v] (by rw [hz1]; rfl) hnews h1 hroom (by rw [hz1]; simp; omega)
      refine ⟨_, _, _, hr, ⟨hroom, Or.inr ⟨g, _, rfl, hbg, setRow_heap w g cur _ _ _ hg, ?_, fun i hi => ?_⟩, hrng⟩, Or.inl ⟨rfl, rfl, ⟨rfl, rfl, rfl, by simp, fun k _ hk => setRow_other w g k _ (fun e => hk (by simp [e]))⟩⟩⟩
      · simp only [List.size_toArray, List.length_append, List.length_take, List.length_drop, Array.length_toList, List.length_cons, List.length_nil]
        omega
      · rw [hz1, Nat.mul_one]
        rw [List.getElem?_toArray, List.append_assoc]
        have hlt : (cur.toList.take n).length = n := by simp; omega
        by_cases e : i < n
        · rw [List.getElem?_append_left (by rw [hlt]; exact e), List.getElem?_take, if_pos e]
          have := hcc i e
          rw [Array.getElem?_toList, this]
          show some (Value.int .u32 (o i)) = some (Value.int .u32 (upd o n v i))
          rw [upd_ne _ _ (by omega)]
        · obtain rfl : i = n := by omega
          rw [List.getElem?_append_right (by rw [hlt]; exact Nat.le_refl _), hlt, Nat.sub_self]
          show some (Value.int .u32 v) = some (Value.int .u32 (upd o i v i))
          rw [upd_same]
    · have holds : ∀ j u, (ucs o n)[j]? = some u → w.cell? ((⟨g, 0, none⟩ : Addr).add j) = some u := by
        intro j u hj
        obtain ⟨hj1, rfl⟩ := ucs_get' hj
        rw [Addr.add_lit, Nat.zero_add, cell_of_row _ _ _ _ _ _ hg]
        exact hcc j hj1
      have hle := h.le
      have hr := run_append_grow (P := Tryz.prog) w 22 ty 80 i0 (.int .u32 0) Tryz.underlying22 hi hz0 ⟨g, 0, none⟩ n cap (ucs o n) (by rw [ucs_len, hz1]; omega) holds ⟨gs, 0, none⟩ 1 c [.int .u32 v] (by rw [hz1]; rfl) hnews (by omega) (by omega) (growslice_fits (by omega) (by rw [hz2]; omega))
      have hgr := grownOwn cap (by omega)
      exact ⟨_, _, _, hr, hgr.2.1, Or.inr ⟨⟨_, rfl, Nat.le_refl _⟩, hgr.2.2, by omega⟩⟩
theorem wpList_push {ops : Array Oper} {rest : List Oper} {oo : Oper} {ac : Act} {Q : Exit → Act → World → Prop} (hgd : oo.guard = none) (s x : Operand)
    (ho : oo.op = .call { callee := .builtin .append, args := #[s, x], argTypes := #[22, 22] })
    {w : World} {base : Nat} {a : Option Addr} {n cap : Nat} {o : Nat → Int} (hs : ac.eval s = .slice a n cap) (h : Own 80 w base a n cap o) (hn : n ≤ 1000000000) (hb : base ≤ w.heap.size)
    {gs : Nat} {v : Int} {m c : Nat} (hx : ac.eval x = .slice (some ⟨gs, 0, none⟩) m c) (hc : w.cell? ⟨gs, 0, none⟩ = some (.int .u32 v)) (hv : 0 ≤ v ∧ v ≤ 4294967295) (hm : m = 1)
    (hK : ∀ a' cap' w', Own 80 w' base a' (n + 1) cap' (upd o n v) → ((a' = a ∧ cap' = cap ∧ w.grownBy w' (a.map (·.block))) ∨ ((∃ g, a' = some ⟨g, 0, none⟩ ∧ w.heap.size ≤ g) ∧ w.grownBy w' none ∧ cap < n + 1)) →
      wpList Tryz.prog ops Q rest (ac.put oo.dst (.slice a' (n + 1) cap')) w') : wpList Tryz.prog ops Q (oo :: rest) ac w := by
  refine wpList_plain hgd fun K hK' => ?_
  obtain ⟨a', cap', w', hr, h2, h3⟩ := push_any h hn hb hc hv oo.type m c hm
  unfold Oper.wp execOp
  simp only [ho, resolve, invoke, builtin, Sem.run_bind, Sem.run_pure, Result.andThen_ok, List.map_toArray, List.map_cons, List.map_nil, hs, hx, hr]
  exact hK' _ _ (hK _ _ _ h2 h3)
def mk (j : Nat) : Int := 1001 + j
theorem mk_rng {j : Nat} (h : j ≤ 1000) : 0 ≤ mk j ∧ mk j ≤ 4294967295 := by unfold mk; omega
theorem mark_any (j : Nat) (w : World) (h : j ≤ 1000) : Calls Tryz.prog 132 #[.int .i64 ((j : Int) + 1)] w fun e w' => e = .returned (.int .u32 (mk j)) ∧ w' = w := by
  have e1 := IntWalk.i64_in (1000 + ((j : Int) + 1)) (by omega)
  have e2 := IntWalk.u32_in (1000 + ((j : Int) + 1)) (by omega)
  have e3 : 1000 + ((j : Int) + 1) = mk j := by unfold mk; omega
  go_enter Tryz.func132, Tryz.ntmps132
  go_wp2
  go_ret
  exact ⟨rfl, rfl⟩
theorem is_any (x : Int) (j : Nat) (w : World) (h : j ≤ 1000) : Calls Tryz.prog 144 #[.int .u32 x, .int .i64 ((j : Int) + 1)] w fun e w' => e = .returned (.bool (x == mk j)) ∧ w' = w := by
  have e1 := IntWalk.i64_in (1000 + ((j : Int) + 1)) (by omega)
  have e2 := IntWalk.u32_in (1000 + ((j : Int) + 1)) (by omega)
  have e3 : 1000 + ((j : Int) + 1) = mk j := by unfold mk; omega
  go_enter Tryz.func144, Tryz.ntmps144
  go_wp2
  go_ret
  exact ⟨rfl, rfl⟩
end Go.Proofs.YtklidpbdgliemaaGreatDoor.Book
namespace Go.Proofs.YtklidpbdgliemaaGreatDoor.Limb
open Go.RowKit Go.Sort Go.Fresh
set_option maxHeartbeats 1000000 in
theorem radd_any (s1 : Bool) (a1 : Option Addr) (n1 c1 : Nat) (o1 : Nat → Int) (s2 : Bool) (a2 : Option Addr) (n2 c2 : Nat) (o2 : Nat → Int) (w : World)
    (h1 : Rd w a1 n1 o1) (hn1 : n1 ≤ 100000000) (hc1 : n1 ≤ c1) (h2 : Rd w a2 n2 o2) (hn2 : n2 ≤ 100000000) (hc2 : n2 ≤ c2) :
    Calls Tryz.prog 176 #[numV s1 a1 n1 c1, numV s2 a2 n2 c2] w (ResF w (valN s1 n1 o1 + valN s2 n2 o2)) := by
  obtain ⟨x1, d1, r1, l1, m1, O1⟩ := fit_any s1 a1 n1 c1 o1 w h1 (by omega) hc1
  obtain ⟨x2, d2, r2, l2, m2, O2⟩ := fit_any s2 a2 n2 c2 o2 w h2 (by omega) hc2
  generalize valN s1 n1 o1 = z1 at r1 l1 m1 O1 ⊢
  have HO1 := Lib.hid O1; clear O1
  generalize valN s2 n2 o2 = z2 at r2 l2 m2 O2 ⊢
  have HO2 := Lib.hid O2; clear O2
  have HR := Lib.hid (And.intro r1 r2)
  clear h1 h2 r1 r2
  have HB1 := Lib.hid (((Bx.new w 24 (.bool s1) (.slice a1 n1 c1)).alloc (.cells #[.bool s2, .slice a2 n2 c2] 24)).alloc (.cells #[.bool false, .slice none 0 0] 24))
  have HB2 := Lib.hid ((Bx.new2 w (.cells #[.bool s1, .slice a1 n1 c1] 24) 24 (.bool s2) (.slice a2 n2 c2)).alloc (.cells #[.bool false, .slice none 0 0] 24))
  have HB3 := Lib.hid (Bx.new3 w (.cells #[.bool s1, .slice a1 n1 c1] 24) (.cells #[.bool s2, .slice a2 n2 c2] 24) 24 (.bool false) (.slice none 0 0))
  go_enter Tryz.func176, Tryz.ntmps176
  go_wp2_with fail
  refine (HO1.out _ ?_).mono ?_
  · (repeat' (first | (with_reducible exact Below.refl _ _) | (with_reducible assumption) | (with_reducible refine Below.alloc ?_ ?_ _) | (with_reducible refine Below.drew ?_) | (with_reducible refine bdrewN ?_ _) | (with_reducible refine Below.setCell ?_ ?_ _) | (with_reducible refine Below.frame ?_ _) | go_size))
  rintro e w1 ⟨rfl, hb1⟩
  have B1 := HB1.out.below hb1 HB1.out.lt
  have B2 := HB2.out.below hb1 HB2.out.lt
  have B3 := HB3.out.below hb1 HB3.out.lt
  have G1 := Lib.hid (((Below.refl _ _).alloc (by go_size) _ |>.alloc (by go_size) _ |>.alloc (by go_size) _).trans (hb1.mono (by go_size)) : Below w.heap.size w w1)
  have K1 := Lib.hid B1; have K2 := Lib.hid B2; have K3 := Lib.hid B3
  obtain ⟨b10, b11, b12, b13⟩ := B1.all
  obtain ⟨b20, b21, b22, b23⟩ := B2.all
  clear HB1 HB2 HB3 B1 B2 B3 hb1
  go_wp2_with fail
  refine (HO2.out _ ?_).mono ?_
  · have := G1.out; (repeat' (first | (with_reducible exact Below.refl _ _) | (with_reducible assumption) | (with_reducible refine Below.alloc ?_ ?_ _) | (with_reducible refine Below.drew ?_) | (with_reducible refine bdrewN ?_ _) | (with_reducible refine Below.setCell ?_ ?_ _) | (with_reducible refine Below.frame ?_ _) | go_size))
  rintro e w2 ⟨rfl, hb2⟩
  have B1 := (K1.out.set (.bool (decide (z1 < 0))) (.slice x1 (lenB z1.natAbs) d1)).below hb2 (by simpa using K1.out.lt)
  have B2 := ((K2.out.other (a := ⟨w.heap.size, 0, none⟩) (by dsimp only; omega) (.bool (decide (z1 < 0)))).other (a := ⟨w.heap.size, 1, none⟩) (by dsimp only; omega) (.slice x1 (lenB z1.natAbs) d1)).below hb2 (by simpa using K2.out.lt)
  have B3 := ((K3.out.other (a := ⟨w.heap.size, 0, none⟩) (by dsimp only; omega) (.bool (decide (z1 < 0)))).other (a := ⟨w.heap.size, 1, none⟩) (by dsimp only; omega) (.slice x1 (lenB z1.natAbs) d1)).below hb2 (by simpa using K3.out.lt)
  have G2 := Lib.hid (((G1.out.setCell (by simp) _).setCell (by simp) _).trans (hb2.mono (by simpa using G1.out.size)) : Below w.heap.size w w2)
  have C1 := Lib.hid B1; have C2 := Lib.hid B2; have C3 := Lib.hid B3
  obtain ⟨b10, b11, b12, b13⟩ := B1.all
  obtain ⟨b20, b21, b22, b23⟩ := B2.all
  clear K1 K2 K3 B1 B2 B3 hb2 G1
  go_upto_region 3 with (fail)
  obtain ⟨W, hW⟩ : ∃ W, W = ((w2.setCell ⟨w.heap.size + 1, 0, none⟩ (.bool (decide (z2 < 0)))).setCell ⟨w.heap.size + 1, 1, none⟩ (.slice x2 (lenB z2.natAbs) d2)) := ⟨_, rfl⟩
  have B1 := (C1.out.other (a := ⟨w.heap.size + 1, 0, none⟩) (by dsimp only; omega) (.bool (decide (z2 < 0)))).other (a := ⟨w.heap.size + 1, 1, none⟩) (by dsimp only; omega) (.slice x2 (lenB z2.natAbs) d2)
  have B2 := C2.out.set (.bool (decide (z2 < 0))) (.slice x2 (lenB z2.natAbs) d2)
  have B3 := (C3.out.other (a := ⟨w.heap.size + 1, 0, none⟩) (by dsimp only; omega) (.bool (decide (z2 < 0)))).other (a := ⟨w.heap.size + 1, 1, none⟩) (by dsimp only; omega) (.slice x2 (lenB z2.natAbs) d2)
  have G3 := (G2.out.setCell (p := ⟨w.heap.size + 1, 0, none⟩) (by simp) (.bool (decide (z2 < 0)))).setCell (p := ⟨w.heap.size + 1, 1, none⟩) (by simp) (.slice x2 (lenB z2.natAbs) d2)
  rw [← hW] at B1 B2 B3 G3
  rw [show ((w2.setCell ⟨w.heap.size + 1, 0, none⟩ (.bool (decide (z2 < 0)))).setCell ⟨w.heap.size + 1, 1, none⟩ (.slice x2 (lenB z2.natAbs) d2)) = W from hW.symm]
  have HG := Lib.hid G3
  have HB1 := Lib.hid B1; have HB2 := Lib.hid B2; have HB3 := Lib.hid B3
  have HS1 := Lib.hid (fun (w' : World) (hb : Below W.heap.size W w') => And.intro (HB1.out.below hb HB1.out.lt).c0 (HB1.out.below hb HB1.out.lt).c1)
  have HS2 := Lib.hid (fun (w' : World) (hb : Below W.heap.size W w') => And.intro (HB2.out.below hb HB2.out.lt).c0 (HB2.out.below hb HB2.out.lt).c1)
  clear b10 b11 b12 b13 b20 b21 b22 b23 C1 C2 C3 hW G2 HO1 HO2
  have HQ := Lib.hid (And.intro (HR.out.1.below G3) (HR.out.2.below G3))
  have HL := Lib.hid (And.intro (show lenB z1.natAbs ≤ 100000000 by omega) (show lenB z2.natAbs ≤ 100000000 by omega))
  obtain ⟨b10, b11, b12, b13⟩ := B1.all
  obtain ⟨b20, b21, b22, b23⟩ := B2.all
  clear B1 B2 B3 G3
  by_cases hs : decide (z1 < 0) = decide (z2 < 0)
  · obtain ⟨N, hN⟩ : ∃ N, N = z1.natAbs + z2.natAbs := ⟨_, rfl⟩
    obtain ⟨p1, p2⟩ := plus_plain z1 z2 hs
    rw [← hN] at p1
    rw [← p1] at p2
    obtain ⟨sB, hsB⟩ : ∃ sB, sB = decide (z1 + z2 < 0) := ⟨_, rfl⟩
    rw [← hsB] at p2
    have HSB := Lib.hid p2
    have HE := Lib.hid (And.intro p1 hsB)
    have AMT := Lib.hid (fun (w' : World) (hb : Below W.heap.size W w') => more_own z1.natAbs z2.natAbs x1 x2 d1 d2 w' (HQ.out.1.below hb) (HQ.out.2.below hb) HL.out.1 HL.out.2)
    rw [← hN] at AMT
    have HSA := HS1; have HSC := HS2
    have e0 : (decide (z1 < 0) == decide (z2 < 0)) = true := by rw [hs]; simp
    clear p1 p2 hN hsB hs
    go_upto_region 4 with (fail)
    refine wp_region_fresh 8 (spOf [(6, Sp.made (fun x : Option Addr × Nat × Nat => .slice x.1 x.2.1 x.2.2) (AmtF W.heap.size N)),
        (7, Sp.made (fun x : Option Addr × Nat => numV sB x.1 (lenB N) x.2) (fun x w' => Own 80 w' W.heap.size x.1 (lenB N) x.2 (dgi N)))])
      (fun w' => Below W.heap.size W w') (by kernel_rfl) (by kernel_rfl)
      (spOf_cons (Sp.made_keeps AmtF.keeps) (spOf_cons (Sp.made_keeps fun x w w' h hb => h.below hb) spOf_nil)) (fun _ _ h hb => h.trans (hb.mono h.size)) ((Below.refl _ _).drew) ?_
    simp only [List.take_succ_cons, List.take_zero, List.drop_succ_cons, List.drop_zero]
    (refine wpF_reads rfl rfl ?_ (fun w' hw' => ?_) ?_; rotate_left; · (have hb' := Has.world hw'; (skip); clear hw'; go_simp; try rfl))
    (refine wpF_reads rfl rfl ?_ (fun w' hw' => ?_) ?_; rotate_left; · (have hb' := Has.world hw'; (have hs := HSA.out _ hb'); clear hw'; go_simp; try rfl))
    (refine wpF_reads rfl rfl ?_ (fun w' hw' => ?_) ?_; rotate_left; · (have hb' := Has.world hw'; (skip); clear hw'; go_simp; try rfl))
    (refine wpF_reads rfl rfl ?_ (fun w' hw' => ?_) ?_; rotate_left; · (have hb' := Has.world hw'; (have hs := HSA.out _ hb'); clear hw'; go_simp; try rfl))
    (refine wpF_reads rfl rfl ?_ (fun w' hw' => ?_) ?_; rotate_left; · (have hb' := Has.world hw'; (skip); clear hw'; go_simp; try rfl))
    (refine wpF_reads rfl rfl ?_ (fun w' hw' => ?_) ?_; rotate_left; · (have hb' := Has.world hw'; (have hs := HSC.out _ hb'); clear hw'; go_simp; try rfl))
    (refine wpF_spec rfl rfl (fun w' hw' => ?_) ?_; · (have hb' := Has.world hw'; go_simp; ((refine (AMT.out w' hb').mono ?_; rintro e w'' ⟨a, K, cap, o, rfl, q1, q2, q3, q4, q5⟩; exact ⟨_, rfl, ⟨⟨a, K, cap, rfl⟩, ⟨a, K, cap, rfl, o, q1, q2, q3, q4.mono hb'.size⟩⟩, q5⟩))))
    rintro _ ⟨x, rfl⟩
    (refine wpF_spec rfl rfl (fun w' hw' => ?_) ?_; · (have hb' := Has.world hw'; go_simp; ((have h7 := amt_of (x := x) (b := W.heap.size) (N := N) (hw'.fact 6 (by kernel_rfl)); obtain ⟨o, q1, q2, q3, q4⟩ := h7; refine (num_own _ sB _ _ _ N W.heap.size o w' q4 q1 q3 q2 HSB.out).mono ?_; rintro e w'' ⟨rfl, hb⟩; exact ⟨_, rfl, ⟨⟨x.1, x.2.2, rfl⟩, ⟨x.1, x.2.2, rfl, (own_fit q4 q1 q2).below hb⟩⟩, hb⟩))))
    rintro _ ⟨y, rfl⟩
    refine wpF_nil (fun w5 hb5 hF5 => ?_)
    have OA := own_numc (T := 80) (b := W.heap.size) (s := sB) (L := lenB N) (o := dgi N) (x := y) (hF5 7)
    have HO := Lib.hid OA
    have B3 := HB3.out.below hb5 HB3.out.lt
    have HB5 := Lib.hid B3
    obtain ⟨b30, b31, b32, b33⟩ := B3.all
    have HG5 := Lib.hid (HG.out.trans (hb5.mono HG.out.size))
    have hz4 := HB3.out.lt
    have hz5 := HG.out.size
    clear hF5 OA B3 hb5 HS1 HS2
    go_wp2_with fail
    unfold ResF
    rw [← HE.out.1, ← HE.out.2]
    refine bodyPost_ret (results_cell rfl _ _ _ _ _ _ _ rfl (HB5.out.set _ _) Tryz.underlying24 rfl (by kernel_rfl)) rfl ⟨y.1, y.2, rfl, ?_, ?_⟩
    · exact ((HO.out.other (by dsimp only; omega) _).other (by dsimp only; omega) _).mono hz5
    · exact (HG5.out.setCell (by dsimp only; omega) _).setCell (by dsimp only; omega) _
  · by_cases hlt : z1.natAbs < z2.natAbs
    · obtain ⟨N, hN⟩ : ∃ N, N = z2.natAbs - z1.natAbs := ⟨_, rfl⟩
      obtain ⟨p1, p2⟩ := minus_plain z2 z1 (by omega) (fun h => hs h.symm)
      rw [← hN, Int.add_comm z2 z1] at p1
      rw [Int.add_comm z2 z1, ← p1] at p2
      obtain ⟨sB, hsB⟩ : ∃ sB, sB = decide (z1 + z2 < 0) := ⟨_, rfl⟩
      rw [← hsB] at p2
      have HSB := Lib.hid p2
      have HE := Lib.hid (And.intro p1 hsB)
      have AMT := Lib.hid (fun (w' : World) (hb : Below W.heap.size W w') => less_own z2.natAbs z1.natAbs x2 x1 d2 d1 w' (HQ.out.2.below hb) (HQ.out.1.below hb) HL.out.2 (by omega))
      have AM := Lib.hid (order_any z1.natAbs z2.natAbs x1 x2 d1 d2 W HQ.out.1 HQ.out.2 (by omega) (by omega))
      rw [show cmpZ (z1.natAbs : Int) (z2.natAbs : Int) = -1 from cmpZ_lt (by omega)] at AM
      rw [← hN] at AMT
      have e0 : (decide (z1 < 0) == decide (z2 < 0)) = false := by simpa using hs
      clear p1 p2 hN hsB hs hlt
      go_upto_if 27 with (first
        | (go_at_call 208; refine AM.out.mono ?_; rintro e w2 ⟨rfl, m, rfl⟩))
      go_upto_region 6 with (fail)
      have hbm : ∃ V, V = W.drewN m ∧ Below W.heap.size W V := ⟨_, rfl, bdrewN (Below.refl _ _) m⟩
      obtain ⟨W, hV, hbm⟩ := hbm
      rw [← hV]
      have HS1 := Lib.hid (fun (w' : World) (hb : Below W.heap.size W w') => HS1.out w' (hbm.trans (hb.mono hbm.size)))
      have HS2 := Lib.hid (fun (w' : World) (hb : Below W.heap.size W w') => HS2.out w' (hbm.trans (hb.mono hbm.size)))
      have AMT := Lib.hid (fun (w' : World) (hb : Below W.heap.size W w') => AMT.out w' (hbm.trans (hb.mono hbm.size)))
      have HB3 := Lib.hid (HB3.out.below hbm HB3.out.lt)
      have HG := Lib.hid (HG.out.trans (hbm.mono HG.out.size))
      clear hV hbm AM
      have HSA := HS2; have HSC := HS1
      refine wp_region_fresh 8 (spOf [(6, Sp.made (fun x : Option Addr × Nat × Nat => .slice x.1 x.2.1 x.2.2) (AmtF W.heap.size N)),
          (7, Sp.made (fun x : Option Addr × Nat => numV sB x.1 (lenB N) x.2) (fun x w' => Own 80 w' W.heap.size x.1 (lenB N) x.2 (dgi N)))])
        (fun w' => Below W.heap.size W w') (by kernel_rfl) (by kernel_rfl)
        (spOf_cons (Sp.made_keeps AmtF.keeps) (spOf_cons (Sp.made_keeps fun x w w' h hb => h.below hb) spOf_nil)) (fun _ _ h hb => h.trans (hb.mono h.size)) ((Below.refl _ _).drew) ?_
      simp only [List.take_succ_cons, List.take_zero, List.drop_succ_cons, List.drop_zero]
      (refine wpF_reads rfl rfl ?_ (fun w' hw' => ?_) ?_; rotate_left; · (have hb' := Has.world hw'; (skip); clear hw'; go_simp; try rfl))
      (refine wpF_reads rfl rfl ?_ (fun w' hw' => ?_) ?_; rotate_left; · (have hb' := Has.world hw'; (have hs := HSA.out _ hb'); clear hw'; go_simp; try rfl))
      (refine wpF_reads rfl rfl ?_ (fun w' hw' => ?_) ?_; rotate_left; · (have hb' := Has.world hw'; (skip); clear hw'; go_simp; try rfl))
      (refine wpF_reads rfl rfl ?_ (fun w' hw' => ?_) ?_; rotate_left; · (have hb' := Has.world hw'; (have hs := HSA.out _ hb'); clear hw'; go_simp; try rfl))
      (refine wpF_reads rfl rfl ?_ (fun w' hw' => ?_) ?_; rotate_left; · (have hb' := Has.world hw'; (skip); clear hw'; go_simp; try rfl))
      (refine wpF_reads rfl rfl ?_ (fun w' hw' => ?_) ?_; rotate_left; · (have hb' := Has.world hw'; (have hs := HSC.out _ hb'); clear hw'; go_simp; try rfl))
      (refine wpF_spec rfl rfl (fun w' hw' => ?_) ?_; · (have hb' := Has.world hw'; go_simp; ((refine (AMT.out w' hb').mono ?_; rintro e w'' ⟨a, K, cap, o, rfl, q1, q2, q3, q4, q5⟩; exact ⟨_, rfl, ⟨⟨a, K, cap, rfl⟩, ⟨a, K, cap, rfl, o, q1, q2, q3, q4.mono hb'.size⟩⟩, q5⟩))))
      rintro _ ⟨x, rfl⟩
      (refine wpF_spec rfl rfl (fun w' hw' => ?_) ?_; · (have hb' := Has.world hw'; go_simp; ((have h7 := amt_of (x := x) (b := W.heap.size) (N := N) (hw'.fact 6 (by kernel_rfl)); obtain ⟨o, q1, q2, q3, q4⟩ := h7; refine (num_own _ sB _ _ _ N W.heap.size o w' q4 q1 q3 q2 HSB.out).mono ?_; rintro e w'' ⟨rfl, hb⟩; exact ⟨_, rfl, ⟨⟨x.1, x.2.2, rfl⟩, ⟨x.1, x.2.2, rfl, (own_fit q4 q1 q2).below hb⟩⟩, hb⟩))))
      rintro _ ⟨y, rfl⟩
      refine wpF_nil (fun w5 hb5 hF5 => ?_)
      have OA := own_numc (T := 80) (b := W.heap.size) (s := sB) (L := lenB N) (o := dgi N) (x := y) (hF5 7)
      have HO := Lib.hid OA
      have B3 := HB3.out.below hb5 HB3.out.lt
      have HB5 := Lib.hid B3
      obtain ⟨b30, b31, b32, b33⟩ := B3.all
      have HG5 := Lib.hid (HG.out.trans (hb5.mono HG.out.size))
      have hz4 := HB3.out.lt
      have hz5 := HG.out.size
      clear hF5 OA B3 hb5 HS1 HS2
      go_wp2_with fail
      unfold ResF
      rw [← HE.out.1, ← HE.out.2]
      refine bodyPost_ret (results_cell rfl _ _ _ _ _ _ _ rfl (HB5.out.set _ _) Tryz.underlying24 rfl (by kernel_rfl)) rfl ⟨y.1, y.2, rfl, ?_, ?_⟩
      · exact ((HO.out.other (by dsimp only; omega) _).other (by dsimp only; omega) _).mono hz5
      · exact (HG5.out.setCell (by dsimp only; omega) _).setCell (by dsimp only; omega) _
    · obtain ⟨N, hN⟩ : ∃ N, N = z1.natAbs - z2.natAbs := ⟨_, rfl⟩
      obtain ⟨p1, p2⟩ := minus_plain z1 z2 (by omega) hs
      rw [← hN] at p1
      rw [← p1] at p2
      obtain ⟨sB, hsB⟩ : ∃ sB, sB = decide (z1 + z2 < 0) := ⟨_, rfl⟩
      rw [← hsB] at p2
      have HSB := Lib.hid p2
      have HE := Lib.hid (And.intro p1 hsB)
      have AMT := Lib.hid (fun (w' : World) (hb : Below W.heap.size W w') => less_own z1.natAbs z2.natAbs x1 x2 d1 d2 w' (HQ.out.1.below hb) (HQ.out.2.below hb) HL.out.1 (by omega))
      have AM := Lib.hid (order_any z1.natAbs z2.natAbs x1 x2 d1 d2 W HQ.out.1 HQ.out.2 (by omega) (by omega))
      have hc : decide (cmpZ (z1.natAbs : Int) (z2.natAbs : Int) < 0) = false := by
        refine decide_eq_false ?_
        rcases Nat.lt_or_ge z2.natAbs z1.natAbs with h | h
        · rw [cmpZ_gt (by omega)]; omega
        · rw [cmpZ_eq (by omega)]; omega
      rw [← hN] at AMT
      have e0 : (decide (z1 < 0) == decide (z2 < 0)) = false := by simpa using hs
      generalize cmpZ (z1.natAbs : Int) (z2.natAbs : Int) = cc at AM hc
      clear p1 p2 hN hsB hs hlt
      go_upto_if 27 with (first
        | (go_at_call 208; refine AM.out.mono ?_; rintro e w2 ⟨rfl, m, rfl⟩))
      go_upto_region 7 with (fail)
      have hbm : ∃ V, V = W.drewN m ∧ Below W.heap.size W V := ⟨_, rfl, bdrewN (Below.refl _ _) m⟩
      obtain ⟨W, hV, hbm⟩ := hbm
      rw [← hV]
      have HS1 := Lib.hid (fun (w' : World) (hb : Below W.heap.size W w') => HS1.out w' (hbm.trans (hb.mono hbm.size)))
      have HS2 := Lib.hid (fun (w' : World) (hb : Below W.heap.size W w') => HS2.out w' (hbm.trans (hb.mono hbm.size)))
      have AMT := Lib.hid (fun (w' : World) (hb : Below W.heap.size W w') => AMT.out w' (hbm.trans (hb.mono hbm.size)))
      have HB3 := Lib.hid (HB3.out.below hbm HB3.out.lt)
      have HG := Lib.hid (HG.out.trans (hbm.mono HG.out.size))
      clear hV hbm AM
      have HSA := HS1; have HSC := HS2
      refine wp_region_fresh 8 (spOf [(6, Sp.made (fun x : Option Addr × Nat × Nat => .slice x.1 x.2.1 x.2.2) (AmtF W.heap.size N)),
          (7, Sp.made (fun x : Option Addr × Nat => numV sB x.1 (lenB N) x.2) (fun x w' => Own 80 w' W.heap.size x.1 (lenB N) x.2 (dgi N)))])
        (fun w' => Below W.heap.size W w') (by kernel_rfl) (by kernel_rfl)
        (spOf_cons (Sp.made_keeps AmtF.keeps) (spOf_cons (Sp.made_keeps fun x w w' h hb => h.below hb) spOf_nil)) (fun _ _ h hb => h.trans (hb.mono h.size)) ((Below.refl _ _).drew) ?_
      simp only [List.take_succ_cons, List.take_zero, List.drop_succ_cons, List.drop_zero]
      (refine wpF_reads rfl rfl ?_ (fun w' hw' => ?_) ?_; rotate_left; · (have hb' := Has.world hw'; (skip); clear hw'; go_simp; try rfl))
      (refine wpF_reads rfl rfl ?_ (fun w' hw' => ?_) ?_; rotate_left; · (have hb' := Has.world hw'; (have hs := HSA.out _ hb'); clear hw'; go_simp; try rfl))
      (refine wpF_reads rfl rfl ?_ (fun w' hw' => ?_) ?_; rotate_left; · (have hb' := Has.world hw'; (skip); clear hw'; go_simp; try rfl))
      (refine wpF_reads rfl rfl ?_ (fun w' hw' => ?_) ?_; rotate_left; · (have hb' := Has.world hw'; (have hs := HSA.out _ hb'); clear hw'; go_simp; try rfl))
      (refine wpF_reads rfl rfl ?_ (fun w' hw' => ?_) ?_; rotate_left; · (have hb' := Has.world hw'; (skip); clear hw'; go_simp; try rfl))
      (refine wpF_reads rfl rfl ?_ (fun w' hw' => ?_) ?_; rotate_left; · (have hb' := Has.world hw'; (have hs := HSC.out _ hb'); clear hw'; go_simp; try rfl))
      (refine wpF_spec rfl rfl (fun w' hw' => ?_) ?_; · (have hb' := Has.world hw'; go_simp; ((refine (AMT.out w' hb').mono ?_; rintro e w'' ⟨a, K, cap, o, rfl, q1, q2, q3, q4, q5⟩; exact ⟨_, rfl, ⟨⟨a, K, cap, rfl⟩, ⟨a, K, cap, rfl, o, q1, q2, q3, q4.mono hb'.size⟩⟩, q5⟩))))
      rintro _ ⟨x, rfl⟩
      (refine wpF_spec rfl rfl (fun w' hw' => ?_) ?_; · (have hb' := Has.world hw'; go_simp; ((have h7 := amt_of (x := x) (b := W.heap.size) (N := N) (hw'.fact 6 (by kernel_rfl)); obtain ⟨o, q1, q2, q3, q4⟩ := h7; refine (num_own _ sB _ _ _ N W.heap.size o w' q4 q1 q3 q2 HSB.out).mono ?_; rintro e w'' ⟨rfl, hb⟩; exact ⟨_, rfl, ⟨⟨x.1, x.2.2, rfl⟩, ⟨x.1, x.2.2, rfl, (own_fit q4 q1 q2).below hb⟩⟩, hb⟩))))
      rintro _ ⟨y, rfl⟩
      refine wpF_nil (fun w5 hb5 hF5 => ?_)
      have OA := own_numc (T := 80) (b := W.heap.size) (s := sB) (L := lenB N) (o := dgi N) (x := y) (hF5 7)
      have HO := Lib.hid OA
      have B3 := HB3.out.below hb5 HB3.out.lt
      have HB5 := Lib.hid B3
      obtain ⟨b30, b31, b32, b33⟩ := B3.all
      have HG5 := Lib.hid (HG.out.trans (hb5.mono HG.out.size))
      have hz4 := HB3.out.lt
      have hz5 := HG.out.size
      clear hF5 OA B3 hb5 HS1 HS2
      go_wp2_with fail
      unfold ResF
      rw [← HE.out.1, ← HE.out.2]
      refine bodyPost_ret (results_cell rfl _ _ _ _ _ _ _ rfl (HB5.out.set _ _) Tryz.underlying24 rfl (by kernel_rfl)) rfl ⟨y.1, y.2, rfl, ?_, ?_⟩
      · exact ((HO.out.other (by dsimp only; omega) _).other (by dsimp only; omega) _).mono hz5
      · exact (HG5.out.setCell (by dsimp only; omega) _).setCell (by dsimp only; omega) _
end Go.Proofs.YtklidpbdgliemaaGreatDoor.Limb
namespace Go.Proofs.YtklidpbdgliemaaGreatDoor.Book
open Go.RowKit Go.Sort Go.Fresh Go.Proofs.YtklidpbdgliemaaGreatDoor.Limb
def bkf (k : Nat) (v : Value) (i : Nat) : Value := if i = 0 then .int .i64 k else if i = 2 then v else .slice none 0 0
def Arr (w : World) (vb k : Nat) (A : Nat → Option Addr) (N C : Nat → Nat) (X : Nat → Value) : Prop :=
  ∃ m f, w.rowIs vb 120 m f ∧ ∀ j, j < k → 3 * j + 2 < m ∧ f (3 * j) = .slice (A j) (N j) (C j) ∧ f (3 * j + 1) = X j ∧ f (3 * j + 2) = .int .i64 ((j : Int) + 1)
theorem Arr.cells {w : World} {vb k : Nat} {A : Nat → Option Addr} {N C : Nat → Nat} {X : Nat → Value} (h : Arr w vb k A N C X) {j : Nat} (hj : j < k) :
    w.cell? ⟨vb, j * 3, none⟩ = some (.slice (A j) (N j) (C j)) ∧ w.cell? ⟨vb, j * 3 + 1, none⟩ = some (X j) ∧ w.cell? ⟨vb, j * 3 + 2, none⟩ = some (.int .i64 ((j : Int) + 1)) ∧ (∀ i, w.frozen? ⟨vb, i, none⟩ = false) ∧ vb < w.heap.size := by
  obtain ⟨m, f, hR, hE⟩ := h
  obtain ⟨h1, h2, h3, h4⟩ := hE j hj
  rw [Nat.mul_comm j 3]
  exact ⟨by rw [← h2]; exact hR.cell (by omega), by rw [← h3]; exact hR.cell (by omega), by rw [← h4]; exact hR.cell (by omega), hR.frozen, hR.lt⟩
theorem Arr.keep {w w' : World} {vb k : Nat} {A : Nat → Option Addr} {N C : Nat → Nat} {X : Nat → Value} (h : Arr w vb k A N C X) (e : w'.heap[vb]? = w.heap[vb]?) : Arr w' vb k A N C X := by
  obtain ⟨m, f, hR, hE⟩ := h
  exact ⟨m, f, hR.of_block e, hE⟩
theorem Arr.lt {w : World} {vb k : Nat} {A : Nat → Option Addr} {N C : Nat → Nat} {X : Nat → Value} (h : Arr w vb k A N C X) : vb < w.heap.size := by
  obtain ⟨m, f, hR, hE⟩ := h
  exact hR.lt
theorem Arr.setLong {w : World} {vb k : Nat} {A : Nat → Option Addr} {N C : Nat → Nat} {X : Nat → Value} (h : Arr w vb k A N C X) (i : Nat) (v : Value) : Arr (w.setCell ⟨vb, i * 3 + 1, none⟩ v) vb k A N C (fun j => if j = i then v else X j) := by
  obtain ⟨m, f, hR, hE⟩ := h
  refine ⟨m, _, hR.set (i * 3 + 1) v, fun j hj => ?_⟩
  obtain ⟨h1, h2, h3, h4⟩ := hE j hj
  refine ⟨h1, ?_, ?_, ?_⟩
  · rw [if_neg (by omega)]; exact h2
  · show (if 3 * j + 1 = i * 3 + 1 then v else f (3 * j + 1)) = if j = i then v else X j
    by_cases e : j = i
    · subst e; rw [if_pos (by omega), if_pos rfl]
    · rw [if_neg (by omega), if_neg e]; exact h3
  · rw [if_neg (by omega)]; exact h4
def UA (k : Nat) (A : Nat → Option Addr) (g : Nat) : Prop := ∃ j, j < k ∧ ∃ p, A j = some p ∧ p.block = g
def Part (k : Nat) (A : Nat → Option Addr) : Prop := ∀ i, i < k → ∀ j, j < k → i ≠ j → ∀ p q, A i = some p → A j = some q → p.block ≠ q.block
theorem own_step {k i t g : Nat} {A : Nat → Option Addr} {N C : Nat → Nat} {O : Nat → Nat → Int} {w : World} {v : Int} (hD : Part k A) (hO : ∀ j, j < k → Own 80 w 0 (A j) (N j) (C j) (O j)) (hi : i < k) (hg : A i = some ⟨g, 0, none⟩) (ht : t < N i) (hv : 0 ≤ v ∧ v ≤ 4294967295) :
    ∀ j, j < k → Own 80 (w.setCell ⟨g, t, none⟩ (.int .u32 v)) 0 (A j) (N j) (C j) (if j = i then upd (O i) t v else O j) := by
  intro j hj
  by_cases e : j = i
  · subst e
    rw [if_pos rfl, hg]
    have h := hO j hj
    rw [hg] at h
    exact h.put ht hv
  · rw [if_neg e]
    exact (hO j hj).keep fun p hp => Below.heap_setCell _ _ _ _ (fun he => hD j hj i hi e p _ hp hg he)
def hcell (a : Option Addr) (n c : Nat) (x : Value) (q : Int) (i : Nat) : Value := if i = 0 then .slice a n c else if i = 1 then x else .int .i64 q
set_option maxHeartbeats 4000000 in
theorem fill_any (b vb k cap : Nat) (A : Nat → Option Addr) (N C : Nat → Nat) (O : Nat → Nat → Int) (w : World) (hk : k ≤ 1000) (hB : w.rowIs b 48 13 (bkf k (.slice (some ⟨vb, 0, none⟩) k cap)))
    (hA : Arr w vb k A N C (fun _ => .slice none 0 0)) (hO : ∀ j, j < k → Own 80 w 0 (A j) (N j) (C j) (O j)) (hN : ∀ j, j < k → N j ≤ 1000000000) (hS : ¬ UA k A b ∧ ¬ UA k A vb) (hD : Part k A) :
    Calls Tryz.prog 59 #[.pointer (some ⟨b, 0, none⟩)] w fun e w' => (∃ v, e = .returned v) ∧ Touch (UA k A) w w' ∧ ∀ j, j < k → Own 80 w' 0 (A j) (N j) (C j) (fun _ => mk j) := by
  have HB := Lib.hid hB; have HA := Lib.hid hA; have HO := Lib.hid hO; have HS := Lib.hid hS; have HD := Lib.hid hD; have HN := Lib.hid hN
  clear hB hA hO hS hD hN
  go_enter Tryz.func59, Tryz.ntmps59
  go_wp2_with fail
  go_loopw [2] (fun v wr => ∃ i : Nat, i ≤ k ∧ v = .int .i64 i ∧ Touch (UA k A) w wr ∧ ∃ OO : Nat → Nat → Int, (∀ j, j < k → Own 80 wr 0 (A j) (N j) (C j) (OO j)) ∧ ∀ j, j < i → ∀ c, c < N j → OO j c = mk j) (fun v _ => k - (intOf v).toNat)
  case atStart => exact ⟨0, by omega, rfl, Touch.refl _ _, O, HO.out, fun j hj => by omega⟩
  case round =>
    obtain ⟨w1, rfl⟩ : ∃ w1, w1 = wr := ⟨_, rfl⟩
    obtain ⟨i, hik, rfl, hT, OO, hOO, hM⟩ := hrel
    have KT := Lib.hid hT; have KO := Lib.hid hOO; have KM := Lib.hid hM
    have KB := Lib.hid (HB.out.of_block (hT.block _ HB.out.lt HS.out.1))
    have KA := Lib.hid (HA.out.keep (hT.block _ HA.out.lt HS.out.2))
    clear hT hOO hM
    have b2 : w1.cell? ⟨b, 2, none⟩ = some (.slice (some ⟨vb, 0, none⟩) k cap) := KB.out.cell (i := 2) (by omega)
    by_cases hi : i < k
    · obtain ⟨a0, a1, a2, -, hvb⟩ := KA.out.cells hi
      obtain ⟨a, ha⟩ : ∃ a, a = A i := ⟨_, rfl⟩
      obtain ⟨n, hn⟩ : ∃ n, n = N i := ⟨_, rfl⟩
      obtain ⟨c, hc⟩ : ∃ c, c = C i := ⟨_, rfl⟩
      rw [← ha, ← hn, ← hc] at a0
      have EA := Lib.hid ha; have EN := Lib.hid hn; have EC := Lib.hid hc
      have hnb : n ≤ 1000000000 := by rw [hn]; exact HN.out i hi
      clear ha hn hc
      go_wp2_with fail
      go_loopw [4] (fun v wr2 => ∃ t : Nat, t ≤ n ∧ v = .int .i64 t ∧ wr2.rowIs w1.heap.size 120 3 (hcell a n c (.slice none 0 0) ((i : Int) + 1)) ∧ Touch (UA k A) w wr2 ∧
        ∃ OO : Nat → Nat → Int, (∀ j, j < k → Own 80 wr2 0 (A j) (N j) (C j) (OO j)) ∧ (∀ j, j < i → ∀ c, c < N j → OO j c = mk j) ∧ ∀ c, c < t → OO i c = mk i) (fun v _ => n - (intOf v).toNat)
      case atStart =>
        refine ⟨0, by omega, rfl, ?_, KT.out.alloc _, OO, fun j hj => (KO.out j hj).below ((Below.refl _ _).alloc (Nat.le_refl _) _), KM.out, fun c hc => by omega⟩
        have h := World.rowIs_alloc w1 #[Value.slice a n c, Value.slice none 0 0, Value.int IntKind.i64 ((i : Int) + 1)] 120 (hcell a n c (.slice none 0 0) ((i : Int) + 1)) (fun q hq => by
          match q, hq with
          | 0, _ => rfl
          | 1, _ => rfl
          | 2, _ => rfl)
        exact h
      case round =>
        obtain ⟨t, htn, rfl, hH, hT2, OO2, hOO2, hM2, hM3⟩ := hrel
        have LT := Lib.hid hT2; have LO := Lib.hid hOO2; have LM := Lib.hid (And.intro hM2 hM3); have LH := Lib.hid hH
        have hwr : w.heap.size ≤ w1.heap.size := KT.out.size
        have hc0 : wr.cell? ⟨w1.heap.size, 0, none⟩ = some (.slice a n c) := hH.cell (i := 0) (by omega)
        have hc2 : wr.cell? ⟨w1.heap.size, 2, none⟩ = some (.int .i64 ((i : Int) + 1)) := hH.cell (i := 2) (by omega)
        clear hH hT2 hOO2 hM2 hM3
        by_cases ht : t < n
        · obtain ⟨g, hg⟩ := (LO.out i hi).some_of_pos (by rw [← EN.out]; omega)
          obtain rfl := EA.out.trans hg
          have hO := LO.out i hi
          rw [← EA.out, ← EN.out] at hO
          obtain ⟨vo, hco⟩ : ∃ vo, wr.cell? ⟨g, t, none⟩ = some vo := ⟨_, hO.cell ht⟩
          have hfz := hO.fz
          have hglt := (hO.blk rfl).2.2
          have hgw : g < w.heap.size := ((HO.out i hi).blk hg).2.2
          have HS1 := Lib.hid (fun (w' : World) (hb : Below wr.heap.size wr w') => And.intro ((hb.cell (p := ⟨w1.heap.size, 0, none⟩) LH.out.lt).trans hc0) ((hb.cell (p := ⟨w1.heap.size, 2, none⟩) LH.out.lt).trans hc2))
          have hlt : w1.heap.size < wr.heap.size := LH.out.lt
          clear hO
          go_wp2_with fail
          refine wp_region_fresh 7 (spOf [(5, Sp.know (.int .u32 (mk i)))]) (fun w' => Below wr.heap.size wr w') (by kernel_rfl) (by kernel_rfl)
            (spOf_cons (Sp.know_keeps _) spOf_nil) (fun _ _ h hb => h.trans (hb.mono h.size)) ((Below.refl _ _).drew) ?_
          simp only [List.take_succ_cons, List.take_zero, List.drop_succ_cons, List.drop_zero]
          (refine wpF_reads rfl rfl ?_ (fun w' hw' => ?_) ?_; rotate_left; · (have hb' := Has.world hw'; (skip); clear hw'; go_simp; try rfl))
          (refine wpF_reads rfl rfl ?_ (fun w' hw' => ?_) ?_; rotate_left; · (have hb' := Has.world hw'; (have hs := HS1.out _ hb'); clear hw'; go_simp; try rfl))
          (refine wpF_reads rfl rfl ?_ (fun w' hw' => ?_) ?_; rotate_left; · (have hb' := Has.world hw'; (skip); clear hw'; go_simp; try rfl))
          (refine wpF_reads rfl rfl ?_ (fun w' hw' => ?_) ?_; rotate_left; · (have hb' := Has.world hw'; (skip); clear hw'; go_simp; try rfl))
          (refine wpF_reads rfl rfl ?_ (fun w' hw' => ?_) ?_; rotate_left; · (have hb' := Has.world hw'; (have hs := HS1.out _ hb'); clear hw'; go_simp; try rfl))
          (refine wpF_spec rfl rfl (fun w' hw' => ?_) ?_; · (have hb' := Has.world hw'; go_simp; ((refine (mark_any i w' (by omega)).mono ?_; rintro e w'' ⟨rfl, rfl⟩; exact ⟨_, rfl, rfl, Below.refl _ _⟩))))
          rintro _ rfl
          (refine wpF_reads rfl rfl ?_ (fun w' hw' => ?_) ?_; rotate_left; · (have hb' := Has.world hw'; (skip); clear hw'; go_simp; try rfl))
          refine wpF_nil (fun w5 hb5 hF5 => ?_)
          clear hF5 HS1
          have LH := Lib.hid (LH.out.of_block (hb5.block _ LH.out.lt))
          have LT := Lib.hid (LT.out.trans (Touch.of_below (hb5.mono (Nat.le_refl _))))
          have LO := Lib.hid (fun j hj => (LO.out j hj).below hb5)
          have hco := (hb5.cell (p := ⟨g, t, none⟩) hglt).trans hco
          have hfz := fun q => (hb5.frozen (p := ⟨g, q, none⟩) hglt).trans (hfz q)
          have ST := Lib.hid (own_step HD.out LO.out hi hg (by rw [← EN.out]; exact ht) (mk_rng (j := i) (by omega)))
          clear hb5
          go_wp2_with fail
          go_roundw
          case rel =>
            refine ⟨t + 1, by omega, by go_num, LH.out.setOther (by dsimp only; omega) _, LT.out.setCell (p := ⟨g, t, none⟩) (Or.inl ⟨i, hi, _, hg, rfl⟩) _, _, ST.out, ?_, ?_⟩
            · intro j hj c hc
              rw [if_neg (by omega)]
              exact LM.out.1 j hj c hc
            · intro c hc
              rw [if_pos rfl]
              by_cases e : c = t
              · subst e; exact upd_same _ _ _
              · rw [upd_ne _ _ e]; exact LM.out.2 c (by omega)
          case measure => simp [intOf]; omega
        · obtain rfl : t = n := by omega
          go_wp2_with fail
          go_roundw
          case rel =>
            refine ⟨i + 1, by omega, by go_num, LT.out, OO2, LO.out, fun j hj c hc => ?_⟩
            by_cases e : j = i
            · subst e; exact LM.out.2 c (by rw [EN.out]; exact hc)
            · exact LM.out.1 j (by omega) c hc
          case measure => simp [intOf]; omega
    · obtain rfl : i = k := by omega
      go_wp2_with fail
      (try simp only [Exit.inBlock, Exit.then])
      refine bodyPost_end (results_none rfl _ _ _) rfl ?_
      exact ⟨⟨_, rfl⟩, KT.out, fun j hj => (KO.out j hj).congr fun c hc => KM.out j hj c hc⟩
end Go.Proofs.YtklidpbdgliemaaGreatDoor.Book
