/-
  Of any two numbers (200 parts at most) the order, the sum, the difference, the product are the documented ones; they stay as they were; answers are memory of their own.
-/
import Derived.Test.YtebobpbcllideaaGreatDoorLimbV
import Derived.Test.YtebobpbcllideaaGreatDoorLimbJ
import Derived.Test.YtebobpbcllideaaGreatDoorLimbS
namespace Go.Proofs.YtebobpbcllideaaGreatDoor.Limb
open Go.RowKit Go.Sort Go.Fresh

/-- What the law has made, in order. -/
def pairsL (b : Nat → Nat) (a : Nat → Option Addr) (s1 s2 : Bool) (n1 n2 : Nat) (o1 o2 : Nat → Int) (z1 z2 : Int) : List Num1 :=
  [⟨b 0, s1, a 0, n1, n1 + 1, o1⟩, ⟨b 1, s2, a 1, n2, n2 + 1, o2⟩,
   ⟨b 2, decide (z1 + z2 < 0), a 2, lenB (z1 + z2).natAbs, lenB (z1 + z2).natAbs, dgi (z1 + z2).natAbs⟩,
   ⟨b 3, decide (z1 - z2 < 0), a 3, lenB (z1 - z2).natAbs, lenB (z1 - z2).natAbs, dgi (z1 - z2).natAbs⟩,
   ⟨b 4, decide (z1 * z2 < 0), a 4, lenB (z1 * z2).natAbs, lenB (z1 * z2).natAbs, dgi (z1 * z2).natAbs⟩,
   ⟨b 5, decide (-z1 < 0), a 5, lenB (-z1).natAbs, lenB (-z1).natAbs, dgi (-z1).natAbs⟩]

theorem pairs_len (z1 z2 : Int) (h1 : lenB z1.natAbs ≤ 200) (h2 : lenB z2.natAbs ≤ 200) : (lenB (z1 + z2).natAbs ≤ 900000000 ∧ lenB (z1 - z2).natAbs ≤ 900000000) ∧ lenB (z1 * z2).natAbs ≤ 900000000 ∧ lenB (-z1).natAbs ≤ 900000000 := by
  have p1 := lt_pw_lenB z1.natAbs
  have p2 := lt_pw_lenB z2.natAbs
  have q1 := pw_le h1
  have q2 := pw_le h2
  have hs : pw 201 = pw 200 * 1000000000 := pw_succ 200
  have a1 : lenB (z1 + z2).natAbs ≤ 201 := lenB_le (by omega)
  have a2 : lenB (z1 - z2).natAbs ≤ 201 := lenB_le (by omega)
  have a3 : lenB (z1 * z2).natAbs ≤ 400 := lenB_le (by
    rw [Int.natAbs_mul, show (400 : Nat) = 200 + 200 from rfl, pw_add]
    exact Nat.lt_of_lt_of_le (Nat.mul_lt_mul_of_lt_of_lt p1 p2) (Nat.mul_le_mul q1 q2))
  rw [Int.natAbs_neg]
  omega

/-- A Book that has taken one list more: below its own block nothing has turned. -/
theorem kept_next {W W' : World} {B k : Nat} {v : Value} {xs : List Value} {a : Option Addr} {n c : Nat} {e : Ending} (h : Book.Kept W B B k v xs a n c e W') (hB : Book.Bk W B B k v xs) (hb : B ≤ W.heap.size) :
    (∃ u, e = .returned u) ∧ ∃ v', Book.Bk W' B B (k + 1) v' (xs ++ Book.held a n c k) ∧ Below B W W' := by
  obtain ⟨hu, v', h1, -, h3⟩ := h
  refine ⟨hu, v', h1, h3.to_below hb fun q hq hU => ?_⟩
  rcases hU with rfl | hU
  · omega
  · have := (hB.row.lt q hU).1; omega
theorem book_new (w : World) : Book.Bk (w.alloc (.cells #[.int .i64 0, .slice none 0 0, .slice none 0 0, .slice none 0 0, .slice none 0 0, .slice none 0 0, .slice none 0 0, .slice none 0 0, .slice none 0 0, .slice none 0 0, .slice none 0 0, .slice none 0 0, .slice none 0 0] 44)) w.heap.size w.heap.size 0 (.slice none 0 0) [] := by
  refine ⟨World.rowIs_alloc w #[Value.int .i64 0, .slice none 0 0, .slice none 0 0, .slice none 0 0, .slice none 0 0, .slice none 0 0, .slice none 0 0, .slice none 0 0, .slice none 0 0, .slice none 0 0, .slice none 0 0, .slice none 0 0, .slice none 0 0] 44 (Book.bkf 0 (.slice none 0 0)) (fun i hi => ?_), World.ownsRow_nil _ _ _ _, fun e => by cases e⟩
  match i, hi with
  | 0, _ => rfl
  | 1, _ => rfl
  | 2, _ => rfl
  | 3, _ => rfl
  | 4, _ => rfl
  | 5, _ => rfl
  | 6, _ => rfl
  | 7, _ => rfl
  | 8, _ => rfl
  | 9, _ => rfl
  | 10, _ => rfl
  | 11, _ => rfl
  | 12, _ => rfl

open Classical in
set_option maxHeartbeats 4000000 in
theorem pairs_walk (s1 : Bool) (a1 : Option Addr) (n1 c1 : Nat) (o1 : Nat → Int) (s2 : Bool) (a2 : Option Addr) (n2 c2 : Nat) (o2 : Nat → Int) (w : World)
    (h1 : Rd w a1 n1 o1) (hc1 : n1 ≤ c1) (h2 : Rd w a2 n2 o2) (hc2 : n2 ≤ c2) :
    Calls Tryz.prog 3 #[numV s1 a1 n1 c1, numV s2 a2 n2 c2] w fun e w' => e = .returned (.bool true) ∧ Below w.heap.size w w' := by
  have HR := Lib.hid (And.intro h1 h2)
  have HC := Lib.hid (And.intro hc1 hc2)
  clear h1 h2 hc1 hc2
  have HB1 := Lib.hid ((((Bx.new w 24 (.bool s1) (.slice a1 n1 c1)).alloc (.cells #[.bool s2, .slice a2 n2 c2] 24))).alloc (.cells #[.bool s1, .slice a1 n1 c1, .bool s2, .slice a2 n2 c2] 24))
  have HB2 := Lib.hid ((Bx.new2 w (.cells #[.bool s1, .slice a1 n1 c1] 24) 24 (.bool s2) (.slice a2 n2 c2)).alloc (.cells #[.bool s1, .slice a1 n1 c1, .bool s2, .slice a2 n2 c2] 24))
  have HG := Lib.hid (((Below.refl _ _).alloc (by go_size) _ |>.alloc (by go_size) _ |>.alloc (by go_size) _) : Below w.heap.size w (((w.alloc (.cells #[.bool s1, .slice a1 n1 c1] 24)).alloc (.cells #[.bool s2, .slice a2 n2 c2] 24)).alloc (.cells #[.bool s1, .slice a1 n1 c1, .bool s2, .slice a2 n2 c2] 24)))
  have GR := Lib.hid (great_any 200 (w.heap.size + 1 + 1) 2 2 (fun i => if i = 0 then a1 else a2) (fun i => if i = 0 then n1 else n2) (fun i => if i = 0 then c1 else c2)
    (((w.alloc (.cells #[.bool s1, .slice a1 n1 c1] 24)).alloc (.cells #[.bool s2, .slice a2 n2 c2] 24)).alloc (.cells #[.bool s1, .slice a1 n1 c1, .bool s2, .slice a2 n2 c2] 24)) (fun i hi => by
      have h := heap_alloc_new ((w.alloc (.cells #[.bool s1, .slice a1 n1 c1] 24)).alloc (.cells #[.bool s2, .slice a2 n2 c2] 24)) (.cells #[.bool s1, .slice a1 n1 c1, .bool s2, .slice a2 n2 c2] 24)
      rw [World.size_alloc, World.size_alloc] at h
      rw [cell_of_row _ _ _ _ _ _ h]
      match i, hi with
      | 0, _ => rfl
      | 1, _ => rfl) (by omega))
  by_cases hg : 200 < n1 ∨ 200 < n2
  · rw [decide_eq_true (show ∃ i, i < 2 ∧ 200 < (if i = 0 then n1 else n2) by
      rcases hg with h | h
      · exact ⟨0, by omega, by rw [if_pos rfl]; exact h⟩
      · exact ⟨1, by omega, by rw [if_neg (by omega)]; exact h⟩)] at GR
    clear hg
    go_enter Tryz.func3, Tryz.ntmps3
    go_wp2_with fail
    refine GR.out.mono ?_
    rintro e w1 ⟨rfl, rfl⟩
    go_wp2_with fail
    go_ret
    exact ⟨rfl, HG.out⟩
  · rw [decide_eq_false (show ¬ ∃ i, i < 2 ∧ 200 < (if i = 0 then n1 else n2) from fun ⟨i, hi, h⟩ => by
      match i, hi with
      | 0, _ => rw [if_pos rfl] at h; omega
      | 1, _ => rw [if_neg (by omega)] at h; omega)] at GR
    have hn1 : n1 ≤ 200 := by omega
    have hn2 : n2 ≤ 200 := by omega
    clear hg
    go_enter Tryz.func3, Tryz.ntmps3
    go_wp2_with fail
    refine GR.out.mono ?_
    rintro e V ⟨rfl, hV⟩
    rw [← hV] at HB1 HB2 HG
    clear GR hV
    go_upto_region 3 with (fail)
    obtain ⟨lo, hlo⟩ : ∃ lo, lo = V.heap.size := ⟨_, rfl⟩
    have HLO := Lib.hid (And.intro (show w.heap.size ≤ lo by rw [hlo]; exact HG.out.size) (show lo ≤ V.heap.size by omega))
    have HA := Lib.hid (All.nil lo V)
    clear hlo
    obtain ⟨b10, b11, b12, b13⟩ := HB1.out.all
    go_wp2_with fail
    refine (twinNum_any s1 a1 n1 c1 o1 V (HR.out.1.below HG.out) (by omega)).mono ?_
    rintro e w1 ⟨gx, rfl, hO, hb⟩
    have ho : Own 57 w1 V.heap.size (some ⟨gx, 0, none⟩) n1 (n1 + 1) o1 := (hO.less (by omega)).congr fun i hi => (if_pos hi)
    clear b10 b11 b12 b13
    have HA := Lib.hid (HA.out.step HLO.out.2 hb (s := s1) ho)
    have hbV := Lib.hid (hb.alloc hb.size (.cells #[.bool (s1), .slice (some ⟨gx, 0, none⟩) (n1) (n1 + 1)] 24))
    have HX := Lib.hid ((hO.mono HLO.out.2).allocd (.cells #[.bool (s1), .slice (some ⟨gx, 0, none⟩) (n1) (n1 + 1)] 24))
    clear hb ho hO
    simp only [List.nil_append, List.cons_append] at HA
    go_upto_region 4 with (fail)
    obtain ⟨W, hW⟩ : ∃ W, W = w1.alloc (.cells #[.bool (s1), .slice (some ⟨gx, 0, none⟩) (n1) (n1 + 1)] 24) := ⟨_, rfl⟩
    rw [← hW] at HA hbV HX
    rw [show w1.alloc (.cells #[.bool (s1), .slice (some ⟨gx, 0, none⟩) (n1) (n1 + 1)] 24) = W from hW.symm]
    clear hW
    generalize w1.heap.size = bx at HA ⊢
    clear w1
    have HB1 := Lib.hid (HB1.out.below hbV.out HB1.out.lt)
    have HB2 := Lib.hid (HB2.out.below hbV.out HB2.out.lt)
    have HG := Lib.hid (HG.out.trans (hbV.out.mono HG.out.size))
    have HLO := Lib.hid (And.intro HLO.out.1 (Nat.le_trans HLO.out.2 hbV.out.size))
    clear hbV
    obtain ⟨V, rfl⟩ : ∃ V, V = W := ⟨_, rfl⟩
    obtain ⟨b10, b11, b12, b13⟩ := HB2.out.all
    go_wp2_with fail
    refine (twinNum_any s2 a2 n2 c2 o2 V (HR.out.2.below HG.out) (by omega)).mono ?_
    rintro e w1 ⟨gy, rfl, hO, hb⟩
    have ho : Own 57 w1 V.heap.size (some ⟨gy, 0, none⟩) n2 (n2 + 1) o2 := (hO.less (by omega)).congr fun i hi => (if_pos hi)
    clear b10 b11 b12 b13
    have HA := Lib.hid (HA.out.step HLO.out.2 hb (s := s2) ho)
    have hbV := Lib.hid (hb.alloc hb.size (.cells #[.bool (s2), .slice (some ⟨gy, 0, none⟩) (n2) (n2 + 1)] 24))
    have HY := Lib.hid ((hO.mono HLO.out.2).allocd (.cells #[.bool (s2), .slice (some ⟨gy, 0, none⟩) (n2) (n2 + 1)] 24))
    clear hb ho hO
    simp only [List.nil_append, List.cons_append] at HA
    go_upto_region 5 with (fail)
    obtain ⟨W, hW⟩ : ∃ W, W = w1.alloc (.cells #[.bool (s2), .slice (some ⟨gy, 0, none⟩) (n2) (n2 + 1)] 24) := ⟨_, rfl⟩
    rw [← hW] at HA hbV HY
    rw [show w1.alloc (.cells #[.bool (s2), .slice (some ⟨gy, 0, none⟩) (n2) (n2 + 1)] 24) = W from hW.symm]
    clear hW
    generalize w1.heap.size = by' at HA ⊢
    clear w1
    have HB1 := Lib.hid (HB1.out.below hbV.out HB1.out.lt)
    have HB2 := Lib.hid (HB2.out.below hbV.out HB2.out.lt)
    have HG := Lib.hid (HG.out.trans (hbV.out.mono HG.out.size))
    have HLO := Lib.hid (And.intro HLO.out.1 (Nat.le_trans HLO.out.2 hbV.out.size))
    have HX := Lib.hid (HX.out.below hbV.out)
    clear hbV
    obtain ⟨V, rfl⟩ : ∃ V, V = W := ⟨_, rfl⟩
    obtain ⟨z1, hz1⟩ : ∃ z1, z1 = valN s1 n1 o1 := ⟨_, rfl⟩
    obtain ⟨z2, hz2⟩ : ∃ z2, z2 = valN s2 n2 o2 := ⟨_, rfl⟩
    have HZ := Lib.hid (And.intro hz1 hz2)
    obtain ⟨zs, hzs⟩ : ∃ zs, zs = z1 + z2 := ⟨_, rfl⟩
    obtain ⟨zr, hzr⟩ : ∃ zr, zr = z1 - z2 := ⟨_, rfl⟩
    obtain ⟨zp, hzp⟩ : ∃ zp, zp = z1 * z2 := ⟨_, rfl⟩
    obtain ⟨zn, hzn⟩ : ∃ zn, zn = -z1 := ⟨_, rfl⟩
    have hl1 : lenB z1.natAbs ≤ n1 := by
      obtain ⟨_, _, _, l2, _⟩ := fit_any s1 a1 n1 c1 o1 w HR.out.1 (by omega) HC.out.1
      rw [hz1]; exact l2
    have hl2 : lenB z2.natAbs ≤ n2 := by
      obtain ⟨_, _, _, l2, _⟩ := fit_any s2 a2 n2 c2 o2 w HR.out.2 (by omega) HC.out.2
      rw [hz2]; exact l2
    have HLN := Lib.hid (pairs_len z1 z2 (by omega) (by omega))
    rw [← hzs, ← hzr, ← hzp, ← hzn] at HLN
    have HY4 := Lib.hid (And.intro (And.intro hzs hzr) (And.intro hzp hzn))
    clear hz1 hz2 hzs hzr hzp hzn hl1 hl2
    have X := HA.out.get (i := 0) rfl
    have Y := HA.out.get (i := 1) rfl
    obtain ⟨x0, x1, x2, x3⟩ := X.1.all
    obtain ⟨y0, y1, y2, y3⟩ := Y.1.all
    have CA := Lib.hid (add_res s1 (some ⟨gx, 0, none⟩) n1 (n1 + 1) o1 s2 (some ⟨gy, 0, none⟩) n2 (n2 + 1) o2 V X.2.rd (by omega) (by omega) Y.2.rd (by omega) (by omega))
    rw [← HZ.out.1, ← HZ.out.2, ← HY4.out.1.1] at CA
    clear X Y
    go_wp2_with fail
    refine CA.out.mono ?_
    rintro e w1 ⟨aS, rfl, ho, -, hb⟩
    clear CA x0 x1 x2 x3 y0 y1 y2 y3
    have HA := Lib.hid (HA.out.step HLO.out.2 hb (s := decide (zs < 0)) ho)
    have hbV := Lib.hid (hb.alloc hb.size (.cells #[.bool (decide (zs < 0)), .slice (aS) (lenB zs.natAbs) (lenB zs.natAbs)] 24))
    clear hb ho
    simp only [List.nil_append, List.cons_append] at HA
    go_upto_region 6 with (fail)
    obtain ⟨W, hW⟩ : ∃ W, W = w1.alloc (.cells #[.bool (decide (zs < 0)), .slice (aS) (lenB zs.natAbs) (lenB zs.natAbs)] 24) := ⟨_, rfl⟩
    rw [← hW] at HA hbV 
    rw [show w1.alloc (.cells #[.bool (decide (zs < 0)), .slice (aS) (lenB zs.natAbs) (lenB zs.natAbs)] 24) = W from hW.symm]
    clear hW
    generalize w1.heap.size = bs at HA ⊢
    clear w1
    have HB1 := Lib.hid (HB1.out.below hbV.out HB1.out.lt)
    have HB2 := Lib.hid (HB2.out.below hbV.out HB2.out.lt)
    have HG := Lib.hid (HG.out.trans (hbV.out.mono HG.out.size))
    have HLO := Lib.hid (And.intro HLO.out.1 (Nat.le_trans HLO.out.2 hbV.out.size))
    have HX := Lib.hid (HX.out.below hbV.out)
    have HY := Lib.hid (HY.out.below hbV.out)
    clear hbV
    obtain ⟨V, rfl⟩ : ∃ V, V = W := ⟨_, rfl⟩
    have X := HA.out.get (i := 0) rfl
    have Y := HA.out.get (i := 1) rfl
    obtain ⟨x0, x1, x2, x3⟩ := X.1.all
    obtain ⟨y0, y1, y2, y3⟩ := Y.1.all
    have CA := Lib.hid (sub_any s1 (some ⟨gx, 0, none⟩) n1 (n1 + 1) o1 s2 (some ⟨gy, 0, none⟩) n2 (n2 + 1) o2 V X.2.rd (by omega) (by omega) Y.2.rd (by omega) (by omega))
    rw [← HZ.out.1, ← HZ.out.2, ← HY4.out.1.2] at CA
    clear X Y
    go_wp2_with fail
    refine CA.out.mono ?_
    rintro e w1 ⟨aR, rfl, ho, -, hb⟩
    clear CA x0 x1 x2 x3 y0 y1 y2 y3
    have HA := Lib.hid (HA.out.step HLO.out.2 hb (s := decide (zr < 0)) ho)
    have hbV := Lib.hid (hb.alloc hb.size (.cells #[.bool (decide (zr < 0)), .slice (aR) (lenB zr.natAbs) (lenB zr.natAbs)] 24))
    clear hb ho
    simp only [List.nil_append, List.cons_append] at HA
    go_upto_region 7 with (fail)
    obtain ⟨W, hW⟩ : ∃ W, W = w1.alloc (.cells #[.bool (decide (zr < 0)), .slice (aR) (lenB zr.natAbs) (lenB zr.natAbs)] 24) := ⟨_, rfl⟩
    rw [← hW] at HA hbV 
    rw [show w1.alloc (.cells #[.bool (decide (zr < 0)), .slice (aR) (lenB zr.natAbs) (lenB zr.natAbs)] 24) = W from hW.symm]
    clear hW
    generalize w1.heap.size = br at HA ⊢
    clear w1
    have HB1 := Lib.hid (HB1.out.below hbV.out HB1.out.lt)
    have HB2 := Lib.hid (HB2.out.below hbV.out HB2.out.lt)
    have HG := Lib.hid (HG.out.trans (hbV.out.mono HG.out.size))
    have HLO := Lib.hid (And.intro HLO.out.1 (Nat.le_trans HLO.out.2 hbV.out.size))
    have HX := Lib.hid (HX.out.below hbV.out)
    have HY := Lib.hid (HY.out.below hbV.out)
    clear hbV
    obtain ⟨V, rfl⟩ : ∃ V, V = W := ⟨_, rfl⟩
    have X := HA.out.get (i := 0) rfl
    have Y := HA.out.get (i := 1) rfl
    obtain ⟨x0, x1, x2, x3⟩ := X.1.all
    obtain ⟨y0, y1, y2, y3⟩ := Y.1.all
    have CA := Lib.hid (mul_any s1 (some ⟨gx, 0, none⟩) n1 (n1 + 1) o1 s2 (some ⟨gy, 0, none⟩) n2 (n2 + 1) o2 V X.2.rd (by omega) (by omega) Y.2.rd (by omega) (by omega))
    rw [← HZ.out.1, ← HZ.out.2, ← HY4.out.2.1] at CA
    clear X Y
    go_wp2_with fail
    refine CA.out.mono ?_
    rintro e w1 ⟨aP, rfl, ho, -, hb⟩
    clear CA x0 x1 x2 x3 y0 y1 y2 y3
    have HA := Lib.hid (HA.out.step HLO.out.2 hb (s := decide (zp < 0)) ho)
    have hbV := Lib.hid (hb.alloc hb.size (.cells #[.bool (decide (zp < 0)), .slice (aP) (lenB zp.natAbs) (lenB zp.natAbs)] 24))
    clear hb ho
    simp only [List.nil_append, List.cons_append] at HA
    go_upto_region 8 with (fail)
    obtain ⟨W, hW⟩ : ∃ W, W = w1.alloc (.cells #[.bool (decide (zp < 0)), .slice (aP) (lenB zp.natAbs) (lenB zp.natAbs)] 24) := ⟨_, rfl⟩
    rw [← hW] at HA hbV 
    rw [show w1.alloc (.cells #[.bool (decide (zp < 0)), .slice (aP) (lenB zp.natAbs) (lenB zp.natAbs)] 24) = W from hW.symm]
    clear hW
    generalize w1.heap.size = bp at HA ⊢
    clear w1
    have HB1 := Lib.hid (HB1.out.below hbV.out HB1.out.lt)
    have HB2 := Lib.hid (HB2.out.below hbV.out HB2.out.lt)
    have HG := Lib.hid (HG.out.trans (hbV.out.mono HG.out.size))
    have HLO := Lib.hid (And.intro HLO.out.1 (Nat.le_trans HLO.out.2 hbV.out.size))
    have HX := Lib.hid (HX.out.below hbV.out)
    have HY := Lib.hid (HY.out.below hbV.out)
    clear hbV
    obtain ⟨V, rfl⟩ : ∃ V, V = W := ⟨_, rfl⟩
    have X := HA.out.get (i := 0) rfl
    have Y := HA.out.get (i := 1) rfl
    obtain ⟨x0, x1, x2, x3⟩ := X.1.all
    obtain ⟨y0, y1, y2, y3⟩ := Y.1.all
    have CA := Lib.hid (neg_any s1 (some ⟨gx, 0, none⟩) n1 (n1 + 1) o1 V X.2.rd (by omega) (by omega))
    rw [← HZ.out.1, ← HY4.out.2.2] at CA
    clear X Y
    go_wp2_with fail
    refine CA.out.mono ?_
    rintro e w1 ⟨aN, rfl, ho, -, hb⟩
    clear CA x0 x1 x2 x3 y0 y1 y2 y3
    have HA := Lib.hid (HA.out.step HLO.out.2 hb (s := decide (zn < 0)) ho)
    have hbV := Lib.hid (hb.alloc hb.size (.cells #[.bool (decide (zn < 0)), .slice (aN) (lenB zn.natAbs) (lenB zn.natAbs)] 24))
    clear hb ho
    simp only [List.nil_append, List.cons_append] at HA
    go_upto_region 9 with (fail)
    obtain ⟨W, hW⟩ : ∃ W, W = w1.alloc (.cells #[.bool (decide (zn < 0)), .slice (aN) (lenB zn.natAbs) (lenB zn.natAbs)] 24) := ⟨_, rfl⟩
    rw [← hW] at HA hbV 
    rw [show w1.alloc (.cells #[.bool (decide (zn < 0)), .slice (aN) (lenB zn.natAbs) (lenB zn.natAbs)] 24) = W from hW.symm]
    clear hW
    generalize w1.heap.size = bn at HA ⊢
    clear w1
    have HB1 := Lib.hid (HB1.out.below hbV.out HB1.out.lt)
    have HB2 := Lib.hid (HB2.out.below hbV.out HB2.out.lt)
    have HG := Lib.hid (HG.out.trans (hbV.out.mono HG.out.size))
    have HLO := Lib.hid (And.intro HLO.out.1 (Nat.le_trans HLO.out.2 hbV.out.size))
    have HX := Lib.hid (HX.out.below hbV.out)
    have HY := Lib.hid (HY.out.below hbV.out)
    clear hbV
    obtain ⟨V, rfl⟩ : ∃ V, V = W := ⟨_, rfl⟩
    have HS1 := Lib.hid (fun (w' : World) (hb : Below V.heap.size V w') => And.intro (HB1.out.below hb HB1.out.lt).c0 (HB1.out.below hb HB1.out.lt).c1)
    have HS2 := Lib.hid (fun (w' : World) (hb : Below V.heap.size V w') => And.intro (HB2.out.below hb HB2.out.lt).c0 (HB2.out.below hb HB2.out.lt).c1)
    have GX := HA.out.get (i := 0) rfl
    have GY := HA.out.get (i := 1) rfl
    have GS := HA.out.get (i := 2) rfl
    have GR := HA.out.get (i := 3) rfl
    have GP := HA.out.get (i := 4) rfl
    have GN := HA.out.get (i := 5) rfl
    have HSX := Lib.hid (fun (w' : World) (hb : Below V.heap.size V w') => And.intro (GX.1.below hb GX.1.lt).c0 (GX.1.below hb GX.1.lt).c1)
    have HSY := Lib.hid (fun (w' : World) (hb : Below V.heap.size V w') => And.intro (GY.1.below hb GY.1.lt).c0 (GY.1.below hb GY.1.lt).c1)
    have HSS := Lib.hid (fun (w' : World) (hb : Below V.heap.size V w') => And.intro (GS.1.below hb GS.1.lt).c0 (GS.1.below hb GS.1.lt).c1)
    have HSR := Lib.hid (fun (w' : World) (hb : Below V.heap.size V w') => And.intro (GR.1.below hb GR.1.lt).c0 (GR.1.below hb GR.1.lt).c1)
    have HSP := Lib.hid (fun (w' : World) (hb : Below V.heap.size V w') => And.intro (GP.1.below hb GP.1.lt).c0 (GP.1.below hb GP.1.lt).c1)
    have HSN := Lib.hid (fun (w' : World) (hb : Below V.heap.size V w') => And.intro (GN.1.below hb GN.1.lt).c0 (GN.1.below hb GN.1.lt).c1)
    have RA := Lib.hid (fun (w' : World) (hb : Below V.heap.size V w') => And.intro (HR.out.1.below (HG.out.trans (hb.mono HG.out.size))) (HR.out.2.below (HG.out.trans (hb.mono HG.out.size))))
    have CMP := Lib.hid (fun (w' : World) (hb : Below V.heap.size V w') => cmp_any s1 (some ⟨gx, 0, none⟩) n1 (n1 + 1) o1 s2 (some ⟨gy, 0, none⟩) n2 (n2 + 1) o2 w' (GX.2.below hb).rd (by omega) (by omega) (GY.2.below hb).rd (by omega) (by omega))
    have RCMP := Lib.hid (fun (w' : World) (hb : Below V.heap.size V w') => rcmp_any s1 a1 n1 c1 o1 s2 a2 n2 c2 o2 w' (RA.out w' hb).1 (by omega) HC.out.1 (RA.out w' hb).2 (by omega) HC.out.2)
    have SGN := Lib.hid (fun (w' : World) (hb : Below V.heap.size V w') => sign_any s1 (some ⟨gx, 0, none⟩) n1 (n1 + 1) o1 w' (GX.2.below hb).rd (by omega) (by omega))
    have RSGN := Lib.hid (fun (w' : World) (hb : Below V.heap.size V w') => rsign_any s1 a1 n1 c1 o1 w' (RA.out w' hb).1 (by omega) HC.out.1)
    have RADD := Lib.hid (fun (w' : World) (hb : Below V.heap.size V w') => radd_any s1 a1 n1 c1 o1 s2 a2 n2 c2 o2 w' (RA.out w' hb).1 (by omega) HC.out.1 (RA.out w' hb).2 (by omega) HC.out.2)
    have RSUB := Lib.hid (fun (w' : World) (hb : Below V.heap.size V w') => rsub_any s1 a1 n1 c1 o1 s2 a2 n2 c2 o2 w' (RA.out w' hb).1 (by omega) HC.out.1 (RA.out w' hb).2 (by omega) HC.out.2)
    have RMUL := Lib.hid (fun (w' : World) (hb : Below V.heap.size V w') => rmul_any s1 a1 n1 c1 o1 s2 a2 n2 c2 o2 w' (RA.out w' hb).1 (by omega) HC.out.1 (RA.out w' hb).2 (by omega) HC.out.2)
    have RNEG := Lib.hid (fun (w' : World) (hb : Below V.heap.size V w') => rneg_any s1 a1 n1 c1 o1 w' (RA.out w' hb).1 (by omega) HC.out.1)
    rw [← HZ.out.1, ← HZ.out.2] at CMP RCMP RADD RSUB RMUL
    rw [← HZ.out.1] at SGN RSGN RNEG
    rw [← HY4.out.1.1] at RADD
    rw [← HY4.out.1.2] at RSUB
    rw [← HY4.out.2.1] at RMUL
    rw [← HY4.out.2.2] at RNEG
    unfold ResF at RADD RSUB RMUL RNEG
    have SMS := Lib.hid (fun (w' : World) (hb : Below V.heap.size V w') (a : Option Addr) (c : Nat) (ha : Rd w' a (lenB zs.natAbs) (dgi zs.natAbs)) => sameNum_any (decide (zs < 0)) aS a (lenB zs.natAbs) (lenB zs.natAbs) c (dgi zs.natAbs) w' (GS.2.below hb).rd ha (Nat.le_trans HLN.out.1.1 (by omega)))
    have SMR := Lib.hid (fun (w' : World) (hb : Below V.heap.size V w') (a : Option Addr) (c : Nat) (ha : Rd w' a (lenB zr.natAbs) (dgi zr.natAbs)) => sameNum_any (decide (zr < 0)) aR a (lenB zr.natAbs) (lenB zr.natAbs) c (dgi zr.natAbs) w' (GR.2.below hb).rd ha (Nat.le_trans HLN.out.1.2 (by omega)))
    have SMP := Lib.hid (fun (w' : World) (hb : Below V.heap.size V w') (a : Option Addr) (c : Nat) (ha : Rd w' a (lenB zp.natAbs) (dgi zp.natAbs)) => sameNum_any (decide (zp < 0)) aP a (lenB zp.natAbs) (lenB zp.natAbs) c (dgi zp.natAbs) w' (GP.2.below hb).rd ha (Nat.le_trans HLN.out.2.1 (by omega)))
    have SMN := Lib.hid (fun (w' : World) (hb : Below V.heap.size V w') (a : Option Addr) (c : Nat) (ha : Rd w' a (lenB zn.natAbs) (dgi zn.natAbs)) => sameNum_any (decide (zn < 0)) aN a (lenB zn.natAbs) (lenB zn.natAbs) c (dgi zn.natAbs) w' (GN.2.below hb).rd ha (Nat.le_trans HLN.out.2.2 (by omega)))
    have LFX := Lib.hid (fun (w' : World) (hb : Below V.heap.size V w') => leftNum_any s1 gx a1 n1 c1 o1 w' (HX.out.below hb).rd (RA.out w' hb).1 (by omega))
    have LFY := Lib.hid (fun (w' : World) (hb : Below V.heap.size V w') => leftNum_any s2 gy a2 n2 c2 o2 w' (HY.out.below hb).rd (RA.out w' hb).2 (by omega))
    generalize cmpZ z1 z2 = cc at CMP RCMP
    generalize cmpZ z1 0 = cs at SGN RSGN
    generalize decide (zs < 0) = ss at *
    generalize decide (zr < 0) = sr at *
    generalize decide (zp < 0) = sp at *
    generalize decide (zn < 0) = sn at *
    generalize lenB zs.natAbs = ls at *
    generalize lenB zr.natAbs = lr at *
    generalize lenB zp.natAbs = lp at *
    generalize lenB zn.natAbs = ln at *
    generalize dgi zs.natAbs = ds at *
    generalize dgi zr.natAbs = dr at *
    generalize dgi zp.natAbs = dp at *
    generalize dgi zn.natAbs = dn at *
    clear GX GY GS GR GP GN HZ HY4 HX HY
    refine wp_region_fresh 56 (spOf [(2, Sp.know (.int .i64 cc)), (5, Sp.know (.int .i64 cc)), (9, Sp.know (.int .i64 cs)), (11, Sp.know (.int .i64 cs)), (18, Sp.made (fun x : Option Addr × Nat => numV ss x.1 ls x.2) (fun x w' => Own 57 w' V.heap.size x.1 ls x.2 ds)), (19, Sp.know (.bool true)), (26, Sp.made (fun x : Option Addr × Nat => numV sr x.1 lr x.2) (fun x w' => Own 57 w' V.heap.size x.1 lr x.2 dr)), (27, Sp.know (.bool true)), (34, Sp.made (fun x : Option Addr × Nat => numV sp x.1 lp x.2) (fun x w' => Own 57 w' V.heap.size x.1 lp x.2 dp)), (35, Sp.know (.bool true)), (41, Sp.made (fun x : Option Addr × Nat => numV sn x.1 ln x.2) (fun x w' => Own 57 w' V.heap.size x.1 ln x.2 dn)), (42, Sp.know (.bool true)), (48, Sp.know (.bool true)), (54, Sp.know (.bool true))])
      (fun w' => Below V.heap.size V w') (by kernel_rfl) (by kernel_rfl)
      (spOf_cons (Sp.know_keeps _) (spOf_cons (Sp.know_keeps _) (spOf_cons (Sp.know_keeps _) (spOf_cons (Sp.know_keeps _) (spOf_cons (Sp.made_keeps fun x w w' h hb => h.below hb) (spOf_cons (Sp.know_keeps _) (spOf_cons (Sp.made_keeps fun x w w' h hb => h.below hb) (spOf_cons (Sp.know_keeps _) (spOf_cons (Sp.made_keeps fun x w w' h hb => h.below hb) (spOf_cons (Sp.know_keeps _) (spOf_cons (Sp.made_keeps fun x w w' h hb => h.below hb) (spOf_cons (Sp.know_keeps _) (spOf_cons (Sp.know_keeps _) (spOf_cons (Sp.know_keeps _) (spOf_nil))))))))))))))) (fun _ _ h hb => h.trans (hb.mono h.size)) ((Below.refl _ _).drew) ?_
    simp only [List.take_succ_cons, List.take_zero, List.drop_succ_cons, List.drop_zero]
    refine wpF_reads rfl rfl ?_ (fun w' hw' => ?_) ?_
    rotate_left
    · have hb' := hw'.world
      have hs := HSX.out _ hb'
      clear hw'
      go_simp
      try rfl
    conv => arg 9; simp only [Act.put, List.setIfInBounds_toArray, List.set_cons_succ, List.set_cons_zero]
    refine wpF_reads rfl rfl ?_ (fun w' hw' => ?_) ?_
    rotate_left
    · have hb' := hw'.world
      have hs := HSY.out _ hb'
      clear hw'
      go_simp
      try rfl
    conv => arg 9; simp only [Act.put, List.setIfInBounds_toArray, List.set_cons_succ, List.set_cons_zero]
    refine wpF_spec rfl rfl (fun w' hw' => ?_) ?_
    · have hb' := hw'.world
      go_simp
      refine (CMP.out w' hb').mono ?_
      rintro e w'' ⟨rfl, hb⟩
      exact ⟨_, rfl, rfl, hb⟩
    rintro _ rfl
    conv => arg 9; simp only [Act.put, List.setIfInBounds_toArray, List.set_cons_succ, List.set_cons_zero]
    refine wpF_reads rfl rfl ?_ (fun w' hw' => ?_) ?_
    rotate_left
    · have hb' := hw'.world
      have hs := HS1.out _ hb'
      clear hw'
      go_simp
      try rfl
    conv => arg 9; simp only [Act.put, List.setIfInBounds_toArray, List.set_cons_succ, List.set_cons_zero]
    refine wpF_reads rfl rfl ?_ (fun w' hw' => ?_) ?_
    rotate_left
    · have hb' := hw'.world
      have hs := HS2.out _ hb'
      clear hw'
      go_simp
      try rfl
    conv => arg 9; simp only [Act.put, List.setIfInBounds_toArray, List.set_cons_succ, List.set_cons_zero]
    refine wpF_spec rfl rfl (fun w' hw' => ?_) ?_
    · have hb' := hw'.world
      go_simp
      refine (RCMP.out w' hb').mono ?_
      rintro e w'' ⟨rfl, hb⟩
      exact ⟨_, rfl, rfl, hb⟩
    rintro _ rfl
    conv => arg 9; simp only [Act.put, List.setIfInBounds_toArray, List.set_cons_succ, List.set_cons_zero]
    refine wpF_reads rfl rfl ?_ (fun w' hw' => ?_) ?_
    rotate_left
    · have hb' := hw'.world
      skip
      clear hw'
      go_simp
      try rfl
    conv => arg 9; simp only [Act.put, List.setIfInBounds_toArray, List.set_cons_succ, List.set_cons_zero]
    refine wpF_reads rfl rfl ?_ (fun w' hw' => ?_) ?_
    rotate_left
    · have hb' := hw'.world
      skip
      clear hw'
      go_simp
      try rfl
    conv => arg 9; simp only [Act.put, List.setIfInBounds_toArray, List.set_cons_succ, List.set_cons_zero]
    refine wpF_readsG (by rfl) rfl ?_ (fun w' hw' => ?_) ?_
    rotate_left
    · have hb' := hw'.world
      have hs := HSX.out _ hb'
      clear hw'
      go_simp
      try rfl
    conv => arg 9; simp only [Act.put, List.setIfInBounds_toArray, List.set_cons_succ, List.set_cons_zero]
    refine wpF_specG (by rfl) rfl (fun w' hw' => ?_) ?_
    · have hb' := hw'.world
      go_simp
      refine (SGN.out w' hb').mono ?_
      rintro e w'' ⟨rfl, hb⟩
      exact ⟨_, rfl, rfl, hb⟩
    rintro _ rfl
    conv => arg 9; simp only [Act.put, List.setIfInBounds_toArray, List.set_cons_succ, List.set_cons_zero]
    refine wpF_readsG (by rfl) rfl ?_ (fun w' hw' => ?_) ?_
    rotate_left
    · have hb' := hw'.world
      have hs := HS1.out _ hb'
      clear hw'
      go_simp
      try rfl
    conv => arg 9; simp only [Act.put, List.setIfInBounds_toArray, List.set_cons_succ, List.set_cons_zero]
    refine wpF_specG (by rfl) rfl (fun w' hw' => ?_) ?_
    · have hb' := hw'.world
      go_simp
      refine (RSGN.out w' hb').mono ?_
      rintro e w'' ⟨rfl, hb⟩
      exact ⟨_, rfl, rfl, hb⟩
    rintro _ rfl
    conv => arg 9; simp only [Act.put, List.setIfInBounds_toArray, List.set_cons_succ, List.set_cons_zero]
    refine wpF_readsG (by rfl) rfl ?_ (fun w' hw' => ?_) ?_
    rotate_left
    · have hb' := hw'.world
      skip
      clear hw'
      go_simp
      try rfl
    conv => arg 9; simp only [Act.put, List.setIfInBounds_toArray, List.set_cons_succ, List.set_cons_zero]
    refine wpF_reads rfl rfl ?_ (fun w' hw' => ?_) ?_
    rotate_left
    · have hb' := hw'.world
      skip
      clear hw'
      go_simp
      try rfl
    conv => arg 9; simp only [Act.put, List.setIfInBounds_toArray, List.set_cons_succ, List.set_cons_zero]
    refine wpF_reads rfl rfl ?_ (fun w' hw' => ?_) ?_
    rotate_left
    · have hb' := hw'.world
      skip
      clear hw'
      go_simp
      try rfl
    conv => arg 9; simp only [Act.put, List.setIfInBounds_toArray, List.set_cons_succ, List.set_cons_zero]
    refine wpF_readsG (by rfl) rfl ?_ (fun w' hw' => ?_) ?_
    rotate_left
    · have hb' := hw'.world
      have hs := HSS.out _ hb'
      clear hw'
      go_simp
      try rfl
    conv => arg 9; simp only [Act.put, List.setIfInBounds_toArray, List.set_cons_succ, List.set_cons_zero]
    refine wpF_readsG (by rfl) rfl ?_ (fun w' hw' => ?_) ?_
    rotate_left
    · have hb' := hw'.world
      have hs := HS1.out _ hb'
      clear hw'
      go_simp
      try rfl
    conv => arg 9; simp only [Act.put, List.setIfInBounds_toArray, List.set_cons_succ, List.set_cons_zero]
    refine wpF_readsG (by rfl) rfl ?_ (fun w' hw' => ?_) ?_
    rotate_left
    · have hb' := hw'.world
      have hs := HS2.out _ hb'
      clear hw'
      go_simp
      try rfl
    conv => arg 9; simp only [Act.put, List.setIfInBounds_toArray, List.set_cons_succ, List.set_cons_zero]
    refine wpF_specG (by rfl) rfl (fun w' hw' => ?_) ?_
    · have hb' := hw'.world
      go_simp
      refine (RADD.out w' hb').mono ?_
      rintro e w'' ⟨a, cap, rfl, q, hb⟩
      exact ⟨_, rfl, ⟨⟨a, cap, rfl⟩, ⟨a, cap, rfl, q.mono hb'.size⟩⟩, hb⟩
    rintro _ ⟨x, rfl⟩
    conv => arg 9; simp only [Act.put, List.setIfInBounds_toArray, List.set_cons_succ, List.set_cons_zero]
    refine wpF_specG (by rfl) rfl (fun w' hw' => ?_) ?_
    · have hb' := hw'.world
      go_simp
      have h7 := own_numc (T := 57) (x := x) (b := V.heap.size) (s := ss) (L := ls) (o := ds) (hw'.fact 18 (by kernel_rfl))
      refine (SMS.out w' hb' x.1 x.2 h7.rd).mono ?_
      rintro e w'' ⟨rfl, hb⟩
      exact ⟨_, rfl, rfl, hb⟩
    rintro _ rfl
    conv => arg 9; simp only [Act.put, List.setIfInBounds_toArray, List.set_cons_succ, List.set_cons_zero]
    refine wpF_readsG (by rfl) rfl ?_ (fun w' hw' => ?_) ?_
    rotate_left
    · have hb' := hw'.world
      skip
      clear hw'
      go_simp
      try rfl
    conv => arg 9; simp only [Act.put, List.setIfInBounds_toArray, List.set_cons_succ, List.set_cons_zero]
    refine wpF_reads rfl rfl ?_ (fun w' hw' => ?_) ?_
    rotate_left
    · have hb' := hw'.world
      skip
      clear hw'
      go_simp
      try rfl
    conv => arg 9; simp only [Act.put, List.setIfInBounds_toArray, List.set_cons_succ, List.set_cons_zero]
    refine wpF_reads rfl rfl ?_ (fun w' hw' => ?_) ?_
    rotate_left
    · have hb' := hw'.world
      skip
      clear hw'
      go_simp
      try rfl
    conv => arg 9; simp only [Act.put, List.setIfInBounds_toArray, List.set_cons_succ, List.set_cons_zero]
    refine wpF_readsG (by rfl) rfl ?_ (fun w' hw' => ?_) ?_
    rotate_left
    · have hb' := hw'.world
      have hs := HSR.out _ hb'
      clear hw'
      go_simp
      try rfl
    conv => arg 9; simp only [Act.put, List.setIfInBounds_toArray, List.set_cons_succ, List.set_cons_zero]
    refine wpF_readsG (by rfl) rfl ?_ (fun w' hw' => ?_) ?_
    rotate_left
    · have hb' := hw'.world
      have hs := HS1.out _ hb'
      clear hw'
      go_simp
      try rfl
    conv => arg 9; simp only [Act.put, List.setIfInBounds_toArray, List.set_cons_succ, List.set_cons_zero]
    refine wpF_readsG (by rfl) rfl ?_ (fun w' hw' => ?_) ?_
    rotate_left
    · have hb' := hw'.world
      have hs := HS2.out _ hb'
      clear hw'
      go_simp
      try rfl
    conv => arg 9; simp only [Act.put, List.setIfInBounds_toArray, List.set_cons_succ, List.set_cons_zero]
    refine wpF_specG (by rfl) rfl (fun w' hw' => ?_) ?_
    · have hb' := hw'.world
      go_simp
      refine (RSUB.out w' hb').mono ?_
      rintro e w'' ⟨a, cap, rfl, q, hb⟩
      exact ⟨_, rfl, ⟨⟨a, cap, rfl⟩, ⟨a, cap, rfl, q.mono hb'.size⟩⟩, hb⟩
    rintro _ ⟨x, rfl⟩
    conv => arg 9; simp only [Act.put, List.setIfInBounds_toArray, List.set_cons_succ, List.set_cons_zero]
    refine wpF_specG (by rfl) rfl (fun w' hw' => ?_) ?_
    · have hb' := hw'.world
      go_simp
      have h7 := own_numc (T := 57) (x := x) (b := V.heap.size) (s := sr) (L := lr) (o := dr) (hw'.fact 26 (by kernel_rfl))
      refine (SMR.out w' hb' x.1 x.2 h7.rd).mono ?_
      rintro e w'' ⟨rfl, hb⟩
      exact ⟨_, rfl, rfl, hb⟩
    rintro _ rfl
    conv => arg 9; simp only [Act.put, List.setIfInBounds_toArray, List.set_cons_succ, List.set_cons_zero]
    refine wpF_readsG (by rfl) rfl ?_ (fun w' hw' => ?_) ?_
    rotate_left
    · have hb' := hw'.world
      skip
      clear hw'
      go_simp
      try rfl
    conv => arg 9; simp only [Act.put, List.setIfInBounds_toArray, List.set_cons_succ, List.set_cons_zero]
    refine wpF_reads rfl rfl ?_ (fun w' hw' => ?_) ?_
    rotate_left
    · have hb' := hw'.world
      skip
      clear hw'
      go_simp
      try rfl
    conv => arg 9; simp only [Act.put, List.setIfInBounds_toArray, List.set_cons_succ, List.set_cons_zero]
    refine wpF_reads rfl rfl ?_ (fun w' hw' => ?_) ?_
    rotate_left
    · have hb' := hw'.world
      skip
      clear hw'
      go_simp
      try rfl
    conv => arg 9; simp only [Act.put, List.setIfInBounds_toArray, List.set_cons_succ, List.set_cons_zero]
    refine wpF_readsG (by rfl) rfl ?_ (fun w' hw' => ?_) ?_
    rotate_left
    · have hb' := hw'.world
      have hs := HSP.out _ hb'
      clear hw'
      go_simp
      try rfl
    conv => arg 9; simp only [Act.put, List.setIfInBounds_toArray, List.set_cons_succ, List.set_cons_zero]
    refine wpF_readsG (by rfl) rfl ?_ (fun w' hw' => ?_) ?_
    rotate_left
    · have hb' := hw'.world
      have hs := HS1.out _ hb'
      clear hw'
      go_simp
      try rfl
    conv => arg 9; simp only [Act.put, List.setIfInBounds_toArray, List.set_cons_succ, List.set_cons_zero]
    refine wpF_readsG (by rfl) rfl ?_ (fun w' hw' => ?_) ?_
    rotate_left
    · have hb' := hw'.world
      have hs := HS2.out _ hb'
      clear hw'
      go_simp
      try rfl
    conv => arg 9; simp only [Act.put, List.setIfInBounds_toArray, List.set_cons_succ, List.set_cons_zero]
    refine wpF_specG (by rfl) rfl (fun w' hw' => ?_) ?_
    · have hb' := hw'.world
      go_simp
      refine (RMUL.out w' hb').mono ?_
      rintro e w'' ⟨a, cap, rfl, q, hb⟩
      exact ⟨_, rfl, ⟨⟨a, cap, rfl⟩, ⟨a, cap, rfl, q.mono hb'.size⟩⟩, hb⟩
    rintro _ ⟨x, rfl⟩
    conv => arg 9; simp only [Act.put, List.setIfInBounds_toArray, List.set_cons_succ, List.set_cons_zero]
    refine wpF_specG (by rfl) rfl (fun w' hw' => ?_) ?_
    · have hb' := hw'.world
      go_simp
      have h7 := own_numc (T := 57) (x := x) (b := V.heap.size) (s := sp) (L := lp) (o := dp) (hw'.fact 34 (by kernel_rfl))
      refine (SMP.out w' hb' x.1 x.2 h7.rd).mono ?_
      rintro e w'' ⟨rfl, hb⟩
      exact ⟨_, rfl, rfl, hb⟩
    rintro _ rfl
    conv => arg 9; simp only [Act.put, List.setIfInBounds_toArray, List.set_cons_succ, List.set_cons_zero]
    refine wpF_readsG (by rfl) rfl ?_ (fun w' hw' => ?_) ?_
    rotate_left
    · have hb' := hw'.world
      skip
      clear hw'
      go_simp
      try rfl
    conv => arg 9; simp only [Act.put, List.setIfInBounds_toArray, List.set_cons_succ, List.set_cons_zero]
    refine wpF_reads rfl rfl ?_ (fun w' hw' => ?_) ?_
    rotate_left
    · have hb' := hw'.world
      skip
      clear hw'
      go_simp
      try rfl
    conv => arg 9; simp only [Act.put, List.setIfInBounds_toArray, List.set_cons_succ, List.set_cons_zero]
    refine wpF_reads rfl rfl ?_ (fun w' hw' => ?_) ?_
    rotate_left
    · have hb' := hw'.world
      skip
      clear hw'
      go_simp
      try rfl
    conv => arg 9; simp only [Act.put, List.setIfInBounds_toArray, List.set_cons_succ, List.set_cons_zero]
    refine wpF_readsG (by rfl) rfl ?_ (fun w' hw' => ?_) ?_
    rotate_left
    · have hb' := hw'.world
      have hs := HSN.out _ hb'
      clear hw'
      go_simp
      try rfl
    conv => arg 9; simp only [Act.put, List.setIfInBounds_toArray, List.set_cons_succ, List.set_cons_zero]
    refine wpF_readsG (by rfl) rfl ?_ (fun w' hw' => ?_) ?_
    rotate_left
    · have hb' := hw'.world
      have hs := HS1.out _ hb'
      clear hw'
      go_simp
      try rfl
    conv => arg 9; simp only [Act.put, List.setIfInBounds_toArray, List.set_cons_succ, List.set_cons_zero]
    refine wpF_specG (by rfl) rfl (fun w' hw' => ?_) ?_
    · have hb' := hw'.world
      go_simp
      refine (RNEG.out w' hb').mono ?_
      rintro e w'' ⟨a, cap, rfl, q, hb⟩
      exact ⟨_, rfl, ⟨⟨a, cap, rfl⟩, ⟨a, cap, rfl, q.mono hb'.size⟩⟩, hb⟩
    rintro _ ⟨x, rfl⟩
    conv => arg 9; simp only [Act.put, List.setIfInBounds_toArray, List.set_cons_succ, List.set_cons_zero]
    refine wpF_specG (by rfl) rfl (fun w' hw' => ?_) ?_
    · have hb' := hw'.world
      go_simp
      have h7 := own_numc (T := 57) (x := x) (b := V.heap.size) (s := sn) (L := ln) (o := dn) (hw'.fact 41 (by kernel_rfl))
      refine (SMN.out w' hb' x.1 x.2 h7.rd).mono ?_
      rintro e w'' ⟨rfl, hb⟩
      exact ⟨_, rfl, rfl, hb⟩
    rintro _ rfl
    conv => arg 9; simp only [Act.put, List.setIfInBounds_toArray, List.set_cons_succ, List.set_cons_zero]
    refine wpF_readsG (by rfl) rfl ?_ (fun w' hw' => ?_) ?_
    rotate_left
    · have hb' := hw'.world
      skip
      clear hw'
      go_simp
      try rfl
    conv => arg 9; simp only [Act.put, List.setIfInBounds_toArray, List.set_cons_succ, List.set_cons_zero]
    refine wpF_reads rfl rfl ?_ (fun w' hw' => ?_) ?_
    rotate_left
    · have hb' := hw'.world
      skip
      clear hw'
      go_simp
      try rfl
    conv => arg 9; simp only [Act.put, List.setIfInBounds_toArray, List.set_cons_succ, List.set_cons_zero]
    refine wpF_reads rfl rfl ?_ (fun w' hw' => ?_) ?_
    rotate_left
    · have hb' := hw'.world
      skip
      clear hw'
      go_simp
      try rfl
    conv => arg 9; simp only [Act.put, List.setIfInBounds_toArray, List.set_cons_succ, List.set_cons_zero]
    refine wpF_readsG (by rfl) rfl ?_ (fun w' hw' => ?_) ?_
    rotate_left
    · have hb' := hw'.world
      have hs := HSX.out _ hb'
      clear hw'
      go_simp
      try rfl
    conv => arg 9; simp only [Act.put, List.setIfInBounds_toArray, List.set_cons_succ, List.set_cons_zero]
    refine wpF_readsG (by rfl) rfl ?_ (fun w' hw' => ?_) ?_
    rotate_left
    · have hb' := hw'.world
      have hs := HS1.out _ hb'
      clear hw'
      go_simp
      try rfl
    conv => arg 9; simp only [Act.put, List.setIfInBounds_toArray, List.set_cons_succ, List.set_cons_zero]
    refine wpF_specG (by rfl) rfl (fun w' hw' => ?_) ?_
    · have hb' := hw'.world
      go_simp
      refine (LFX.out w' hb').mono ?_
      rintro e w'' ⟨rfl, hb⟩
      exact ⟨_, rfl, rfl, hb⟩
    rintro _ rfl
    conv => arg 9; simp only [Act.put, List.setIfInBounds_toArray, List.set_cons_succ, List.set_cons_zero]
    refine wpF_readsG (by rfl) rfl ?_ (fun w' hw' => ?_) ?_
    rotate_left
    · have hb' := hw'.world
      skip
      clear hw'
      go_simp
      try rfl
    conv => arg 9; simp only [Act.put, List.setIfInBounds_toArray, List.set_cons_succ, List.set_cons_zero]
    refine wpF_reads rfl rfl ?_ (fun w' hw' => ?_) ?_
    rotate_left
    · have hb' := hw'.world
      skip
      clear hw'
      go_simp
      try rfl
    conv => arg 9; simp only [Act.put, List.setIfInBounds_toArray, List.set_cons_succ, List.set_cons_zero]
    refine wpF_reads rfl rfl ?_ (fun w' hw' => ?_) ?_
    rotate_left
    · have hb' := hw'.world
      skip
      clear hw'
      go_simp
      try rfl
    conv => arg 9; simp only [Act.put, List.setIfInBounds_toArray, List.set_cons_succ, List.set_cons_zero]
    refine wpF_readsG (by rfl) rfl ?_ (fun w' hw' => ?_) ?_
    rotate_left
    · have hb' := hw'.world
      have hs := HSY.out _ hb'
      clear hw'
      go_simp
      try rfl
    conv => arg 9; simp only [Act.put, List.setIfInBounds_toArray, List.set_cons_succ, List.set_cons_zero]
    refine wpF_readsG (by rfl) rfl ?_ (fun w' hw' => ?_) ?_
    rotate_left
    · have hb' := hw'.world
      have hs := HS2.out _ hb'
      clear hw'
      go_simp
      try rfl
    conv => arg 9; simp only [Act.put, List.setIfInBounds_toArray, List.set_cons_succ, List.set_cons_zero]
    refine wpF_specG (by rfl) rfl (fun w' hw' => ?_) ?_
    · have hb' := hw'.world
      go_simp
      refine (LFY.out w' hb').mono ?_
      rintro e w'' ⟨rfl, hb⟩
      exact ⟨_, rfl, rfl, hb⟩
    rintro _ rfl
    conv => arg 9; simp only [Act.put, List.setIfInBounds_toArray, List.set_cons_succ, List.set_cons_zero]
    refine wpF_readsG (by rfl) rfl ?_ (fun w' hw' => ?_) ?_
    rotate_left
    · have hb' := hw'.world
      skip
      clear hw'
      go_simp
      try rfl
    conv => arg 9; simp only [Act.put, List.setIfInBounds_toArray, List.set_cons_succ, List.set_cons_zero]
    refine wpF_nil (fun w5 hb5 hF5 => ?_)
    have HA5 := Lib.hid (HA.out.below hb5)
    have HG5 := Lib.hid (HG.out.trans (hb5.mono HG.out.size))
    have HL5 := Lib.hid (And.intro HLO.out.1 (Nat.le_trans HLO.out.2 hb5.size))
    clear hF5 hb5 HS1 HS2 HSX HSY HSS HSR HSP HSN RA CMP RCMP SGN RSGN RADD RSUB RMUL RNEG SMS SMR SMP SMN LFX LFY HA HG HLO HB1 HB2 HR HC
    go_upto_region 12 with (fail)
    obtain ⟨W, hW⟩ : ∃ W, W = w5.alloc (.cells #[.int .i64 0, .slice none 0 0, .slice none 0 0, .slice none 0 0, .slice none 0 0, .slice none 0 0, .slice none 0 0, .slice none 0 0, .slice none 0 0, .slice none 0 0, .slice none 0 0, .slice none 0 0, .slice none 0 0] 44) := ⟨_, rfl⟩
    have HK := Lib.hid (book_new w5)
    have HW := Lib.hid (show Below w5.heap.size w5 (w5.alloc (.cells #[.int .i64 0, .slice none 0 0, .slice none 0 0, .slice none 0 0, .slice none 0 0, .slice none 0 0, .slice none 0 0, .slice none 0 0, .slice none 0 0, .slice none 0 0, .slice none 0 0, .slice none 0 0, .slice none 0 0] 44)) from (Below.refl _ _).alloc (Nat.le_refl _) _)
    rw [← hW] at HK HW
    rw [show w5.alloc (.cells #[.int .i64 0, .slice none 0 0, .slice none 0 0, .slice none 0 0, .slice none 0 0, .slice none 0 0, .slice none 0 0, .slice none 0 0, .slice none 0 0, .slice none 0 0, .slice none 0 0, .slice none 0 0, .slice none 0 0] 44) = W from hW.symm]
    clear hW
    obtain ⟨B, hB⟩ : ∃ B, B = w5.heap.size := ⟨_, rfl⟩
    rw [← hB] at HK HW
    rw [← hB]
    have HBe := Lib.hid hB
    clear hB
    have hbz : B ≤ W.heap.size := Nat.le_trans (by rw [HBe.out]; exact Nat.le_refl _) HW.out.size
    obtain ⟨x0, x1, x2, x3⟩ := ((HA5.out.below (by rw [← HBe.out]; exact HW.out)).get (i := 0) rfl).1.all
    have NM := Lib.hid (Book.num_any B B 0 _ _ (s1) (some ⟨gx, 0, none⟩) (n1) (n1 + 1) W (by omega) HK.out hbz)
    go_wp2_with fail
    refine NM.out.mono ?_
    rintro e W' hk
    obtain ⟨⟨u, rfl⟩, v', hk1, hk2⟩ := kept_next hk HK.out hbz
    have HK := Lib.hid hk1
    have HW := Lib.hid (HW.out.trans hk2)
    clear hk hk1 hk2 NM x0 x1 x2 x3 hbz
    obtain ⟨W, rfl⟩ : ∃ W, W = W' := ⟨_, rfl⟩
    have hbz : B ≤ W.heap.size := Nat.le_trans (by rw [HBe.out]; exact Nat.le_refl _) HW.out.size
    obtain ⟨x0, x1, x2, x3⟩ := ((HA5.out.below (by rw [← HBe.out]; exact HW.out)).get (i := 1) rfl).1.all
    have NM := Lib.hid (Book.num_any B B 1 _ _ (s2) (some ⟨gy, 0, none⟩) (n2) (n2 + 1) W (by omega) HK.out hbz)
    go_wp2_with fail
    refine NM.out.mono ?_
    rintro e W' hk
    obtain ⟨⟨u, rfl⟩, v', hk1, hk2⟩ := kept_next hk HK.out hbz
    have HK := Lib.hid hk1
    have HW := Lib.hid (HW.out.trans hk2)
    clear hk hk1 hk2 NM x0 x1 x2 x3 hbz
    obtain ⟨W, rfl⟩ : ∃ W, W = W' := ⟨_, rfl⟩
    have hbz : B ≤ W.heap.size := Nat.le_trans (by rw [HBe.out]; exact Nat.le_refl _) HW.out.size
    obtain ⟨x0, x1, x2, x3⟩ := ((HA5.out.below (by rw [← HBe.out]; exact HW.out)).get (i := 2) rfl).1.all
    have NM := Lib.hid (Book.num_any B B 2 _ _ (ss) (aS) (ls) (ls) W (by omega) HK.out hbz)
    go_wp2_with fail
    refine NM.out.mono ?_
    rintro e W' hk
    obtain ⟨⟨u, rfl⟩, v', hk1, hk2⟩ := kept_next hk HK.out hbz
    have HK := Lib.hid hk1
    have HW := Lib.hid (HW.out.trans hk2)
    clear hk hk1 hk2 NM x0 x1 x2 x3 hbz
    obtain ⟨W, rfl⟩ : ∃ W, W = W' := ⟨_, rfl⟩
    have hbz : B ≤ W.heap.size := Nat.le_trans (by rw [HBe.out]; exact Nat.le_refl _) HW.out.size
    obtain ⟨x0, x1, x2, x3⟩ := ((HA5.out.below (by rw [← HBe.out]; exact HW.out)).get (i := 3) rfl).1.all
    have NM := Lib.hid (Book.num_any B B 3 _ _ (sr) (aR) (lr) (lr) W (by omega) HK.out hbz)
    go_wp2_with fail
    refine NM.out.mono ?_
    rintro e W' hk
    obtain ⟨⟨u, rfl⟩, v', hk1, hk2⟩ := kept_next hk HK.out hbz
    have HK := Lib.hid hk1
    have HW := Lib.hid (HW.out.trans hk2)
    clear hk hk1 hk2 NM x0 x1 x2 x3 hbz
    obtain ⟨W, rfl⟩ : ∃ W, W = W' := ⟨_, rfl⟩
    have hbz : B ≤ W.heap.size := Nat.le_trans (by rw [HBe.out]; exact Nat.le_refl _) HW.out.size
    obtain ⟨x0, x1, x2, x3⟩ := ((HA5.out.below (by rw [← HBe.out]; exact HW.out)).get (i := 4) rfl).1.all
    have NM := Lib.hid (Book.num_any B B 4 _ _ (sp) (aP) (lp) (lp) W (by omega) HK.out hbz)
    go_wp2_with fail
    refine NM.out.mono ?_
    rintro e W' hk
    obtain ⟨⟨u, rfl⟩, v', hk1, hk2⟩ := kept_next hk HK.out hbz
    have HK := Lib.hid hk1
    have HW := Lib.hid (HW.out.trans hk2)
    clear hk hk1 hk2 NM x0 x1 x2 x3 hbz
    obtain ⟨W, rfl⟩ : ∃ W, W = W' := ⟨_, rfl⟩
    have hbz : B ≤ W.heap.size := Nat.le_trans (by rw [HBe.out]; exact Nat.le_refl _) HW.out.size
    obtain ⟨x0, x1, x2, x3⟩ := ((HA5.out.below (by rw [← HBe.out]; exact HW.out)).get (i := 5) rfl).1.all
    have NM := Lib.hid (Book.num_any B B 5 _ _ (sn) (aN) (ln) (ln) W (by omega) HK.out hbz)
    go_wp2_with fail
    refine NM.out.mono ?_
    rintro e W' hk
    obtain ⟨⟨u, rfl⟩, v', hk1, hk2⟩ := kept_next hk HK.out hbz
    have HK := Lib.hid hk1
    have HW := Lib.hid (HW.out.trans hk2)
    clear hk hk1 hk2 NM x0 x1 x2 x3 hbz
    obtain ⟨W, rfl⟩ : ∃ W, W = W' := ⟨_, rfl⟩
    have AP := Lib.hid (apart_of (w0 := w) HA5.out HBe.out.symm HW.out HK.out rfl (Nat.zero_lt_succ 5) (show 6 ≤ 1000 by omega) (by
        intro x hx
        simp only [List.mem_cons, List.mem_nil_iff, or_false] at hx
        have := HLN.out
        rcases hx with rfl | rfl | rfl | rfl | rfl | rfl <;> dsimp only <;> omega) HL5.out.1 (by rw [HBe.out]; exact HL5.out.2) (HG5.out.trans (HW.out.mono (by rw [HBe.out]; exact HG5.out.size))) (Nat.le_trans (Nat.le_trans HG5.out.size (by rw [← HBe.out]; exact Nat.le_refl _)) (Nat.le_trans (by rw [HBe.out]; exact Nat.le_refl _) HW.out.size)))
    go_wp2_with fail
    refine AP.out.mono ?_
    rintro e W' ⟨rfl, hb⟩
    have HF := Lib.hid hb
    clear hb AP
    go_wp2_with fail
    go_ret
    exact ⟨rfl, HF.out⟩
end Go.Proofs.YtebobpbcllideaaGreatDoor.Limb
