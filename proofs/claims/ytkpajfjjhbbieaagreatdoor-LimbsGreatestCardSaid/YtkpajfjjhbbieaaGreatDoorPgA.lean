/-
  The law LimbsGreatest: whatever it is handed, it returns true, and what it was handed reads behind the call as it read before; the card ties the listed tables to the program's text.
-/
import Derived.Test.YtkpajfjjhbbieaaGreatDoorPoG
import Derived.Test.YtkpajfjjhbbieaaGreatDoorCards
import Derived.Test.YtkpajfjjhbbieaaGreatDoorTie
import Derived.Lay
import Derived.MakeChecks
import Derived.Stop.LaidErr
import Derived.Deep.DeepWitnessRowRef
import Derived.WalkKit
import Derived.ProofKit
import Derived.OpenShut
import Derived.Deep.DeepHandedRow
import Derived.Lib.LaidTab
set_option linter.unusedSimpArgs false
set_option linter.unusedVariables false
namespace Go.Proofs.YtkpajfjjhbbieaaGreatDoor.Limb
open Go.RowKit Go.Sort Go.Fresh

theorem bx_of {w : World} {lo b : Nat} {t : TypeId} {x y : Value} (h : ∃ g : Nat, Value.pointer (some ⟨b, 0, none⟩) = Value.pointer (some ⟨g, 0, none⟩) ∧ Bx w g t x y ∧ lo ≤ g) : Bx w b t x y ∧ lo ≤ b := by
  obtain ⟨g, e, h⟩ := h
  cases e
  exact h
theorem numC_zero (a : Option Addr) (c : Nat) : numC 0 a c = numV false a 0 c := by
  show numV (decide ((0 : Int) < 0)) a (lenB (0 : Int).natAbs) c = _
  rw [show lenB (0 : Int).natAbs = 0 from lenB_zero]
  rfl
open Classical in
theorem badC (s : Bool) (a : Option Addr) (n c : Nat) (o : Nat → Int) (w : World) (h : Rd w a n o) (hn : n ≤ 1000000000) (hk : ¬ okN s n o) :
    Calls Tryz.prog 20 #[numV s a n c] w fun e w' => e = .returned (.bool false) ∧ Below w.heap.size w w' := by
  have h := check_any s a n c o w h hn
  rw [decide_eq_false hk] at h
  exact h
open Classical in
theorem goodC (s : Bool) (a : Option Addr) (n c : Nat) (o : Nat → Int) (w : World) (h : Rd w a n o) (hn : n ≤ 1000000000) (hk : okN s n o) :
    Calls Tryz.prog 20 #[numV s a n c] w fun e w' => e = .returned (.bool true) ∧ Below w.heap.size w w' := by
  have h := check_any s a n c o w h hn
  rw [decide_eq_true hk] at h
  exact h
theorem cmpZ_cases (x : Int) : (x < 0 ∧ cmpZ x 0 = -1) ∨ (x = 0 ∧ cmpZ x 0 = 0) ∨ (0 < x ∧ cmpZ x 0 = 1) := by
  rcases Int.lt_trichotomy x 0 with h | h | h
  · exact Or.inl ⟨h, cmpZ_lt h⟩
  · exact Or.inr (Or.inl ⟨h, cmpZ_eq h⟩)
  · exact Or.inr (Or.inr ⟨h, cmpZ_gt h⟩)
theorem cmpZ_range (x y : Int) : -1 ≤ cmpZ x y ∧ cmpZ x y ≤ 1 := by
  unfold cmpZ
  split
  · omega
  · split <;> omega
theorem cmpZ_negz (x : Int) : cmpZ (-x) 0 = - cmpZ x 0 := by
  rcases cmpZ_cases x with ⟨h, e⟩ | ⟨h, e⟩ | ⟨h, e⟩ <;> rw [e]
  · exact cmpZ_gt (by omega)
  · exact cmpZ_eq (by omega)
  · exact cmpZ_lt (by omega)
theorem cmpZ_mulz (x y : Int) : cmpZ (x * y) 0 = cmpZ x 0 * cmpZ y 0 := by
  rcases cmpZ_cases x with ⟨h, e⟩ | ⟨h, e⟩ | ⟨h, e⟩ <;> rcases cmpZ_cases y with ⟨k, f⟩ | ⟨k, f⟩ | ⟨k, f⟩ <;> rw [e, f]
  · exact cmpZ_gt (Int.mul_pos_of_neg_of_neg h k)
  · exact cmpZ_eq (by rw [k, Int.mul_zero])
  · exact cmpZ_lt (Int.mul_neg_of_neg_of_pos h k)
  · exact cmpZ_eq (by rw [h, Int.zero_mul])
  · exact cmpZ_eq (by rw [h, Int.zero_mul])
  · exact cmpZ_eq (by rw [h, Int.zero_mul])
  · exact cmpZ_lt (Int.mul_neg_of_pos_of_neg h k)
  · exact cmpZ_eq (by rw [k, Int.mul_zero])
  · exact cmpZ_gt (Int.mul_pos h k)
theorem cmpZ_subz (x y : Int) : cmpZ (x - y) 0 = cmpZ x y := cmpZ_congr (by omega) (by omega)
theorem cmpZ_same (x y : Int) : (cmpZ x y == 0) = decide (x = y) := by
  unfold cmpZ
  by_cases h : x = y
  · rw [if_neg (by omega), if_neg (by omega), decide_eq_true h]; rfl
  · rw [decide_eq_false h]
    split
    · rfl
    · rw [if_pos (by omega)]; rfl
theorem len1 {z : Int} (h1 : -9223372036854775808 ≤ z) (h2 : z ≤ 9223372036854775807) : lenB z.natAbs ≤ 3 := len3 (by omega)
theorem whole1 {w : World} {z : Int} {a : Option Addr} {c : Nat} (h : NumR w z a c) (e1 : z = 1) :
    Calls Tryz.prog 38 #[numC z a c] w fun e w' => e = .returned (.int .i64 1) ∧ Below w.heap.size w w' := by
  refine (wholeC h (by omega) (by omega)).mono ?_
  rintro e w' ⟨rfl, hb⟩
  rw [e1]
  exact ⟨rfl, hb⟩
theorem wrap_small (x : Int) (h : -9223372036854775808 ≤ x ∧ x ≤ 9223372036854775807) : IntKind.i64.wrap x = x := IntWalk.i64_in _ h
end Go.Proofs.YtkpajfjjhbbieaaGreatDoor.Limb
namespace Go.Proofs.YtkpajfjjhbbieaaGreatDoor.Limb
open Go.RowKit Go.Sort Go.Fresh

theorem gcd_wide (x y z : Int) : ((Int.gcd (x * z) (y * z) : Nat) : Int) = ((Int.gcd x y : Nat) : Int) * (z * cmpZ z 0) := by
  rw [Int.gcd_mul_right, Int.natCast_mul]
  congr 1
  rcases cmpZ_cases z with ⟨h, e⟩ | ⟨h, e⟩ | ⟨h, e⟩ <;> rw [e] <;> omega
theorem len_gcd {x y : Int} {k : Nat} (hx : lenB x.natAbs ≤ k) (hy : lenB y.natAbs ≤ k) : lenB ((Int.gcd x y : Nat) : Int).natAbs ≤ k := by
  rw [Int.natAbs_natCast]
  by_cases h : x = 0
  · subst h; rw [Int.gcd_zero_left]; exact hy
  · refine Nat.le_trans (lenB_mono (Nat.le_of_dvd (by omega) ?_)) hx
    exact Nat.gcd_dvd_left _ _
theorem len_quo {x y : Int} {k : Nat} (hx : lenB x.natAbs ≤ k) (hd : y ∣ x) : lenB (x / y).natAbs ≤ k := by
  refine Nat.le_trans (lenB_mono ?_) hx
  obtain ⟨c, rfl⟩ := hd
  by_cases h : y = 0
  · subst h; simp
  · rw [Int.mul_ediv_cancel_left _ h, Int.natAbs_mul]
    exact Nat.le_mul_of_pos_left _ (by omega)
set_option maxRecDepth 100000 in
set_option maxHeartbeats 8000000 in
theorem greatest_ok (z1 : Int) (a1 : Option Addr) (c1 : Nat) (z2 : Int) (a2 : Option Addr) (c2 : Nat) (z3 : Int) (a3 : Option Addr) (c3 : Nat) (w : World) (htab : Tab w)
    (h1 : NumR w z1 a1 c1) (b1 : lenB z1.natAbs ≤ 25) (h2 : NumR w z2 a2 c2) (b2 : lenB z2.natAbs ≤ 25) (h3 : NumR w z3 a3 c3) (b3 : lenB z3.natAbs ≤ 6) :
    Calls Tryz.prog 7 #[numC z1 a1 c1, numC z2 a2 c2, numC z3 a3 c3] w fun e w' => e = .returned (.bool true) ∧ Below w.heap.size w w' := by
  have HT := Lib.hid htab
  have KG := Lib.hid (Below.refl w.heap.size w)
  have N1 := Lib.hid h1
  have LZ1 := Lib.hid b1
  have Bz1 := Lib.hid (show lenB z1.natAbs ≤ 10000000 by omega)
  have N2 := Lib.hid h2
  have LZ2 := Lib.hid b2
  have Bz2 := Lib.hid (show lenB z2.natAbs ≤ 10000000 by omega)
  have N3 := Lib.hid h3
  have LZ3 := Lib.hid b3
  have Bz3 := Lib.hid (show lenB z3.natAbs ≤ 10000000 by omega)
  clear htab h1 b1 h2 b2 h3 b3
  obtain ⟨zg, hzg⟩ : ∃ z : Int, z = ((Int.gcd z1 z2 : Nat) : Int) := ⟨_, rfl⟩
  have Bzg := Lib.hid (show lenB zg.natAbs ≤ 10000000 by rw [hzg]; have := len_gcd LZ1.out LZ2.out; omega)
  have Hzg := Lib.hid hzg
  clear hzg
  obtain ⟨sc, hsc⟩ : ∃ z : Int, z = cmpZ z3 0 := ⟨_, rfl⟩
  have Bsc := Lib.hid (show lenB sc.natAbs ≤ 10000000 by rw [hsc]; have := len64 (by have := cmpZ_range z3 0; omega : (-9223372036854775808 : Int) ≤ cmpZ z3 0) (by have := cmpZ_range z3 0; omega); omega)
  have Hsc := Lib.hid hsc
  clear hsc
  obtain ⟨zac, hzac⟩ : ∃ z : Int, z = z3 * sc := ⟨_, rfl⟩
  have Bzac := Lib.hid (show lenB zac.natAbs ≤ 10000000 by rw [hzac]; have := lenZ_mul LZ3.out (by rw [Hsc.out]; exact len1 (by have := cmpZ_range z3 0; omega : (-9223372036854775808 : Int) ≤ cmpZ z3 0) (by have := cmpZ_range z3 0; omega) : lenB sc.natAbs ≤ 3); omega)
  have Hzac := Lib.hid hzac
  clear hzac
  obtain ⟨zw, hzw⟩ : ∃ z : Int, z = zg * zac := ⟨_, rfl⟩
  have Bzw := Lib.hid (show lenB zw.natAbs ≤ 10000000 by rw [hzw]; have := lenZ_mul (by rw [Hzg.out]; exact len_gcd LZ1.out LZ2.out : lenB zg.natAbs ≤ 25) (by rw [Hzac.out]; exact lenZ_mul LZ3.out (by rw [Hsc.out]; exact len1 (by have := cmpZ_range z3 0; omega : (-9223372036854775808 : Int) ≤ cmpZ z3 0) (by have := cmpZ_range z3 0; omega) : lenB sc.natAbs ≤ 3) : lenB zac.natAbs ≤ 9); omega)
  have Hzw := Lib.hid hzw
  clear hzw
  obtain ⟨zna, hzna⟩ : ∃ z : Int, z = -z1 := ⟨_, rfl⟩
  have Bzna := Lib.hid (show lenB zna.natAbs ≤ 10000000 by rw [hzna]; have := lenZ_neg LZ1.out; omega)
  have Hzna := Lib.hid hzna
  clear hzna
  obtain ⟨m1, hm1⟩ : ∃ z : Int, z = z1 * z3 := ⟨_, rfl⟩
  have Bm1 := Lib.hid (show lenB m1.natAbs ≤ 10000000 by rw [hm1]; have := lenZ_mul LZ1.out LZ3.out; omega)
  have Hm1 := Lib.hid hm1
  clear hm1
  obtain ⟨m2, hm2⟩ : ∃ z : Int, z = z2 * z3 := ⟨_, rfl⟩
  have Bm2 := Lib.hid (show lenB m2.natAbs ≤ 10000000 by rw [hm2]; have := lenZ_mul LZ2.out LZ3.out; omega)
  have Hm2 := Lib.hid hm2
  clear hm2
  have HWD := Lib.hid (show ((Int.gcd m1 m2 : Nat) : Int) = zw by rw [Hm1.out, Hm2.out, gcd_wide, Hzw.out, Hzac.out, Hsc.out, Hzg.out])
  have HSC := Lib.hid (show (-9223372036854775808 ≤ sc) ∧ sc ≤ 9223372036854775807 by rw [Hsc.out]; have := cmpZ_range z3 0; omega)
  go_enter Tryz.func7, Tryz.ntmps7
  go_upto_region 1 with (fail)
  obtain ⟨v1, hV⟩ : ∃ V, V = ((w.alloc (.cells #[.bool (decide (z1 < 0)), .slice a1 (lenB z1.natAbs) c1] 24)).alloc (.cells #[.bool (decide (z2 < 0)), .slice a2 (lenB z2.natAbs) c2] 24)).alloc (.cells #[.bool (decide (z3 < 0)), .slice a3 (lenB z3.natAbs) c3] 24) := ⟨_, rfl⟩
  have hbV : Below w.heap.size w v1 := by rw [hV]; exact ((((Below.refl _ _).alloc (Nat.le_refl _) _).alloc (by go_size) _).alloc (by go_size) _)
  have BX1 := Lib.hid (show Bx v1 (w.heap.size) 24 (.bool (decide (z1 < 0))) (.slice a1 (lenB z1.natAbs) c1) by rw [hV]; exact ((Bx.new w _ _ _).alloc _).alloc _)
  have BX2 := Lib.hid (show Bx v1 (w.heap.size + 1) 24 (.bool (decide (z2 < 0))) (.slice a2 (lenB z2.natAbs) c2) by rw [hV]; exact (Bx.new2 w _ _ _ _).alloc _)
  have BX3 := Lib.hid (show Bx v1 (w.heap.size + 1 + 1) 24 (.bool (decide (z3 < 0))) (.slice a3 (lenB z3.natAbs) c3) by rw [hV]; exact Bx.new3 w _ _ _ _ _)
  rw [show ((w.alloc (.cells #[.bool (decide (z1 < 0)), .slice a1 (lenB z1.natAbs) c1] 24)).alloc (.cells #[.bool (decide (z2 < 0)), .slice a2 (lenB z2.natAbs) c2] 24)).alloc (.cells #[.bool (decide (z3 < 0)), .slice a3 (lenB z3.natAbs) c3] 24) = v1 from hV.symm]
  have N1 := Lib.hid (N1.out.below hbV)
  have N2 := Lib.hid (N2.out.below hbV)
  have N3 := Lib.hid (N3.out.below hbV)
  have KG := Lib.hid (KG.out.trans (hbV.mono KG.out.size))
  clear hV hbV
  go_wp2_with fail
  have CT := Lib.hid (alive_true v1 (HT.out.on KG.out))
  with_reducible refine CT.out.mono ?_
  rintro e w2 ⟨rfl, hb⟩
  clear CT
  have N1 := Lib.hid (N1.out.below hb)
  have N2 := Lib.hid (N2.out.below hb)
  have N3 := Lib.hid (N3.out.below hb)
  have BX1 := Lib.hid (BX1.out.below hb BX1.out.lt)
  have BX2 := Lib.hid (BX2.out.below hb BX2.out.lt)
  have BX3 := Lib.hid (BX3.out.below hb BX3.out.lt)
  have KG := Lib.hid (KG.out.trans (hb.mono KG.out.size))
  clear hb
  obtain ⟨xBX10, xBX11, xBX12, xBX13⟩ := BX1.out.all
  obtain ⟨xBX20, xBX21, xBX22, xBX23⟩ := BX2.out.all
  go_wp2_with fail
  have GR := Lib.hid (great_2 25 (decide (z1 < 0)) (decide (z2 < 0)) a1 a2 (lenB z1.natAbs) c1 (lenB z2.natAbs) c2 w2)
  rw [decide_eq_false (show ¬ (25 < lenB z1.natAbs ∨ 25 < lenB z2.natAbs) by have := LZ1.out; have := LZ2.out; omega)] at GR
  refine GR.out.mono ?_
  rintro e wg ⟨rfl, rfl⟩
  clear xBX10 xBX11 xBX12 xBX13
  clear xBX20 xBX21 xBX22 xBX23
  clear GR
  obtain ⟨v3, hV⟩ : ∃ V, V = w2.alloc (.cells #[.bool (decide (z1 < 0)), .slice a1 (lenB z1.natAbs) c1, .bool (decide (z2 < 0)), .slice a2 (lenB z2.natAbs) c2] 24) := ⟨_, rfl⟩
  have hbV : Below w2.heap.size w2 v3 := by rw [hV]; exact ((Below.refl _ _).alloc (Nat.le_refl _) _)
  rw [show w2.alloc (.cells #[.bool (decide (z1 < 0)), .slice a1 (lenB z1.natAbs) c1, .bool (decide (z2 < 0)), .slice a2 (lenB z2.natAbs) c2] 24) = v3 from hV.symm]
  have N1 := Lib.hid (N1.out.below hbV)
  have N2 := Lib.hid (N2.out.below hbV)
  have N3 := Lib.hid (N3.out.below hbV)
  have BX1 := Lib.hid (BX1.out.below hbV BX1.out.lt)
  have BX2 := Lib.hid (BX2.out.below hbV BX2.out.lt)
  have BX3 := Lib.hid (BX3.out.below hbV BX3.out.lt)
  have KG := Lib.hid (KG.out.trans (hbV.mono KG.out.size))
  clear hV hbV
  obtain ⟨xBX30, xBX31, xBX32, xBX33⟩ := BX3.out.all
  go_wp2_with fail
  have GR := Lib.hid (great_1 6 (decide (z3 < 0)) a3 (lenB z3.natAbs) c3 v3)
  rw [decide_eq_false (show ¬ (6 < lenB z3.natAbs) by have := LZ3.out; omega)] at GR
  refine GR.out.mono ?_
  rintro e wg ⟨rfl, rfl⟩
  clear xBX30 xBX31 xBX32 xBX33
  clear GR
  obtain ⟨v4, hV⟩ : ∃ V, V = v3.alloc (.cells #[.bool (decide (z3 < 0)), .slice a3 (lenB z3.natAbs) c3] 24) := ⟨_, rfl⟩
  have hbV : Below v3.heap.size v3 v4 := by rw [hV]; exact ((Below.refl _ _).alloc (Nat.le_refl _) _)
  rw [show v3.alloc (.cells #[.bool (decide (z3 < 0)), .slice a3 (lenB z3.natAbs) c3] 24) = v4 from hV.symm]
  have N1 := Lib.hid (N1.out.below hbV)
  have N2 := Lib.hid (N2.out.below hbV)
  have N3 := Lib.hid (N3.out.below hbV)
  have BX1 := Lib.hid (BX1.out.below hbV BX1.out.lt)
  have BX2 := Lib.hid (BX2.out.below hbV BX2.out.lt)
  have BX3 := Lib.hid (BX3.out.below hbV BX3.out.lt)
  have KG := Lib.hid (KG.out.trans (hbV.mono KG.out.size))
  clear hV hbV
  obtain ⟨xBX10, xBX11, xBX12, xBX13⟩ := BX1.out.all
  go_wp2_with fail
  have CT := Lib.hid (checkC N1.out Bz1.out)
  with_reducible refine CT.out.mono ?_
  rintro e w5 ⟨rfl, hb⟩
  clear CT
  clear xBX10 xBX11 xBX12 xBX13
  have N1 := Lib.hid (N1.out.below hb)
  have N2 := Lib.hid (N2.out.below hb)
  have N3 := Lib.hid (N3.out.below hb)
  have BX1 := Lib.hid (BX1.out.below hb BX1.out.lt)
  have BX2 := Lib.hid (BX2.out.below hb BX2.out.lt)
  have BX3 := Lib.hid (BX3.out.below hb BX3.out.lt)
  have KG := Lib.hid (KG.out.trans (hb.mono KG.out.size))
  clear hb
  obtain ⟨xBX20, xBX21, xBX22, xBX23⟩ := BX2.out.all
  go_wp2_with fail
  have CT := Lib.hid (checkC N2.out Bz2.out)
  with_reducible refine CT.out.mono ?_
  rintro e w6 ⟨rfl, hb⟩
  clear CT
  clear xBX20 xBX21 xBX22 xBX23
  have N1 := Lib.hid (N1.out.below hb)
  have N2 := Lib.hid (N2.out.below hb)
  have N3 := Lib.hid (N3.out.below hb)
  have BX1 := Lib.hid (BX1.out.below hb BX1.out.lt)
  have BX2 := Lib.hid (BX2.out.below hb BX2.out.lt)
  have BX3 := Lib.hid (BX3.out.below hb BX3.out.lt)
  have KG := Lib.hid (KG.out.trans (hb.mono KG.out.size))
  clear hb
  obtain ⟨xBX30, xBX31, xBX32, xBX33⟩ := BX3.out.all
  go_wp2_with fail
  have CT := Lib.hid (checkC N3.out Bz3.out)
  with_reducible refine CT.out.mono ?_
  rintro e w7 ⟨rfl, hb⟩
  clear CT
  clear xBX30 xBX31 xBX32 xBX33
  have N1 := Lib.hid (N1.out.below hb)
  have N2 := Lib.hid (N2.out.below hb)
  have N3 := Lib.hid (N3.out.below hb)
  have BX1 := Lib.hid (BX1.out.below hb BX1.out.lt)
  have BX2 := Lib.hid (BX2.out.below hb BX2.out.lt)
  have BX3 := Lib.hid (BX3.out.below hb BX3.out.lt)
  have KG := Lib.hid (KG.out.trans (hb.mono KG.out.size))
  clear hb
  obtain ⟨xBX10, xBX11, xBX12, xBX13⟩ := BX1.out.all
  obtain ⟨xBX20, xBX21, xBX22, xBX23⟩ := BX2.out.all
  go_wp2_with fail
  have CT := Lib.hid (gcdA N1.out.any Bz1.out N2.out.any Bz2.out)
  rw [← Hzg.out] at CT
  with_reducible refine CT.out.mono ?_
  rintro e w8 ⟨a4, c4, rfl, h4, hb⟩
  have N4 := Lib.hid h4
  clear h4
  clear CT
  clear xBX10 xBX11 xBX12 xBX13
  clear xBX20 xBX21 xBX22 xBX23
  have N1 := Lib.hid (N1.out.below hb)
  have N2 := Lib.hid (N2.out.below hb)
  have N3 := Lib.hid (N3.out.below hb)
  have BX1 := Lib.hid (BX1.out.below hb BX1.out.lt)
  have BX2 := Lib.hid (BX2.out.below hb BX2.out.lt)
  have BX3 := Lib.hid (BX3.out.below hb BX3.out.lt)
  have KG := Lib.hid (KG.out.trans (hb.mono KG.out.size))
  clear hb
  go_upto_region 4 with (fail)
  obtain ⟨v9, hV⟩ : ∃ V, V = w8.alloc (.cells #[.bool (decide (zg < 0)), .slice a4 (lenB zg.natAbs) c4] 24) := ⟨_, rfl⟩
  have hbV : Below w8.heap.size w8 v9 := by rw [hV]; exact ((Below.refl _ _).alloc (Nat.le_refl _) _)
  have BX4 := Lib.hid (show Bx v9 (w8.heap.size) 24 (.bool (decide (zg < 0))) (.slice a4 (lenB zg.natAbs) c4) by rw [hV]; exact Bx.new w8 _ _ _)
  rw [show w8.alloc (.cells #[.bool (decide (zg < 0)), .slice a4 (lenB zg.natAbs) c4] 24) = v9 from hV.symm]
  have N1 := Lib.hid (N1.out.below hbV)
  have N2 := Lib.hid (N2.out.below hbV)
  have N3 := Lib.hid (N3.out.below hbV)
  have N4 := Lib.hid (N4.out.below hbV)
  have BX1 := Lib.hid (BX1.out.below hbV BX1.out.lt)
  have BX2 := Lib.hid (BX2.out.below hbV BX2.out.lt)
  have BX3 := Lib.hid (BX3.out.below hbV BX3.out.lt)
  have KG := Lib.hid (KG.out.trans (hbV.mono KG.out.size))
  clear hV hbV
  refine wp_region_fresh 8 (spOf [(3, Sp.know (.int .i64 sc)), (4, Sp.made (fun x : Option Addr × Nat => numC sc x.1 x.2) (fun x w' => NumO w' v9.heap.size sc x.1 x.2)), (5, Sp.made (fun x : Option Addr × Nat => numC zac x.1 x.2) (fun x w' => NumO w' v9.heap.size zac x.1 x.2)), (6, Sp.made (fun x : Option Addr × Nat => numC zw x.1 x.2) (fun x w' => NumO w' v9.heap.size zw x.1 x.2)), (7, Sp.made (fun b : Nat => .pointer (some ⟨b, 0, none⟩)) (fun b w' => Bx w' b 24 (.bool false) (.slice none 0 0) ∧ v9.heap.size ≤ b))])
    (fun w' => Below v9.heap.size v9 w') (by kernel_rfl) (by kernel_rfl)
    (spOf_cons (Sp.know_keeps _) (spOf_cons (Sp.made_keeps fun x w w' h hb => h.below hb) (spOf_cons (Sp.made_keeps fun x w w' h hb => h.below hb) (spOf_cons (Sp.made_keeps fun x w w' h hb => h.below hb) (spOf_cons (Sp.made_keeps fun x w w' h hb => ⟨h.1.below hb h.1.lt, h.2⟩) (spOf_nil)))))) (fun _ _ h hb => h.trans (hb.mono h.size)) ((Below.refl _ _).drew) ?_
  simp only [List.append_eq, List.cons_append, List.nil_append, List.take_succ_cons, List.take_zero, List.drop_succ_cons, List.drop_zero]
  refine wpF_reads rfl rfl ?_ (fun w' hw' => ?_) ?_
  rotate_left
  · have hb' := hw'.world
    obtain ⟨k0, k1, k2, k3⟩ := (BX4.out.below hb' BX4.out.lt).all
    clear hw'
    go_simp
    try rfl
  conv => arg 9; simp only [Act.put, List.setIfInBounds_toArray, List.set_cons_succ, List.set_cons_zero]
  refine wpF_reads rfl rfl ?_ (fun w' hw' => ?_) ?_
  rotate_left
  · have hb' := hw'.world
    obtain ⟨k0, k1, k2, k3⟩ := (BX3.out.below hb' BX3.out.lt).all
    clear hw'
    go_simp
    try rfl
  conv => arg 9; simp only [Act.put, List.setIfInBounds_toArray, List.set_cons_succ, List.set_cons_zero]
  refine wpF_reads rfl rfl ?_ (fun w' hw' => ?_) ?_
  rotate_left
  · have hb' := hw'.world
    obtain ⟨k0, k1, k2, k3⟩ := (BX3.out.below hb' BX3.out.lt).all
    clear hw'
    go_simp
    try rfl
  conv => arg 9; simp only [Act.put, List.setIfInBounds_toArray, List.set_cons_succ, List.set_cons_zero]
  refine wpF_spec rfl rfl (fun w' hw' => ?_) ?_
  · have hb' := hw'.world
    go_simp
    have CT := signA (N3.out.below hb').any Bz3.out
    rw [show cmpZ z3 0 = sc by exact Hsc.out.symm] at CT
    refine CT.mono ?_
    rintro e w'' ⟨rfl, hb⟩
    exact ⟨_, rfl, rfl, hb⟩
  rintro _ rfl
  conv => arg 9; simp only [Act.put, List.setIfInBounds_toArray, List.set_cons_succ, List.set_cons_zero]
  refine wpF_spec rfl rfl (fun w' hw' => ?_) ?_
  · have hb' := hw'.world
    go_simp
    have CT := ofA sc w' HSC.out.1 HSC.out.2
    refine CT.mono ?_
    rintro e w'' ⟨za, zb, rfl, ho, hb⟩
    exact ⟨_, rfl, ⟨⟨za, zb, rfl⟩, ⟨za, zb, rfl, ho.mono hb'.size⟩⟩, hb⟩
  rintro _ ⟨y4, rfl⟩
  conv => arg 9; simp only [Act.put, List.setIfInBounds_toArray, List.set_cons_succ, List.set_cons_zero]
  refine wpF_spec rfl rfl (fun w' hw' => ?_) ?_
  · have hb' := hw'.world
    go_simp
    have f4 := numO_of (x := y4) (z := sc) (hw'.fact 4 (by kernel_rfl))
    have CT := mulA (N3.out.below hb').any Bz3.out f4.any Bsc.out
    rw [show z3 * sc = zac by exact Hzac.out.symm] at CT
    refine CT.mono ?_
    rintro e w'' ⟨za, zb, rfl, ho, hb⟩
    exact ⟨_, rfl, ⟨⟨za, zb, rfl⟩, ⟨za, zb, rfl, ho.mono hb'.size⟩⟩, hb⟩
  rintro _ ⟨y5, rfl⟩
  conv => arg 9; simp only [Act.put, List.setIfInBounds_toArray, List.set_cons_succ, List.set_cons_zero]
  refine wpF_spec rfl rfl (fun w' hw' => ?_) ?_
  · have hb' := hw'.world
    go_simp
    have f5 := numO_of (x := y5) (z := zac) (hw'.fact 5 (by kernel_rfl))
    have CT := mulA (N4.out.below hb').any Bzg.out f5.any Bzac.out
    rw [show zg * zac = zw by exact Hzw.out.symm] at CT
    refine CT.mono ?_
    rintro e w'' ⟨za, zb, rfl, ho, hb⟩
    exact ⟨_, rfl, ⟨⟨za, zb, rfl⟩, ⟨za, zb, rfl, ho.mono hb'.size⟩⟩, hb⟩
  rintro _ ⟨y6, rfl⟩
  conv => arg 9; simp only [Act.put, List.setIfInBounds_toArray, List.set_cons_succ, List.set_cons_zero]
  refine wpF_spec rfl rfl (fun w' hw' => ?_) ?_
  · have hb' := hw'.world
    go_simp
    first | exact ⟨⟨⟨w'.heap.size, rfl⟩, ⟨w'.heap.size, rfl, Bx.new w' _ _ _, hb'.size⟩⟩, (Below.refl _ _).alloc (Nat.le_refl _) _⟩ | exact ⟨⟨Bx.new w' _ _ _, hb'.size⟩, (Below.refl _ _).alloc (Nat.le_refl _) _⟩
  rintro _ ⟨y7, rfl⟩
  conv => arg 9; simp only [Act.put, List.setIfInBounds_toArray, List.set_cons_succ, List.set_cons_zero]
  refine wpF_nil (fun w10 hb hF => ?_)
  have HO := Lib.hid (numO_of (x := y6) (hF 6))
  have HX := Lib.hid (bx_of (hF 7))
  have HBW := Lib.hid hb
  clear hF hb
  obtain ⟨m0, m1, m2, m3⟩ := HX.out.1.all
  go_upto_region 5 with (fail)
  obtain ⟨v11, hV⟩ : ∃ V, V = (w10.setCell ⟨y7, 0, none⟩ (.bool (decide (zw < 0)))).setCell ⟨y7, 1, none⟩ (.slice y6.1 (lenB zw.natAbs) y6.2) := ⟨_, rfl⟩
  have hbV : Below v9.heap.size v9 v11 := by rw [hV]; exact (HBW.out.setCell HX.out.2 _).setCell HX.out.2 _
  have BX5 := Lib.hid (show Bx v11 y7 24 (.bool (decide (zw < 0))) (.slice y6.1 (lenB zw.natAbs) y6.2) by rw [hV]; exact HX.out.1.set _ _)
  have N5 := Lib.hid (show NumO v11 v9.heap.size zw y6.1 y6.2 by rw [hV]; exact (HO.out.setBox HX.out.1 (by decide) 0 _).setBox (HX.out.1.set0 _) (by decide) 1 _)
  rw [show (w10.setCell ⟨y7, 0, none⟩ (.bool (decide (zw < 0)))).setCell ⟨y7, 1, none⟩ (.slice y6.1 (lenB zw.natAbs) y6.2) = v11 from hV.symm]
  clear m0 m1 m2 m3 HO HX HBW
  have N1 := Lib.hid (N1.out.below hbV)
  have N2 := Lib.hid (N2.out.below hbV)
  have N3 := Lib.hid (N3.out.below hbV)
  have N4 := Lib.hid (N4.out.below hbV)
  have BX1 := Lib.hid (BX1.out.below hbV BX1.out.lt)
  have BX2 := Lib.hid (BX2.out.below hbV BX2.out.lt)
  have BX3 := Lib.hid (BX3.out.below hbV BX3.out.lt)
  have BX4 := Lib.hid (BX4.out.below hbV BX4.out.lt)
  have KG := Lib.hid (KG.out.trans (hbV.mono KG.out.size))
  clear hV hbV
  by_cases hz : zg = 0
  · skip
    have HZ := Lib.hid hz
    clear hz
    have HZ1 := Lib.hid (show z1 = 0 ∧ z2 = 0 by have h := HZ.out; rw [Hzg.out] at h; exact Int.gcd_eq_zero_iff.1 (by omega))
    refine wp_region_fresh 31 (spOf [(1, Sp.know (.int .i64 0)), (6, Sp.made (fun x : Option Addr × Nat => numC zg x.1 x.2) (fun x w' => NumO w' v11.heap.size zg x.1 x.2)), (8, Sp.know (.bool true)), (13, Sp.made (fun x : Option Addr × Nat => numC zna x.1 x.2) (fun x w' => NumO w' v11.heap.size zna x.1 x.2)), (15, Sp.made (fun x : Option Addr × Nat => numC zg x.1 x.2) (fun x w' => NumO w' v11.heap.size zg x.1 x.2)), (17, Sp.know (.bool true)), (23, Sp.made (fun x : Option Addr × Nat => numC m1 x.1 x.2) (fun x w' => NumO w' v11.heap.size m1 x.1 x.2)), (26, Sp.made (fun x : Option Addr × Nat => numC m2 x.1 x.2) (fun x w' => NumO w' v11.heap.size m2 x.1 x.2)), (27, Sp.made (fun x : Option Addr × Nat => numC zw x.1 x.2) (fun x w' => NumO w' v11.heap.size zw x.1 x.2)), (29, Sp.know (.bool true))])
      (fun w' => Below v11.heap.size v11 w') (by kernel_rfl) (by kernel_rfl)
      (spOf_cons (Sp.know_keeps _) (spOf_cons (Sp.made_keeps fun x w w' h hb => h.below hb) (spOf_cons (Sp.know_keeps _) (spOf_cons (Sp.made_keeps fun x w w' h hb => h.below hb) (spOf_cons (Sp.made_keeps fun x w w' h hb => h.below hb) (spOf_cons (Sp.know_keeps _) (spOf_cons (Sp.made_keeps fun x w w' h hb => h.below hb) (spOf_cons (Sp.made_keeps fun x w w' h hb => h.below hb) (spOf_cons (Sp.made_keeps fun x w w' h hb => h.below hb) (spOf_cons (Sp.know_keeps _) (spOf_nil))))))))))) (fun _ _ h hb => h.trans (hb.mono h.size)) ((Below.refl _ _).drew) ?_
    simp only [List.append_eq, List.cons_append, List.nil_append, List.take_succ_cons, List.take_zero, List.drop_succ_cons, List.drop_zero]
    refine wpF_reads rfl rfl ?_ (fun w' hw' => ?_) ?_
    rotate_left
    · have hb' := hw'.world
      obtain ⟨k0, k1, k2, k3⟩ := (BX4.out.below hb' BX4.out.lt).all
      clear hw'
      go_simp
      try rfl
    conv => arg 9; simp only [Act.put, List.setIfInBounds_toArray, List.set_cons_succ, List.set_cons_zero]
    refine wpF_spec rfl rfl (fun w' hw' => ?_) ?_
    · have hb' := hw'.world
      go_simp
      have CT := signA (N4.out.below hb').any Bzg.out
      rw [show cmpZ zg 0 = 0 by exact cmpZ_eq HZ.out] at CT
      refine CT.mono ?_
      rintro e w'' ⟨rfl, hb⟩
      exact ⟨_, rfl, rfl, hb⟩
    rintro _ rfl
    conv => arg 9; simp only [Act.put, List.setIfInBounds_toArray, List.set_cons_succ, List.set_cons_zero]
    refine wpF_reads rfl rfl ?_ (fun w' hw' => ?_) ?_
    rotate_left
    · have hb' := hw'.world
      skip
      clear hw'
      go_simp
      try rfl
    conv => arg 9; simp only [Act.put, List.setIfInBounds_toArray, List.set_cons_succ, List.set_cons_zero]
    refine wpF_reads rfl rfl ?_ (fun w' hw' => ?_) ?_
    rotate_left
    · have hb' := hw'.world
      skip
      clear hw'
      go_simp
      try rfl
    conv => arg 9; simp only [Act.put, List.setIfInBounds_toArray, List.set_cons_succ, List.set_cons_zero]
    refine wpF_readsG (by rfl) rfl ?_ (fun w' hw' => ?_) ?_
    rotate_left
    · have hb' := hw'.world
      obtain ⟨k0, k1, k2, k3⟩ := (BX2.out.below hb' BX2.out.lt).all
      clear hw'
      go_simp
      try rfl
    conv => arg 9; simp only [Act.put, List.setIfInBounds_toArray, List.set_cons_succ, List.set_cons_zero]
    refine wpF_readsG (by rfl) rfl ?_ (fun w' hw' => ?_) ?_
    rotate_left
    · have hb' := hw'.world
      obtain ⟨k0, k1, k2, k3⟩ := (BX1.out.below hb' BX1.out.lt).all
      clear hw'
      go_simp
      try rfl
    conv => arg 9; simp only [Act.put, List.setIfInBounds_toArray, List.set_cons_succ, List.set_cons_zero]
    refine wpF_specG (by rfl) rfl (fun w' hw' => ?_) ?_
    · have hb' := hw'.world
      go_simp
      have CT := gcdA (N2.out.below hb').any Bz2.out (N1.out.below hb').any Bz1.out
      rw [show ((Int.gcd z2 z1 : Nat) : Int) = zg by rw [Hzg.out, Int.gcd_comm]] at CT
      refine CT.mono ?_
      rintro e w'' ⟨za, zb, rfl, ho, hb⟩
      exact ⟨_, rfl, ⟨⟨za, zb, rfl⟩, ⟨za, zb, rfl, ho.mono hb'.size⟩⟩, hb⟩
    rintro _ ⟨y6, rfl⟩
    conv => arg 9; simp only [Act.put, List.setIfInBounds_toArray, List.set_cons_succ, List.set_cons_zero]
    refine wpF_readsG (by rfl) rfl ?_ (fun w' hw' => ?_) ?_
    rotate_left
    · have hb' := hw'.world
      obtain ⟨k0, k1, k2, k3⟩ := (BX4.out.below hb' BX4.out.lt).all
      clear hw'
      go_simp
      try rfl
    conv => arg 9; simp only [Act.put, List.setIfInBounds_toArray, List.set_cons_succ, List.set_cons_zero]
    refine wpF_specG (by rfl) rfl (fun w' hw' => ?_) ?_
    · have hb' := hw'.world
      go_simp
      have f6 := numO_of (x := y6) (z := zg) (hw'.fact 6 (by kernel_rfl))
      have CT := sameT f6.r Bzg.out (N4.out.below hb').r Bzg.out rfl
      refine CT.mono ?_
      rintro e w'' ⟨rfl, hb⟩
      exact ⟨_, rfl, rfl, hb⟩
    rintro _ rfl
    conv => arg 9; simp only [Act.put, List.setIfInBounds_toArray, List.set_cons_succ, List.set_cons_zero]
    refine wpF_readsG (by rfl) rfl ?_ (fun w' hw' => ?_) ?_
    rotate_left
    · have hb' := hw'.world
      skip
      clear hw'
      go_simp
      try rfl
    conv => arg 9; simp only [Act.put, List.setIfInBounds_toArray, List.set_cons_succ, List.set_cons_zero]
    refine wpF_reads rfl rfl ?_ (fun w' hw' => ?_) ?_
    rotate_left
    · have hb' := hw'.world
      skip
      clear hw'
      go_simp
      try rfl
    conv => arg 9; simp only [Act.put, List.setIfInBounds_toArray, List.set_cons_succ, List.set_cons_zero]
    refine wpF_reads rfl rfl ?_ (fun w' hw' => ?_) ?_
    rotate_left
    · have hb' := hw'.world
      skip
      clear hw'
      go_simp
      try rfl
    conv => arg 9; simp only [Act.put, List.setIfInBounds_toArray, List.set_cons_succ, List.set_cons_zero]
    refine wpF_readsG (by rfl) rfl ?_ (fun w' hw' => ?_) ?_
    rotate_left
    · have hb' := hw'.world
      obtain ⟨k0, k1, k2, k3⟩ := (BX1.out.below hb' BX1.out.lt).all
      clear hw'
      go_simp
      try rfl
    conv => arg 9; simp only [Act.put, List.setIfInBounds_toArray, List.set_cons_succ, List.set_cons_zero]
    refine wpF_specG (by rfl) rfl (fun w' hw' => ?_) ?_
    · have hb' := hw'.world
      go_simp
      have CT := negA (N1.out.below hb').any Bz1.out
      rw [show -z1 = zna by exact Hzna.out.symm] at CT
      refine CT.mono ?_
      rintro e w'' ⟨za, zb, rfl, ho, hb⟩
      exact ⟨_, rfl, ⟨⟨za, zb, rfl⟩, ⟨za, zb, rfl, ho.mono hb'.size⟩⟩, hb⟩
    rintro _ ⟨y13, rfl⟩
    conv => arg 9; simp only [Act.put, List.setIfInBounds_toArray, List.set_cons_succ, List.set_cons_zero]
    refine wpF_readsG (by rfl) rfl ?_ (fun w' hw' => ?_) ?_
    rotate_left
    · have hb' := hw'.world
      obtain ⟨k0, k1, k2, k3⟩ := (BX2.out.below hb' BX2.out.lt).all
      clear hw'
      go_simp
      try rfl
    conv => arg 9; simp only [Act.put, List.setIfInBounds_toArray, List.set_cons_succ, List.set_cons_zero]
    refine wpF_specG (by rfl) rfl (fun w' hw' => ?_) ?_
    · have hb' := hw'.world
      go_simp
      have f13 := numO_of (x := y13) (z := zna) (hw'.fact 13 (by kernel_rfl))
      have CT := gcdA f13.any Bzna.out (N2.out.below hb').any Bz2.out
      rw [show ((Int.gcd zna z2 : Nat) : Int) = zg by rw [Hzna.out, Hzg.out, Int.neg_gcd]] at CT
      refine CT.mono ?_
      rintro e w'' ⟨za, zb, rfl, ho, hb⟩
      exact ⟨_, rfl, ⟨⟨za, zb, rfl⟩, ⟨za, zb, rfl, ho.mono hb'.size⟩⟩, hb⟩
    rintro _ ⟨y15, rfl⟩
    conv => arg 9; simp only [Act.put, List.setIfInBounds_toArray, List.set_cons_succ, List.set_cons_zero]
    refine wpF_readsG (by rfl) rfl ?_ (fun w' hw' => ?_) ?_
    rotate_left
    · have hb' := hw'.world
      obtain ⟨k0, k1, k2, k3⟩ := (BX4.out.below hb' BX4.out.lt).all
      clear hw'
      go_simp
      try rfl
    conv => arg 9; simp only [Act.put, List.setIfInBounds_toArray, List.set_cons_succ, List.set_cons_zero]
    refine wpF_specG (by rfl) rfl (fun w' hw' => ?_) ?_
    · have hb' := hw'.world
      go_simp
      have f15 := numO_of (x := y15) (z := zg) (hw'.fact 15 (by kernel_rfl))
      have CT := sameT f15.r Bzg.out (N4.out.below hb').r Bzg.out rfl
      refine CT.mono ?_
      rintro e w'' ⟨rfl, hb⟩
      exact ⟨_, rfl, rfl, hb⟩
    rintro _ rfl
    conv => arg 9; simp only [Act.put, List.setIfInBounds_toArray, List.set_cons_succ, List.set_cons_zero]
    refine wpF_readsG (by rfl) rfl ?_ (fun w' hw' => ?_) ?_
    rotate_left
    · have hb' := hw'.world
      skip
      clear hw'
      go_simp
      try rfl
    conv => arg 9; simp only [Act.put, List.setIfInBounds_toArray, List.set_cons_succ, List.set_cons_zero]
    refine wpF_reads rfl rfl ?_ (fun w' hw' => ?_) ?_
    rotate_left
    · have hb' := hw'.world
      skip
      clear hw'
      go_simp
      try rfl
    conv => arg 9; simp only [Act.put, List.setIfInBounds_toArray, List.set_cons_succ, List.set_cons_zero]
    refine wpF_reads rfl rfl ?_ (fun w' hw' => ?_) ?_
    rotate_left
    · have hb' := hw'.world
      skip
      clear hw'
      go_simp
      try rfl
    conv => arg 9; simp only [Act.put, List.setIfInBounds_toArray, List.set_cons_succ, List.set_cons_zero]
    refine wpF_readsG (by rfl) rfl ?_ (fun w' hw' => ?_) ?_
    rotate_left
    · have hb' := hw'.world
      obtain ⟨k0, k1, k2, k3⟩ := (BX1.out.below hb' BX1.out.lt).all
      clear hw'
      go_simp
      try rfl
    conv => arg 9; simp only [Act.put, List.setIfInBounds_toArray, List.set_cons_succ, List.set_cons_zero]
    refine wpF_readsG (by rfl) rfl ?_ (fun w' hw' => ?_) ?_
    rotate_left
    · have hb' := hw'.world
      obtain ⟨k0, k1, k2, k3⟩ := (BX3.out.below hb' BX3.out.lt).all
      clear hw'
      go_simp
      try rfl
    conv => arg 9; simp only [Act.put, List.setIfInBounds_toArray, List.set_cons_succ, List.set_cons_zero]
    refine wpF_specG (by rfl) rfl (fun w' hw' => ?_) ?_
    · have hb' := hw'.world
      go_simp
      have CT := mulA (N1.out.below hb').any Bz1.out (N3.out.below hb').any Bz3.out
      rw [show z1 * z3 = m1 by exact Hm1.out.symm] at CT
      refine CT.mono ?_
      rintro e w'' ⟨za, zb, rfl, ho, hb⟩
      exact ⟨_, rfl, ⟨⟨za, zb, rfl⟩, ⟨za, zb, rfl, ho.mono hb'.size⟩⟩, hb⟩
    rintro _ ⟨y23, rfl⟩
    conv => arg 9; simp only [Act.put, List.setIfInBounds_toArray, List.set_cons_succ, List.set_cons_zero]
    refine wpF_readsG (by rfl) rfl ?_ (fun w' hw' => ?_) ?_
    rotate_left
    · have hb' := hw'.world
      obtain ⟨k0, k1, k2, k3⟩ := (BX2.out.below hb' BX2.out.lt).all
      clear hw'
      go_simp
      try rfl
    conv => arg 9; simp only [Act.put, List.setIfInBounds_toArray, List.set_cons_succ, List.set_cons_zero]
    refine wpF_readsG (by rfl) rfl ?_ (fun w' hw' => ?_) ?_
    rotate_left
    · have hb' := hw'.world
      obtain ⟨k0, k1, k2, k3⟩ := (BX3.out.below hb' BX3.out.lt).all
      clear hw'
      go_simp
      try rfl
    conv => arg 9; simp only [Act.put, List.setIfInBounds_toArray, List.set_cons_succ, List.set_cons_zero]
    refine wpF_specG (by rfl) rfl (fun w' hw' => ?_) ?_
    · have hb' := hw'.world
      go_simp
      have CT := mulA (N2.out.below hb').any Bz2.out (N3.out.below hb').any Bz3.out
      rw [show z2 * z3 = m2 by exact Hm2.out.symm] at CT
      refine CT.mono ?_
      rintro e w'' ⟨za, zb, rfl, ho, hb⟩
      exact ⟨_, rfl, ⟨⟨za, zb, rfl⟩, ⟨za, zb, rfl, ho.mono hb'.size⟩⟩, hb⟩
    rintro _ ⟨y26, rfl⟩
    conv => arg 9; simp only [Act.put, List.setIfInBounds_toArray, List.set_cons_succ, List.set_cons_zero]
    refine wpF_specG (by rfl) rfl (fun w' hw' => ?_) ?_
    · have hb' := hw'.world
      go_simp
      have f23 := numO_of (x := y23) (z := m1) (hw'.fact 23 (by kernel_rfl))
      have f26 := numO_of (x := y26) (z := m2) (hw'.fact 26 (by kernel_rfl))
      have CT := gcdA f23.any Bm1.out f26.any Bm2.out
      rw [show ((Int.gcd m1 m2 : Nat) : Int) = zw by exact HWD.out] at CT
      refine CT.mono ?_
      rintro e w'' ⟨za, zb, rfl, ho, hb⟩
      exact ⟨_, rfl, ⟨⟨za, zb, rfl⟩, ⟨za, zb, rfl, ho.mono hb'.size⟩⟩, hb⟩
    rintro _ ⟨y27, rfl⟩
    conv => arg 9; simp only [Act.put, List.setIfInBounds_toArray, List.set_cons_succ, List.set_cons_zero]
    refine wpF_readsG (by rfl) rfl ?_ (fun w' hw' => ?_) ?_
    rotate_left
    · have hb' := hw'.world
      obtain ⟨k0, k1, k2, k3⟩ := (BX5.out.below hb' BX5.out.lt).all
      clear hw'
      go_simp
      try rfl
    conv => arg 9; simp only [Act.put, List.setIfInBounds_toArray, List.set_cons_succ, List.set_cons_zero]
    refine wpF_specG (by rfl) rfl (fun w' hw' => ?_) ?_
    · have hb' := hw'.world
      go_simp
      have f27 := numO_of (x := y27) (z := zw) (hw'.fact 27 (by kernel_rfl))
      have CT := sameT f27.r Bzw.out (N5.out.below hb').r Bzw.out rfl
      refine CT.mono ?_
      rintro e w'' ⟨rfl, hb⟩
      exact ⟨_, rfl, rfl, hb⟩
    rintro _ rfl
    conv => arg 9; simp only [Act.put, List.setIfInBounds_toArray, List.set_cons_succ, List.set_cons_zero]
    refine wpF_readsG (by rfl) rfl ?_ (fun w' hw' => ?_) ?_
    rotate_left
    · have hb' := hw'.world
      skip
      clear hw'
      go_simp
      try rfl
    conv => arg 9; simp only [Act.put, List.setIfInBounds_toArray, List.set_cons_succ, List.set_cons_zero]
    refine wpF_nil (fun w12 hb hF => ?_)
    clear hF
    have N1 := Lib.hid (N1.out.below hb)
    have N2 := Lib.hid (N2.out.below hb)
    have N3 := Lib.hid (N3.out.below hb)
    have N4 := Lib.hid (N4.out.below hb)
    have N5 := Lib.hid (N5.out.below hb)
    have BX1 := Lib.hid (BX1.out.below hb BX1.out.lt)
    have BX2 := Lib.hid (BX2.out.below hb BX2.out.lt)
    have BX3 := Lib.hid (BX3.out.below hb BX3.out.lt)
    have BX4 := Lib.hid (BX4.out.below hb BX4.out.lt)
    have BX5 := Lib.hid (BX5.out.below hb BX5.out.lt)
    have KG := Lib.hid (KG.out.trans (hb.mono KG.out.size))
    clear hb
    obtain ⟨xBX40, xBX41, xBX42, xBX43⟩ := BX4.out.all
    go_wp2_with fail
    have CT := Lib.hid (signA N4.out.any Bzg.out)
    rw [show cmpZ zg 0 = 0 from cmpZ_eq HZ.out] at CT
    with_reducible refine CT.out.mono ?_
    rintro e w13 ⟨rfl, hb⟩
    clear CT
    clear xBX40 xBX41 xBX42 xBX43
    have N1 := Lib.hid (N1.out.below hb)
    have N2 := Lib.hid (N2.out.below hb)
    have N3 := Lib.hid (N3.out.below hb)
    have N4 := Lib.hid (N4.out.below hb)
    have N5 := Lib.hid (N5.out.below hb)
    have BX1 := Lib.hid (BX1.out.below hb BX1.out.lt)
    have BX2 := Lib.hid (BX2.out.below hb BX2.out.lt)
    have BX3 := Lib.hid (BX3.out.below hb BX3.out.lt)
    have BX4 := Lib.hid (BX4.out.below hb BX4.out.lt)
    have BX5 := Lib.hid (BX5.out.below hb BX5.out.lt)
    have KG := Lib.hid (KG.out.trans (hb.mono KG.out.size))
    clear hb
    obtain ⟨xBX10, xBX11, xBX12, xBX13⟩ := BX1.out.all
    go_wp2_with fail
    have CT := Lib.hid (signA N1.out.any Bz1.out)
    rw [show cmpZ z1 0 = 0 from cmpZ_eq HZ1.out.1] at CT
    with_reducible refine CT.out.mono ?_
    rintro e w14 ⟨rfl, hb⟩
    clear CT
    clear xBX10 xBX11 xBX12 xBX13
    have N1 := Lib.hid (N1.out.below hb)
    have N2 := Lib.hid (N2.out.below hb)
    have N3 := Lib.hid (N3.out.below hb)
    have N4 := Lib.hid (N4.out.below hb)
    have N5 := Lib.hid (N5.out.below hb)
    have BX1 := Lib.hid (BX1.out.below hb BX1.out.lt)
    have BX2 := Lib.hid (BX2.out.below hb BX2.out.lt)
    have BX3 := Lib.hid (BX3.out.below hb BX3.out.lt)
    have BX4 := Lib.hid (BX4.out.below hb BX4.out.lt)
    have BX5 := Lib.hid (BX5.out.below hb BX5.out.lt)
    have KG := Lib.hid (KG.out.trans (hb.mono KG.out.size))
    clear hb
    obtain ⟨xBX20, xBX21, xBX22, xBX23⟩ := BX2.out.all
    go_wp2_with fail
    have CT := Lib.hid (signA N2.out.any Bz2.out)
    rw [show cmpZ z2 0 = 0 from cmpZ_eq HZ1.out.2] at CT
    with_reducible refine CT.out.mono ?_
    rintro e w15 ⟨rfl, hb⟩
    clear CT
    clear xBX20 xBX21 xBX22 xBX23
    have N1 := Lib.hid (N1.out.below hb)
    have N2 := Lib.hid (N2.out.below hb)
    have N3 := Lib.hid (N3.out.below hb)
    have N4 := Lib.hid (N4.out.below hb)
    have N5 := Lib.hid (N5.out.below hb)
    have BX1 := Lib.hid (BX1.out.below hb BX1.out.lt)
    have BX2 := Lib.hid (BX2.out.below hb BX2.out.lt)
    have BX3 := Lib.hid (BX3.out.below hb BX3.out.lt)
    have BX4 := Lib.hid (BX4.out.below hb BX4.out.lt)
    have BX5 := Lib.hid (BX5.out.below hb BX5.out.lt)
    have KG := Lib.hid (KG.out.trans (hb.mono KG.out.size))
    clear hb
    go_wp2_with fail
    go_ret
    exact ⟨rfl, KG.out⟩
  · skip
    have HZ := Lib.hid hz
    clear hz
    have HP := Lib.hid (show 0 < zg by have h := HZ.out; have e := Hzg.out; omega)
    have HD1 := Lib.hid (show zg ∣ z1 by rw [Hzg.out]; exact Int.gcd_dvd_left ..)
    have HD2 := Lib.hid (show zg ∣ z2 by rw [Hzg.out]; exact Int.gcd_dvd_right ..)
    obtain ⟨zp, hzp⟩ : ∃ z : Int, z = z1 / zg := ⟨_, rfl⟩
    have Bzp := Lib.hid (show lenB zp.natAbs ≤ 10000000 by rw [hzp]; have := len_quo LZ1.out HD1.out; omega)
    have Hzp := Lib.hid hzp
    clear hzp
    obtain ⟨zr, hzr⟩ : ∃ z : Int, z = z1 % zg := ⟨_, rfl⟩
    have Bzr := Lib.hid (show lenB zr.natAbs ≤ 10000000 by rw [hzr]; have := (by rw [Int.emod_eq_zero_of_dvd HD1.out]; exact Nat.le_of_eq lenB_zero : lenB (z1 % zg).natAbs ≤ 0); omega)
    have Hzr := Lib.hid hzr
    clear hzr
    obtain ⟨zq, hzq⟩ : ∃ z : Int, z = z2 / zg := ⟨_, rfl⟩
    have Bzq := Lib.hid (show lenB zq.natAbs ≤ 10000000 by rw [hzq]; have := len_quo LZ2.out HD2.out; omega)
    have Hzq := Lib.hid hzq
    clear hzq
    obtain ⟨zs, hzs⟩ : ∃ z : Int, z = z2 % zg := ⟨_, rfl⟩
    have Bzs := Lib.hid (show lenB zs.natAbs ≤ 10000000 by rw [hzs]; have := (by rw [Int.emod_eq_zero_of_dvd HD2.out]; exact Nat.le_of_eq lenB_zero : lenB (z2 % zg).natAbs ≤ 0); omega)
    have Hzs := Lib.hid hzs
    clear hzs
    obtain ⟨zo, hzo⟩ : ∃ z : Int, z = 1 := ⟨_, rfl⟩
    have Bzo := Lib.hid (show lenB zo.natAbs ≤ 10000000 by rw [hzo]; have := (len1 (by decide) (by decide) : lenB (1 : Int).natAbs ≤ 3); omega)
    have Hzo := Lib.hid hzo
    clear hzo
    have HO1 := Lib.hid (show ((Int.gcd zp zq : Nat) : Int) = zo by rw [Hzp.out, Hzq.out, Hzo.out, Hzg.out, Int.gcd_ediv_gcd_ediv_gcd (by have h := HP.out; have e := Hzg.out; omega)]; rfl)
    refine wp_region_fresh 31 (spOf [(1, Sp.know (.int .i64 1)), (6, Sp.made (fun x : Option Addr × Nat => numC zg x.1 x.2) (fun x w' => NumO w' v11.heap.size zg x.1 x.2)), (8, Sp.know (.bool true)), (13, Sp.made (fun x : Option Addr × Nat => numC zna x.1 x.2) (fun x w' => NumO w' v11.heap.size zna x.1 x.2)), (15, Sp.made (fun x : Option Addr × Nat => numC zg x.1 x.2) (fun x w' => NumO w' v11.heap.size zg x.1 x.2)), (17, Sp.know (.bool true)), (23, Sp.made (fun x : Option Addr × Nat => numC m1 x.1 x.2) (fun x w' => NumO w' v11.heap.size m1 x.1 x.2)), (26, Sp.made (fun x : Option Addr × Nat => numC m2 x.1 x.2) (fun x w' => NumO w' v11.heap.size m2 x.1 x.2)), (27, Sp.made (fun x : Option Addr × Nat => numC zw x.1 x.2) (fun x w' => NumO w' v11.heap.size zw x.1 x.2)), (29, Sp.know (.bool true))])
      (fun w' => Below v11.heap.size v11 w') (by kernel_rfl) (by kernel_rfl)
      (spOf_cons (Sp.know_keeps _) (spOf_cons (Sp.made_keeps fun x w w' h hb => h.below hb) (spOf_cons (Sp.know_keeps _) (spOf_cons (Sp.made_keeps fun x w w' h hb => h.below hb) (spOf_cons (Sp.made_keeps fun x w w' h hb => h.below hb) (spOf_cons (Sp.know_keeps _) (spOf_cons (Sp.made_keeps fun x w w' h hb => h.below hb) (spOf_cons (Sp.made_keeps fun x w w' h hb => h.below hb) (spOf_cons (Sp.made_keeps fun x w w' h hb => h.below hb) (spOf_cons (Sp.know_keeps _) (spOf_nil))))))))))) (fun _ _ h hb => h.trans (hb.mono h.size)) ((Below.refl _ _).drew) ?_
    simp only [List.append_eq, List.cons_append, List.nil_append, List.take_succ_cons, List.take_zero, List.drop_succ_cons, List.drop_zero]
    refine wpF_reads rfl rfl ?_ (fun w' hw' => ?_) ?_
    rotate_left
    · have hb' := hw'.world
      obtain ⟨k0, k1, k2, k3⟩ := (BX4.out.below hb' BX4.out.lt).all
      clear hw'
      go_simp
      try rfl
    conv => arg 9; simp only [Act.put, List.setIfInBounds_toArray, List.set_cons_succ, List.set_cons_zero]
    refine wpF_spec rfl rfl (fun w' hw' => ?_) ?_
    · have hb' := hw'.world
      go_simp
      have CT := signA (N4.out.below hb').any Bzg.out
      rw [show cmpZ zg 0 = 1 by exact cmpZ_gt HP.out] at CT
      refine CT.mono ?_
      rintro e w'' ⟨rfl, hb⟩
      exact ⟨_, rfl, rfl, hb⟩
    rintro _ rfl
    conv => arg 9; simp only [Act.put, List.setIfInBounds_toArray, List.set_cons_succ, List.set_cons_zero]
    refine wpF_reads rfl rfl ?_ (fun w' hw' => ?_) ?_
    rotate_left
    · have hb' := hw'.world
      skip
      clear hw'
      go_simp
      try rfl
    conv => arg 9; simp only [Act.put, List.setIfInBounds_toArray, List.set_cons_succ, List.set_cons_zero]
    refine wpF_reads rfl rfl ?_ (fun w' hw' => ?_) ?_
    rotate_left
    · have hb' := hw'.world
      skip
      clear hw'
      go_simp
      try rfl
    conv => arg 9; simp only [Act.put, List.setIfInBounds_toArray, List.set_cons_succ, List.set_cons_zero]
    refine wpF_readsG (by rfl) rfl ?_ (fun w' hw' => ?_) ?_
    rotate_left
    · have hb' := hw'.world
      obtain ⟨k0, k1, k2, k3⟩ := (BX2.out.below hb' BX2.out.lt).all
      clear hw'
      go_simp
      try rfl
    conv => arg 9; simp only [Act.put, List.setIfInBounds_toArray, List.set_cons_succ, List.set_cons_zero]
    refine wpF_readsG (by rfl) rfl ?_ (fun w' hw' => ?_) ?_
    rotate_left
    · have hb' := hw'.world
      obtain ⟨k0, k1, k2, k3⟩ := (BX1.out.below hb' BX1.out.lt).all
      clear hw'
      go_simp
      try rfl
    conv => arg 9; simp only [Act.put, List.setIfInBounds_toArray, List.set_cons_succ, List.set_cons_zero]
    refine wpF_specG (by rfl) rfl (fun w' hw' => ?_) ?_
    · have hb' := hw'.world
      go_simp
      have CT := gcdA (N2.out.below hb').any Bz2.out (N1.out.below hb').any Bz1.out
      rw [show ((Int.gcd z2 z1 : Nat) : Int) = zg by rw [Hzg.out, Int.gcd_comm]] at CT
      refine CT.mono ?_
      rintro e w'' ⟨za, zb, rfl, ho, hb⟩
      exact ⟨_, rfl, ⟨⟨za, zb, rfl⟩, ⟨za, zb, rfl, ho.mono hb'.size⟩⟩, hb⟩
    rintro _ ⟨y6, rfl⟩
    conv => arg 9; simp only [Act.put, List.setIfInBounds_toArray, List.set_cons_succ, List.set_cons_zero]
    refine wpF_readsG (by rfl) rfl ?_ (fun w' hw' => ?_) ?_
    rotate_left
    · have hb' := hw'.world
      obtain ⟨k0, k1, k2, k3⟩ := (BX4.out.below hb' BX4.out.lt).all
      clear hw'
      go_simp
      try rfl
    conv => arg 9; simp only [Act.put, List.setIfInBounds_toArray, List.set_cons_succ, List.set_cons_zero]
    refine wpF_specG (by rfl) rfl (fun w' hw' => ?_) ?_
    · have hb' := hw'.world
      go_simp
      have f6 := numO_of (x := y6) (z := zg) (hw'.fact 6 (by kernel_rfl))
      have CT := sameT f6.r Bzg.out (N4.out.below hb').r Bzg.out rfl
      refine CT.mono ?_
      rintro e w'' ⟨rfl, hb⟩
      exact ⟨_, rfl, rfl, hb⟩
    rintro _ rfl
    conv => arg 9; simp only [Act.put, List.setIfInBounds_toArray, List.set_cons_succ, List.set_cons_zero]
    refine wpF_readsG (by rfl) rfl ?_ (fun w' hw' => ?_) ?_
    rotate_left
    · have hb' := hw'.world
      skip
      clear hw'
      go_simp
      try rfl
    conv => arg 9; simp only [Act.put, List.setIfInBounds_toArray, List.set_cons_succ, List.set_cons_zero]
    refine wpF_reads rfl rfl ?_ (fun w' hw' => ?_) ?_
    rotate_left
    · have hb' := hw'.world
      skip
      clear hw'
      go_simp
      try rfl
    conv => arg 9; simp only [Act.put, List.setIfInBounds_toArray, List.set_cons_succ, List.set_cons_zero]
    refine wpF_reads rfl rfl ?_ (fun w' hw' => ?_) ?_
    rotate_left
    · have hb' := hw'.world
      skip
      clear hw'
      go_simp
      try rfl
    conv => arg 9; simp only [Act.put, List.setIfInBounds_toArray, List.set_cons_succ, List.set_cons_zero]
    refine wpF_readsG (by rfl) rfl ?_ (fun w' hw' => ?_) ?_
    rotate_left
    · have hb' := hw'.world
      obtain ⟨k0, k1, k2, k3⟩ := (BX1.out.below hb' BX1.out.lt).all
      clear hw'
      go_simp
      try rfl
    conv => arg 9; simp only [Act.put, List.setIfInBounds_toArray, List.set_cons_succ, List.set_cons_zero]
    refine wpF_specG (by rfl) rfl (fun w' hw' => ?_) ?_
    · have hb' := hw'.world
      go_simp
      have CT := negA (N1.out.below hb').any Bz1.out
      rw [show -z1 = zna by exact Hzna.out.symm] at CT
      refine CT.mono ?_
      rintro e w'' ⟨za, zb, rfl, ho, hb⟩
      exact ⟨_, rfl, ⟨⟨za, zb, rfl⟩, ⟨za, zb, rfl, ho.mono hb'.size⟩⟩, hb⟩
    rintro _ ⟨y13, rfl⟩
    conv => arg 9; simp only [Act.put, List.setIfInBounds_toArray, List.set_cons_succ, List.set_cons_zero]
    refine wpF_readsG (by rfl) rfl ?_ (fun w' hw' => ?_) ?_
    rotate_left
    · have hb' := hw'.world
      obtain ⟨k0, k1, k2, k3⟩ := (BX2.out.below hb' BX2.out.lt).all
      clear hw'
      go_simp
      try rfl
    conv => arg 9; simp only [Act.put, List.setIfInBounds_toArray, List.set_cons_succ, List.set_cons_zero]
    refine wpF_specG (by rfl) rfl (fun w' hw' => ?_) ?_
    · have hb' := hw'.world
      go_simp
      have f13 := numO_of (x := y13) (z := zna) (hw'.fact 13 (by kernel_rfl))
      have CT := gcdA f13.any Bzna.out (N2.out.below hb').any Bz2.out
      rw [show ((Int.gcd zna z2 : Nat) : Int) = zg by rw [Hzna.out, Hzg.out, Int.neg_gcd]] at CT
      refine CT.mono ?_
      rintro e w'' ⟨za, zb, rfl, ho, hb⟩
      exact ⟨_, rfl, ⟨⟨za, zb, rfl⟩, ⟨za, zb, rfl, ho.mono hb'.size⟩⟩, hb⟩
    rintro _ ⟨y15, rfl⟩
    conv => arg 9; simp only [Act.put, List.setIfInBounds_toArray, List.set_cons_succ, List.set_cons_zero]
    refine wpF_readsG (by rfl) rfl ?_ (fun w' hw' => ?_) ?_
    rotate_left
    · have hb' := hw'.world
      obtain ⟨k0, k1, k2, k3⟩ := (BX4.out.below hb' BX4.out.lt).all
      clear hw'
      go_simp
      try rfl
    conv => arg 9; simp only [Act.put, List.setIfInBounds_toArray, List.set_cons_succ, List.set_cons_zero]
    refine wpF_specG (by rfl) rfl (fun w' hw' => ?_) ?_
    · have hb' := hw'.world
      go_simp
      have f15 := numO_of (x := y15) (z := zg) (hw'.fact 15 (by kernel_rfl))
      have CT := sameT f15.r Bzg.out (N4.out.below hb').r Bzg.out rfl
      refine CT.mono ?_
      rintro e w'' ⟨rfl, hb⟩
      exact ⟨_, rfl, rfl, hb⟩
    rintro _ rfl
    conv => arg 9; simp only [Act.put, List.setIfInBounds_toArray, List.set_cons_succ, List.set_cons_zero]
    refine wpF_readsG (by rfl) rfl ?_ (fun w' hw' => ?_) ?_
    rotate_left
    · have hb' := hw'.world
      skip
      clear hw'
      go_simp
      try rfl
    conv => arg 9; simp only [Act.put, List.setIfInBounds_toArray, List.set_cons_succ, List.set_cons_zero]
    refine wpF_reads rfl rfl ?_ (fun w' hw' => ?_) ?_
    rotate_left
    · have hb' := hw'.world
      skip
      clear hw'
      go_simp
      try rfl
    conv => arg 9; simp only [Act.put, List.setIfInBounds_toArray, List.set_cons_succ, List.set_cons_zero]
    refine wpF_reads rfl rfl ?_ (fun w' hw' => ?_) ?_
    rotate_left
    · have hb' := hw'.world
      skip
      clear hw'
      go_simp
      try rfl
    conv => arg 9; simp only [Act.put, List.setIfInBounds_toArray, List.set_cons_succ, List.set_cons_zero]
    refine wpF_readsG (by rfl) rfl ?_ (fun w' hw' => ?_) ?_
    rotate_left
    · have hb' := hw'.world
      obtain ⟨k0, k1, k2, k3⟩ := (BX1.out.below hb' BX1.out.lt).all
      clear hw'
      go_simp
      try rfl
    conv => arg 9; simp only [Act.put, List.setIfInBounds_toArray, List.set_cons_succ, List.set_cons_zero]
    refine wpF_readsG (by rfl) rfl ?_ (fun w' hw' => ?_) ?_
    rotate_left
    · have hb' := hw'.world
      obtain ⟨k0, k1, k2, k3⟩ := (BX3.out.below hb' BX3.out.lt).all
      clear hw'
      go_simp
      try rfl
    conv => arg 9; simp only [Act.put, List.setIfInBounds_toArray, List.set_cons_succ, List.set_cons_zero]
    refine wpF_specG (by rfl) rfl (fun w' hw' => ?_) ?_
    · have hb' := hw'.world
      go_simp
      have CT := mulA (N1.out.below hb').any Bz1.out (N3.out.below hb').any Bz3.out
      rw [show z1 * z3 = m1 by exact Hm1.out.symm] at CT
      refine CT.mono ?_
      rintro e w'' ⟨za, zb, rfl, ho, hb⟩
      exact ⟨_, rfl, ⟨⟨za, zb, rfl⟩, ⟨za, zb, rfl, ho.mono hb'.size⟩⟩, hb⟩
    rintro _ ⟨y23, rfl⟩
    conv => arg 9; simp only [Act.put, List.setIfInBounds_toArray, List.set_cons_succ, List.set_cons_zero]
    refine wpF_readsG (by rfl) rfl ?_ (fun w' hw' => ?_) ?_
    rotate_left
    · have hb' := hw'.world
      obtain ⟨k0, k1, k2, k3⟩ := (BX2.out.below hb' BX2.out.lt).all
      clear hw'
      go_simp
      try rfl
    conv => arg 9; simp only [Act.put, List.setIfInBounds_toArray, List.set_cons_succ, List.set_cons_zero]
    refine wpF_readsG (by rfl) rfl ?_ (fun w' hw' => ?_) ?_
    rotate_left
    · have hb' := hw'.world
      obtain ⟨k0, k1, k2, k3⟩ := (BX3.out.below hb' BX3.out.lt).all
      clear hw'
      go_simp
      try rfl
    conv => arg 9; simp only [Act.put, List.setIfInBounds_toArray, List.set_cons_succ, List.set_cons_zero]
    refine wpF_specG (by rfl) rfl (fun w' hw' => ?_) ?_
    · have hb' := hw'.world
      go_simp
      have CT := mulA (N2.out.below hb').any Bz2.out (N3.out.below hb').any Bz3.out
      rw [show z2 * z3 = m2 by exact Hm2.out.symm] at CT
      refine CT.mono ?_
      rintro e w'' ⟨za, zb, rfl, ho, hb⟩
      exact ⟨_, rfl, ⟨⟨za, zb, rfl⟩, ⟨za, zb, rfl, ho.mono hb'.size⟩⟩, hb⟩
    rintro _ ⟨y26, rfl⟩
    conv => arg 9; simp only [Act.put, List.setIfInBounds_toArray, List.set_cons_succ, List.set_cons_zero]
    refine wpF_specG (by rfl) rfl (fun w' hw' => ?_) ?_
    · have hb' := hw'.world
      go_simp
      have f23 := numO_of (x := y23) (z := m1) (hw'.fact 23 (by kernel_rfl))
      have f26 := numO_of (x := y26) (z := m2) (hw'.fact 26 (by kernel_rfl))
      have CT := gcdA f23.any Bm1.out f26.any Bm2.out
      rw [show ((Int.gcd m1 m2 : Nat) : Int) = zw by exact HWD.out] at CT
      refine CT.mono ?_
      rintro e w'' ⟨za, zb, rfl, ho, hb⟩
      exact ⟨_, rfl, ⟨⟨za, zb, rfl⟩, ⟨za, zb, rfl, ho.mono hb'.size⟩⟩, hb⟩
    rintro _ ⟨y27, rfl⟩
    conv => arg 9; simp only [Act.put, List.setIfInBounds_toArray, List.set_cons_succ, List.set_cons_zero]
    refine wpF_readsG (by rfl) rfl ?_ (fun w' hw' => ?_) ?_
    rotate_left
    · have hb' := hw'.world
      obtain ⟨k0, k1, k2, k3⟩ := (BX5.out.below hb' BX5.out.lt).all
      clear hw'
      go_simp
      try rfl
    conv => arg 9; simp only [Act.put, List.setIfInBounds_toArray, List.set_cons_succ, List.set_cons_zero]
    refine wpF_specG (by rfl) rfl (fun w' hw' => ?_) ?_
    · have hb' := hw'.world
      go_simp
      have f27 := numO_of (x := y27) (z := zw) (hw'.fact 27 (by kernel_rfl))
      have CT := sameT f27.r Bzw.out (N5.out.below hb').r Bzw.out rfl
      refine CT.mono ?_
      rintro e w'' ⟨rfl, hb⟩
      exact ⟨_, rfl, rfl, hb⟩
    rintro _ rfl
    conv => arg 9; simp only [Act.put, List.setIfInBounds_toArray, List.set_cons_succ, List.set_cons_zero]
    refine wpF_readsG (by rfl) rfl ?_ (fun w' hw' => ?_) ?_
    rotate_left
    · have hb' := hw'.world
      skip
      clear hw'
      go_simp
      try rfl
    conv => arg 9; simp only [Act.put, List.setIfInBounds_toArray, List.set_cons_succ, List.set_cons_zero]
    refine wpF_nil (fun w12 hb hF => ?_)
    clear hF
    have N1 := Lib.hid (N1.out.below hb)
    have N2 := Lib.hid (N2.out.below hb)
    have N3 := Lib.hid (N3.out.below hb)
    have N4 := Lib.hid (N4.out.below hb)
    have N5 := Lib.hid (N5.out.below hb)
    have BX1 := Lib.hid (BX1.out.below hb BX1.out.lt)
    have BX2 := Lib.hid (BX2.out.below hb BX2.out.lt)
    have BX3 := Lib.hid (BX3.out.below hb BX3.out.lt)
    have BX4 := Lib.hid (BX4.out.below hb BX4.out.lt)
    have BX5 := Lib.hid (BX5.out.below hb BX5.out.lt)
    have KG := Lib.hid (KG.out.trans (hb.mono KG.out.size))
    clear hb
    obtain ⟨xBX40, xBX41, xBX42, xBX43⟩ := BX4.out.all
    go_wp2_with fail
    have CT := Lib.hid (signA N4.out.any Bzg.out)
    rw [show cmpZ zg 0 = 1 from cmpZ_gt HP.out] at CT
    with_reducible refine CT.out.mono ?_
    rintro e w13 ⟨rfl, hb⟩
    clear CT
    clear xBX40 xBX41 xBX42 xBX43
    have N1 := Lib.hid (N1.out.below hb)
    have N2 := Lib.hid (N2.out.below hb)
    have N3 := Lib.hid (N3.out.below hb)
    have N4 := Lib.hid (N4.out.below hb)
    have N5 := Lib.hid (N5.out.below hb)
    have BX1 := Lib.hid (BX1.out.below hb BX1.out.lt)
    have BX2 := Lib.hid (BX2.out.below hb BX2.out.lt)
    have BX3 := Lib.hid (BX3.out.below hb BX3.out.lt)
    have BX4 := Lib.hid (BX4.out.below hb BX4.out.lt)
    have BX5 := Lib.hid (BX5.out.below hb BX5.out.lt)
    have KG := Lib.hid (KG.out.trans (hb.mono KG.out.size))
    clear hb
    obtain ⟨xBX10, xBX11, xBX12, xBX13⟩ := BX1.out.all
    obtain ⟨xBX40, xBX41, xBX42, xBX43⟩ := BX4.out.all
    go_wp2_with fail
    have CT := Lib.hid (divA N1.out Bz1.out N4.out.r Bzg.out HZ.out)
    rw [← Hzp.out, ← Hzr.out] at CT
    with_reducible refine CT.out.mono ?_
    rintro e w14 ⟨a6, c6, a7, c7, rfl, h6, h7, hb⟩
    have N6 := Lib.hid h6
    clear h6
    have N7 := Lib.hid h7
    clear h7
    clear CT
    clear xBX10 xBX11 xBX12 xBX13
    clear xBX40 xBX41 xBX42 xBX43
    have N1 := Lib.hid (N1.out.below hb)
    have N2 := Lib.hid (N2.out.below hb)
    have N3 := Lib.hid (N3.out.below hb)
    have N4 := Lib.hid (N4.out.below hb)
    have N5 := Lib.hid (N5.out.below hb)
    have BX1 := Lib.hid (BX1.out.below hb BX1.out.lt)
    have BX2 := Lib.hid (BX2.out.below hb BX2.out.lt)
    have BX3 := Lib.hid (BX3.out.below hb BX3.out.lt)
    have BX4 := Lib.hid (BX4.out.below hb BX4.out.lt)
    have BX5 := Lib.hid (BX5.out.below hb BX5.out.lt)
    have KG := Lib.hid (KG.out.trans (hb.mono KG.out.size))
    clear hb
    go_upto_region 10 with (fail)
    obtain ⟨v15, hV⟩ : ∃ V, V = (w14.alloc (.cells #[.bool (decide (zp < 0)), .slice a6 (lenB zp.natAbs) c6] 24)).alloc (.cells #[.bool (decide (zr < 0)), .slice a7 (lenB zr.natAbs) c7] 24) := ⟨_, rfl⟩
    have hbV : Below w14.heap.size w14 v15 := by rw [hV]; exact (((Below.refl _ _).alloc (Nat.le_refl _) _).alloc (by go_size) _)
    have BX6 := Lib.hid (show Bx v15 (w14.heap.size) 24 (.bool (decide (zp < 0))) (.slice a6 (lenB zp.natAbs) c6) by rw [hV]; exact (Bx.new w14 _ _ _).alloc _)
    have BX7 := Lib.hid (show Bx v15 (w14.heap.size + 1) 24 (.bool (decide (zr < 0))) (.slice a7 (lenB zr.natAbs) c7) by rw [hV]; exact Bx.new2 w14 _ _ _ _)
    rw [show (w14.alloc (.cells #[.bool (decide (zp < 0)), .slice a6 (lenB zp.natAbs) c6] 24)).alloc (.cells #[.bool (decide (zr < 0)), .slice a7 (lenB zr.natAbs) c7] 24) = v15 from hV.symm]
    have N1 := Lib.hid (N1.out.below hbV)
    have N2 := Lib.hid (N2.out.below hbV)
    have N3 := Lib.hid (N3.out.below hbV)
    have N4 := Lib.hid (N4.out.below hbV)
    have N5 := Lib.hid (N5.out.below hbV)
    have N6 := Lib.hid (N6.out.below hbV)
    have N7 := Lib.hid (N7.out.below hbV)
    have BX1 := Lib.hid (BX1.out.below hbV BX1.out.lt)
    have BX2 := Lib.hid (BX2.out.below hbV BX2.out.lt)
    have BX3 := Lib.hid (BX3.out.below hbV BX3.out.lt)
    have BX4 := Lib.hid (BX4.out.below hbV BX4.out.lt)
    have BX5 := Lib.hid (BX5.out.below hbV BX5.out.lt)
    have KG := Lib.hid (KG.out.trans (hbV.mono KG.out.size))
    clear hV hbV
    obtain ⟨xBX20, xBX21, xBX22, xBX23⟩ := BX2.out.all
    obtain ⟨xBX40, xBX41, xBX42, xBX43⟩ := BX4.out.all
    go_wp2_with fail
    have CT := Lib.hid (divA N2.out Bz2.out N4.out.r Bzg.out HZ.out)
    rw [← Hzq.out, ← Hzs.out] at CT
    with_reducible refine CT.out.mono ?_
    rintro e w16 ⟨a8, c8, a9, c9, rfl, h8, h9, hb⟩
    have N8 := Lib.hid h8
    clear h8
    have N9 := Lib.hid h9
    clear h9
    clear CT
    clear xBX20 xBX21 xBX22 xBX23
    clear xBX40 xBX41 xBX42 xBX43
    have N1 := Lib.hid (N1.out.below hb)
    have N2 := Lib.hid (N2.out.below hb)
    have N3 := Lib.hid (N3.out.below hb)
    have N4 := Lib.hid (N4.out.below hb)
    have N5 := Lib.hid (N5.out.below hb)
    have N6 := Lib.hid (N6.out.below hb)
    have N7 := Lib.hid (N7.out.below hb)
    have BX1 := Lib.hid (BX1.out.below hb BX1.out.lt)
    have BX2 := Lib.hid (BX2.out.below hb BX2.out.lt)
    have BX3 := Lib.hid (BX3.out.below hb BX3.out.lt)
    have BX4 := Lib.hid (BX4.out.below hb BX4.out.lt)
    have BX5 := Lib.hid (BX5.out.below hb BX5.out.lt)
    have BX6 := Lib.hid (BX6.out.below hb BX6.out.lt)
    have BX7 := Lib.hid (BX7.out.below hb BX7.out.lt)
    have KG := Lib.hid (KG.out.trans (hb.mono KG.out.size))
    clear hb
    go_upto_region 11 with (fail)
    obtain ⟨v17, hV⟩ : ∃ V, V = (w16.alloc (.cells #[.bool (decide (zq < 0)), .slice a8 (lenB zq.natAbs) c8] 24)).alloc (.cells #[.bool (decide (zs < 0)), .slice a9 (lenB zs.natAbs) c9] 24) := ⟨_, rfl⟩
    have hbV : Below w16.heap.size w16 v17 := by rw [hV]; exact (((Below.refl _ _).alloc (Nat.le_refl _) _).alloc (by go_size) _)
    have BX8 := Lib.hid (show Bx v17 (w16.heap.size) 24 (.bool (decide (zq < 0))) (.slice a8 (lenB zq.natAbs) c8) by rw [hV]; exact (Bx.new w16 _ _ _).alloc _)
    have BX9 := Lib.hid (show Bx v17 (w16.heap.size + 1) 24 (.bool (decide (zs < 0))) (.slice a9 (lenB zs.natAbs) c9) by rw [hV]; exact Bx.new2 w16 _ _ _ _)
    rw [show (w16.alloc (.cells #[.bool (decide (zq < 0)), .slice a8 (lenB zq.natAbs) c8] 24)).alloc (.cells #[.bool (decide (zs < 0)), .slice a9 (lenB zs.natAbs) c9] 24) = v17 from hV.symm]
    have N1 := Lib.hid (N1.out.below hbV)
    have N2 := Lib.hid (N2.out.below hbV)
    have N3 := Lib.hid (N3.out.below hbV)
    have N4 := Lib.hid (N4.out.below hbV)
    have N5 := Lib.hid (N5.out.below hbV)
    have N6 := Lib.hid (N6.out.below hbV)
    have N7 := Lib.hid (N7.out.below hbV)
    have N8 := Lib.hid (N8.out.below hbV)
    have N9 := Lib.hid (N9.out.below hbV)
    have BX1 := Lib.hid (BX1.out.below hbV BX1.out.lt)
    have BX2 := Lib.hid (BX2.out.below hbV BX2.out.lt)
    have BX3 := Lib.hid (BX3.out.below hbV BX3.out.lt)
    have BX4 := Lib.hid (BX4.out.below hbV BX4.out.lt)
    have BX5 := Lib.hid (BX5.out.below hbV BX5.out.lt)
    have BX6 := Lib.hid (BX6.out.below hbV BX6.out.lt)
    have BX7 := Lib.hid (BX7.out.below hbV BX7.out.lt)
    have KG := Lib.hid (KG.out.trans (hbV.mono KG.out.size))
    clear hV hbV
    obtain ⟨xBX70, xBX71, xBX72, xBX73⟩ := BX7.out.all
    go_wp2_with fail
    have CT := Lib.hid (signA N7.out.any Bzr.out)
    rw [show cmpZ zr 0 = 0 from cmpZ_eq (Hzr.out.trans (Int.emod_eq_zero_of_dvd HD1.out))] at CT
    with_reducible refine CT.out.mono ?_
    rintro e w18 ⟨rfl, hb⟩
    clear CT
    clear xBX70 xBX71 xBX72 xBX73
    have N1 := Lib.hid (N1.out.below hb)
    have N2 := Lib.hid (N2.out.below hb)
    have N3 := Lib.hid (N3.out.below hb)
    have N4 := Lib.hid (N4.out.below hb)
    have N5 := Lib.hid (N5.out.below hb)
    have N6 := Lib.hid (N6.out.below hb)
    have N7 := Lib.hid (N7.out.below hb)
    have N8 := Lib.hid (N8.out.below hb)
    have N9 := Lib.hid (N9.out.below hb)
    have BX1 := Lib.hid (BX1.out.below hb BX1.out.lt)
    have BX2 := Lib.hid (BX2.out.below hb BX2.out.lt)
    have BX3 := Lib.hid (BX3.out.below hb BX3.out.lt)
    have BX4 := Lib.hid (BX4.out.below hb BX4.out.lt)
    have BX5 := Lib.hid (BX5.out.below hb BX5.out.lt)
    have BX6 := Lib.hid (BX6.out.below hb BX6.out.lt)
    have BX7 := Lib.hid (BX7.out.below hb BX7.out.lt)
    have BX8 := Lib.hid (BX8.out.below hb BX8.out.lt)
    have BX9 := Lib.hid (BX9.out.below hb BX9.out.lt)
    have KG := Lib.hid (KG.out.trans (hb.mono KG.out.size))
    clear hb
    obtain ⟨xBX90, xBX91, xBX92, xBX93⟩ := BX9.out.all
    go_wp2_with fail
    have CT := Lib.hid (signA N9.out.any Bzs.out)
    rw [show cmpZ zs 0 = 0 from cmpZ_eq (Hzs.out.trans (Int.emod_eq_zero_of_dvd HD2.out))] at CT
    with_reducible refine CT.out.mono ?_
    rintro e w19 ⟨rfl, hb⟩
    clear CT
    clear xBX90 xBX91 xBX92 xBX93
    have N1 := Lib.hid (N1.out.below hb)
    have N2 := Lib.hid (N2.out.below hb)
    have N3 := Lib.hid (N3.out.below hb)
    have N4 := Lib.hid (N4.out.below hb)
    have N5 := Lib.hid (N5.out.below hb)
    have N6 := Lib.hid (N6.out.below hb)
    have N7 := Lib.hid (N7.out.below hb)
    have N8 := Lib.hid (N8.out.below hb)
    have N9 := Lib.hid (N9.out.below hb)
    have BX1 := Lib.hid (BX1.out.below hb BX1.out.lt)
    have BX2 := Lib.hid (BX2.out.below hb BX2.out.lt)
    have BX3 := Lib.hid (BX3.out.below hb BX3.out.lt)
    have BX4 := Lib.hid (BX4.out.below hb BX4.out.lt)
    have BX5 := Lib.hid (BX5.out.below hb BX5.out.lt)
    have BX6 := Lib.hid (BX6.out.below hb BX6.out.lt)
    have BX7 := Lib.hid (BX7.out.below hb BX7.out.lt)
    have BX8 := Lib.hid (BX8.out.below hb BX8.out.lt)
    have BX9 := Lib.hid (BX9.out.below hb BX9.out.lt)
    have KG := Lib.hid (KG.out.trans (hb.mono KG.out.size))
    clear hb
    obtain ⟨xBX60, xBX61, xBX62, xBX63⟩ := BX6.out.all
    obtain ⟨xBX80, xBX81, xBX82, xBX83⟩ := BX8.out.all
    go_wp2_with fail
    have CT := Lib.hid (gcdA N6.out.any Bzp.out N8.out.any Bzq.out)
    rw [HO1.out] at CT
    with_reducible refine CT.out.mono ?_
    rintro e w20 ⟨a10, c10, rfl, h10, hb⟩
    have N10 := Lib.hid h10
    clear h10
    clear CT
    clear xBX60 xBX61 xBX62 xBX63
    clear xBX80 xBX81 xBX82 xBX83
    have N1 := Lib.hid (N1.out.below hb)
    have N2 := Lib.hid (N2.out.below hb)
    have N3 := Lib.hid (N3.out.below hb)
    have N4 := Lib.hid (N4.out.below hb)
    have N5 := Lib.hid (N5.out.below hb)
    have N6 := Lib.hid (N6.out.below hb)
    have N7 := Lib.hid (N7.out.below hb)
    have N8 := Lib.hid (N8.out.below hb)
    have N9 := Lib.hid (N9.out.below hb)
    have BX1 := Lib.hid (BX1.out.below hb BX1.out.lt)
    have BX2 := Lib.hid (BX2.out.below hb BX2.out.lt)
    have BX3 := Lib.hid (BX3.out.below hb BX3.out.lt)
    have BX4 := Lib.hid (BX4.out.below hb BX4.out.lt)
    have BX5 := Lib.hid (BX5.out.below hb BX5.out.lt)
    have BX6 := Lib.hid (BX6.out.below hb BX6.out.lt)
    have BX7 := Lib.hid (BX7.out.below hb BX7.out.lt)
    have BX8 := Lib.hid (BX8.out.below hb BX8.out.lt)
    have BX9 := Lib.hid (BX9.out.below hb BX9.out.lt)
    have KG := Lib.hid (KG.out.trans (hb.mono KG.out.size))
    clear hb
    go_wp2_with fail
    have CT := Lib.hid (whole1 N10.out.r Hzo.out)
    with_reducible refine CT.out.mono ?_
    rintro e w21 ⟨rfl, hb⟩
    clear CT
    have N1 := Lib.hid (N1.out.below hb)
    have N2 := Lib.hid (N2.out.below hb)
    have N3 := Lib.hid (N3.out.below hb)
    have N4 := Lib.hid (N4.out.below hb)
    have N5 := Lib.hid (N5.out.below hb)
    have N6 := Lib.hid (N6.out.below hb)
    have N7 := Lib.hid (N7.out.below hb)
    have N8 := Lib.hid (N8.out.below hb)
    have N9 := Lib.hid (N9.out.below hb)
    have N10 := Lib.hid (N10.out.below hb)
    have BX1 := Lib.hid (BX1.out.below hb BX1.out.lt)
    have BX2 := Lib.hid (BX2.out.below hb BX2.out.lt)
    have BX3 := Lib.hid (BX3.out.below hb BX3.out.lt)
    have BX4 := Lib.hid (BX4.out.below hb BX4.out.lt)
    have BX5 := Lib.hid (BX5.out.below hb BX5.out.lt)
    have BX6 := Lib.hid (BX6.out.below hb BX6.out.lt)
    have BX7 := Lib.hid (BX7.out.below hb BX7.out.lt)
    have BX8 := Lib.hid (BX8.out.below hb BX8.out.lt)
    have BX9 := Lib.hid (BX9.out.below hb BX9.out.lt)
    have KG := Lib.hid (KG.out.trans (hb.mono KG.out.size))
    clear hb
    go_wp2_with fail
    go_ret
    exact ⟨rfl, KG.out⟩

set_option maxRecDepth 100000 in
set_option maxHeartbeats 8000000 in
theorem limbsGreatest_law (s1 : Bool) (a1 : Option Addr) (n1 c1 : Nat) (o1 : Nat → Int) (s2 : Bool) (a2 : Option Addr) (n2 c2 : Nat) (o2 : Nat → Int) (s3 : Bool) (a3 : Option Addr) (n3 c3 : Nat) (o3 : Nat → Int) (w : World) (htab : Tab w)
    (h1 : Rd w a1 n1 o1) (hc1 : n1 ≤ c1) (h2 : Rd w a2 n2 o2) (hc2 : n2 ≤ c2) (h3 : Rd w a3 n3 o3) (hc3 : n3 ≤ c3) :
    Calls Tryz.prog 7 #[numV s1 a1 n1 c1, numV s2 a2 n2 c2, numV s3 a3 n3 c3] w fun e w' => e = .returned (.bool true) ∧ Below w.heap.size w w' := by
  by_cases g0 : 25 < n1 ∨ 25 < n2
  · skip
    have HT := Lib.hid htab
    have KG := Lib.hid (Below.refl w.heap.size w)
    have R1 := Lib.hid h1
    have R2 := Lib.hid h2
    have R3 := Lib.hid h3
    clear htab h1 hc1 h2 hc2 h3 hc3
    go_enter Tryz.func7, Tryz.ntmps7
    go_upto_region 1 with (fail)
    obtain ⟨v1, hV⟩ : ∃ V, V = ((w.alloc (.cells #[.bool s1, .slice a1 n1 c1] 24)).alloc (.cells #[.bool s2, .slice a2 n2 c2] 24)).alloc (.cells #[.bool s3, .slice a3 n3 c3] 24) := ⟨_, rfl⟩
    have hbV : Below w.heap.size w v1 := by rw [hV]; exact ((((Below.refl _ _).alloc (Nat.le_refl _) _).alloc (by go_size) _).alloc (by go_size) _)
    have BX1 := Lib.hid (show Bx v1 (w.heap.size) 24 (.bool s1) (.slice a1 n1 c1) by rw [hV]; exact ((Bx.new w _ _ _).alloc _).alloc _)
    have BX2 := Lib.hid (show Bx v1 (w.heap.size + 1) 24 (.bool s2) (.slice a2 n2 c2) by rw [hV]; exact (Bx.new2 w _ _ _ _).alloc _)
    have BX3 := Lib.hid (show Bx v1 (w.heap.size + 1 + 1) 24 (.bool s3) (.slice a3 n3 c3) by rw [hV]; exact Bx.new3 w _ _ _ _ _)
    rw [show ((w.alloc (.cells #[.bool s1, .slice a1 n1 c1] 24)).alloc (.cells #[.bool s2, .slice a2 n2 c2] 24)).alloc (.cells #[.bool s3, .slice a3 n3 c3] 24) = v1 from hV.symm]
    have R1 := Lib.hid (R1.out.below hbV)
    have R2 := Lib.hid (R2.out.below hbV)
    have R3 := Lib.hid (R3.out.below hbV)
    have KG := Lib.hid (KG.out.trans (hbV.mono KG.out.size))
    clear hV hbV
    go_wp2_with fail
    have CT := Lib.hid (alive_true v1 (HT.out.on KG.out))
    with_reducible refine CT.out.mono ?_
    rintro e w2 ⟨rfl, hb⟩
    clear CT
    have R1 := Lib.hid (R1.out.below hb)
    have R2 := Lib.hid (R2.out.below hb)
    have R3 := Lib.hid (R3.out.below hb)
    have BX1 := Lib.hid (BX1.out.below hb BX1.out.lt)
    have BX2 := Lib.hid (BX2.out.below hb BX2.out.lt)
    have BX3 := Lib.hid (BX3.out.below hb BX3.out.lt)
    have KG := Lib.hid (KG.out.trans (hb.mono KG.out.size))
    clear hb
    obtain ⟨xBX10, xBX11, xBX12, xBX13⟩ := BX1.out.all
    obtain ⟨xBX20, xBX21, xBX22, xBX23⟩ := BX2.out.all
    go_wp2_with fail
    have GR := Lib.hid (great_2 25 s1 s2 a1 a2 n1 c1 n2 c2 w2)
    rw [decide_eq_true g0] at GR
    refine GR.out.mono ?_
    rintro e wg ⟨rfl, rfl⟩
    clear xBX10 xBX11 xBX12 xBX13
    clear xBX20 xBX21 xBX22 xBX23
    clear GR
    obtain ⟨v3, hV⟩ : ∃ V, V = w2.alloc (.cells #[.bool s1, .slice a1 n1 c1, .bool s2, .slice a2 n2 c2] 24) := ⟨_, rfl⟩
    have hbV : Below w2.heap.size w2 v3 := by rw [hV]; exact ((Below.refl _ _).alloc (Nat.le_refl _) _)
    rw [show w2.alloc (.cells #[.bool s1, .slice a1 n1 c1, .bool s2, .slice a2 n2 c2] 24) = v3 from hV.symm]
    have R1 := Lib.hid (R1.out.below hbV)
    have R2 := Lib.hid (R2.out.below hbV)
    have R3 := Lib.hid (R3.out.below hbV)
    have BX1 := Lib.hid (BX1.out.below hbV BX1.out.lt)
    have BX2 := Lib.hid (BX2.out.below hbV BX2.out.lt)
    have BX3 := Lib.hid (BX3.out.below hbV BX3.out.lt)
    have KG := Lib.hid (KG.out.trans (hbV.mono KG.out.size))
    clear hV hbV
    go_wp2_with fail
    have CT := Lib.hid (alive_true v3 (HT.out.on KG.out))
    with_reducible refine CT.out.mono ?_
    rintro e w4 ⟨rfl, hb⟩
    clear CT
    have R1 := Lib.hid (R1.out.below hb)
    have R2 := Lib.hid (R2.out.below hb)
    have R3 := Lib.hid (R3.out.below hb)
    have BX1 := Lib.hid (BX1.out.below hb BX1.out.lt)
    have BX2 := Lib.hid (BX2.out.below hb BX2.out.lt)
    have BX3 := Lib.hid (BX3.out.below hb BX3.out.lt)
    have KG := Lib.hid (KG.out.trans (hb.mono KG.out.size))
    clear hb
    go_wp2_with fail
    go_ret
    exact ⟨rfl, KG.out⟩
  by_cases g1 : 6 < n3
  · skip
    have HT := Lib.hid htab
    have KG := Lib.hid (Below.refl w.heap.size w)
    have R1 := Lib.hid h1
    have R2 := Lib.hid h2
    have R3 := Lib.hid h3
    have HG0 := Lib.hid g0
    clear g0
    clear htab h1 hc1 h2 hc2 h3 hc3
    go_enter Tryz.func7, Tryz.ntmps7
    go_upto_region 1 with (fail)
    obtain ⟨v1, hV⟩ : ∃ V, V = ((w.alloc (.cells #[.bool s1, .slice a1 n1 c1] 24)).alloc (.cells #[.bool s2, .slice a2 n2 c2] 24)).alloc (.cells #[.bool s3, .slice a3 n3 c3] 24) := ⟨_, rfl⟩
    have hbV : Below w.heap.size w v1 := by rw [hV]; exact ((((Below.refl _ _).alloc (Nat.le_refl _) _).alloc (by go_size) _).alloc (by go_size) _)
    have BX1 := Lib.hid (show Bx v1 (w.heap.size) 24 (.bool s1) (.slice a1 n1 c1) by rw [hV]; exact ((Bx.new w _ _ _).alloc _).alloc _)
    have BX2 := Lib.hid (show Bx v1 (w.heap.size + 1) 24 (.bool s2) (.slice a2 n2 c2) by rw [hV]; exact (Bx.new2 w _ _ _ _).alloc _)
    have BX3 := Lib.hid (show Bx v1 (w.heap.size + 1 + 1) 24 (.bool s3) (.slice a3 n3 c3) by rw [hV]; exact Bx.new3 w _ _ _ _ _)
    rw [show ((w.alloc (.cells #[.bool s1, .slice a1 n1 c1] 24)).alloc (.cells #[.bool s2, .slice a2 n2 c2] 24)).alloc (.cells #[.bool s3, .slice a3 n3 c3] 24) = v1 from hV.symm]
    have R1 := Lib.hid (R1.out.below hbV)
    have R2 := Lib.hid (R2.out.below hbV)
    have R3 := Lib.hid (R3.out.below hbV)
    have KG := Lib.hid (KG.out.trans (hbV.mono KG.out.size))
    clear hV hbV
    go_wp2_with fail
    have CT := Lib.hid (alive_true v1 (HT.out.on KG.out))
    with_reducible refine CT.out.mono ?_
    rintro e w2 ⟨rfl, hb⟩
    clear CT
    have R1 := Lib.hid (R1.out.below hb)
    have R2 := Lib.hid (R2.out.below hb)
    have R3 := Lib.hid (R3.out.below hb)
    have BX1 := Lib.hid (BX1.out.below hb BX1.out.lt)
    have BX2 := Lib.hid (BX2.out.below hb BX2.out.lt)
    have BX3 := Lib.hid (BX3.out.below hb BX3.out.lt)
    have KG := Lib.hid (KG.out.trans (hb.mono KG.out.size))
    clear hb
    obtain ⟨xBX10, xBX11, xBX12, xBX13⟩ := BX1.out.all
    obtain ⟨xBX20, xBX21, xBX22, xBX23⟩ := BX2.out.all
    go_wp2_with fail
    have GR := Lib.hid (great_2 25 s1 s2 a1 a2 n1 c1 n2 c2 w2)
    rw [decide_eq_false HG0.out] at GR
    refine GR.out.mono ?_
    rintro e wg ⟨rfl, rfl⟩
    clear xBX10 xBX11 xBX12 xBX13
    clear xBX20 xBX21 xBX22 xBX23
    clear GR
    obtain ⟨v3, hV⟩ : ∃ V, V = w2.alloc (.cells #[.bool s1, .slice a1 n1 c1, .bool s2, .slice a2 n2 c2] 24) := ⟨_, rfl⟩
    have hbV : Below w2.heap.size w2 v3 := by rw [hV]; exact ((Below.refl _ _).alloc (Nat.le_refl _) _)
    rw [show w2.alloc (.cells #[.bool s1, .slice a1 n1 c1, .bool s2, .slice a2 n2 c2] 24) = v3 from hV.symm]
    have R1 := Lib.hid (R1.out.below hbV)
    have R2 := Lib.hid (R2.out.below hbV)
    have R3 := Lib.hid (R3.out.below hbV)
    have BX1 := Lib.hid (BX1.out.below hbV BX1.out.lt)
    have BX2 := Lib.hid (BX2.out.below hbV BX2.out.lt)
    have BX3 := Lib.hid (BX3.out.below hbV BX3.out.lt)
    have KG := Lib.hid (KG.out.trans (hbV.mono KG.out.size))
    clear hV hbV
    obtain ⟨xBX30, xBX31, xBX32, xBX33⟩ := BX3.out.all
    go_wp2_with fail
    have GR := Lib.hid (great_1 6 s3 a3 n3 c3 v3)
    rw [decide_eq_true g1] at GR
    refine GR.out.mono ?_
    rintro e wg ⟨rfl, rfl⟩
    clear xBX30 xBX31 xBX32 xBX33
    clear GR
    obtain ⟨v4, hV⟩ : ∃ V, V = v3.alloc (.cells #[.bool s3, .slice a3 n3 c3] 24) := ⟨_, rfl⟩
    have hbV : Below v3.heap.size v3 v4 := by rw [hV]; exact ((Below.refl _ _).alloc (Nat.le_refl _) _)
    rw [show v3.alloc (.cells #[.bool s3, .slice a3 n3 c3] 24) = v4 from hV.symm]
    have R1 := Lib.hid (R1.out.below hbV)
    have R2 := Lib.hid (R2.out.below hbV)
    have R3 := Lib.hid (R3.out.below hbV)
    have BX1 := Lib.hid (BX1.out.below hbV BX1.out.lt)
    have BX2 := Lib.hid (BX2.out.below hbV BX2.out.lt)
    have BX3 := Lib.hid (BX3.out.below hbV BX3.out.lt)
    have KG := Lib.hid (KG.out.trans (hbV.mono KG.out.size))
    clear hV hbV
    go_wp2_with fail
    have CT := Lib.hid (alive_true v4 (HT.out.on KG.out))
    with_reducible refine CT.out.mono ?_
    rintro e w5 ⟨rfl, hb⟩
    clear CT
    have R1 := Lib.hid (R1.out.below hb)
    have R2 := Lib.hid (R2.out.below hb)
    have R3 := Lib.hid (R3.out.below hb)
    have BX1 := Lib.hid (BX1.out.below hb BX1.out.lt)
    have BX2 := Lib.hid (BX2.out.below hb BX2.out.lt)
    have BX3 := Lib.hid (BX3.out.below hb BX3.out.lt)
    have KG := Lib.hid (KG.out.trans (hb.mono KG.out.size))
    clear hb
    go_wp2_with fail
    go_ret
    exact ⟨rfl, KG.out⟩
  by_cases g2 : ¬ okN s1 n1 o1
  · skip
    have HT := Lib.hid htab
    have KG := Lib.hid (Below.refl w.heap.size w)
    have R1 := Lib.hid h1
    have R2 := Lib.hid h2
    have R3 := Lib.hid h3
    have HG0 := Lib.hid g0
    clear g0
    have HG1 := Lib.hid g1
    clear g1
    have HG2 := Lib.hid g2
    clear g2
    clear htab h1 hc1 h2 hc2 h3 hc3
    go_enter Tryz.func7, Tryz.ntmps7
    go_upto_region 1 with (fail)
    obtain ⟨v1, hV⟩ : ∃ V, V = ((w.alloc (.cells #[.bool s1, .slice a1 n1 c1] 24)).alloc (.cells #[.bool s2, .slice a2 n2 c2] 24)).alloc (.cells #[.bool s3, .slice a3 n3 c3] 24) := ⟨_, rfl⟩
    have hbV : Below w.heap.size w v1 := by rw [hV]; exact ((((Below.refl _ _).alloc (Nat.le_refl _) _).alloc (by go_size) _).alloc (by go_size) _)
    have BX1 := Lib.hid (show Bx v1 (w.heap.size) 24 (.bool s1) (.slice a1 n1 c1) by rw [hV]; exact ((Bx.new w _ _ _).alloc _).alloc _)
    have BX2 := Lib.hid (show Bx v1 (w.heap.size + 1) 24 (.bool s2) (.slice a2 n2 c2) by rw [hV]; exact (Bx.new2 w _ _ _ _).alloc _)
    have BX3 := Lib.hid (show Bx v1 (w.heap.size + 1 + 1) 24 (.bool s3) (.slice a3 n3 c3) by rw [hV]; exact Bx.new3 w _ _ _ _ _)
    rw [show ((w.alloc (.cells #[.bool s1, .slice a1 n1 c1] 24)).alloc (.cells #[.bool s2, .slice a2 n2 c2] 24)).alloc (.cells #[.bool s3, .slice a3 n3 c3] 24) = v1 from hV.symm]
    have R1 := Lib.hid (R1.out.below hbV)
    have R2 := Lib.hid (R2.out.below hbV)
    have R3 := Lib.hid (R3.out.below hbV)
    have KG := Lib.hid (KG.out.trans (hbV.mono KG.out.size))
    clear hV hbV
    go_wp2_with fail
    have CT := Lib.hid (alive_true v1 (HT.out.on KG.out))
    with_reducible refine CT.out.mono ?_
    rintro e w2 ⟨rfl, hb⟩
    clear CT
    have R1 := Lib.hid (R1.out.below hb)
    have R2 := Lib.hid (R2.out.below hb)
    have R3 := Lib.hid (R3.out.below hb)
    have BX1 := Lib.hid (BX1.out.below hb BX1.out.lt)
    have BX2 := Lib.hid (BX2.out.below hb BX2.out.lt)
    have BX3 := Lib.hid (BX3.out.below hb BX3.out.lt)
    have KG := Lib.hid (KG.out.trans (hb.mono KG.out.size))
    clear hb
    obtain ⟨xBX10, xBX11, xBX12, xBX13⟩ := BX1.out.all
    obtain ⟨xBX20, xBX21, xBX22, xBX23⟩ := BX2.out.all
    go_wp2_with fail
    have GR := Lib.hid (great_2 25 s1 s2 a1 a2 n1 c1 n2 c2 w2)
    rw [decide_eq_false HG0.out] at GR
    refine GR.out.mono ?_
    rintro e wg ⟨rfl, rfl⟩
    clear xBX10 xBX11 xBX12 xBX13
    clear xBX20 xBX21 xBX22 xBX23
    clear GR
    obtain ⟨v3, hV⟩ : ∃ V, V = w2.alloc (.cells #[.bool s1, .slice a1 n1 c1, .bool s2, .slice a2 n2 c2] 24) := ⟨_, rfl⟩
    have hbV : Below w2.heap.size w2 v3 := by rw [hV]; exact ((Below.refl _ _).alloc (Nat.le_refl _) _)
    rw [show w2.alloc (.cells #[.bool s1, .slice a1 n1 c1, .bool s2, .slice a2 n2 c2] 24) = v3 from hV.symm]
    have R1 := Lib.hid (R1.out.below hbV)
    have R2 := Lib.hid (R2.out.below hbV)
    have R3 := Lib.hid (R3.out.below hbV)
    have BX1 := Lib.hid (BX1.out.below hbV BX1.out.lt)
    have BX2 := Lib.hid (BX2.out.below hbV BX2.out.lt)
    have BX3 := Lib.hid (BX3.out.below hbV BX3.out.lt)
    have KG := Lib.hid (KG.out.trans (hbV.mono KG.out.size))
    clear hV hbV
    obtain ⟨xBX30, xBX31, xBX32, xBX33⟩ := BX3.out.all
    go_wp2_with fail
    have GR := Lib.hid (great_1 6 s3 a3 n3 c3 v3)
    rw [decide_eq_false HG1.out] at GR
    refine GR.out.mono ?_
    rintro e wg ⟨rfl, rfl⟩
    clear xBX30 xBX31 xBX32 xBX33
    clear GR
    obtain ⟨v4, hV⟩ : ∃ V, V = v3.alloc (.cells #[.bool s3, .slice a3 n3 c3] 24) := ⟨_, rfl⟩
    have hbV : Below v3.heap.size v3 v4 := by rw [hV]; exact ((Below.refl _ _).alloc (Nat.le_refl _) _)
    rw [show v3.alloc (.cells #[.bool s3, .slice a3 n3 c3] 24) = v4 from hV.symm]
    have R1 := Lib.hid (R1.out.below hbV)
    have R2 := Lib.hid (R2.out.below hbV)
    have R3 := Lib.hid (R3.out.below hbV)
    have BX1 := Lib.hid (BX1.out.below hbV BX1.out.lt)
    have BX2 := Lib.hid (BX2.out.below hbV BX2.out.lt)
    have BX3 := Lib.hid (BX3.out.below hbV BX3.out.lt)
    have KG := Lib.hid (KG.out.trans (hbV.mono KG.out.size))
    clear hV hbV
    obtain ⟨xBX10, xBX11, xBX12, xBX13⟩ := BX1.out.all
    go_wp2_with fail
    have CT := Lib.hid (badC s1 a1 n1 c1 o1 v4 R1.out (by have := HG0.out; omega) HG2.out)
    with_reducible refine CT.out.mono ?_
    rintro e w5 ⟨rfl, hb⟩
    clear CT
    clear xBX10 xBX11 xBX12 xBX13
    have R1 := Lib.hid (R1.out.below hb)
    have R2 := Lib.hid (R2.out.below hb)
    have R3 := Lib.hid (R3.out.below hb)
    have BX1 := Lib.hid (BX1.out.below hb BX1.out.lt)
    have BX2 := Lib.hid (BX2.out.below hb BX2.out.lt)
    have BX3 := Lib.hid (BX3.out.below hb BX3.out.lt)
    have KG := Lib.hid (KG.out.trans (hb.mono KG.out.size))
    clear hb
    go_wp2_with fail
    have CT := Lib.hid (alive_true w5 (HT.out.on KG.out))
    with_reducible refine CT.out.mono ?_
    rintro e w6 ⟨rfl, hb⟩
    clear CT
    have R1 := Lib.hid (R1.out.below hb)
    have R2 := Lib.hid (R2.out.below hb)
    have R3 := Lib.hid (R3.out.below hb)
    have BX1 := Lib.hid (BX1.out.below hb BX1.out.lt)
    have BX2 := Lib.hid (BX2.out.below hb BX2.out.lt)
    have BX3 := Lib.hid (BX3.out.below hb BX3.out.lt)
    have KG := Lib.hid (KG.out.trans (hb.mono KG.out.size))
    clear hb
    go_wp2_with fail
    go_ret
    exact ⟨rfl, KG.out⟩
  have g2 := Classical.not_not.1 g2
  by_cases g3 : ¬ okN s2 n2 o2
  · skip
    have HT := Lib.hid htab
    have KG := Lib.hid (Below.refl w.heap.size w)
    have R1 := Lib.hid h1
    have R2 := Lib.hid h2
    have R3 := Lib.hid h3
    have HG0 := Lib.hid g0
    clear g0
    have HG1 := Lib.hid g1
    clear g1
    have HG2 := Lib.hid g2
    clear g2
    have HG3 := Lib.hid g3
    clear g3
    clear htab h1 hc1 h2 hc2 h3 hc3
    go_enter Tryz.func7, Tryz.ntmps7
    go_upto_region 1 with (fail)
    obtain ⟨v1, hV⟩ : ∃ V, V = ((w.alloc (.cells #[.bool s1, .slice a1 n1 c1] 24)).alloc (.cells #[.bool s2, .slice a2 n2 c2] 24)).alloc (.cells #[.bool s3, .slice a3 n3 c3] 24) := ⟨_, rfl⟩
    have hbV : Below w.heap.size w v1 := by rw [hV]; exact ((((Below.refl _ _).alloc (Nat.le_refl _) _).alloc (by go_size) _).alloc (by go_size) _)
    have BX1 := Lib.hid (show Bx v1 (w.heap.size) 24 (.bool s1) (.slice a1 n1 c1) by rw [hV]; exact ((Bx.new w _ _ _).alloc _).alloc _)
    have BX2 := Lib.hid (show Bx v1 (w.heap.size + 1) 24 (.bool s2) (.slice a2 n2 c2) by rw [hV]; exact (Bx.new2 w _ _ _ _).alloc _)
    have BX3 := Lib.hid (show Bx v1 (w.heap.size + 1 + 1) 24 (.bool s3) (.slice a3 n3 c3) by rw [hV]; exact Bx.new3 w _ _ _ _ _)
    rw [show ((w.alloc (.cells #[.bool s1, .slice a1 n1 c1] 24)).alloc (.cells #[.bool s2, .slice a2 n2 c2] 24)).alloc (.cells #[.bool s3, .slice a3 n3 c3] 24) = v1 from hV.symm]
    have R1 := Lib.hid (R1.out.below hbV)
    have R2 := Lib.hid (R2.out.below hbV)
    have R3 := Lib.hid (R3.out.below hbV)
    have KG := Lib.hid (KG.out.trans (hbV.mono KG.out.size))
    clear hV hbV
    go_wp2_with fail
    have CT := Lib.hid (alive_true v1 (HT.out.on KG.out))
    with_reducible refine CT.out.mono ?_
    rintro e w2 ⟨rfl, hb⟩
    clear CT
    have R1 := Lib.hid (R1.out.below hb)
    have R2 := Lib.hid (R2.out.below hb)
    have R3 := Lib.hid (R3.out.below hb)
    have BX1 := Lib.hid (BX1.out.below hb BX1.out.lt)
    have BX2 := Lib.hid (BX2.out.below hb BX2.out.lt)
    have BX3 := Lib.hid (BX3.out.below hb BX3.out.lt)
    have KG := Lib.hid (KG.out.trans (hb.mono KG.out.size))
    clear hb
    obtain ⟨xBX10, xBX11, xBX12, xBX13⟩ := BX1.out.all
    obtain ⟨xBX20, xBX21, xBX22, xBX23⟩ := BX2.out.all
    go_wp2_with fail
    have GR := Lib.hid (great_2 25 s1 s2 a1 a2 n1 c1 n2 c2 w2)
    rw [decide_eq_false HG0.out] at GR
    refine GR.out.mono ?_
    rintro e wg ⟨rfl, rfl⟩
    clear xBX10 xBX11 xBX12 xBX13
    clear xBX20 xBX21 xBX22 xBX23
    clear GR
    obtain ⟨v3, hV⟩ : ∃ V, V = w2.alloc (.cells #[.bool s1, .slice a1 n1 c1, .bool s2, .slice a2 n2 c2] 24) := ⟨_, rfl⟩
    have hbV : Below w2.heap.size w2 v3 := by rw [hV]; exact ((Below.refl _ _).alloc (Nat.le_refl _) _)
    rw [show w2.alloc (.cells #[.bool s1, .slice a1 n1 c1, .bool s2, .slice a2 n2 c2] 24) = v3 from hV.symm]
    have R1 := Lib.hid (R1.out.below hbV)
    have R2 := Lib.hid (R2.out.below hbV)
    have R3 := Lib.hid (R3.out.below hbV)
    have BX1 := Lib.hid (BX1.out.below hbV BX1.out.lt)
    have BX2 := Lib.hid (BX2.out.below hbV BX2.out.lt)
    have BX3 := Lib.hid (BX3.out.below hbV BX3.out.lt)
    have KG := Lib.hid (KG.out.trans (hbV.mono KG.out.size))
    clear hV hbV
    obtain ⟨xBX30, xBX31, xBX32, xBX33⟩ := BX3.out.all
    go_wp2_with fail
    have GR := Lib.hid (great_1 6 s3 a3 n3 c3 v3)
    rw [decide_eq_false HG1.out] at GR
    refine GR.out.mono ?_
    rintro e wg ⟨rfl, rfl⟩
    clear xBX30 xBX31 xBX32 xBX33
    clear GR
    obtain ⟨v4, hV⟩ : ∃ V, V = v3.alloc (.cells #[.bool s3, .slice a3 n3 c3] 24) := ⟨_, rfl⟩
    have hbV : Below v3.heap.size v3 v4 := by rw [hV]; exact ((Below.refl _ _).alloc (Nat.le_refl _) _)
    rw [show v3.alloc (.cells #[.bool s3, .slice a3 n3 c3] 24) = v4 from hV.symm]
    have R1 := Lib.hid (R1.out.below hbV)
    have R2 := Lib.hid (R2.out.below hbV)
    have R3 := Lib.hid (R3.out.below hbV)
    have BX1 := Lib.hid (BX1.out.below hbV BX1.out.lt)
    have BX2 := Lib.hid (BX2.out.below hbV BX2.out.lt)
    have BX3 := Lib.hid (BX3.out.below hbV BX3.out.lt)
    have KG := Lib.hid (KG.out.trans (hbV.mono KG.out.size))
    clear hV hbV
    obtain ⟨xBX10, xBX11, xBX12, xBX13⟩ := BX1.out.all
    go_wp2_with fail
    have CT := Lib.hid (goodC s1 a1 n1 c1 o1 v4 R1.out (by have := HG0.out; omega) HG2.out)
    with_reducible refine CT.out.mono ?_
    rintro e w5 ⟨rfl, hb⟩
    clear CT
    clear xBX10 xBX11 xBX12 xBX13
    have R1 := Lib.hid (R1.out.below hb)
    have R2 := Lib.hid (R2.out.below hb)
    have R3 := Lib.hid (R3.out.below hb)
    have BX1 := Lib.hid (BX1.out.below hb BX1.out.lt)
    have BX2 := Lib.hid (BX2.out.below hb BX2.out.lt)
    have BX3 := Lib.hid (BX3.out.below hb BX3.out.lt)
    have KG := Lib.hid (KG.out.trans (hb.mono KG.out.size))
    clear hb
    obtain ⟨xBX20, xBX21, xBX22, xBX23⟩ := BX2.out.all
    go_wp2_with fail
    have CT := Lib.hid (badC s2 a2 n2 c2 o2 w5 R2.out (by have := HG0.out; omega) HG3.out)
    with_reducible refine CT.out.mono ?_
    rintro e w6 ⟨rfl, hb⟩
    clear CT
    clear xBX20 xBX21 xBX22 xBX23
    have R1 := Lib.hid (R1.out.below hb)
    have R2 := Lib.hid (R2.out.below hb)
    have R3 := Lib.hid (R3.out.below hb)
    have BX1 := Lib.hid (BX1.out.below hb BX1.out.lt)
    have BX2 := Lib.hid (BX2.out.below hb BX2.out.lt)
    have BX3 := Lib.hid (BX3.out.below hb BX3.out.lt)
    have KG := Lib.hid (KG.out.trans (hb.mono KG.out.size))
    clear hb
    go_wp2_with fail
    have CT := Lib.hid (alive_true w6 (HT.out.on KG.out))
    with_reducible refine CT.out.mono ?_
    rintro e w7 ⟨rfl, hb⟩
    clear CT
    have R1 := Lib.hid (R1.out.below hb)
    have R2 := Lib.hid (R2.out.below hb)
    have R3 := Lib.hid (R3.out.below hb)
    have BX1 := Lib.hid (BX1.out.below hb BX1.out.lt)
    have BX2 := Lib.hid (BX2.out.below hb BX2.out.lt)
    have BX3 := Lib.hid (BX3.out.below hb BX3.out.lt)
    have KG := Lib.hid (KG.out.trans (hb.mono KG.out.size))
    clear hb
    go_wp2_with fail
    go_ret
    exact ⟨rfl, KG.out⟩
  have g3 := Classical.not_not.1 g3
  by_cases g4 : ¬ okN s3 n3 o3
  · skip
    have HT := Lib.hid htab
    have KG := Lib.hid (Below.refl w.heap.size w)
    have R1 := Lib.hid h1
    have R2 := Lib.hid h2
    have R3 := Lib.hid h3
    have HG0 := Lib.hid g0
    clear g0
    have HG1 := Lib.hid g1
    clear g1
    have HG2 := Lib.hid g2
    clear g2
    have HG3 := Lib.hid g3
    clear g3
    have HG4 := Lib.hid g4
    clear g4
    clear htab h1 hc1 h2 hc2 h3 hc3
    go_enter Tryz.func7, Tryz.ntmps7
    go_upto_region 1 with (fail)
    obtain ⟨v1, hV⟩ : ∃ V, V = ((w.alloc (.cells #[.bool s1, .slice a1 n1 c1] 24)).alloc (.cells #[.bool s2, .slice a2 n2 c2] 24)).alloc (.cells #[.bool s3, .slice a3 n3 c3] 24) := ⟨_, rfl⟩
    have hbV : Below w.heap.size w v1 := by rw [hV]; exact ((((Below.refl _ _).alloc (Nat.le_refl _) _).alloc (by go_size) _).alloc (by go_size) _)
    have BX1 := Lib.hid (show Bx v1 (w.heap.size) 24 (.bool s1) (.slice a1 n1 c1) by rw [hV]; exact ((Bx.new w _ _ _).alloc _).alloc _)
    have BX2 := Lib.hid (show Bx v1 (w.heap.size + 1) 24 (.bool s2) (.slice a2 n2 c2) by rw [hV]; exact (Bx.new2 w _ _ _ _).alloc _)
    have BX3 := Lib.hid (show Bx v1 (w.heap.size + 1 + 1) 24 (.bool s3) (.slice a3 n3 c3) by rw [hV]; exact Bx.new3 w _ _ _ _ _)
    rw [show ((w.alloc (.cells #[.bool s1, .slice a1 n1 c1] 24)).alloc (.cells #[.bool s2, .slice a2 n2 c2] 24)).alloc (.cells #[.bool s3, .slice a3 n3 c3] 24) = v1 from hV.symm]
    have R1 := Lib.hid (R1.out.below hbV)
    have R2 := Lib.hid (R2.out.below hbV)
    have R3 := Lib.hid (R3.out.below hbV)
    have KG := Lib.hid (KG.out.trans (hbV.mono KG.out.size))
    clear hV hbV
    go_wp2_with fail
    have CT := Lib.hid (alive_true v1 (HT.out.on KG.out))
    with_reducible refine CT.out.mono ?_
    rintro e w2 ⟨rfl, hb⟩
    clear CT
    have R1 := Lib.hid (R1.out.below hb)
    have R2 := Lib.hid (R2.out.below hb)
    have R3 := Lib.hid (R3.out.below hb)
    have BX1 := Lib.hid (BX1.out.below hb BX1.out.lt)
    have BX2 := Lib.hid (BX2.out.below hb BX2.out.lt)
    have BX3 := Lib.hid (BX3.out.below hb BX3.out.lt)
    have KG := Lib.hid (KG.out.trans (hb.mono KG.out.size))
    clear hb
    obtain ⟨xBX10, xBX11, xBX12, xBX13⟩ := BX1.out.all
    obtain ⟨xBX20, xBX21, xBX22, xBX23⟩ := BX2.out.all
    go_wp2_with fail
    have GR := Lib.hid (great_2 25 s1 s2 a1 a2 n1 c1 n2 c2 w2)
    rw [decide_eq_false HG0.out] at GR
    refine GR.out.mono ?_
    rintro e wg ⟨rfl, rfl⟩
    clear xBX10 xBX11 xBX12 xBX13
    clear xBX20 xBX21 xBX22 xBX23
    clear GR
    obtain ⟨v3, hV⟩ : ∃ V, V = w2.alloc (.cells #[.bool s1, .slice a1 n1 c1, .bool s2, .slice a2 n2 c2] 24) := ⟨_, rfl⟩
    have hbV : Below w2.heap.size w2 v3 := by rw [hV]; exact ((Below.refl _ _).alloc (Nat.le_refl _) _)
    rw [show w2.alloc (.cells #[.bool s1, .slice a1 n1 c1, .bool s2, .slice a2 n2 c2] 24) = v3 from hV.symm]
    have R1 := Lib.hid (R1.out.below hbV)
    have R2 := Lib.hid (R2.out.below hbV)
    have R3 := Lib.hid (R3.out.below hbV)
    have BX1 := Lib.hid (BX1.out.below hbV BX1.out.lt)
    have BX2 := Lib.hid (BX2.out.below hbV BX2.out.lt)
    have BX3 := Lib.hid (BX3.out.below hbV BX3.out.lt)
    have KG := Lib.hid (KG.out.trans (hbV.mono KG.out.size))
    clear hV hbV
    obtain ⟨xBX30, xBX31, xBX32, xBX33⟩ := BX3.out.all
    go_wp2_with fail
    have GR := Lib.hid (great_1 6 s3 a3 n3 c3 v3)
    rw [decide_eq_false HG1.out] at GR
    refine GR.out.mono ?_
    rintro e wg ⟨rfl, rfl⟩
    clear xBX30 xBX31 xBX32 xBX33
    clear GR
    obtain ⟨v4, hV⟩ : ∃ V, V = v3.alloc (.cells #[.bool s3, .slice a3 n3 c3] 24) := ⟨_, rfl⟩
    have hbV : Below v3.heap.size v3 v4 := by rw [hV]; exact ((Below.refl _ _).alloc (Nat.le_refl _) _)
    rw [show v3.alloc (.cells #[.bool s3, .slice a3 n3 c3] 24) = v4 from hV.symm]
    have R1 := Lib.hid (R1.out.below hbV)
    have R2 := Lib.hid (R2.out.below hbV)
    have R3 := Lib.hid (R3.out.below hbV)
    have BX1 := Lib.hid (BX1.out.below hbV BX1.out.lt)
    have BX2 := Lib.hid (BX2.out.below hbV BX2.out.lt)
    have BX3 := Lib.hid (BX3.out.below hbV BX3.out.lt)
    have KG := Lib.hid (KG.out.trans (hbV.mono KG.out.size))
    clear hV hbV
    obtain ⟨xBX10, xBX11, xBX12, xBX13⟩ := BX1.out.all
    go_wp2_with fail
    have CT := Lib.hid (goodC s1 a1 n1 c1 o1 v4 R1.out (by have := HG0.out; omega) HG2.out)
    with_reducible refine CT.out.mono ?_
    rintro e w5 ⟨rfl, hb⟩
    clear CT
    clear xBX10 xBX11 xBX12 xBX13
    have R1 := Lib.hid (R1.out.below hb)
    have R2 := Lib.hid (R2.out.below hb)
    have R3 := Lib.hid (R3.out.below hb)
    have BX1 := Lib.hid (BX1.out.below hb BX1.out.lt)
    have BX2 := Lib.hid (BX2.out.below hb BX2.out.lt)
    have BX3 := Lib.hid (BX3.out.below hb BX3.out.lt)
    have KG := Lib.hid (KG.out.trans (hb.mono KG.out.size))
    clear hb
    obtain ⟨xBX20, xBX21, xBX22, xBX23⟩ := BX2.out.all
    go_wp2_with fail
    have CT := Lib.hid (goodC s2 a2 n2 c2 o2 w5 R2.out (by have := HG0.out; omega) HG3.out)
    with_reducible refine CT.out.mono ?_
    rintro e w6 ⟨rfl, hb⟩
    clear CT
    clear xBX20 xBX21 xBX22 xBX23
    have R1 := Lib.hid (R1.out.below hb)
    have R2 := Lib.hid (R2.out.below hb)
    have R3 := Lib.hid (R3.out.below hb)
    have BX1 := Lib.hid (BX1.out.below hb BX1.out.lt)
    have BX2 := Lib.hid (BX2.out.below hb BX2.out.lt)
    have BX3 := Lib.hid (BX3.out.below hb BX3.out.lt)
    have KG := Lib.hid (KG.out.trans (hb.mono KG.out.size))
    clear hb
    obtain ⟨xBX30, xBX31, xBX32, xBX33⟩ := BX3.out.all
    go_wp2_with fail
    have CT := Lib.hid (badC s3 a3 n3 c3 o3 w6 R3.out (by have := HG1.out; omega) HG4.out)
    with_reducible refine CT.out.mono ?_
    rintro e w7 ⟨rfl, hb⟩
    clear CT
    clear xBX30 xBX31 xBX32 xBX33
    have R1 := Lib.hid (R1.out.below hb)
    have R2 := Lib.hid (R2.out.below hb)
    have R3 := Lib.hid (R3.out.below hb)
    have BX1 := Lib.hid (BX1.out.below hb BX1.out.lt)
    have BX2 := Lib.hid (BX2.out.below hb BX2.out.lt)
    have BX3 := Lib.hid (BX3.out.below hb BX3.out.lt)
    have KG := Lib.hid (KG.out.trans (hb.mono KG.out.size))
    clear hb
    go_wp2_with fail
    have CT := Lib.hid (alive_true w7 (HT.out.on KG.out))
    with_reducible refine CT.out.mono ?_
    rintro e w8 ⟨rfl, hb⟩
    clear CT
    have R1 := Lib.hid (R1.out.below hb)
    have R2 := Lib.hid (R2.out.below hb)
    have R3 := Lib.hid (R3.out.below hb)
    have BX1 := Lib.hid (BX1.out.below hb BX1.out.lt)
    have BX2 := Lib.hid (BX2.out.below hb BX2.out.lt)
    have BX3 := Lib.hid (BX3.out.below hb BX3.out.lt)
    have KG := Lib.hid (KG.out.trans (hb.mono KG.out.size))
    clear hb
    go_wp2_with fail
    go_ret
    exact ⟨rfl, KG.out⟩
  have g4 := Classical.not_not.1 g4
  obtain ⟨e1, r1, l1⟩ := NumR.of_raw h1 hc1 g2
  obtain ⟨e2, r2, l2⟩ := NumR.of_raw h2 hc2 g3
  obtain ⟨e3, r3, l3⟩ := NumR.of_raw h3 hc3 g4
  rw [e1, e2, e3]
  exact greatest_ok _ a1 c1 _ a2 c2 _ a3 c3 w htab r1 (by omega) r2 (by omega) r3 (by omega)
end Go.Proofs.YtkpajfjjhbbieaaGreatDoor.Limb
namespace Go.Proofs.YtkpajfjjhbbieaaGreatDoor.Limb
open Go.RowKit Go.Sort

/-! ### The row and the card -/
open Go.ChangeShapes Go.WideShapes Go.ChangeAt
namespace LimbsGreatestC
theorem own : ownKnob Tryz.prog.godebug = none := by kernel_rfl
theorem laidOut : laidOutB Tryz.prog = true := by kernel_rfl

theorem tab_of_laid (W : World) (hL : laidMet Tryz.prog Rows.limbsGreatestRow.laid W) : Tab W :=
  Lib.tabIs_of_head (g := 2) (by kernel_rfl) (by kernel_rfl) (t := 235) (n := 20) (e := 74) Tryz.underlying235 Tryz.underlying74 (by kernel_rfl) (by kernel_rfl) hL.tail.tail
/-- A WORLD FOR THE WITNESS: the settled one, the tables holding what their initialisers lay. -/
noncomputable def laidWorld (os : Os) : World := World.laidAll Tryz.prog os Rows.limbsGreatestRow.laid
noncomputable def witArgs : Array Value := #[numV false none 0 0, numV false none 0 0, numV false none 0 0]
theorem laid_met (os : Os) : laidMet Tryz.prog Rows.limbsGreatestRow.laid ((laidWorld os).forCall (fun _ _ => 0) ⟨#[], witArgs, []⟩).memory :=
  laidMet_laidAll _ (by kernel_rfl) (by kernel_rfl)
theorem reads (os : Os) {H : Type} (enc : TypeId × Value → H) : ∃ places, DataW.whole enc Tryz.prog ((laidWorld os).forCall (fun _ _ => 0) ⟨#[], witArgs, []⟩).memory Tryz.f7.params.toList Rows.limbsGreatestSpec.vars false witArgs.toList 8 = some ([.agg [.lit (.bool false), .nil], .agg [.lit (.bool false), .nil], .agg [.lit (.bool false), .nil]], [], places) :=
  ⟨[], by kernel_rfl⟩

set_option maxRecDepth 100000 in
theorem lifted (os : Os) (started : os.Started) (H : Type) (enc : TypeId × Value → H) (F : Stop.Interp) :
    ReturnsInHanded {} Tryz.checked os 7 .any ((OpenSpec.ofChange Rows.limbsGreatestSpec).preRow enc Tryz.prog Tryz.f7 Rows.limbsGreatestRow.domain false Rows.limbsGreatestRow.laid) (((OpenSpec.ofChange Rows.limbsGreatestSpec).at F).post enc Tryz.prog Tryz.f7 false true false false) := by
  obtain ⟨places, hx⟩ := reads os enc
  refine returnsInHanded_of_row (C := Tryz.checked) (s := OpenSpec.ofChange Rows.limbsGreatestSpec) own started (by kernel_rfl) Tryz.func7
    (witness_row_atRef (enc := enc) (C := Tryz.checked) false (laidWorld os) witArgs (World.laidAll_os _ _ _) (by kernel_rfl) (by kernel_rfl) (by kernel_rfl)
      (OpenSpec.preRow_of_cond 8 hx (by kernel_rfl) (fun k hk => by cases hk) (by kernel_rfl) (laid_met os))) ?_
  intro W base args ds gs before hval0 hW _ _ _ hL _ _
  rw [MakeChecks.laidMetH_plain _ _ _ (by kernel_rfl)] at hL
  have htab : Tab W := tab_of_laid W hL
  have hval : ∀ (j : Nat) t v, Tryz.f7.params[j]? = some t → args[j]? = some v → Value.okWide Tryz.prog W .any base t v := hval0
  have hW' := hW
  obtain ⟨p, q, hA0, hV, rfl, hfz, hnd⟩ := hW
  have hA : DataW.TrodAll enc Tryz.prog W 0 (fun _ => true) true Tryz.f7.params.toList args.toList ds p := hA0
  rw [Tryz.params7] at hA hval
  obtain ⟨v0, v1, v2, d0, d1, d2, p0, p1, p2, rfl, rfl, rfl, h0, h1, h2⟩ := trodAll_three hA
  obtain ⟨rfl, rfl⟩ := trodVars_none hV
  obtain ⟨s1, a1, n1, c1, o1, rfl, r1, l1⟩ := open_num (hval 0 24 v0 rfl rfl) h0
  obtain ⟨s2, a2, n2, c2, o2, rfl, r2, l2⟩ := open_num (hval 1 24 v1 rfl rfl) h1
  obtain ⟨s3, a3, n3, c3, o3, rfl, r3, l3⟩ := open_num (hval 2 24 v2 rfl rfl) h2
  refine (limbsGreatest_law s1 a1 n1 c1 o1 s2 a2 n2 c2 o2 s3 a3 n3 c3 o3 W htab r1 l1 r2 l2 r3 l3).mono fun e W' ⟨he, hg⟩ => ?_
  subst he
  exact ⟨_, rfl, LawPost.law_post laidOut (by kernel_rfl) (by kernel_rfl) Tryz.underlying4 hW' rfl rfl hg⟩

theorem said : Rows.LimbsGreatestSaid :=
  OpenClaim.holds_of_cond 7 Tryz.f7 rfl rfl rfl rfl rfl rfl rfl ⟨rfl, rfl, rfl, rfl, rfl⟩ rfl rfl rfl rfl rfl (by kernel_rfl) Tryz.func7 (by kernel_rfl)
    (of_decide_eq_true (by kernel_rfl)) (by unfold Func.isWrapper; first | (rw [if_pos (by decide +kernel)]; kernel_rfl) | (rw [if_neg (by decide +kernel)]; exact ⟨rfl, rfl⟩))
    (fun os started H enc _ F => by rw [OpenClaim.pre_eq_preRow]; exact lifted os started H enc F)

/-- No parameter wants a stand-in; the program's own looks are off: what the card asks. -/
theorem plain (f : FuncId) (fn : Func) (hf : Tryz.pinned.checked.prog.funcNamed "reckoner/reckonerlaw01.LimbsGreatest" = some f) (hfn : Tryz.pinned.checked.prog.funcs[f]? = some fn) :
    true = Tryz.pinned.checked.prog.looks [] ∧ ∀ (j : Nat) t, fn.params[j]? = some t → Tryz.pinned.checked.prog.wantsStandIn t = false := by
  obtain rfl : f = 7 := Option.some.inj ((show Tryz.prog.funcNamed "reckoner/reckonerlaw01.LimbsGreatest" = some 7 by kernel_rfl).symm.trans hf) |>.symm
  obtain rfl : fn = Tryz.f7 := (Option.some.inj (Tryz.func7.symm.trans hfn)).symm
  refine ⟨by kernel_rfl, fun j t ht => ?_⟩
  rw [Tryz.params7] at ht
  obtain rfl : t = 24 := by simpa using Array.mem_of_getElem? ht
  exact (show Tryz.prog.wantsStandIn 24 = false by kernel_rfl)

/-- The card. -/
theorem card : Rows.LimbsGreatestCardSaid :=
  Claim7.holds_tied_plain_at .later [] _ _ _ _ said (fun _ h => by cases h) (by kernel_rfl) (fun _ h => by cases h) limbsGreatest_row_tie rfl ⟨rfl, rfl⟩ (by kernel_rfl) rfl plain (by kernel_rfl)
#print axioms card
end LimbsGreatestC
end Go.Proofs.YtkpajfjjhbbieaaGreatDoor.Limb
