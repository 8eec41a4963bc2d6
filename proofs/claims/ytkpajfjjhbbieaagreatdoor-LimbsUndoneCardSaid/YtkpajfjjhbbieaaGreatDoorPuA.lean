/-
  The law LimbsUndone: whatever it is handed, it returns true, and what it was handed reads behind the call as it read before; the card ties the listed tables to the program's text.
-/
import Derived.Test.YtkpajfjjhbbieaaGreatDoorPoG
import Derived.Test.YtkpajfjjhbbieaaGreatDoorCards
import Derived.Test.YtkpajfjjhbbieaaGreatDoorTie
import Derived.Lay
import Derived.MakeChecks
import Derived.Stop.LaidErr
import Derived.Deep.DeepWitnessRowRef
import Derived.WalkKit
import Derived.ProofKit
import Derived.OpenShut
import Derived.Deep.DeepHandedRow
import Derived.Lib.LaidTab
set_option linter.unusedSimpArgs false
set_option linter.unusedVariables false
namespace Go.Proofs.YtkpajfjjhbbieaaGreatDoor.Limb
open Go.RowKit Go.Sort Go.Fresh

theorem bx_of {w : World} {lo b : Nat} {t : TypeId} {x y : Value} (h : ∃ g : Nat, Value.pointer (some ⟨b, 0, none⟩) = Value.pointer (some ⟨g, 0, none⟩) ∧ Bx w g t x y ∧ lo ≤ g) : Bx w b t x y ∧ lo ≤ b := by
  obtain ⟨g, e, h⟩ := h
  cases e
  exact h
theorem numC_zero (a : Option Addr) (c : Nat) : numC 0 a c = numV false a 0 c := by
  show numV (decide ((0 : Int) < 0)) a (lenB (0 : Int).natAbs) c = _
  rw [show lenB (0 : Int).natAbs = 0 from lenB_zero]
  rfl
open Classical in
theorem badC (s : Bool) (a : Option Addr) (n c : Nat) (o : Nat → Int) (w : World) (h : Rd w a n o) (hn : n ≤ 1000000000) (hk : ¬ okN s n o) :
    Calls Tryz.prog 20 #[numV s a n c] w fun e w' => e = .returned (.bool false) ∧ Below w.heap.size w w' := by
  have h := check_any s a n c o w h hn
  rw [decide_eq_false hk] at h
  exact h
open Classical in
theorem goodC (s : Bool) (a : Option Addr) (n c : Nat) (o : Nat → Int) (w : World) (h : Rd w a n o) (hn : n ≤ 1000000000) (hk : okN s n o) :
    Calls Tryz.prog 20 #[numV s a n c] w fun e w' => e = .returned (.bool true) ∧ Below w.heap.size w w' := by
  have h := check_any s a n c o w h hn
  rw [decide_eq_true hk] at h
  exact h
theorem cmpZ_cases (x : Int) : (x < 0 ∧ cmpZ x 0 = -1) ∨ (x = 0 ∧ cmpZ x 0 = 0) ∨ (0 < x ∧ cmpZ x 0 = 1) := by
  rcases Int.lt_trichotomy x 0 with h | h | h
  · exact Or.inl ⟨h, cmpZ_lt h⟩
  · exact Or.inr (Or.inl ⟨h, cmpZ_eq h⟩)
  · exact Or.inr (Or.inr ⟨h, cmpZ_gt h⟩)
theorem cmpZ_range (x y : Int) : -1 ≤ cmpZ x y ∧ cmpZ x y ≤ 1 := by
  unfold cmpZ
  split
  · omega
  · split <;> omega
theorem cmpZ_negz (x : Int) : cmpZ (-x) 0 = - cmpZ x 0 := by
  rcases cmpZ_cases x with ⟨h, e⟩ | ⟨h, e⟩ | ⟨h, e⟩ <;> rw [e]
  · exact cmpZ_gt (by omega)
  · exact cmpZ_eq (by omega)
  · exact cmpZ_lt (by omega)
theorem cmpZ_mulz (x y : Int) : cmpZ (x * y) 0 = cmpZ x 0 * cmpZ y 0 := by
  rcases cmpZ_cases x with ⟨h, e⟩ | ⟨h, e⟩ | ⟨h, e⟩ <;> rcases cmpZ_cases y with ⟨k, f⟩ | ⟨k, f⟩ | ⟨k, f⟩ <;> rw [e, f]
  · exact cmpZ_gt (Int.mul_pos_of_neg_of_neg h k)
  · exact cmpZ_eq (by rw [k, Int.mul_zero])
  · exact cmpZ_lt (Int.mul_neg_of_neg_of_pos h k)
  · exact cmpZ_eq (by rw [h, Int.zero_mul])
  · exact cmpZ_eq (by rw [h, Int.zero_mul])
  · exact cmpZ_eq (by rw [h, Int.zero_mul])
  · exact cmpZ_lt (Int.mul_neg_of_pos_of_neg h k)
  · exact cmpZ_eq (by rw [k, Int.mul_zero])
  · exact cmpZ_gt (Int.mul_pos h k)
theorem cmpZ_subz (x y : Int) : cmpZ (x - y) 0 = cmpZ x y := cmpZ_congr (by omega) (by omega)
theorem cmpZ_same (x y : Int) : (cmpZ x y == 0) = decide (x = y) := by
  unfold cmpZ
  by_cases h : x = y
  · rw [if_neg (by omega), if_neg (by omega), decide_eq_true h]; rfl
  · rw [decide_eq_false h]
    split
    · rfl
    · rw [if_pos (by omega)]; rfl
theorem len1 {z : Int} (h1 : -9223372036854775808 ≤ z) (h2 : z ≤ 9223372036854775807) : lenB z.natAbs ≤ 3 := len3 (by omega)
theorem whole1 {w : World} {z : Int} {a : Option Addr} {c : Nat} (h : NumR w z a c) (e1 : z = 1) :
    Calls Tryz.prog 38 #[numC z a c] w fun e w' => e = .returned (.int .i64 1) ∧ Below w.heap.size w w' := by
  refine (wholeC h (by omega) (by omega)).mono ?_
  rintro e w' ⟨rfl, hb⟩
  rw [e1]
  exact ⟨rfl, hb⟩
theorem wrap_small (x : Int) (h : -9223372036854775808 ≤ x ∧ x ≤ 9223372036854775807) : IntKind.i64.wrap x = x := IntWalk.i64_in _ h
end Go.Proofs.YtkpajfjjhbbieaaGreatDoor.Limb
namespace Go.Proofs.YtkpajfjjhbbieaaGreatDoor.Limb
open Go.RowKit Go.Sort Go.Fresh

set_option maxRecDepth 100000 in
set_option maxHeartbeats 8000000 in
theorem undone_ok (z1 : Int) (a1 : Option Addr) (c1 : Nat) (z2 : Int) (a2 : Option Addr) (c2 : Nat) (w : World) (htab : Tab w)
    (h1 : NumR w z1 a1 c1) (b1 : lenB z1.natAbs ≤ 200) (h2 : NumR w z2 a2 c2) (b2 : lenB z2.natAbs ≤ 200) :
    Calls Tryz.prog 10 #[numC z1 a1 c1, numC z2 a2 c2] w fun e w' => e = .returned (.bool true) ∧ Below w.heap.size w w' := by
  have HT := Lib.hid htab
  have KG := Lib.hid (Below.refl w.heap.size w)
  have N1 := Lib.hid h1
  have LZ1 := Lib.hid b1
  have Bz1 := Lib.hid (show lenB z1.natAbs ≤ 10000000 by omega)
  have N2 := Lib.hid h2
  have LZ2 := Lib.hid b2
  have Bz2 := Lib.hid (show lenB z2.natAbs ≤ 10000000 by omega)
  clear htab h1 b1 h2 b2
  obtain ⟨zn, hzn⟩ : ∃ z : Int, z = -z1 := ⟨_, rfl⟩
  have Bzn := Lib.hid (show lenB zn.natAbs ≤ 10000000 by rw [hzn]; have := lenZ_neg LZ1.out; omega)
  have Hzn := Lib.hid hzn
  clear hzn
  obtain ⟨zab, hzab⟩ : ∃ z : Int, z = z1 + z2 := ⟨_, rfl⟩
  have Bzab := Lib.hid (show lenB zab.natAbs ≤ 10000000 by rw [hzab]; have := lenZ_add LZ1.out LZ2.out; omega)
  have Hzab := Lib.hid hzab
  clear hzab
  obtain ⟨zba, hzba⟩ : ∃ z : Int, z = z2 - z1 := ⟨_, rfl⟩
  have Bzba := Lib.hid (show lenB zba.natAbs ≤ 10000000 by rw [hzba]; have := lenZ_sub LZ2.out LZ1.out; omega)
  have Hzba := Lib.hid hzba
  clear hzba
  obtain ⟨zm, hzm⟩ : ∃ z : Int, z = z1 * z2 := ⟨_, rfl⟩
  have Bzm := Lib.hid (show lenB zm.natAbs ≤ 10000000 by rw [hzm]; have := lenZ_mul LZ1.out LZ2.out; omega)
  have Hzm := Lib.hid hzm
  clear hzm
  obtain ⟨znm, hznm⟩ : ∃ z : Int, z = -(z1 * z2) := ⟨_, rfl⟩
  have Bznm := Lib.hid (show lenB znm.natAbs ≤ 10000000 by rw [hznm]; have := lenZ_neg (lenZ_mul LZ1.out LZ2.out); omega)
  have Hznm := Lib.hid hznm
  clear hznm
  obtain ⟨zd, hzd⟩ : ∃ z : Int, z = z1 - z2 := ⟨_, rfl⟩
  have Bzd := Lib.hid (show lenB zd.natAbs ≤ 10000000 by rw [hzd]; have := lenZ_sub LZ1.out LZ2.out; omega)
  have Hzd := Lib.hid hzd
  clear hzd
  obtain ⟨zx, hzx⟩ : ∃ z : Int, z = z1 := ⟨_, rfl⟩
  have Bzx := Lib.hid (show lenB zx.natAbs ≤ 10000000 by rw [hzx]; have := LZ1.out; omega)
  have Hzx := Lib.hid hzx
  clear hzx
  obtain ⟨sa, hsa⟩ : ∃ s, s = cmpZ z1 0 := ⟨_, rfl⟩
  obtain ⟨sb, hsb⟩ : ∃ s, s = cmpZ z2 0 := ⟨_, rfl⟩
  obtain ⟨cab, hcab⟩ : ∃ s, s = cmpZ z1 z2 := ⟨_, rfl⟩
  obtain ⟨qb, hqb⟩ : ∃ q : Bool, q = decide (z1 = z2) := ⟨_, rfl⟩
  have HQ := Lib.hid (show (cab == 0) = qb by rw [hcab, hqb]; exact cmpZ_same z1 z2)
  have HW1 := Lib.hid (show IntKind.i64.wrap (-sa) = -sa by have := cmpZ_range z1 0; exact wrap_small _ (by omega))
  have HW2 := Lib.hid (show IntKind.i64.wrap (sa * sb) = sa * sb by rw [hsa, hsb, ← cmpZ_mulz]; have := cmpZ_range (z1 * z2) 0; exact wrap_small _ (by omega))
  have Hsa := Lib.hid hsa
  clear hsa
  have Hsb := Lib.hid hsb
  clear hsb
  have Hcab := Lib.hid hcab
  clear hcab
  have Hqb := Lib.hid hqb
  clear hqb
  go_enter Tryz.func10, Tryz.ntmps10
  go_upto_region 1 with (fail)
  obtain ⟨v1, hV⟩ : ∃ V, V = (w.alloc (.cells #[.bool (decide (z1 < 0)), .slice a1 (lenB z1.natAbs) c1] 24)).alloc (.cells #[.bool (decide (z2 < 0)), .slice a2 (lenB z2.natAbs) c2] 24) := ⟨_, rfl⟩
  have hbV : Below w.heap.size w v1 := by rw [hV]; exact (((Below.refl _ _).alloc (Nat.le_refl _) _).alloc (by go_size) _)
  have BX1 := Lib.hid (show Bx v1 (w.heap.size) 24 (.bool (decide (z1 < 0))) (.slice a1 (lenB z1.natAbs) c1) by rw [hV]; exact (Bx.new w _ _ _).alloc _)
  have BX2 := Lib.hid (show Bx v1 (w.heap.size + 1) 24 (.bool (decide (z2 < 0))) (.slice a2 (lenB z2.natAbs) c2) by rw [hV]; exact Bx.new2 w _ _ _ _)
  rw [show (w.alloc (.cells #[.bool (decide (z1 < 0)), .slice a1 (lenB z1.natAbs) c1] 24)).alloc (.cells #[.bool (decide (z2 < 0)), .slice a2 (lenB z2.natAbs) c2] 24) = v1 from hV.symm]
  have N1 := Lib.hid (N1.out.below hbV)
  have N2 := Lib.hid (N2.out.below hbV)
  have KG := Lib.hid (KG.out.trans (hbV.mono KG.out.size))
  clear hV hbV
  go_wp2_with fail
  have CT := Lib.hid (alive_true v1 (HT.out.on KG.out))
  with_reducible refine CT.out.mono ?_
  rintro e w2 ⟨rfl, hb⟩
  clear CT
  have N1 := Lib.hid (N1.out.below hb)
  have N2 := Lib.hid (N2.out.below hb)
  have BX1 := Lib.hid (BX1.out.below hb BX1.out.lt)
  have BX2 := Lib.hid (BX2.out.below hb BX2.out.lt)
  have KG := Lib.hid (KG.out.trans (hb.mono KG.out.size))
  clear hb
  obtain ⟨xBX10, xBX11, xBX12, xBX13⟩ := BX1.out.all
  obtain ⟨xBX20, xBX21, xBX22, xBX23⟩ := BX2.out.all
  go_wp2_with fail
  have GR := Lib.hid (great_2 200 (decide (z1 < 0)) (decide (z2 < 0)) a1 a2 (lenB z1.natAbs) c1 (lenB z2.natAbs) c2 w2)
  rw [decide_eq_false (show ¬ (200 < lenB z1.natAbs ∨ 200 < lenB z2.natAbs) by have := LZ1.out; have := LZ2.out; omega)] at GR
  refine GR.out.mono ?_
  rintro e wg ⟨rfl, rfl⟩
  clear xBX10 xBX11 xBX12 xBX13
  clear xBX20 xBX21 xBX22 xBX23
  clear GR
  obtain ⟨v3, hV⟩ : ∃ V, V = w2.alloc (.cells #[.bool (decide (z1 < 0)), .slice a1 (lenB z1.natAbs) c1, .bool (decide (z2 < 0)), .slice a2 (lenB z2.natAbs) c2] 24) := ⟨_, rfl⟩
  have hbV : Below w2.heap.size w2 v3 := by rw [hV]; exact ((Below.refl _ _).alloc (Nat.le_refl _) _)
  rw [show w2.alloc (.cells #[.bool (decide (z1 < 0)), .slice a1 (lenB z1.natAbs) c1, .bool (decide (z2 < 0)), .slice a2 (lenB z2.natAbs) c2] 24) = v3 from hV.symm]
  have N1 := Lib.hid (N1.out.below hbV)
  have N2 := Lib.hid (N2.out.below hbV)
  have BX1 := Lib.hid (BX1.out.below hbV BX1.out.lt)
  have BX2 := Lib.hid (BX2.out.below hbV BX2.out.lt)
  have KG := Lib.hid (KG.out.trans (hbV.mono KG.out.size))
  clear hV hbV
  obtain ⟨xBX10, xBX11, xBX12, xBX13⟩ := BX1.out.all
  go_wp2_with fail
  have CT := Lib.hid (checkC N1.out Bz1.out)
  with_reducible refine CT.out.mono ?_
  rintro e w4 ⟨rfl, hb⟩
  clear CT
  clear xBX10 xBX11 xBX12 xBX13
  have N1 := Lib.hid (N1.out.below hb)
  have N2 := Lib.hid (N2.out.below hb)
  have BX1 := Lib.hid (BX1.out.below hb BX1.out.lt)
  have BX2 := Lib.hid (BX2.out.below hb BX2.out.lt)
  have KG := Lib.hid (KG.out.trans (hb.mono KG.out.size))
  clear hb
  obtain ⟨xBX20, xBX21, xBX22, xBX23⟩ := BX2.out.all
  go_wp2_with fail
  have CT := Lib.hid (checkC N2.out Bz2.out)
  with_reducible refine CT.out.mono ?_
  rintro e w5 ⟨rfl, hb⟩
  clear CT
  clear xBX20 xBX21 xBX22 xBX23
  have N1 := Lib.hid (N1.out.below hb)
  have N2 := Lib.hid (N2.out.below hb)
  have BX1 := Lib.hid (BX1.out.below hb BX1.out.lt)
  have BX2 := Lib.hid (BX2.out.below hb BX2.out.lt)
  have KG := Lib.hid (KG.out.trans (hb.mono KG.out.size))
  clear hb
  obtain ⟨xBX10, xBX11, xBX12, xBX13⟩ := BX1.out.all
  go_wp2_with fail
  have CT := Lib.hid (negA N1.out.any Bz1.out)
  rw [← Hzn.out] at CT
  with_reducible refine CT.out.mono ?_
  rintro e w6 ⟨a3, c3, rfl, h3, hb⟩
  have N3 := Lib.hid h3
  clear h3
  clear CT
  clear xBX10 xBX11 xBX12 xBX13
  have N1 := Lib.hid (N1.out.below hb)
  have N2 := Lib.hid (N2.out.below hb)
  have BX1 := Lib.hid (BX1.out.below hb BX1.out.lt)
  have BX2 := Lib.hid (BX2.out.below hb BX2.out.lt)
  have KG := Lib.hid (KG.out.trans (hb.mono KG.out.size))
  clear hb
  go_upto_region 4 with (fail)
  obtain ⟨v7, hV⟩ : ∃ V, V = w6.alloc (.cells #[.bool (decide (zn < 0)), .slice a3 (lenB zn.natAbs) c3] 24) := ⟨_, rfl⟩
  have hbV : Below w6.heap.size w6 v7 := by rw [hV]; exact ((Below.refl _ _).alloc (Nat.le_refl _) _)
  have BX3 := Lib.hid (show Bx v7 (w6.heap.size) 24 (.bool (decide (zn < 0))) (.slice a3 (lenB zn.natAbs) c3) by rw [hV]; exact Bx.new w6 _ _ _)
  rw [show w6.alloc (.cells #[.bool (decide (zn < 0)), .slice a3 (lenB zn.natAbs) c3] 24) = v7 from hV.symm]
  have N1 := Lib.hid (N1.out.below hbV)
  have N2 := Lib.hid (N2.out.below hbV)
  have N3 := Lib.hid (N3.out.below hbV)
  have BX1 := Lib.hid (BX1.out.below hbV BX1.out.lt)
  have BX2 := Lib.hid (BX2.out.below hbV BX2.out.lt)
  have KG := Lib.hid (KG.out.trans (hbV.mono KG.out.size))
  clear hV hbV
  refine wp_region_fresh 80 (spOf [(2, Sp.made (fun x : Option Addr × Nat => numC zab x.1 x.2) (fun x w' => NumO w' v7.heap.size zab x.1 x.2)), (4, Sp.made (fun x : Option Addr × Nat => numC z1 x.1 x.2) (fun x w' => NumO w' v7.heap.size z1 x.1 x.2)), (6, Sp.know (.bool true)), (10, Sp.made (fun x : Option Addr × Nat => numV false x.1 0 x.2) (fun x w' => NumO w' v7.heap.size 0 x.1 x.2)), (17, Sp.made (fun x : Option Addr × Nat => numC z1 x.1 x.2) (fun x w' => NumO w' v7.heap.size z1 x.1 x.2)), (19, Sp.know (.bool true)), (24, Sp.made (fun x : Option Addr × Nat => numC zba x.1 x.2) (fun x w' => NumO w' v7.heap.size zba x.1 x.2)), (27, Sp.made (fun x : Option Addr × Nat => numC zba x.1 x.2) (fun x w' => NumO w' v7.heap.size zba x.1 x.2)), (28, Sp.know (.bool true)), (32, Sp.know (.int .i64 (-sa))), (34, Sp.know (.int .i64 sa)), (41, Sp.made (fun x : Option Addr × Nat => numC zm x.1 x.2) (fun x w' => NumO w' v7.heap.size zm x.1 x.2)), (42, Sp.know (.int .i64 (sa * sb))), (44, Sp.know (.int .i64 sa)), (46, Sp.know (.int .i64 sb)), (53, Sp.made (fun x : Option Addr × Nat => numC znm x.1 x.2) (fun x w' => NumO w' v7.heap.size znm x.1 x.2)), (56, Sp.made (fun x : Option Addr × Nat => numC zm x.1 x.2) (fun x w' => NumO w' v7.heap.size zm x.1 x.2)), (57, Sp.made (fun x : Option Addr × Nat => numC znm x.1 x.2) (fun x w' => NumO w' v7.heap.size znm x.1 x.2)), (58, Sp.know (.bool true)), (63, Sp.know (.int .i64 cab)), (66, Sp.made (fun x : Option Addr × Nat => numC zd x.1 x.2) (fun x w' => NumO w' v7.heap.size zd x.1 x.2)), (67, Sp.know (.int .i64 cab)), (73, Sp.know (.int .i64 cab)), (77, Sp.know (.bool qb))])
    (fun w' => Below v7.heap.size v7 w') (by kernel_rfl) (by kernel_rfl)
    (spOf_cons (Sp.made_keeps fun x w w' h hb => h.below hb) (spOf_cons (Sp.made_keeps fun x w w' h hb => h.below hb) (spOf_cons (Sp.know_keeps _) (spOf_cons (Sp.made_keeps fun x w w' h hb => h.below hb) (spOf_cons (Sp.made_keeps fun x w w' h hb => h.below hb) (spOf_cons (Sp.know_keeps _) (spOf_cons (Sp.made_keeps fun x w w' h hb => h.below hb) (spOf_cons (Sp.made_keeps fun x w w' h hb => h.below hb) (spOf_cons (Sp.know_keeps _) (spOf_cons (Sp.know_keeps _) (spOf_cons (Sp.know_keeps _) (spOf_cons (Sp.made_keeps fun x w w' h hb => h.below hb) (spOf_cons (Sp.know_keeps _) (spOf_cons (Sp.know_keeps _) (spOf_cons (Sp.know_keeps _) (spOf_cons (Sp.made_keeps fun x w w' h hb => h.below hb) (spOf_cons (Sp.made_keeps fun x w w' h hb => h.below hb) (spOf_cons (Sp.made_keeps fun x w w' h hb => h.below hb) (spOf_cons (Sp.know_keeps _) (spOf_cons (Sp.know_keeps _) (spOf_cons (Sp.made_keeps fun x w w' h hb => h.below hb) (spOf_cons (Sp.know_keeps _) (spOf_cons (Sp.know_keeps _) (spOf_cons (Sp.know_keeps _) (spOf_nil))))))))))))))))))))))))) (fun _ _ h hb => h.trans (hb.mono h.size)) ((Below.refl _ _).drew) ?_
  simp only [List.append_eq, List.cons_append, List.nil_append, List.take_succ_cons, List.take_zero, List.drop_succ_cons, List.drop_zero]
  refine wpF_reads rfl rfl ?_ (fun w' hw' => ?_) ?_
  rotate_left
  · have hb' := hw'.world
    obtain ⟨k0, k1, k2, k3⟩ := (BX1.out.below hb' BX1.out.lt).all
    clear hw'
    go_simp
    try rfl
  conv => arg 9; simp only [Act.put, List.setIfInBounds_toArray, List.set_cons_succ, List.set_cons_zero]
  refine wpF_reads rfl rfl ?_ (fun w' hw' => ?_) ?_
  rotate_left
  · have hb' := hw'.world
    obtain ⟨k0, k1, k2, k3⟩ := (BX2.out.below hb' BX2.out.lt).all
    clear hw'
    go_simp
    try rfl
  conv => arg 9; simp only [Act.put, List.setIfInBounds_toArray, List.set_cons_succ, List.set_cons_zero]
  refine wpF_spec rfl rfl (fun w' hw' => ?_) ?_
  · have hb' := hw'.world
    go_simp
    have CT := addA (N1.out.below hb').any Bz1.out (N2.out.below hb').any Bz2.out
    rw [show z1 + z2 = zab by rw [Hzab.out] <;> omega] at CT
    refine CT.mono ?_
    rintro e w'' ⟨za, zb, rfl, ho, hb⟩
    exact ⟨_, rfl, ⟨⟨za, zb, rfl⟩, ⟨za, zb, rfl, ho.mono hb'.size⟩⟩, hb⟩
  rintro _ ⟨y2, rfl⟩
  conv => arg 9; simp only [Act.put, List.setIfInBounds_toArray, List.set_cons_succ, List.set_cons_zero]
  refine wpF_reads rfl rfl ?_ (fun w' hw' => ?_) ?_
  rotate_left
  · have hb' := hw'.world
    obtain ⟨k0, k1, k2, k3⟩ := (BX2.out.below hb' BX2.out.lt).all
    clear hw'
    go_simp
    try rfl
  conv => arg 9; simp only [Act.put, List.setIfInBounds_toArray, List.set_cons_succ, List.set_cons_zero]
  refine wpF_spec rfl rfl (fun w' hw' => ?_) ?_
  · have hb' := hw'.world
    go_simp
    have f2 := numO_of (x := y2) (z := zab) (hw'.fact 2 (by kernel_rfl))
    have CT := subA f2.any Bzab.out (N2.out.below hb').any Bz2.out
    rw [show zab - z2 = z1 by rw [Hzab.out] <;> omega] at CT
    refine CT.mono ?_
    rintro e w'' ⟨za, zb, rfl, ho, hb⟩
    exact ⟨_, rfl, ⟨⟨za, zb, rfl⟩, ⟨za, zb, rfl, ho.mono hb'.size⟩⟩, hb⟩
  rintro _ ⟨y4, rfl⟩
  conv => arg 9; simp only [Act.put, List.setIfInBounds_toArray, List.set_cons_succ, List.set_cons_zero]
  refine wpF_reads rfl rfl ?_ (fun w' hw' => ?_) ?_
  rotate_left
  · have hb' := hw'.world
    obtain ⟨k0, k1, k2, k3⟩ := (BX1.out.below hb' BX1.out.lt).all
    clear hw'
    go_simp
    try rfl
  conv => arg 9; simp only [Act.put, List.setIfInBounds_toArray, List.set_cons_succ, List.set_cons_zero]
  refine wpF_spec rfl rfl (fun w' hw' => ?_) ?_
  · have hb' := hw'.world
    go_simp
    have f4 := numO_of (x := y4) (z := z1) (hw'.fact 4 (by kernel_rfl))
    have CT := sameT f4.r Bz1.out (N1.out.below hb') Bz1.out rfl
    refine CT.mono ?_
    rintro e w'' ⟨rfl, hb⟩
    exact ⟨_, rfl, rfl, hb⟩
  rintro _ rfl
  conv => arg 9; simp only [Act.put, List.setIfInBounds_toArray, List.set_cons_succ, List.set_cons_zero]
  refine wpF_reads rfl rfl ?_ (fun w' hw' => ?_) ?_
  rotate_left
  · have hb' := hw'.world
    skip
    clear hw'
    go_simp
    try rfl
  conv => arg 9; simp only [Act.put, List.setIfInBounds_toArray, List.set_cons_succ, List.set_cons_zero]
  refine wpF_readsG (by rfl) rfl ?_ (fun w' hw' => ?_) ?_
  rotate_left
  · have hb' := hw'.world
    obtain ⟨k0, k1, k2, k3⟩ := (BX1.out.below hb' BX1.out.lt).all
    clear hw'
    go_simp
    try rfl
  conv => arg 9; simp only [Act.put, List.setIfInBounds_toArray, List.set_cons_succ, List.set_cons_zero]
  refine wpF_readsG (by rfl) rfl ?_ (fun w' hw' => ?_) ?_
  rotate_left
  · have hb' := hw'.world
    obtain ⟨k0, k1, k2, k3⟩ := (BX3.out.below hb' BX3.out.lt).all
    clear hw'
    go_simp
    try rfl
  conv => arg 9; simp only [Act.put, List.setIfInBounds_toArray, List.set_cons_succ, List.set_cons_zero]
  refine wpF_specG (by rfl) rfl (fun w' hw' => ?_) ?_
  · have hb' := hw'.world
    go_simp
    have CT := addA (N1.out.below hb').any Bz1.out (N3.out.below hb').any Bzn.out
    rw [show z1 + zn = 0 by rw [Hzn.out] <;> omega] at CT
    refine CT.mono ?_
    rintro e w'' ⟨za, zb, rfl, ho, hb⟩
    exact ⟨_, rfl, ⟨⟨za, zb, numC_zero za zb⟩, ⟨za, zb, numC_zero za zb, ho.mono hb'.size⟩⟩, hb⟩
  rintro _ ⟨y10, rfl⟩
  conv => arg 9; simp only [Act.put, List.setIfInBounds_toArray, List.set_cons_succ, List.set_cons_zero]
  refine wpF_readsG (by rfl) rfl ?_ (fun w' hw' => ?_) ?_
  rotate_left
  · have hb' := hw'.world
    have hs := field_num false y10.1 0 y10.2 w'
    clear hw'
    go_simp
    try rfl
  conv => arg 9; simp only [Act.put, List.setIfInBounds_toArray, List.set_cons_succ, List.set_cons_zero]
  refine wpF_readsG (by rfl) rfl ?_ (fun w' hw' => ?_) ?_
  rotate_left
  · have hb' := hw'.world
    skip
    clear hw'
    go_simp
    try rfl
  conv => arg 9; simp only [Act.put, List.setIfInBounds_toArray, List.set_cons_succ, List.set_cons_zero]
  refine wpF_readsG (by rfl) rfl ?_ (fun w' hw' => ?_) ?_
  rotate_left
  · have hb' := hw'.world
    skip
    clear hw'
    go_simp
    try rfl
  conv => arg 9; simp only [Act.put, List.setIfInBounds_toArray, List.set_cons_succ, List.set_cons_zero]
  refine wpF_reads rfl rfl ?_ (fun w' hw' => ?_) ?_
  rotate_left
  · have hb' := hw'.world
    skip
    clear hw'
    go_simp
    try rfl
  conv => arg 9; simp only [Act.put, List.setIfInBounds_toArray, List.set_cons_succ, List.set_cons_zero]
  refine wpF_reads rfl rfl ?_ (fun w' hw' => ?_) ?_
  rotate_left
  · have hb' := hw'.world
    skip
    clear hw'
    go_simp
    try rfl
  conv => arg 9; simp only [Act.put, List.setIfInBounds_toArray, List.set_cons_succ, List.set_cons_zero]
  refine wpF_readsG (by rfl) rfl ?_ (fun w' hw' => ?_) ?_
  rotate_left
  · have hb' := hw'.world
    obtain ⟨k0, k1, k2, k3⟩ := (BX3.out.below hb' BX3.out.lt).all
    clear hw'
    go_simp
    try rfl
  conv => arg 9; simp only [Act.put, List.setIfInBounds_toArray, List.set_cons_succ, List.set_cons_zero]
  refine wpF_specG (by rfl) rfl (fun w' hw' => ?_) ?_
  · have hb' := hw'.world
    go_simp
    have CT := negA (N3.out.below hb').any Bzn.out
    rw [show -zn = z1 by rw [Hzn.out] <;> omega] at CT
    refine CT.mono ?_
    rintro e w'' ⟨za, zb, rfl, ho, hb⟩
    exact ⟨_, rfl, ⟨⟨za, zb, rfl⟩, ⟨za, zb, rfl, ho.mono hb'.size⟩⟩, hb⟩
  rintro _ ⟨y17, rfl⟩
  conv => arg 9; simp only [Act.put, List.setIfInBounds_toArray, List.set_cons_succ, List.set_cons_zero]
  refine wpF_readsG (by rfl) rfl ?_ (fun w' hw' => ?_) ?_
  rotate_left
  · have hb' := hw'.world
    obtain ⟨k0, k1, k2, k3⟩ := (BX1.out.below hb' BX1.out.lt).all
    clear hw'
    go_simp
    try rfl
  conv => arg 9; simp only [Act.put, List.setIfInBounds_toArray, List.set_cons_succ, List.set_cons_zero]
  refine wpF_specG (by rfl) rfl (fun w' hw' => ?_) ?_
  · have hb' := hw'.world
    go_simp
    have f17 := numO_of (x := y17) (z := z1) (hw'.fact 17 (by kernel_rfl))
    have CT := sameT f17.r Bz1.out (N1.out.below hb') Bz1.out rfl
    refine CT.mono ?_
    rintro e w'' ⟨rfl, hb⟩
    exact ⟨_, rfl, rfl, hb⟩
  rintro _ rfl
  conv => arg 9; simp only [Act.put, List.setIfInBounds_toArray, List.set_cons_succ, List.set_cons_zero]
  refine wpF_reads rfl rfl ?_ (fun w' hw' => ?_) ?_
  rotate_left
  · have hb' := hw'.world
    skip
    clear hw'
    go_simp
    try rfl
  conv => arg 9; simp only [Act.put, List.setIfInBounds_toArray, List.set_cons_succ, List.set_cons_zero]
  refine wpF_reads rfl rfl ?_ (fun w' hw' => ?_) ?_
  rotate_left
  · have hb' := hw'.world
    skip
    clear hw'
    go_simp
    try rfl
  conv => arg 9; simp only [Act.put, List.setIfInBounds_toArray, List.set_cons_succ, List.set_cons_zero]
  refine wpF_readsG (by rfl) rfl ?_ (fun w' hw' => ?_) ?_
  rotate_left
  · have hb' := hw'.world
    obtain ⟨k0, k1, k2, k3⟩ := (BX2.out.below hb' BX2.out.lt).all
    clear hw'
    go_simp
    try rfl
  conv => arg 9; simp only [Act.put, List.setIfInBounds_toArray, List.set_cons_succ, List.set_cons_zero]
  refine wpF_readsG (by rfl) rfl ?_ (fun w' hw' => ?_) ?_
  rotate_left
  · have hb' := hw'.world
    obtain ⟨k0, k1, k2, k3⟩ := (BX1.out.below hb' BX1.out.lt).all
    clear hw'
    go_simp
    try rfl
  conv => arg 9; simp only [Act.put, List.setIfInBounds_toArray, List.set_cons_succ, List.set_cons_zero]
  refine wpF_specG (by rfl) rfl (fun w' hw' => ?_) ?_
  · have hb' := hw'.world
    go_simp
    have CT := subA (N2.out.below hb').any Bz2.out (N1.out.below hb').any Bz1.out
    rw [show z2 - z1 = zba by rw [Hzba.out] <;> omega] at CT
    refine CT.mono ?_
    rintro e w'' ⟨za, zb, rfl, ho, hb⟩
    exact ⟨_, rfl, ⟨⟨za, zb, rfl⟩, ⟨za, zb, rfl, ho.mono hb'.size⟩⟩, hb⟩
  rintro _ ⟨y24, rfl⟩
  conv => arg 9; simp only [Act.put, List.setIfInBounds_toArray, List.set_cons_succ, List.set_cons_zero]
  refine wpF_readsG (by rfl) rfl ?_ (fun w' hw' => ?_) ?_
  rotate_left
  · have hb' := hw'.world
    obtain ⟨k0, k1, k2, k3⟩ := (BX2.out.below hb' BX2.out.lt).all
    clear hw'
    go_simp
    try rfl
  conv => arg 9; simp only [Act.put, List.setIfInBounds_toArray, List.set_cons_succ, List.set_cons_zero]
  refine wpF_readsG (by rfl) rfl ?_ (fun w' hw' => ?_) ?_
  rotate_left
  · have hb' := hw'.world
    obtain ⟨k0, k1, k2, k3⟩ := (BX3.out.below hb' BX3.out.lt).all
    clear hw'
    go_simp
    try rfl
  conv => arg 9; simp only [Act.put, List.setIfInBounds_toArray, List.set_cons_succ, List.set_cons_zero]
  refine wpF_specG (by rfl) rfl (fun w' hw' => ?_) ?_
  · have hb' := hw'.world
    go_simp
    have CT := addA (N2.out.below hb').any Bz2.out (N3.out.below hb').any Bzn.out
    rw [show z2 + zn = zba by rw [Hzba.out, Hzn.out] <;> omega] at CT
    refine CT.mono ?_
    rintro e w'' ⟨za, zb, rfl, ho, hb⟩
    exact ⟨_, rfl, ⟨⟨za, zb, rfl⟩, ⟨za, zb, rfl, ho.mono hb'.size⟩⟩, hb⟩
  rintro _ ⟨y27, rfl⟩
  conv => arg 9; simp only [Act.put, List.setIfInBounds_toArray, List.set_cons_succ, List.set_cons_zero]
  refine wpF_specG (by rfl) rfl (fun w' hw' => ?_) ?_
  · have hb' := hw'.world
    go_simp
    have f24 := numO_of (x := y24) (z := zba) (hw'.fact 24 (by kernel_rfl))
    have f27 := numO_of (x := y27) (z := zba) (hw'.fact 27 (by kernel_rfl))
    have CT := sameT f24.r Bzba.out f27.r Bzba.out rfl
    refine CT.mono ?_
    rintro e w'' ⟨rfl, hb⟩
    exact ⟨_, rfl, rfl, hb⟩
  rintro _ rfl
  conv => arg 9; simp only [Act.put, List.setIfInBounds_toArray, List.set_cons_succ, List.set_cons_zero]
  refine wpF_reads rfl rfl ?_ (fun w' hw' => ?_) ?_
  rotate_left
  · have hb' := hw'.world
    skip
    clear hw'
    go_simp
    try rfl
  conv => arg 9; simp only [Act.put, List.setIfInBounds_toArray, List.set_cons_succ, List.set_cons_zero]
  refine wpF_reads rfl rfl ?_ (fun w' hw' => ?_) ?_
  rotate_left
  · have hb' := hw'.world
    skip
    clear hw'
    go_simp
    try rfl
  conv => arg 9; simp only [Act.put, List.setIfInBounds_toArray, List.set_cons_succ, List.set_cons_zero]
  refine wpF_readsG (by rfl) rfl ?_ (fun w' hw' => ?_) ?_
  rotate_left
  · have hb' := hw'.world
    obtain ⟨k0, k1, k2, k3⟩ := (BX3.out.below hb' BX3.out.lt).all
    clear hw'
    go_simp
    try rfl
  conv => arg 9; simp only [Act.put, List.setIfInBounds_toArray, List.set_cons_succ, List.set_cons_zero]
  refine wpF_specG (by rfl) rfl (fun w' hw' => ?_) ?_
  · have hb' := hw'.world
    go_simp
    have CT := signA (N3.out.below hb').any Bzn.out
    rw [show cmpZ zn 0 = (-sa) by rw [Hzn.out, Hsa.out]; exact cmpZ_negz z1] at CT
    refine CT.mono ?_
    rintro e w'' ⟨rfl, hb⟩
    exact ⟨_, rfl, rfl, hb⟩
  rintro _ rfl
  conv => arg 9; simp only [Act.put, List.setIfInBounds_toArray, List.set_cons_succ, List.set_cons_zero]
  refine wpF_readsG (by rfl) rfl ?_ (fun w' hw' => ?_) ?_
  rotate_left
  · have hb' := hw'.world
    obtain ⟨k0, k1, k2, k3⟩ := (BX1.out.below hb' BX1.out.lt).all
    clear hw'
    go_simp
    try rfl
  conv => arg 9; simp only [Act.put, List.setIfInBounds_toArray, List.set_cons_succ, List.set_cons_zero]
  refine wpF_specG (by rfl) rfl (fun w' hw' => ?_) ?_
  · have hb' := hw'.world
    go_simp
    have CT := signA (N1.out.below hb').any Bz1.out
    rw [show cmpZ z1 0 = sa by exact Hsa.out.symm] at CT
    refine CT.mono ?_
    rintro e w'' ⟨rfl, hb⟩
    exact ⟨_, rfl, rfl, hb⟩
  rintro _ rfl
  conv => arg 9; simp only [Act.put, List.setIfInBounds_toArray, List.set_cons_succ, List.set_cons_zero]
  refine wpF_readsG (by rfl) rfl ?_ (fun w' hw' => ?_) ?_
  rotate_left
  · have hb' := hw'.world
    have ew := HW1.out
    clear hw'
    go_simp
    try rfl
  conv => arg 9; simp only [Act.put, List.setIfInBounds_toArray, List.set_cons_succ, List.set_cons_zero]
  refine wpF_readsG (by rfl) rfl ?_ (fun w' hw' => ?_) ?_
  rotate_left
  · have hb' := hw'.world
    skip
    clear hw'
    go_simp
    try rfl
  conv => arg 9; simp only [Act.put, List.setIfInBounds_toArray, List.set_cons_succ, List.set_cons_zero]
  refine wpF_reads rfl rfl ?_ (fun w' hw' => ?_) ?_
  rotate_left
  · have hb' := hw'.world
    skip
    clear hw'
    go_simp
    try rfl
  conv => arg 9; simp only [Act.put, List.setIfInBounds_toArray, List.set_cons_succ, List.set_cons_zero]
  refine wpF_reads rfl rfl ?_ (fun w' hw' => ?_) ?_
  rotate_left
  · have hb' := hw'.world
    skip
    clear hw'
    go_simp
    try rfl
  conv => arg 9; simp only [Act.put, List.setIfInBounds_toArray, List.set_cons_succ, List.set_cons_zero]
  refine wpF_readsG (by rfl) rfl ?_ (fun w' hw' => ?_) ?_
  rotate_left
  · have hb' := hw'.world
    obtain ⟨k0, k1, k2, k3⟩ := (BX1.out.below hb' BX1.out.lt).all
    clear hw'
    go_simp
    try rfl
  conv => arg 9; simp only [Act.put, List.setIfInBounds_toArray, List.set_cons_succ, List.set_cons_zero]
  refine wpF_readsG (by rfl) rfl ?_ (fun w' hw' => ?_) ?_
  rotate_left
  · have hb' := hw'.world
    obtain ⟨k0, k1, k2, k3⟩ := (BX2.out.below hb' BX2.out.lt).all
    clear hw'
    go_simp
    try rfl
  conv => arg 9; simp only [Act.put, List.setIfInBounds_toArray, List.set_cons_succ, List.set_cons_zero]
  refine wpF_specG (by rfl) rfl (fun w' hw' => ?_) ?_
  · have hb' := hw'.world
    go_simp
    have CT := mulA (N1.out.below hb').any Bz1.out (N2.out.below hb').any Bz2.out
    rw [show z1 * z2 = zm by rw [Hzm.out] <;> omega] at CT
    refine CT.mono ?_
    rintro e w'' ⟨za, zb, rfl, ho, hb⟩
    exact ⟨_, rfl, ⟨⟨za, zb, rfl⟩, ⟨za, zb, rfl, ho.mono hb'.size⟩⟩, hb⟩
  rintro _ ⟨y41, rfl⟩
  conv => arg 9; simp only [Act.put, List.setIfInBounds_toArray, List.set_cons_succ, List.set_cons_zero]
  refine wpF_specG (by rfl) rfl (fun w' hw' => ?_) ?_
  · have hb' := hw'.world
    go_simp
    have f41 := numO_of (x := y41) (z := zm) (hw'.fact 41 (by kernel_rfl))
    have CT := signA f41.any Bzm.out
    rw [show cmpZ zm 0 = (sa * sb) by rw [Hzm.out, Hsa.out, Hsb.out]; exact cmpZ_mulz z1 z2] at CT
    refine CT.mono ?_
    rintro e w'' ⟨rfl, hb⟩
    exact ⟨_, rfl, rfl, hb⟩
  rintro _ rfl
  conv => arg 9; simp only [Act.put, List.setIfInBounds_toArray, List.set_cons_succ, List.set_cons_zero]
  refine wpF_readsG (by rfl) rfl ?_ (fun w' hw' => ?_) ?_
  rotate_left
  · have hb' := hw'.world
    obtain ⟨k0, k1, k2, k3⟩ := (BX1.out.below hb' BX1.out.lt).all
    clear hw'
    go_simp
    try rfl
  conv => arg 9; simp only [Act.put, List.setIfInBounds_toArray, List.set_cons_succ, List.set_cons_zero]
  refine wpF_specG (by rfl) rfl (fun w' hw' => ?_) ?_
  · have hb' := hw'.world
    go_simp
    have CT := signA (N1.out.below hb').any Bz1.out
    rw [show cmpZ z1 0 = sa by exact Hsa.out.symm] at CT
    refine CT.mono ?_
    rintro e w'' ⟨rfl, hb⟩
    exact ⟨_, rfl, rfl, hb⟩
  rintro _ rfl
  conv => arg 9; simp only [Act.put, List.setIfInBounds_toArray, List.set_cons_succ, List.set_cons_zero]
  refine wpF_readsG (by rfl) rfl ?_ (fun w' hw' => ?_) ?_
  rotate_left
  · have hb' := hw'.world
    obtain ⟨k0, k1, k2, k3⟩ := (BX2.out.below hb' BX2.out.lt).all
    clear hw'
    go_simp
    try rfl
  conv => arg 9; simp only [Act.put, List.setIfInBounds_toArray, List.set_cons_succ, List.set_cons_zero]
  refine wpF_specG (by rfl) rfl (fun w' hw' => ?_) ?_
  · have hb' := hw'.world
    go_simp
    have CT := signA (N2.out.below hb').any Bz2.out
    rw [show cmpZ z2 0 = sb by exact Hsb.out.symm] at CT
    refine CT.mono ?_
    rintro e w'' ⟨rfl, hb⟩
    exact ⟨_, rfl, rfl, hb⟩
  rintro _ rfl
  conv => arg 9; simp only [Act.put, List.setIfInBounds_toArray, List.set_cons_succ, List.set_cons_zero]
  refine wpF_readsG (by rfl) rfl ?_ (fun w' hw' => ?_) ?_
  rotate_left
  · have hb' := hw'.world
    have ew := HW2.out
    clear hw'
    go_simp
    try rfl
  conv => arg 9; simp only [Act.put, List.setIfInBounds_toArray, List.set_cons_succ, List.set_cons_zero]
  refine wpF_readsG (by rfl) rfl ?_ (fun w' hw' => ?_) ?_
  rotate_left
  · have hb' := hw'.world
    skip
    clear hw'
    go_simp
    try rfl
  conv => arg 9; simp only [Act.put, List.setIfInBounds_toArray, List.set_cons_succ, List.set_cons_zero]
  refine wpF_reads rfl rfl ?_ (fun w' hw' => ?_) ?_
  rotate_left
  · have hb' := hw'.world
    skip
    clear hw'
    go_simp
    try rfl
  conv => arg 9; simp only [Act.put, List.setIfInBounds_toArray, List.set_cons_succ, List.set_cons_zero]
  refine wpF_reads rfl rfl ?_ (fun w' hw' => ?_) ?_
  rotate_left
  · have hb' := hw'.world
    skip
    clear hw'
    go_simp
    try rfl
  conv => arg 9; simp only [Act.put, List.setIfInBounds_toArray, List.set_cons_succ, List.set_cons_zero]
  refine wpF_readsG (by rfl) rfl ?_ (fun w' hw' => ?_) ?_
  rotate_left
  · have hb' := hw'.world
    obtain ⟨k0, k1, k2, k3⟩ := (BX3.out.below hb' BX3.out.lt).all
    clear hw'
    go_simp
    try rfl
  conv => arg 9; simp only [Act.put, List.setIfInBounds_toArray, List.set_cons_succ, List.set_cons_zero]
  refine wpF_readsG (by rfl) rfl ?_ (fun w' hw' => ?_) ?_
  rotate_left
  · have hb' := hw'.world
    obtain ⟨k0, k1, k2, k3⟩ := (BX2.out.below hb' BX2.out.lt).all
    clear hw'
    go_simp
    try rfl
  conv => arg 9; simp only [Act.put, List.setIfInBounds_toArray, List.set_cons_succ, List.set_cons_zero]
  refine wpF_specG (by rfl) rfl (fun w' hw' => ?_) ?_
  · have hb' := hw'.world
    go_simp
    have CT := mulA (N3.out.below hb').any Bzn.out (N2.out.below hb').any Bz2.out
    rw [show zn * z2 = znm by rw [Hznm.out, Hzn.out]; exact Int.neg_mul _ _] at CT
    refine CT.mono ?_
    rintro e w'' ⟨za, zb, rfl, ho, hb⟩
    exact ⟨_, rfl, ⟨⟨za, zb, rfl⟩, ⟨za, zb, rfl, ho.mono hb'.size⟩⟩, hb⟩
  rintro _ ⟨y53, rfl⟩
  conv => arg 9; simp only [Act.put, List.setIfInBounds_toArray, List.set_cons_succ, List.set_cons_zero]
  refine wpF_readsG (by rfl) rfl ?_ (fun w' hw' => ?_) ?_
  rotate_left
  · have hb' := hw'.world
    obtain ⟨k0, k1, k2, k3⟩ := (BX1.out.below hb' BX1.out.lt).all
    clear hw'
    go_simp
    try rfl
  conv => arg 9; simp only [Act.put, List.setIfInBounds_toArray, List.set_cons_succ, List.set_cons_zero]
  refine wpF_readsG (by rfl) rfl ?_ (fun w' hw' => ?_) ?_
  rotate_left
  · have hb' := hw'.world
    obtain ⟨k0, k1, k2, k3⟩ := (BX2.out.below hb' BX2.out.lt).all
    clear hw'
    go_simp
    try rfl
  conv => arg 9; simp only [Act.put, List.setIfInBounds_toArray, List.set_cons_succ, List.set_cons_zero]
  refine wpF_specG (by rfl) rfl (fun w' hw' => ?_) ?_
  · have hb' := hw'.world
    go_simp
    have CT := mulA (N1.out.below hb').any Bz1.out (N2.out.below hb').any Bz2.out
    rw [show z1 * z2 = zm by rw [Hzm.out] <;> omega] at CT
    refine CT.mono ?_
    rintro e w'' ⟨za, zb, rfl, ho, hb⟩
    exact ⟨_, rfl, ⟨⟨za, zb, rfl⟩, ⟨za, zb, rfl, ho.mono hb'.size⟩⟩, hb⟩
  rintro _ ⟨y56, rfl⟩
  conv => arg 9; simp only [Act.put, List.setIfInBounds_toArray, List.set_cons_succ, List.set_cons_zero]
  refine wpF_specG (by rfl) rfl (fun w' hw' => ?_) ?_
  · have hb' := hw'.world
    go_simp
    have f56 := numO_of (x := y56) (z := zm) (hw'.fact 56 (by kernel_rfl))
    have CT := negA f56.any Bzm.out
    rw [show -zm = znm by rw [Hznm.out, Hzm.out]] at CT
    refine CT.mono ?_
    rintro e w'' ⟨za, zb, rfl, ho, hb⟩
    exact ⟨_, rfl, ⟨⟨za, zb, rfl⟩, ⟨za, zb, rfl, ho.mono hb'.size⟩⟩, hb⟩
  rintro _ ⟨y57, rfl⟩
  conv => arg 9; simp only [Act.put, List.setIfInBounds_toArray, List.set_cons_succ, List.set_cons_zero]
  refine wpF_specG (by rfl) rfl (fun w' hw' => ?_) ?_
  · have hb' := hw'.world
    go_simp
    have f53 := numO_of (x := y53) (z := znm) (hw'.fact 53 (by kernel_rfl))
    have f57 := numO_of (x := y57) (z := znm) (hw'.fact 57 (by kernel_rfl))
    have CT := sameT f53.r Bznm.out f57.r Bznm.out rfl
    refine CT.mono ?_
    rintro e w'' ⟨rfl, hb⟩
    exact ⟨_, rfl, rfl, hb⟩
  rintro _ rfl
  conv => arg 9; simp only [Act.put, List.setIfInBounds_toArray, List.set_cons_succ, List.set_cons_zero]
  refine wpF_reads rfl rfl ?_ (fun w' hw' => ?_) ?_
  rotate_left
  · have hb' := hw'.world
    skip
    clear hw'
    go_simp
    try rfl
  conv => arg 9; simp only [Act.put, List.setIfInBounds_toArray, List.set_cons_succ, List.set_cons_zero]
  refine wpF_reads rfl rfl ?_ (fun w' hw' => ?_) ?_
  rotate_left
  · have hb' := hw'.world
    skip
    clear hw'
    go_simp
    try rfl
  conv => arg 9; simp only [Act.put, List.setIfInBounds_toArray, List.set_cons_succ, List.set_cons_zero]
  refine wpF_readsG (by rfl) rfl ?_ (fun w' hw' => ?_) ?_
  rotate_left
  · have hb' := hw'.world
    obtain ⟨k0, k1, k2, k3⟩ := (BX1.out.below hb' BX1.out.lt).all
    clear hw'
    go_simp
    try rfl
  conv => arg 9; simp only [Act.put, List.setIfInBounds_toArray, List.set_cons_succ, List.set_cons_zero]
  refine wpF_readsG (by rfl) rfl ?_ (fun w' hw' => ?_) ?_
  rotate_left
  · have hb' := hw'.world
    obtain ⟨k0, k1, k2, k3⟩ := (BX2.out.below hb' BX2.out.lt).all
    clear hw'
    go_simp
    try rfl
  conv => arg 9; simp only [Act.put, List.setIfInBounds_toArray, List.set_cons_succ, List.set_cons_zero]
  refine wpF_specG (by rfl) rfl (fun w' hw' => ?_) ?_
  · have hb' := hw'.world
    go_simp
    have CT := cmpA (N1.out.below hb').any Bz1.out (N2.out.below hb').any Bz2.out
    rw [show cmpZ z1 z2 = cab by exact Hcab.out.symm] at CT
    refine CT.mono ?_
    rintro e w'' ⟨rfl, hb⟩
    exact ⟨_, rfl, rfl, hb⟩
  rintro _ rfl
  conv => arg 9; simp only [Act.put, List.setIfInBounds_toArray, List.set_cons_succ, List.set_cons_zero]
  refine wpF_readsG (by rfl) rfl ?_ (fun w' hw' => ?_) ?_
  rotate_left
  · have hb' := hw'.world
    obtain ⟨k0, k1, k2, k3⟩ := (BX1.out.below hb' BX1.out.lt).all
    clear hw'
    go_simp
    try rfl
  conv => arg 9; simp only [Act.put, List.setIfInBounds_toArray, List.set_cons_succ, List.set_cons_zero]
  refine wpF_readsG (by rfl) rfl ?_ (fun w' hw' => ?_) ?_
  rotate_left
  · have hb' := hw'.world
    obtain ⟨k0, k1, k2, k3⟩ := (BX2.out.below hb' BX2.out.lt).all
    clear hw'
    go_simp
    try rfl
  conv => arg 9; simp only [Act.put, List.setIfInBounds_toArray, List.set_cons_succ, List.set_cons_zero]
  refine wpF_specG (by rfl) rfl (fun w' hw' => ?_) ?_
  · have hb' := hw'.world
    go_simp
    have CT := subA (N1.out.below hb').any Bz1.out (N2.out.below hb').any Bz2.out
    rw [show z1 - z2 = zd by rw [Hzd.out] <;> omega] at CT
    refine CT.mono ?_
    rintro e w'' ⟨za, zb, rfl, ho, hb⟩
    exact ⟨_, rfl, ⟨⟨za, zb, rfl⟩, ⟨za, zb, rfl, ho.mono hb'.size⟩⟩, hb⟩
  rintro _ ⟨y66, rfl⟩
  conv => arg 9; simp only [Act.put, List.setIfInBounds_toArray, List.set_cons_succ, List.set_cons_zero]
  refine wpF_specG (by rfl) rfl (fun w' hw' => ?_) ?_
  · have hb' := hw'.world
    go_simp
    have f66 := numO_of (x := y66) (z := zd) (hw'.fact 66 (by kernel_rfl))
    have CT := signA f66.any Bzd.out
    rw [show cmpZ zd 0 = cab by rw [Hzd.out, Hcab.out]; exact cmpZ_subz z1 z2] at CT
    refine CT.mono ?_
    rintro e w'' ⟨rfl, hb⟩
    exact ⟨_, rfl, rfl, hb⟩
  rintro _ rfl
  conv => arg 9; simp only [Act.put, List.setIfInBounds_toArray, List.set_cons_succ, List.set_cons_zero]
  refine wpF_readsG (by rfl) rfl ?_ (fun w' hw' => ?_) ?_
  rotate_left
  · have hb' := hw'.world
    skip
    clear hw'
    go_simp
    try rfl
  conv => arg 9; simp only [Act.put, List.setIfInBounds_toArray, List.set_cons_succ, List.set_cons_zero]
  refine wpF_reads rfl rfl ?_ (fun w' hw' => ?_) ?_
  rotate_left
  · have hb' := hw'.world
    skip
    clear hw'
    go_simp
    try rfl
  conv => arg 9; simp only [Act.put, List.setIfInBounds_toArray, List.set_cons_succ, List.set_cons_zero]
  refine wpF_reads rfl rfl ?_ (fun w' hw' => ?_) ?_
  rotate_left
  · have hb' := hw'.world
    skip
    clear hw'
    go_simp
    try rfl
  conv => arg 9; simp only [Act.put, List.setIfInBounds_toArray, List.set_cons_succ, List.set_cons_zero]
  refine wpF_readsG (by rfl) rfl ?_ (fun w' hw' => ?_) ?_
  rotate_left
  · have hb' := hw'.world
    obtain ⟨k0, k1, k2, k3⟩ := (BX1.out.below hb' BX1.out.lt).all
    clear hw'
    go_simp
    try rfl
  conv => arg 9; simp only [Act.put, List.setIfInBounds_toArray, List.set_cons_succ, List.set_cons_zero]
  refine wpF_readsG (by rfl) rfl ?_ (fun w' hw' => ?_) ?_
  rotate_left
  · have hb' := hw'.world
    obtain ⟨k0, k1, k2, k3⟩ := (BX2.out.below hb' BX2.out.lt).all
    clear hw'
    go_simp
    try rfl
  conv => arg 9; simp only [Act.put, List.setIfInBounds_toArray, List.set_cons_succ, List.set_cons_zero]
  refine wpF_specG (by rfl) rfl (fun w' hw' => ?_) ?_
  · have hb' := hw'.world
    go_simp
    have CT := cmpA (N1.out.below hb').any Bz1.out (N2.out.below hb').any Bz2.out
    rw [show cmpZ z1 z2 = cab by exact Hcab.out.symm] at CT
    refine CT.mono ?_
    rintro e w'' ⟨rfl, hb⟩
    exact ⟨_, rfl, rfl, hb⟩
  rintro _ rfl
  conv => arg 9; simp only [Act.put, List.setIfInBounds_toArray, List.set_cons_succ, List.set_cons_zero]
  refine wpF_readsG (by rfl) rfl ?_ (fun w' hw' => ?_) ?_
  rotate_left
  · have hb' := hw'.world
    have q := HQ.out
    clear hw'
    go_simp
    try rfl
  conv => arg 9; simp only [Act.put, List.setIfInBounds_toArray, List.set_cons_succ, List.set_cons_zero]
  refine wpF_readsG (by rfl) rfl ?_ (fun w' hw' => ?_) ?_
  rotate_left
  · have hb' := hw'.world
    obtain ⟨k0, k1, k2, k3⟩ := (BX1.out.below hb' BX1.out.lt).all
    clear hw'
    go_simp
    try rfl
  conv => arg 9; simp only [Act.put, List.setIfInBounds_toArray, List.set_cons_succ, List.set_cons_zero]
  refine wpF_readsG (by rfl) rfl ?_ (fun w' hw' => ?_) ?_
  rotate_left
  · have hb' := hw'.world
    obtain ⟨k0, k1, k2, k3⟩ := (BX2.out.below hb' BX2.out.lt).all
    clear hw'
    go_simp
    try rfl
  conv => arg 9; simp only [Act.put, List.setIfInBounds_toArray, List.set_cons_succ, List.set_cons_zero]
  refine wpF_specG (by rfl) rfl (fun w' hw' => ?_) ?_
  · have hb' := hw'.world
    go_simp
    have CT := sameC (N1.out.below hb') Bz1.out (N2.out.below hb') Bz2.out
    rw [← Hqb.out] at CT
    refine CT.mono ?_
    rintro e w'' ⟨rfl, hb⟩
    exact ⟨_, rfl, rfl, hb⟩
  rintro _ rfl
  conv => arg 9; simp only [Act.put, List.setIfInBounds_toArray, List.set_cons_succ, List.set_cons_zero]
  refine wpF_readsG (by rfl) rfl ?_ (fun w' hw' => ?_) ?_
  rotate_left
  · have hb' := hw'.world
    skip
    clear hw'
    go_simp
    try rfl
  conv => arg 9; simp only [Act.put, List.setIfInBounds_toArray, List.set_cons_succ, List.set_cons_zero]
  refine wpF_reads rfl rfl ?_ (fun w' hw' => ?_) ?_
  rotate_left
  · have hb' := hw'.world
    skip
    clear hw'
    go_simp
    try rfl
  conv => arg 9; simp only [Act.put, List.setIfInBounds_toArray, List.set_cons_succ, List.set_cons_zero]
  refine wpF_nil (fun w8 hb hF => ?_)
  have KG := Lib.hid (KG.out.trans (hb.mono KG.out.size))
  clear hF hb
  go_wp2_with fail
  go_ret
  exact ⟨rfl, KG.out⟩

set_option maxRecDepth 100000 in
set_option maxHeartbeats 8000000 in
theorem limbsUndone_law (s1 : Bool) (a1 : Option Addr) (n1 c1 : Nat) (o1 : Nat → Int) (s2 : Bool) (a2 : Option Addr) (n2 c2 : Nat) (o2 : Nat → Int) (w : World) (htab : Tab w)
    (h1 : Rd w a1 n1 o1) (hc1 : n1 ≤ c1) (h2 : Rd w a2 n2 o2) (hc2 : n2 ≤ c2) :
    Calls Tryz.prog 10 #[numV s1 a1 n1 c1, numV s2 a2 n2 c2] w fun e w' => e = .returned (.bool true) ∧ Below w.heap.size w w' := by
  by_cases g0 : 200 < n1 ∨ 200 < n2
  · skip
    have HT := Lib.hid htab
    have KG := Lib.hid (Below.refl w.heap.size w)
    have R1 := Lib.hid h1
    have R2 := Lib.hid h2
    clear htab h1 hc1 h2 hc2
    go_enter Tryz.func10, Tryz.ntmps10
    go_upto_region 1 with (fail)
    obtain ⟨v1, hV⟩ : ∃ V, V = (w.alloc (.cells #[.bool s1, .slice a1 n1 c1] 24)).alloc (.cells #[.bool s2, .slice a2 n2 c2] 24) := ⟨_, rfl⟩
    have hbV : Below w.heap.size w v1 := by rw [hV]; exact (((Below.refl _ _).alloc (Nat.le_refl _) _).alloc (by go_size) _)
    have BX1 := Lib.hid (show Bx v1 (w.heap.size) 24 (.bool s1) (.slice a1 n1 c1) by rw [hV]; exact (Bx.new w _ _ _).alloc _)
    have BX2 := Lib.hid (show Bx v1 (w.heap.size + 1) 24 (.bool s2) (.slice a2 n2 c2) by rw [hV]; exact Bx.new2 w _ _ _ _)
    rw [show (w.alloc (.cells #[.bool s1, .slice a1 n1 c1] 24)).alloc (.cells #[.bool s2, .slice a2 n2 c2] 24) = v1 from hV.symm]
    have R1 := Lib.hid (R1.out.below hbV)
    have R2 := Lib.hid (R2.out.below hbV)
    have KG := Lib.hid (KG.out.trans (hbV.mono KG.out.size))
    clear hV hbV
    go_wp2_with fail
    have CT := Lib.hid (alive_true v1 (HT.out.on KG.out))
    with_reducible refine CT.out.mono ?_
    rintro e w2 ⟨rfl, hb⟩
    clear CT
    have R1 := Lib.hid (R1.out.below hb)
    have R2 := Lib.hid (R2.out.below hb)
    have BX1 := Lib.hid (BX1.out.below hb BX1.out.lt)
    have BX2 := Lib.hid (BX2.out.below hb BX2.out.lt)
    have KG := Lib.hid (KG.out.trans (hb.mono KG.out.size))
    clear hb
    obtain ⟨xBX10, xBX11, xBX12, xBX13⟩ := BX1.out.all
    obtain ⟨xBX20, xBX21, xBX22, xBX23⟩ := BX2.out.all
    go_wp2_with fail
    have GR := Lib.hid (great_2 200 s1 s2 a1 a2 n1 c1 n2 c2 w2)
    rw [decide_eq_true g0] at GR
    refine GR.out.mono ?_
    rintro e wg ⟨rfl, rfl⟩
    clear xBX10 xBX11 xBX12 xBX13
    clear xBX20 xBX21 xBX22 xBX23
    clear GR
    obtain ⟨v3, hV⟩ : ∃ V, V = w2.alloc (.cells #[.bool s1, .slice a1 n1 c1, .bool s2, .slice a2 n2 c2] 24) := ⟨_, rfl⟩
    have hbV : Below w2.heap.size w2 v3 := by rw [hV]; exact ((Below.refl _ _).alloc (Nat.le_refl _) _)
    rw [show w2.alloc (.cells #[.bool s1, .slice a1 n1 c1, .bool s2, .slice a2 n2 c2] 24) = v3 from hV.symm]
    have R1 := Lib.hid (R1.out.below hbV)
    have R2 := Lib.hid (R2.out.below hbV)
    have BX1 := Lib.hid (BX1.out.below hbV BX1.out.lt)
    have BX2 := Lib.hid (BX2.out.below hbV BX2.out.lt)
    have KG := Lib.hid (KG.out.trans (hbV.mono KG.out.size))
    clear hV hbV
    go_wp2_with fail
    have CT := Lib.hid (alive_true v3 (HT.out.on KG.out))
    with_reducible refine CT.out.mono ?_
    rintro e w4 ⟨rfl, hb⟩
    clear CT
    have R1 := Lib.hid (R1.out.below hb)
    have R2 := Lib.hid (R2.out.below hb)
    have BX1 := Lib.hid (BX1.out.below hb BX1.out.lt)
    have BX2 := Lib.hid (BX2.out.below hb BX2.out.lt)
    have KG := Lib.hid (KG.out.trans (hb.mono KG.out.size))
    clear hb
    go_wp2_with fail
    go_ret
    exact ⟨rfl, KG.out⟩
  by_cases g1 : ¬ okN s1 n1 o1
  · skip
    have HT := Lib.hid htab
    have KG := Lib.hid (Below.refl w.heap.size w)
    have R1 := Lib.hid h1
    have R2 := Lib.hid h2
    have HG0 := Lib.hid g0
    clear g0
    have HG1 := Lib.hid g1
    clear g1
    clear htab h1 hc1 h2 hc2
    go_enter Tryz.func10, Tryz.ntmps10
    go_upto_region 1 with (fail)
    obtain ⟨v1, hV⟩ : ∃ V, V = (w.alloc (.cells #[.bool s1, .slice a1 n1 c1] 24)).alloc (.cells #[.bool s2, .slice a2 n2 c2] 24) := ⟨_, rfl⟩
    have hbV : Below w.heap.size w v1 := by rw [hV]; exact (((Below.refl _ _).alloc (Nat.le_refl _) _).alloc (by go_size) _)
    have BX1 := Lib.hid (show Bx v1 (w.heap.size) 24 (.bool s1) (.slice a1 n1 c1) by rw [hV]; exact (Bx.new w _ _ _).alloc _)
    have BX2 := Lib.hid (show Bx v1 (w.heap.size + 1) 24 (.bool s2) (.slice a2 n2 c2) by rw [hV]; exact Bx.new2 w _ _ _ _)
    rw [show (w.alloc (.cells #[.bool s1, .slice a1 n1 c1] 24)).alloc (.cells #[.bool s2, .slice a2 n2 c2] 24) = v1 from hV.symm]
    have R1 := Lib.hid (R1.out.below hbV)
    have R2 := Lib.hid (R2.out.below hbV)
    have KG := Lib.hid (KG.out.trans (hbV.mono KG.out.size))
    clear hV hbV
    go_wp2_with fail
    have CT := Lib.hid (alive_true v1 (HT.out.on KG.out))
    with_reducible refine CT.out.mono ?_
    rintro e w2 ⟨rfl, hb⟩
    clear CT
    have R1 := Lib.hid (R1.out.below hb)
    have R2 := Lib.hid (R2.out.below hb)
    have BX1 := Lib.hid (BX1.out.below hb BX1.out.lt)
    have BX2 := Lib.hid (BX2.out.below hb BX2.out.lt)
    have KG := Lib.hid (KG.out.trans (hb.mono KG.out.size))
    clear hb
    obtain ⟨xBX10, xBX11, xBX12, xBX13⟩ := BX1.out.all
    obtain ⟨xBX20, xBX21, xBX22, xBX23⟩ := BX2.out.all
    go_wp2_with fail
    have GR := Lib.hid (great_2 200 s1 s2 a1 a2 n1 c1 n2 c2 w2)
    rw [decide_eq_false HG0.out] at GR
    refine GR.out.mono ?_
    rintro e wg ⟨rfl, rfl⟩
    clear xBX10 xBX11 xBX12 xBX13
    clear xBX20 xBX21 xBX22 xBX23
    clear GR
    obtain ⟨v3, hV⟩ : ∃ V, V = w2.alloc (.cells #[.bool s1, .slice a1 n1 c1, .bool s2, .slice a2 n2 c2] 24) := ⟨_, rfl⟩
    have hbV : Below w2.heap.size w2 v3 := by rw [hV]; exact ((Below.refl _ _).alloc (Nat.le_refl _) _)
    rw [show w2.alloc (.cells #[.bool s1, .slice a1 n1 c1, .bool s2, .slice a2 n2 c2] 24) = v3 from hV.symm]
    have R1 := Lib.hid (R1.out.below hbV)
    have R2 := Lib.hid (R2.out.below hbV)
    have BX1 := Lib.hid (BX1.out.below hbV BX1.out.lt)
    have BX2 := Lib.hid (BX2.out.below hbV BX2.out.lt)
    have KG := Lib.hid (KG.out.trans (hbV.mono KG.out.size))
    clear hV hbV
    obtain ⟨xBX10, xBX11, xBX12, xBX13⟩ := BX1.out.all
    go_wp2_with fail
    have CT := Lib.hid (badC s1 a1 n1 c1 o1 v3 R1.out (by have := HG0.out; omega) HG1.out)
    with_reducible refine CT.out.mono ?_
    rintro e w4 ⟨rfl, hb⟩
    clear CT
    clear xBX10 xBX11 xBX12 xBX13
    have R1 := Lib.hid (R1.out.below hb)
    have R2 := Lib.hid (R2.out.below hb)
    have BX1 := Lib.hid (BX1.out.below hb BX1.out.lt)
    have BX2 := Lib.hid (BX2.out.below hb BX2.out.lt)
    have KG := Lib.hid (KG.out.trans (hb.mono KG.out.size))
    clear hb
    go_wp2_with fail
    have CT := Lib.hid (alive_true w4 (HT.out.on KG.out))
    with_reducible refine CT.out.mono ?_
    rintro e w5 ⟨rfl, hb⟩
    clear CT
    have R1 := Lib.hid (R1.out.below hb)
    have R2 := Lib.hid (R2.out.below hb)
    have BX1 := Lib.hid (BX1.out.below hb BX1.out.lt)
    have BX2 := Lib.hid (BX2.out.below hb BX2.out.lt)
    have KG := Lib.hid (KG.out.trans (hb.mono KG.out.size))
    clear hb
    go_wp2_with fail
    go_ret
    exact ⟨rfl, KG.out⟩
  have g1 := Classical.not_not.1 g1
  by_cases g2 : ¬ okN s2 n2 o2
  · skip
    have HT := Lib.hid htab
    have KG := Lib.hid (Below.refl w.heap.size w)
    have R1 := Lib.hid h1
    have R2 := Lib.hid h2
    have HG0 := Lib.hid g0
    clear g0
    have HG1 := Lib.hid g1
    clear g1
    have HG2 := Lib.hid g2
    clear g2
    clear htab h1 hc1 h2 hc2
    go_enter Tryz.func10, Tryz.ntmps10
    go_upto_region 1 with (fail)
    obtain ⟨v1, hV⟩ : ∃ V, V = (w.alloc (.cells #[.bool s1, .slice a1 n1 c1] 24)).alloc (.cells #[.bool s2, .slice a2 n2 c2] 24) := ⟨_, rfl⟩
    have hbV : Below w.heap.size w v1 := by rw [hV]; exact (((Below.refl _ _).alloc (Nat.le_refl _) _).alloc (by go_size) _)
    have BX1 := Lib.hid (show Bx v1 (w.heap.size) 24 (.bool s1) (.slice a1 n1 c1) by rw [hV]; exact (Bx.new w _ _ _).alloc _)
    have BX2 := Lib.hid (show Bx v1 (w.heap.size + 1) 24 (.bool s2) (.slice a2 n2 c2) by rw [hV]; exact Bx.new2 w _ _ _ _)
    rw [show (w.alloc (.cells #[.bool s1, .slice a1 n1 c1] 24)).alloc (.cells #[.bool s2, .slice a2 n2 c2] 24) = v1 from hV.symm]
    have R1 := Lib.hid (R1.out.below hbV)
    have R2 := Lib.hid (R2.out.below hbV)
    have KG := Lib.hid (KG.out.trans (hbV.mono KG.out.size))
    clear hV hbV
    go_wp2_with fail
    have CT := Lib.hid (alive_true v1 (HT.out.on KG.out))
    with_reducible refine CT.out.mono ?_
    rintro e w2 ⟨rfl, hb⟩
    clear CT
    have R1 := Lib.hid (R1.out.below hb)
    have R2 := Lib.hid (R2.out.below hb)
    have BX1 := Lib.hid (BX1.out.below hb BX1.out.lt)
    have BX2 := Lib.hid (BX2.out.below hb BX2.out.lt)
    have KG := Lib.hid (KG.out.trans (hb.mono KG.out.size))
    clear hb
    obtain ⟨xBX10, xBX11, xBX12, xBX13⟩ := BX1.out.all
    obtain ⟨xBX20, xBX21, xBX22, xBX23⟩ := BX2.out.all
    go_wp2_with fail
    have GR := Lib.hid (great_2 200 s1 s2 a1 a2 n1 c1 n2 c2 w2)
    rw [decide_eq_false HG0.out] at GR
    refine GR.out.mono ?_
    rintro e wg ⟨rfl, rfl⟩
    clear xBX10 xBX11 xBX12 xBX13
    clear xBX20 xBX21 xBX22 xBX23
    clear GR
    obtain ⟨v3, hV⟩ : ∃ V, V = w2.alloc (.cells #[.bool s1, .slice a1 n1 c1, .bool s2, .slice a2 n2 c2] 24) := ⟨_, rfl⟩
    have hbV : Below w2.heap.size w2 v3 := by rw [hV]; exact ((Below.refl _ _).alloc (Nat.le_refl _) _)
    rw [show w2.alloc (.cells #[.bool s1, .slice a1 n1 c1, .bool s2, .slice a2 n2 c2] 24) = v3 from hV.symm]
    have R1 := Lib.hid (R1.out.below hbV)
    have R2 := Lib.hid (R2.out.below hbV)
    have BX1 := Lib.hid (BX1.out.below hbV BX1.out.lt)
    have BX2 := Lib.hid (BX2.out.below hbV BX2.out.lt)
    have KG := Lib.hid (KG.out.trans (hbV.mono KG.out.size))
    clear hV hbV
    obtain ⟨xBX10, xBX11, xBX12, xBX13⟩ := BX1.out.all
    go_wp2_with fail
    have CT := Lib.hid (goodC s1 a1 n1 c1 o1 v3 R1.out (by have := HG0.out; omega) HG1.out)
    with_reducible refine CT.out.mono ?_
    rintro e w4 ⟨rfl, hb⟩
    clear CT
    clear xBX10 xBX11 xBX12 xBX13
    have R1 := Lib.hid (R1.out.below hb)
    have R2 := Lib.hid (R2.out.below hb)
    have BX1 := Lib.hid (BX1.out.below hb BX1.out.lt)
    have BX2 := Lib.hid (BX2.out.below hb BX2.out.lt)
    have KG := Lib.hid (KG.out.trans (hb.mono KG.out.size))
    clear hb
    obtain ⟨xBX20, xBX21, xBX22, xBX23⟩ := BX2.out.all
    go_wp2_with fail
    have CT := Lib.hid (badC s2 a2 n2 c2 o2 w4 R2.out (by have := HG0.out; omega) HG2.out)
    with_reducible refine CT.out.mono ?_
    rintro e w5 ⟨rfl, hb⟩
    clear CT
    clear xBX20 xBX21 xBX22 xBX23
    have R1 := Lib.hid (R1.out.below hb)
    have R2 := Lib.hid (R2.out.below hb)
    have BX1 := Lib.hid (BX1.out.below hb BX1.out.lt)
    have BX2 := Lib.hid (BX2.out.below hb BX2.out.lt)
    have KG := Lib.hid (KG.out.trans (hb.mono KG.out.size))
    clear hb
    go_wp2_with fail
    have CT := Lib.hid (alive_true w5 (HT.out.on KG.out))
    with_reducible refine CT.out.mono ?_
    rintro e w6 ⟨rfl, hb⟩
    clear CT
    have R1 := Lib.hid (R1.out.below hb)
    have R2 := Lib.hid (R2.out.below hb)
    have BX1 := Lib.hid (BX1.out.below hb BX1.out.lt)
    have BX2 := Lib.hid (BX2.out.below hb BX2.out.lt)
    have KG := Lib.hid (KG.out.trans (hb.mono KG.out.size))
    clear hb
    go_wp2_with fail
    go_ret
    exact ⟨rfl, KG.out⟩
  have g2 := Classical.not_not.1 g2
  obtain ⟨e1, r1, l1⟩ := NumR.of_raw h1 hc1 g1
  obtain ⟨e2, r2, l2⟩ := NumR.of_raw h2 hc2 g2
  rw [e1, e2]
  exact undone_ok _ a1 c1 _ a2 c2 w htab r1 (by omega) r2 (by omega)
end Go.Proofs.YtkpajfjjhbbieaaGreatDoor.Limb
namespace Go.Proofs.YtkpajfjjhbbieaaGreatDoor.Limb
open Go.RowKit Go.Sort

/-! ### The row and the card -/
open Go.ChangeShapes Go.WideShapes Go.ChangeAt
namespace LimbsUndoneC
theorem own : ownKnob Tryz.prog.godebug = none := by kernel_rfl
theorem laidOut : laidOutB Tryz.prog = true := by kernel_rfl

theorem tab_of_laid (W : World) (hL : laidMet Tryz.prog Rows.limbsUndoneRow.laid W) : Tab W :=
  Lib.tabIs_of_head (g := 2) (by kernel_rfl) (by kernel_rfl) (t := 235) (n := 20) (e := 74) Tryz.underlying235 Tryz.underlying74 (by kernel_rfl) (by kernel_rfl) hL.tail.tail
/-- A WORLD FOR THE WITNESS: the settled one, the tables holding what their initialisers lay. -/
noncomputable def laidWorld (os : Os) : World := World.laidAll Tryz.prog os Rows.limbsUndoneRow.laid
noncomputable def witArgs : Array Value := #[numV false none 0 0, numV false none 0 0]
theorem laid_met (os : Os) : laidMet Tryz.prog Rows.limbsUndoneRow.laid ((laidWorld os).forCall (fun _ _ => 0) ⟨#[], witArgs, []⟩).memory :=
  laidMet_laidAll _ (by kernel_rfl) (by kernel_rfl)
theorem reads (os : Os) {H : Type} (enc : TypeId × Value → H) : ∃ places, DataW.whole enc Tryz.prog ((laidWorld os).forCall (fun _ _ => 0) ⟨#[], witArgs, []⟩).memory Tryz.f10.params.toList Rows.limbsUndoneSpec.vars false witArgs.toList 8 = some ([.agg [.lit (.bool false), .nil], .agg [.lit (.bool false), .nil]], [], places) :=
  ⟨[], by kernel_rfl⟩

set_option maxRecDepth 100000 in
theorem lifted (os : Os) (started : os.Started) (H : Type) (enc : TypeId × Value → H) (F : Stop.Interp) :
    ReturnsInHanded {} Tryz.checked os 10 .any ((OpenSpec.ofChange Rows.limbsUndoneSpec).preRow enc Tryz.prog Tryz.f10 Rows.limbsUndoneRow.domain false Rows.limbsUndoneRow.laid) (((OpenSpec.ofChange Rows.limbsUndoneSpec).at F).post enc Tryz.prog Tryz.f10 false true false false) := by
  obtain ⟨places, hx⟩ := reads os enc
  refine returnsInHanded_of_row (C := Tryz.checked) (s := OpenSpec.ofChange Rows.limbsUndoneSpec) own started (by kernel_rfl) Tryz.func10
    (witness_row_atRef (enc := enc) (C := Tryz.checked) false (laidWorld os) witArgs (World.laidAll_os _ _ _) (by kernel_rfl) (by kernel_rfl) (by kernel_rfl)
      (OpenSpec.preRow_of_cond 8 hx (by kernel_rfl) (fun k hk => by cases hk) (by kernel_rfl) (laid_met os))) ?_
  intro W base args ds gs before hval0 hW _ _ _ hL _ _
  rw [MakeChecks.laidMetH_plain _ _ _ (by kernel_rfl)] at hL
  have htab : Tab W := tab_of_laid W hL
  have hval : ∀ (j : Nat) t v, Tryz.f10.params[j]? = some t → args[j]? = some v → Value.okWide Tryz.prog W .any base t v := hval0
  have hW' := hW
  obtain ⟨p, q, hA0, hV, rfl, hfz, hnd⟩ := hW
  have hA : DataW.TrodAll enc Tryz.prog W 0 (fun _ => true) true Tryz.f10.params.toList args.toList ds p := hA0
  rw [Tryz.params10] at hA hval
  obtain ⟨v0, v1, d0, d1, p0, p1, rfl, rfl, rfl, h0, h1⟩ := trodAll_two hA
  obtain ⟨rfl, rfl⟩ := trodVars_none hV
  obtain ⟨s1, a1, n1, c1, o1, rfl, r1, l1⟩ := open_num (hval 0 24 v0 rfl rfl) h0
  obtain ⟨s2, a2, n2, c2, o2, rfl, r2, l2⟩ := open_num (hval 1 24 v1 rfl rfl) h1
  refine (limbsUndone_law s1 a1 n1 c1 o1 s2 a2 n2 c2 o2 W htab r1 l1 r2 l2).mono fun e W' ⟨he, hg⟩ => ?_
  subst he
  exact ⟨_, rfl, LawPost.law_post laidOut (by kernel_rfl) (by kernel_rfl) Tryz.underlying4 hW' rfl rfl hg⟩

theorem said : Rows.LimbsUndoneSaid :=
  OpenClaim.holds_of_cond 10 Tryz.f10 rfl rfl rfl rfl rfl rfl rfl ⟨rfl, rfl, rfl, rfl, rfl⟩ rfl rfl rfl rfl rfl (by kernel_rfl) Tryz.func10 (by kernel_rfl)
    (of_decide_eq_true (by kernel_rfl)) (by unfold Func.isWrapper; first | (rw [if_pos (by decide +kernel)]; kernel_rfl) | (rw [if_neg (by decide +kernel)]; exact ⟨rfl, rfl⟩))
    (fun os started H enc _ F => by rw [OpenClaim.pre_eq_preRow]; exact lifted os started H enc F)

/-- No parameter wants a stand-in; the program's own looks are off: what the card asks. -/
theorem plain (f : FuncId) (fn : Func) (hf : Tryz.pinned.checked.prog.funcNamed "reckoner/reckonerlaw01.LimbsUndone" = some f) (hfn : Tryz.pinned.checked.prog.funcs[f]? = some fn) :
    true = Tryz.pinned.checked.prog.looks [] ∧ ∀ (j : Nat) t, fn.params[j]? = some t → Tryz.pinned.checked.prog.wantsStandIn t = false := by
  obtain rfl : f = 10 := Option.some.inj ((show Tryz.prog.funcNamed "reckoner/reckonerlaw01.LimbsUndone" = some 10 by kernel_rfl).symm.trans hf) |>.symm
  obtain rfl : fn = Tryz.f10 := (Option.some.inj (Tryz.func10.symm.trans hfn)).symm
  refine ⟨by kernel_rfl, fun j t ht => ?_⟩
  rw [Tryz.params10] at ht
  obtain rfl : t = 24 := by simpa using Array.mem_of_getElem? ht
  exact (show Tryz.prog.wantsStandIn 24 = false by kernel_rfl)

/-- The card. -/
theorem card : Rows.LimbsUndoneCardSaid :=
  Claim7.holds_tied_plain_at .later [] _ _ _ _ said (fun _ h => by cases h) (by kernel_rfl) (fun _ h => by cases h) limbsUndone_row_tie rfl ⟨rfl, rfl⟩ (by kernel_rfl) rfl plain (by kernel_rfl)
#print axioms card
end LimbsUndoneC
end Go.Proofs.YtkpajfjjhbbieaaGreatDoor.Limb
