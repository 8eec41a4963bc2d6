/-
  The law LimbsRing: for any two numbers it returns true, and they read behind the call as they read before; the card ties its three tables to the program's text.
-/
import Derived.Test.YtkpajfjjhbbieaaGreatDoorPoG
import Derived.Test.YtkpajfjjhbbieaaGreatDoorCards
import Derived.Test.YtkpajfjjhbbieaaGreatDoorTie
import Derived.Lay
import Derived.MakeChecks
import Derived.Stop.LaidErr
import Derived.Deep.DeepWitnessRowRef
import Derived.WalkKit
import Derived.ProofKit
import Derived.OpenShut
import Derived.Deep.DeepHandedRow
import Derived.Lib.LaidTab
set_option linter.unusedSimpArgs false
set_option linter.unusedVariables false
namespace Go.Proofs.YtkpajfjjhbbieaaGreatDoor.Limb
open Go.RowKit Go.Sort Go.Fresh

set_option maxRecDepth 100000 in
set_option maxHeartbeats 8000000 in
theorem ring_walk (s1 : Bool) (a1 : Option Addr) (n1 c1 : Nat) (z1 : Int) (s2 : Bool) (a2 : Option Addr) (n2 c2 : Nat) (z2 : Int) (s3 : Bool) (a3 : Option Addr) (n3 c3 : Nat) (z3 : Int) (w : World) (htab : Tab w)
    (h1 : NumA w s1 a1 n1 c1 z1) (h2 : NumA w s2 a2 n2 c2 z2) (h3 : NumA w s3 a3 n3 c3 z3) :
    Calls Tryz.prog 4 #[numV s1 a1 n1 c1, numV s2 a2 n2 c2, numV s3 a3 n3 c3] w fun e w' => e = .returned (.bool true) ∧ Below w.heap.size w w' := by
  have HT := Lib.hid htab
  have KG := Lib.hid (Below.refl w.heap.size w)
  have N1 := Lib.hid h1
  have N2 := Lib.hid h2
  have N3 := Lib.hid h3
  clear htab h1 h2 h3
  by_cases hg : 60 < n1 ∨ 60 < n2 ∨ 60 < n3
  · skip
    go_enter Tryz.func4, Tryz.ntmps4
    go_upto_region 1 with (fail)
    obtain ⟨v1, hV⟩ : ∃ V, V = ((w.alloc (.cells #[.bool s1, .slice a1 n1 c1] 24)).alloc (.cells #[.bool s2, .slice a2 n2 c2] 24)).alloc (.cells #[.bool s3, .slice a3 n3 c3] 24) := ⟨_, rfl⟩
    have hbV : Below w.heap.size w v1 := by rw [hV]; exact ((((Below.refl _ _).alloc (Nat.le_refl _) _).alloc (by go_size) _).alloc (by go_size) _)
    have BX1 := Lib.hid (show Bx v1 (w.heap.size) 24 (.bool s1) (.slice a1 n1 c1) by rw [hV]; exact ((Bx.new w _ _ _).alloc _).alloc _)
    have BX2 := Lib.hid (show Bx v1 (w.heap.size + 1) 24 (.bool s2) (.slice a2 n2 c2) by rw [hV]; exact (Bx.new2 w _ _ _ _).alloc _)
    have BX3 := Lib.hid (show Bx v1 (w.heap.size + 1 + 1) 24 (.bool s3) (.slice a3 n3 c3) by rw [hV]; exact Bx.new3 w _ _ _ _ _)
    rw [show ((w.alloc (.cells #[.bool s1, .slice a1 n1 c1] 24)).alloc (.cells #[.bool s2, .slice a2 n2 c2] 24)).alloc (.cells #[.bool s3, .slice a3 n3 c3] 24) = v1 from hV.symm]
    have N1 := Lib.hid (N1.out.below hbV)
    have N2 := Lib.hid (N2.out.below hbV)
    have N3 := Lib.hid (N3.out.below hbV)
    have KG := Lib.hid (KG.out.trans (hbV.mono KG.out.size))
    clear hV hbV
    go_wp2_with fail
    have CT := Lib.hid (alive_true v1 (HT.out.on KG.out))
    with_reducible refine CT.out.mono ?_
    rintro e w2 ⟨rfl, hb⟩
    clear CT
    have N1 := Lib.hid (N1.out.below hb)
    have N2 := Lib.hid (N2.out.below hb)
    have N3 := Lib.hid (N3.out.below hb)
    have BX1 := Lib.hid (BX1.out.below hb BX1.out.lt)
    have BX2 := Lib.hid (BX2.out.below hb BX2.out.lt)
    have BX3 := Lib.hid (BX3.out.below hb BX3.out.lt)
    have KG := Lib.hid (KG.out.trans (hb.mono KG.out.size))
    clear hb
    obtain ⟨xBX10, xBX11, xBX12, xBX13⟩ := BX1.out.all
    obtain ⟨xBX20, xBX21, xBX22, xBX23⟩ := BX2.out.all
    obtain ⟨xBX30, xBX31, xBX32, xBX33⟩ := BX3.out.all
    go_wp2_with fail
    have GR := Lib.hid (great_3 60 s1 s2 s3 a1 a2 a3 n1 c1 n2 c2 n3 c3 w2)
    rw [decide_eq_true hg] at GR
    clear hg
    refine GR.out.mono ?_
    rintro e wg ⟨rfl, rfl⟩
    clear xBX10 xBX11 xBX12 xBX13
    clear xBX20 xBX21 xBX22 xBX23
    clear xBX30 xBX31 xBX32 xBX33
    clear GR
    go_upto_region 2 with (fail)
    obtain ⟨v3, hV⟩ : ∃ V, V = w2.alloc (.cells #[.bool s1, .slice a1 n1 c1, .bool s2, .slice a2 n2 c2, .bool s3, .slice a3 n3 c3] 24) := ⟨_, rfl⟩
    have hbV : Below w2.heap.size w2 v3 := by rw [hV]; exact ((Below.refl _ _).alloc (Nat.le_refl _) _)
    rw [show w2.alloc (.cells #[.bool s1, .slice a1 n1 c1, .bool s2, .slice a2 n2 c2, .bool s3, .slice a3 n3 c3] 24) = v3 from hV.symm]
    have N1 := Lib.hid (N1.out.below hbV)
    have N2 := Lib.hid (N2.out.below hbV)
    have N3 := Lib.hid (N3.out.below hbV)
    have BX1 := Lib.hid (BX1.out.below hbV BX1.out.lt)
    have BX2 := Lib.hid (BX2.out.below hbV BX2.out.lt)
    have BX3 := Lib.hid (BX3.out.below hbV BX3.out.lt)
    have KG := Lib.hid (KG.out.trans (hbV.mono KG.out.size))
    clear hV hbV
    go_wp2_with fail
    have CT := Lib.hid (alive_true v3 (HT.out.on KG.out))
    with_reducible refine CT.out.mono ?_
    rintro e w4 ⟨rfl, hb⟩
    clear CT
    have N1 := Lib.hid (N1.out.below hb)
    have N2 := Lib.hid (N2.out.below hb)
    have N3 := Lib.hid (N3.out.below hb)
    have BX1 := Lib.hid (BX1.out.below hb BX1.out.lt)
    have BX2 := Lib.hid (BX2.out.below hb BX2.out.lt)
    have BX3 := Lib.hid (BX3.out.below hb BX3.out.lt)
    have KG := Lib.hid (KG.out.trans (hb.mono KG.out.size))
    clear hb
    go_wp2_with fail
    go_ret
    exact ⟨rfl, KG.out⟩
  · skip
    have b1 : n1 ≤ 60 := by omega
    have BN1 := Lib.hid (show n1 ≤ 10000000 by omega)
    have LZ1 := Lib.hid (show lenB z1.natAbs ≤ 60 from Nat.le_trans N1.out.len b1)
    clear b1
    have b2 : n2 ≤ 60 := by omega
    have BN2 := Lib.hid (show n2 ≤ 10000000 by omega)
    have LZ2 := Lib.hid (show lenB z2.natAbs ≤ 60 from Nat.le_trans N2.out.len b2)
    clear b2
    have b3 : n3 ≤ 60 := by omega
    have BN3 := Lib.hid (show n3 ≤ 10000000 by omega)
    have LZ3 := Lib.hid (show lenB z3.natAbs ≤ 60 from Nat.le_trans N3.out.len b3)
    clear b3
    obtain ⟨zs, hzs⟩ : ∃ z : Int, z = z1 + z2 := ⟨_, rfl⟩
    have Bzs := Lib.hid (show lenB zs.natAbs ≤ 10000000 by rw [hzs]; have := lenZ_add LZ1.out LZ2.out; omega)
    have Hzs := Lib.hid hzs
    clear hzs
    obtain ⟨zp, hzp⟩ : ∃ z : Int, z = z1 * z2 := ⟨_, rfl⟩
    have Bzp := Lib.hid (show lenB zp.natAbs ≤ 10000000 by rw [hzp]; have := lenZ_mul LZ1.out LZ2.out; omega)
    have Hzp := Lib.hid hzp
    clear hzp
    obtain ⟨zbc, hzbc⟩ : ∃ z : Int, z = z2 + z3 := ⟨_, rfl⟩
    have Bzbc := Lib.hid (show lenB zbc.natAbs ≤ 10000000 by rw [hzbc]; have := lenZ_add LZ2.out LZ3.out; omega)
    have Hzbc := Lib.hid hzbc
    clear hzbc
    obtain ⟨zabc, hzabc⟩ : ∃ z : Int, z = z1 + z2 + z3 := ⟨_, rfl⟩
    have Bzabc := Lib.hid (show lenB zabc.natAbs ≤ 10000000 by rw [hzabc]; have := lenZ_add (lenZ_add LZ1.out LZ2.out) (Nat.le_trans LZ3.out (by omega) : _ ≤ 61); omega)
    have Hzabc := Lib.hid hzabc
    clear hzabc
    obtain ⟨mbc, hmbc⟩ : ∃ z : Int, z = z2 * z3 := ⟨_, rfl⟩
    have Bmbc := Lib.hid (show lenB mbc.natAbs ≤ 10000000 by rw [hmbc]; have := lenZ_mul LZ2.out LZ3.out; omega)
    have Hmbc := Lib.hid hmbc
    clear hmbc
    obtain ⟨mabc, hmabc⟩ : ∃ z : Int, z = z1 * z2 * z3 := ⟨_, rfl⟩
    have Bmabc := Lib.hid (show lenB mabc.natAbs ≤ 10000000 by rw [hmabc]; have := lenZ_mul (lenZ_mul LZ1.out LZ2.out) LZ3.out; omega)
    have Hmabc := Lib.hid hmabc
    clear hmabc
    obtain ⟨mac, hmac⟩ : ∃ z : Int, z = z1 * z3 := ⟨_, rfl⟩
    have Bmac := Lib.hid (show lenB mac.natAbs ≤ 10000000 by rw [hmac]; have := lenZ_mul LZ1.out LZ3.out; omega)
    have Hmac := Lib.hid hmac
    clear hmac
    obtain ⟨msc, hmsc⟩ : ∃ z : Int, z = (z1 + z2) * z3 := ⟨_, rfl⟩
    have Bmsc := Lib.hid (show lenB msc.natAbs ≤ 10000000 by rw [hmsc]; have := lenZ_mul (lenZ_add LZ1.out LZ2.out) LZ3.out; omega)
    have Hmsc := Lib.hid hmsc
    clear hmsc
    go_enter Tryz.func4, Tryz.ntmps4
    go_upto_region 1 with (fail)
    obtain ⟨v1, hV⟩ : ∃ V, V = ((w.alloc (.cells #[.bool s1, .slice a1 n1 c1] 24)).alloc (.cells #[.bool s2, .slice a2 n2 c2] 24)).alloc (.cells #[.bool s3, .slice a3 n3 c3] 24) := ⟨_, rfl⟩
    have hbV : Below w.heap.size w v1 := by rw [hV]; exact ((((Below.refl _ _).alloc (Nat.le_refl _) _).alloc (by go_size) _).alloc (by go_size) _)
    have BX1 := Lib.hid (show Bx v1 (w.heap.size) 24 (.bool s1) (.slice a1 n1 c1) by rw [hV]; exact ((Bx.new w _ _ _).alloc _).alloc _)
    have BX2 := Lib.hid (show Bx v1 (w.heap.size + 1) 24 (.bool s2) (.slice a2 n2 c2) by rw [hV]; exact (Bx.new2 w _ _ _ _).alloc _)
    have BX3 := Lib.hid (show Bx v1 (w.heap.size + 1 + 1) 24 (.bool s3) (.slice a3 n3 c3) by rw [hV]; exact Bx.new3 w _ _ _ _ _)
    rw [show ((w.alloc (.cells #[.bool s1, .slice a1 n1 c1] 24)).alloc (.cells #[.bool s2, .slice a2 n2 c2] 24)).alloc (.cells #[.bool s3, .slice a3 n3 c3] 24) = v1 from hV.symm]
    have N1 := Lib.hid (N1.out.below hbV)
    have N2 := Lib.hid (N2.out.below hbV)
    have N3 := Lib.hid (N3.out.below hbV)
    have KG := Lib.hid (KG.out.trans (hbV.mono KG.out.size))
    clear hV hbV
    go_wp2_with fail
    have CT := Lib.hid (alive_true v1 (HT.out.on KG.out))
    with_reducible refine CT.out.mono ?_
    rintro e w2 ⟨rfl, hb⟩
    clear CT
    have N1 := Lib.hid (N1.out.below hb)
    have N2 := Lib.hid (N2.out.below hb)
    have N3 := Lib.hid (N3.out.below hb)
    have BX1 := Lib.hid (BX1.out.below hb BX1.out.lt)
    have BX2 := Lib.hid (BX2.out.below hb BX2.out.lt)
    have BX3 := Lib.hid (BX3.out.below hb BX3.out.lt)
    have KG := Lib.hid (KG.out.trans (hb.mono KG.out.size))
    clear hb
    obtain ⟨xBX10, xBX11, xBX12, xBX13⟩ := BX1.out.all
    obtain ⟨xBX20, xBX21, xBX22, xBX23⟩ := BX2.out.all
    obtain ⟨xBX30, xBX31, xBX32, xBX33⟩ := BX3.out.all
    go_wp2_with fail
    have GR := Lib.hid (great_3 60 s1 s2 s3 a1 a2 a3 n1 c1 n2 c2 n3 c3 w2)
    rw [decide_eq_false hg] at GR
    clear hg
    refine GR.out.mono ?_
    rintro e wg ⟨rfl, rfl⟩
    clear xBX10 xBX11 xBX12 xBX13
    clear xBX20 xBX21 xBX22 xBX23
    clear xBX30 xBX31 xBX32 xBX33
    clear GR
    go_upto_region 3 with (fail)
    obtain ⟨v3, hV⟩ : ∃ V, V = w2.alloc (.cells #[.bool s1, .slice a1 n1 c1, .bool s2, .slice a2 n2 c2, .bool s3, .slice a3 n3 c3] 24) := ⟨_, rfl⟩
    have hbV : Below w2.heap.size w2 v3 := by rw [hV]; exact ((Below.refl _ _).alloc (Nat.le_refl _) _)
    rw [show w2.alloc (.cells #[.bool s1, .slice a1 n1 c1, .bool s2, .slice a2 n2 c2, .bool s3, .slice a3 n3 c3] 24) = v3 from hV.symm]
    have N1 := Lib.hid (N1.out.below hbV)
    have N2 := Lib.hid (N2.out.below hbV)
    have N3 := Lib.hid (N3.out.below hbV)
    have BX1 := Lib.hid (BX1.out.below hbV BX1.out.lt)
    have BX2 := Lib.hid (BX2.out.below hbV BX2.out.lt)
    have BX3 := Lib.hid (BX3.out.below hbV BX3.out.lt)
    have KG := Lib.hid (KG.out.trans (hbV.mono KG.out.size))
    clear hV hbV
    obtain ⟨xBX10, xBX11, xBX12, xBX13⟩ := BX1.out.all
    obtain ⟨xBX20, xBX21, xBX22, xBX23⟩ := BX2.out.all
    go_wp2_with fail
    have CT := Lib.hid (addA N1.out BN1.out N2.out BN2.out)
    rw [← Hzs.out] at CT
    with_reducible refine CT.out.mono ?_
    rintro e w4 ⟨a4, c4, rfl, h4, hb⟩
    have N4 := Lib.hid h4
    clear h4
    clear CT
    clear xBX10 xBX11 xBX12 xBX13
    clear xBX20 xBX21 xBX22 xBX23
    have N1 := Lib.hid (N1.out.below hb)
    have N2 := Lib.hid (N2.out.below hb)
    have N3 := Lib.hid (N3.out.below hb)
    have BX1 := Lib.hid (BX1.out.below hb BX1.out.lt)
    have BX2 := Lib.hid (BX2.out.below hb BX2.out.lt)
    have BX3 := Lib.hid (BX3.out.below hb BX3.out.lt)
    have KG := Lib.hid (KG.out.trans (hb.mono KG.out.size))
    clear hb
    go_upto_region 4 with (fail)
    obtain ⟨v5, hV⟩ : ∃ V, V = w4.alloc (.cells #[.bool (decide (zs < 0)), .slice a4 (lenB zs.natAbs) c4] 24) := ⟨_, rfl⟩
    have hbV : Below w4.heap.size w4 v5 := by rw [hV]; exact ((Below.refl _ _).alloc (Nat.le_refl _) _)
    have BX4 := Lib.hid (show Bx v5 (w4.heap.size) 24 (.bool (decide (zs < 0))) (.slice a4 (lenB zs.natAbs) c4) by rw [hV]; exact Bx.new w4 _ _ _)
    rw [show w4.alloc (.cells #[.bool (decide (zs < 0)), .slice a4 (lenB zs.natAbs) c4] 24) = v5 from hV.symm]
    have N1 := Lib.hid (N1.out.below hbV)
    have N2 := Lib.hid (N2.out.below hbV)
    have N3 := Lib.hid (N3.out.below hbV)
    have N4 := Lib.hid (N4.out.below hbV)
    have BX1 := Lib.hid (BX1.out.below hbV BX1.out.lt)
    have BX2 := Lib.hid (BX2.out.below hbV BX2.out.lt)
    have BX3 := Lib.hid (BX3.out.below hbV BX3.out.lt)
    have KG := Lib.hid (KG.out.trans (hbV.mono KG.out.size))
    clear hV hbV
    obtain ⟨xBX10, xBX11, xBX12, xBX13⟩ := BX1.out.all
    obtain ⟨xBX20, xBX21, xBX22, xBX23⟩ := BX2.out.all
    go_wp2_with fail
    have CT := Lib.hid (mulA N1.out BN1.out N2.out BN2.out)
    rw [← Hzp.out] at CT
    with_reducible refine CT.out.mono ?_
    rintro e w6 ⟨a5, c5, rfl, h5, hb⟩
    have N5 := Lib.hid h5
    clear h5
    clear CT
    clear xBX10 xBX11 xBX12 xBX13
    clear xBX20 xBX21 xBX22 xBX23
    have N1 := Lib.hid (N1.out.below hb)
    have N2 := Lib.hid (N2.out.below hb)
    have N3 := Lib.hid (N3.out.below hb)
    have N4 := Lib.hid (N4.out.below hb)
    have BX1 := Lib.hid (BX1.out.below hb BX1.out.lt)
    have BX2 := Lib.hid (BX2.out.below hb BX2.out.lt)
    have BX3 := Lib.hid (BX3.out.below hb BX3.out.lt)
    have BX4 := Lib.hid (BX4.out.below hb BX4.out.lt)
    have KG := Lib.hid (KG.out.trans (hb.mono KG.out.size))
    clear hb
    go_upto_region 5 with (fail)
    obtain ⟨v7, hV⟩ : ∃ V, V = w6.alloc (.cells #[.bool (decide (zp < 0)), .slice a5 (lenB zp.natAbs) c5] 24) := ⟨_, rfl⟩
    have hbV : Below w6.heap.size w6 v7 := by rw [hV]; exact ((Below.refl _ _).alloc (Nat.le_refl _) _)
    have BX5 := Lib.hid (show Bx v7 (w6.heap.size) 24 (.bool (decide (zp < 0))) (.slice a5 (lenB zp.natAbs) c5) by rw [hV]; exact Bx.new w6 _ _ _)
    rw [show w6.alloc (.cells #[.bool (decide (zp < 0)), .slice a5 (lenB zp.natAbs) c5] 24) = v7 from hV.symm]
    have N1 := Lib.hid (N1.out.below hbV)
    have N2 := Lib.hid (N2.out.below hbV)
    have N3 := Lib.hid (N3.out.below hbV)
    have N4 := Lib.hid (N4.out.below hbV)
    have N5 := Lib.hid (N5.out.below hbV)
    have BX1 := Lib.hid (BX1.out.below hbV BX1.out.lt)
    have BX2 := Lib.hid (BX2.out.below hbV BX2.out.lt)
    have BX3 := Lib.hid (BX3.out.below hbV BX3.out.lt)
    have BX4 := Lib.hid (BX4.out.below hbV BX4.out.lt)
    have KG := Lib.hid (KG.out.trans (hbV.mono KG.out.size))
    clear hV hbV
    refine wp_region_fresh 55 (spOf [(1, Sp.know (.bool true)), (4, Sp.know (.bool true)), (10, Sp.made (fun x : Option Addr × Nat => numC zs x.1 x.2) (fun x w' => NumO w' v7.heap.size zs x.1 x.2)), (11, Sp.know (.bool true)), (17, Sp.made (fun x : Option Addr × Nat => numC zp x.1 x.2) (fun x w' => NumO w' v7.heap.size zp x.1 x.2)), (18, Sp.know (.bool true)), (23, Sp.made (fun x : Option Addr × Nat => numC zabc x.1 x.2) (fun x w' => NumO w' v7.heap.size zabc x.1 x.2)), (27, Sp.made (fun x : Option Addr × Nat => numC zbc x.1 x.2) (fun x w' => NumO w' v7.heap.size zbc x.1 x.2)), (28, Sp.made (fun x : Option Addr × Nat => numC zabc x.1 x.2) (fun x w' => NumO w' v7.heap.size zabc x.1 x.2)), (29, Sp.know (.bool true)), (34, Sp.made (fun x : Option Addr × Nat => numC mabc x.1 x.2) (fun x w' => NumO w' v7.heap.size mabc x.1 x.2)), (38, Sp.made (fun x : Option Addr × Nat => numC mbc x.1 x.2) (fun x w' => NumO w' v7.heap.size mbc x.1 x.2)), (39, Sp.made (fun x : Option Addr × Nat => numC mabc x.1 x.2) (fun x w' => NumO w' v7.heap.size mabc x.1 x.2)), (40, Sp.know (.bool true)), (45, Sp.made (fun x : Option Addr × Nat => numC msc x.1 x.2) (fun x w' => NumO w' v7.heap.size msc x.1 x.2)), (48, Sp.made (fun x : Option Addr × Nat => numC mac x.1 x.2) (fun x w' => NumO w' v7.heap.size mac x.1 x.2)), (51, Sp.made (fun x : Option Addr × Nat => numC mbc x.1 x.2) (fun x w' => NumO w' v7.heap.size mbc x.1 x.2)), (52, Sp.made (fun x : Option Addr × Nat => numC msc x.1 x.2) (fun x w' => NumO w' v7.heap.size msc x.1 x.2)), (53, Sp.know (.bool true))])
      (fun w' => Below v7.heap.size v7 w') (by kernel_rfl) (by kernel_rfl)
      (spOf_cons (Sp.know_keeps _) (spOf_cons (Sp.know_keeps _) (spOf_cons (Sp.made_keeps fun x w w' h hb => h.below hb) (spOf_cons (Sp.know_keeps _) (spOf_cons (Sp.made_keeps fun x w w' h hb => h.below hb) (spOf_cons (Sp.know_keeps _) (spOf_cons (Sp.made_keeps fun x w w' h hb => h.below hb) (spOf_cons (Sp.made_keeps fun x w w' h hb => h.below hb) (spOf_cons (Sp.made_keeps fun x w w' h hb => h.below hb) (spOf_cons (Sp.know_keeps _) (spOf_cons (Sp.made_keeps fun x w w' h hb => h.below hb) (spOf_cons (Sp.made_keeps fun x w w' h hb => h.below hb) (spOf_cons (Sp.made_keeps fun x w w' h hb => h.below hb) (spOf_cons (Sp.know_keeps _) (spOf_cons (Sp.made_keeps fun x w w' h hb => h.below hb) (spOf_cons (Sp.made_keeps fun x w w' h hb => h.below hb) (spOf_cons (Sp.made_keeps fun x w w' h hb => h.below hb) (spOf_cons (Sp.made_keeps fun x w w' h hb => h.below hb) (spOf_cons (Sp.know_keeps _) (spOf_nil)))))))))))))))))))) (fun _ _ h hb => h.trans (hb.mono h.size)) ((Below.refl _ _).drew) ?_
    simp only [List.append_eq, List.cons_append, List.nil_append, List.take_succ_cons, List.take_zero, List.drop_succ_cons, List.drop_zero]
    refine wpF_reads rfl rfl ?_ (fun w' hw' => ?_) ?_
    rotate_left
    · have hb' := hw'.world
      obtain ⟨k0, k1, k2, k3⟩ := (BX4.out.below hb' BX4.out.lt).all
      clear hw'
      go_simp
      try rfl
    conv => arg 9; simp only [Act.put, List.setIfInBounds_toArray, List.set_cons_succ, List.set_cons_zero]
    refine wpF_spec rfl rfl (fun w' hw' => ?_) ?_
    · have hb' := hw'.world
      go_simp
      have CT := checkC (N4.out.below hb').r Bzs.out
      refine CT.mono ?_
      rintro e w'' ⟨rfl, hb⟩
      exact ⟨_, rfl, rfl, hb⟩
    rintro _ rfl
    conv => arg 9; simp only [Act.put, List.setIfInBounds_toArray, List.set_cons_succ, List.set_cons_zero]
    refine wpF_reads rfl rfl ?_ (fun w' hw' => ?_) ?_
    rotate_left
    · have hb' := hw'.world
      skip
      clear hw'
      go_simp
      try rfl
    conv => arg 9; simp only [Act.put, List.setIfInBounds_toArray, List.set_cons_succ, List.set_cons_zero]
    refine wpF_readsG (by rfl) rfl ?_ (fun w' hw' => ?_) ?_
    rotate_left
    · have hb' := hw'.world
      obtain ⟨k0, k1, k2, k3⟩ := (BX5.out.below hb' BX5.out.lt).all
      clear hw'
      go_simp
      try rfl
    conv => arg 9; simp only [Act.put, List.setIfInBounds_toArray, List.set_cons_succ, List.set_cons_zero]
    refine wpF_specG (by rfl) rfl (fun w' hw' => ?_) ?_
    · have hb' := hw'.world
      go_simp
      have CT := checkC (N5.out.below hb').r Bzp.out
      refine CT.mono ?_
      rintro e w'' ⟨rfl, hb⟩
      exact ⟨_, rfl, rfl, hb⟩
    rintro _ rfl
    conv => arg 9; simp only [Act.put, List.setIfInBounds_toArray, List.set_cons_succ, List.set_cons_zero]
    refine wpF_reads rfl rfl ?_ (fun w' hw' => ?_) ?_
    rotate_left
    · have hb' := hw'.world
      skip
      clear hw'
      go_simp
      try rfl
    conv => arg 9; simp only [Act.put, List.setIfInBounds_toArray, List.set_cons_succ, List.set_cons_zero]
    refine wpF_reads rfl rfl ?_ (fun w' hw' => ?_) ?_
    rotate_left
    · have hb' := hw'.world
      skip
      clear hw'
      go_simp
      try rfl
    conv => arg 9; simp only [Act.put, List.setIfInBounds_toArray, List.set_cons_succ, List.set_cons_zero]
    refine wpF_readsG (by rfl) rfl ?_ (fun w' hw' => ?_) ?_
    rotate_left
    · have hb' := hw'.world
      obtain ⟨k0, k1, k2, k3⟩ := (BX4.out.below hb' BX4.out.lt).all
      clear hw'
      go_simp
      try rfl
    conv => arg 9; simp only [Act.put, List.setIfInBounds_toArray, List.set_cons_succ, List.set_cons_zero]
    refine wpF_readsG (by rfl) rfl ?_ (fun w' hw' => ?_) ?_
    rotate_left
    · have hb' := hw'.world
      obtain ⟨k0, k1, k2, k3⟩ := (BX2.out.below hb' BX2.out.lt).all
      clear hw'
      go_simp
      try rfl
    conv => arg 9; simp only [Act.put, List.setIfInBounds_toArray, List.set_cons_succ, List.set_cons_zero]
    refine wpF_readsG (by rfl) rfl ?_ (fun w' hw' => ?_) ?_
    rotate_left
    · have hb' := hw'.world
      obtain ⟨k0, k1, k2, k3⟩ := (BX1.out.below hb' BX1.out.lt).all
      clear hw'
      go_simp
      try rfl
    conv => arg 9; simp only [Act.put, List.setIfInBounds_toArray, List.set_cons_succ, List.set_cons_zero]
    refine wpF_specG (by rfl) rfl (fun w' hw' => ?_) ?_
    · have hb' := hw'.world
      go_simp
      have CT := addA (N2.out.below hb') BN2.out (N1.out.below hb') BN1.out
      rw [show z2 + z1 = zs by rw [Hzs.out] <;> grind] at CT
      refine CT.mono ?_
      rintro e w'' ⟨za, zb, rfl, ho, hb⟩
      exact ⟨_, rfl, ⟨⟨za, zb, rfl⟩, ⟨za, zb, rfl, ho.mono hb'.size⟩⟩, hb⟩
    rintro _ ⟨y10, rfl⟩
    conv => arg 9; simp only [Act.put, List.setIfInBounds_toArray, List.set_cons_succ, List.set_cons_zero]
    refine wpF_specG (by rfl) rfl (fun w' hw' => ?_) ?_
    · have hb' := hw'.world
      go_simp
      have f10 := numO_of (x := y10) (z := zs) (hw'.fact 10 (by kernel_rfl))
      have CT := sameT (N4.out.below hb').r Bzs.out f10.r Bzs.out rfl
      refine CT.mono ?_
      rintro e w'' ⟨rfl, hb⟩
      exact ⟨_, rfl, rfl, hb⟩
    rintro _ rfl
    conv => arg 9; simp only [Act.put, List.setIfInBounds_toArray, List.set_cons_succ, List.set_cons_zero]
    refine wpF_reads rfl rfl ?_ (fun w' hw' => ?_) ?_
    rotate_left
    · have hb' := hw'.world
      skip
      clear hw'
      go_simp
      try rfl
    conv => arg 9; simp only [Act.put, List.setIfInBounds_toArray, List.set_cons_succ, List.set_cons_zero]
    refine wpF_reads rfl rfl ?_ (fun w' hw' => ?_) ?_
    rotate_left
    · have hb' := hw'.world
      skip
      clear hw'
      go_simp
      try rfl
    conv => arg 9; simp only [Act.put, List.setIfInBounds_toArray, List.set_cons_succ, List.set_cons_zero]
    refine wpF_readsG (by rfl) rfl ?_ (fun w' hw' => ?_) ?_
    rotate_left
    · have hb' := hw'.world
      obtain ⟨k0, k1, k2, k3⟩ := (BX5.out.below hb' BX5.out.lt).all
      clear hw'
      go_simp
      try rfl
    conv => arg 9; simp only [Act.put, List.setIfInBounds_toArray, List.set_cons_succ, List.set_cons_zero]
    refine wpF_readsG (by rfl) rfl ?_ (fun w' hw' => ?_) ?_
    rotate_left
    · have hb' := hw'.world
      obtain ⟨k0, k1, k2, k3⟩ := (BX2.out.below hb' BX2.out.lt).all
      clear hw'
      go_simp
      try rfl
    conv => arg 9; simp only [Act.put, List.setIfInBounds_toArray, List.set_cons_succ, List.set_cons_zero]
    refine wpF_readsG (by rfl) rfl ?_ (fun w' hw' => ?_) ?_
    rotate_left
    · have hb' := hw'.world
      obtain ⟨k0, k1, k2, k3⟩ := (BX1.out.below hb' BX1.out.lt).all
      clear hw'
      go_simp
      try rfl
    conv => arg 9; simp only [Act.put, List.setIfInBounds_toArray, List.set_cons_succ, List.set_cons_zero]
    refine wpF_specG (by rfl) rfl (fun w' hw' => ?_) ?_
    · have hb' := hw'.world
      go_simp
      have CT := mulA (N2.out.below hb') BN2.out (N1.out.below hb') BN1.out
      rw [show z2 * z1 = zp by rw [Hzp.out] <;> grind] at CT
      refine CT.mono ?_
      rintro e w'' ⟨za, zb, rfl, ho, hb⟩
      exact ⟨_, rfl, ⟨⟨za, zb, rfl⟩, ⟨za, zb, rfl, ho.mono hb'.size⟩⟩, hb⟩
    rintro _ ⟨y17, rfl⟩
    conv => arg 9; simp only [Act.put, List.setIfInBounds_toArray, List.set_cons_succ, List.set_cons_zero]
    refine wpF_specG (by rfl) rfl (fun w' hw' => ?_) ?_
    · have hb' := hw'.world
      go_simp
      have f17 := numO_of (x := y17) (z := zp) (hw'.fact 17 (by kernel_rfl))
      have CT := sameT (N5.out.below hb').r Bzp.out f17.r Bzp.out rfl
      refine CT.mono ?_
      rintro e w'' ⟨rfl, hb⟩
      exact ⟨_, rfl, rfl, hb⟩
    rintro _ rfl
    conv => arg 9; simp only [Act.put, List.setIfInBounds_toArray, List.set_cons_succ, List.set_cons_zero]
    refine wpF_reads rfl rfl ?_ (fun w' hw' => ?_) ?_
    rotate_left
    · have hb' := hw'.world
      skip
      clear hw'
      go_simp
      try rfl
    conv => arg 9; simp only [Act.put, List.setIfInBounds_toArray, List.set_cons_succ, List.set_cons_zero]
    refine wpF_reads rfl rfl ?_ (fun w' hw' => ?_) ?_
    rotate_left
    · have hb' := hw'.world
      skip
      clear hw'
      go_simp
      try rfl
    conv => arg 9; simp only [Act.put, List.setIfInBounds_toArray, List.set_cons_succ, List.set_cons_zero]
    refine wpF_readsG (by rfl) rfl ?_ (fun w' hw' => ?_) ?_
    rotate_left
    · have hb' := hw'.world
      obtain ⟨k0, k1, k2, k3⟩ := (BX4.out.below hb' BX4.out.lt).all
      clear hw'
      go_simp
      try rfl
    conv => arg 9; simp only [Act.put, List.setIfInBounds_toArray, List.set_cons_succ, List.set_cons_zero]
    refine wpF_readsG (by rfl) rfl ?_ (fun w' hw' => ?_) ?_
    rotate_left
    · have hb' := hw'.world
      obtain ⟨k0, k1, k2, k3⟩ := (BX3.out.below hb' BX3.out.lt).all
      clear hw'
      go_simp
      try rfl
    conv => arg 9; simp only [Act.put, List.setIfInBounds_toArray, List.set_cons_succ, List.set_cons_zero]
    refine wpF_specG (by rfl) rfl (fun w' hw' => ?_) ?_
    · have hb' := hw'.world
      go_simp
      have CT := addA (N4.out.below hb').any Bzs.out (N3.out.below hb') BN3.out
      rw [show zs + z3 = zabc by rw [Hzs.out, Hzabc.out] <;> grind] at CT
      refine CT.mono ?_
      rintro e w'' ⟨za, zb, rfl, ho, hb⟩
      exact ⟨_, rfl, ⟨⟨za, zb, rfl⟩, ⟨za, zb, rfl, ho.mono hb'.size⟩⟩, hb⟩
    rintro _ ⟨y23, rfl⟩
    conv => arg 9; simp only [Act.put, List.setIfInBounds_toArray, List.set_cons_succ, List.set_cons_zero]
    refine wpF_readsG (by rfl) rfl ?_ (fun w' hw' => ?_) ?_
    rotate_left
    · have hb' := hw'.world
      obtain ⟨k0, k1, k2, k3⟩ := (BX1.out.below hb' BX1.out.lt).all
      clear hw'
      go_simp
      try rfl
    conv => arg 9; simp only [Act.put, List.setIfInBounds_toArray, List.set_cons_succ, List.set_cons_zero]
    refine wpF_readsG (by rfl) rfl ?_ (fun w' hw' => ?_) ?_
    rotate_left
    · have hb' := hw'.world
      obtain ⟨k0, k1, k2, k3⟩ := (BX2.out.below hb' BX2.out.lt).all
      clear hw'
      go_simp
      try rfl
    conv => arg 9; simp only [Act.put, List.setIfInBounds_toArray, List.set_cons_succ, List.set_cons_zero]
    refine wpF_readsG (by rfl) rfl ?_ (fun w' hw' => ?_) ?_
    rotate_left
    · have hb' := hw'.world
      obtain ⟨k0, k1, k2, k3⟩ := (BX3.out.below hb' BX3.out.lt).all
      clear hw'
      go_simp
      try rfl
    conv => arg 9; simp only [Act.put, List.setIfInBounds_toArray, List.set_cons_succ, List.set_cons_zero]
    refine wpF_specG (by rfl) rfl (fun w' hw' => ?_) ?_
    · have hb' := hw'.world
      go_simp
      have CT := addA (N2.out.below hb') BN2.out (N3.out.below hb') BN3.out
      rw [show z2 + z3 = zbc by rw [Hzbc.out] <;> grind] at CT
      refine CT.mono ?_
      rintro e w'' ⟨za, zb, rfl, ho, hb⟩
      exact ⟨_, rfl, ⟨⟨za, zb, rfl⟩, ⟨za, zb, rfl, ho.mono hb'.size⟩⟩, hb⟩
    rintro _ ⟨y27, rfl⟩
    conv => arg 9; simp only [Act.put, List.setIfInBounds_toArray, List.set_cons_succ, List.set_cons_zero]
    refine wpF_specG (by rfl) rfl (fun w' hw' => ?_) ?_
    · have hb' := hw'.world
      go_simp
      have f27 := numO_of (x := y27) (z := zbc) (hw'.fact 27 (by kernel_rfl))
      have CT := addA (N1.out.below hb') BN1.out f27.any Bzbc.out
      rw [show z1 + zbc = zabc by rw [Hzbc.out, Hzabc.out] <;> grind] at CT
      refine CT.mono ?_
      rintro e w'' ⟨za, zb, rfl, ho, hb⟩
      exact ⟨_, rfl, ⟨⟨za, zb, rfl⟩, ⟨za, zb, rfl, ho.mono hb'.size⟩⟩, hb⟩
    rintro _ ⟨y28, rfl⟩
    conv => arg 9; simp only [Act.put, List.setIfInBounds_toArray, List.set_cons_succ, List.set_cons_zero]
    refine wpF_specG (by rfl) rfl (fun w' hw' => ?_) ?_
    · have hb' := hw'.world
      go_simp
      have f23 := numO_of (x := y23) (z := zabc) (hw'.fact 23 (by kernel_rfl))
      have f28 := numO_of (x := y28) (z := zabc) (hw'.fact 28 (by kernel_rfl))
      have CT := sameT f23.r Bzabc.out f28.r Bzabc.out rfl
      refine CT.mono ?_
      rintro e w'' ⟨rfl, hb⟩
      exact ⟨_, rfl, rfl, hb⟩
    rintro _ rfl
    conv => arg 9; simp only [Act.put, List.setIfInBounds_toArray, List.set_cons_succ, List.set_cons_zero]
    refine wpF_reads rfl rfl ?_ (fun w' hw' => ?_) ?_
    rotate_left
    · have hb' := hw'.world
      skip
      clear hw'
      go_simp
      try rfl
    conv => arg 9; simp only [Act.put, List.setIfInBounds_toArray, List.set_cons_succ, List.set_cons_zero]
    refine wpF_reads rfl rfl ?_ (fun w' hw' => ?_) ?_
    rotate_left
    · have hb' := hw'.world
      skip
      clear hw'
      go_simp
      try rfl
    conv => arg 9; simp only [Act.put, List.setIfInBounds_toArray, List.set_cons_succ, List.set_cons_zero]
    refine wpF_readsG (by rfl) rfl ?_ (fun w' hw' => ?_) ?_
    rotate_left
    · have hb' := hw'.world
      obtain ⟨k0, k1, k2, k3⟩ := (BX5.out.below hb' BX5.out.lt).all
      clear hw'
      go_simp
      try rfl
    conv => arg 9; simp only [Act.put, List.setIfInBounds_toArray, List.set_cons_succ, List.set_cons_zero]
    refine wpF_readsG (by rfl) rfl ?_ (fun w' hw' => ?_) ?_
    rotate_left
    · have hb' := hw'.world
      obtain ⟨k0, k1, k2, k3⟩ := (BX3.out.below hb' BX3.out.lt).all
      clear hw'
      go_simp
      try rfl
    conv => arg 9; simp only [Act.put, List.setIfInBounds_toArray, List.set_cons_succ, List.set_cons_zero]
    refine wpF_specG (by rfl) rfl (fun w' hw' => ?_) ?_
    · have hb' := hw'.world
      go_simp
      have CT := mulA (N5.out.below hb').any Bzp.out (N3.out.below hb') BN3.out
      rw [show zp * z3 = mabc by rw [Hzp.out, Hmabc.out] <;> grind] at CT
      refine CT.mono ?_
      rintro e w'' ⟨za, zb, rfl, ho, hb⟩
      exact ⟨_, rfl, ⟨⟨za, zb, rfl⟩, ⟨za, zb, rfl, ho.mono hb'.size⟩⟩, hb⟩
    rintro _ ⟨y34, rfl⟩
    conv => arg 9; simp only [Act.put, List.setIfInBounds_toArray, List.set_cons_succ, List.set_cons_zero]
    refine wpF_readsG (by rfl) rfl ?_ (fun w' hw' => ?_) ?_
    rotate_left
    · have hb' := hw'.world
      obtain ⟨k0, k1, k2, k3⟩ := (BX1.out.below hb' BX1.out.lt).all
      clear hw'
      go_simp
      try rfl
    conv => arg 9; simp only [Act.put, List.setIfInBounds_toArray, List.set_cons_succ, List.set_cons_zero]
    refine wpF_readsG (by rfl) rfl ?_ (fun w' hw' => ?_) ?_
    rotate_left
    · have hb' := hw'.world
      obtain ⟨k0, k1, k2, k3⟩ := (BX2.out.below hb' BX2.out.lt).all
      clear hw'
      go_simp
      try rfl
    conv => arg 9; simp only [Act.put, List.setIfInBounds_toArray, List.set_cons_succ, List.set_cons_zero]
    refine wpF_readsG (by rfl) rfl ?_ (fun w' hw' => ?_) ?_
    rotate_left
    · have hb' := hw'.world
      obtain ⟨k0, k1, k2, k3⟩ := (BX3.out.below hb' BX3.out.lt).all
      clear hw'
      go_simp
      try rfl
    conv => arg 9; simp only [Act.put, List.setIfInBounds_toArray, List.set_cons_succ, List.set_cons_zero]
    refine wpF_specG (by rfl) rfl (fun w' hw' => ?_) ?_
    · have hb' := hw'.world
      go_simp
      have CT := mulA (N2.out.below hb') BN2.out (N3.out.below hb') BN3.out
      rw [show z2 * z3 = mbc by rw [Hmbc.out] <;> grind] at CT
      refine CT.mono ?_
      rintro e w'' ⟨za, zb, rfl, ho, hb⟩
      exact ⟨_, rfl, ⟨⟨za, zb, rfl⟩, ⟨za, zb, rfl, ho.mono hb'.size⟩⟩, hb⟩
    rintro _ ⟨y38, rfl⟩
    conv => arg 9; simp only [Act.put, List.setIfInBounds_toArray, List.set_cons_succ, List.set_cons_zero]
    refine wpF_specG (by rfl) rfl (fun w' hw' => ?_) ?_
    · have hb' := hw'.world
      go_simp
      have f38 := numO_of (x := y38) (z := mbc) (hw'.fact 38 (by kernel_rfl))
      have CT := mulA (N1.out.below hb') BN1.out f38.any Bmbc.out
      rw [show z1 * mbc = mabc by rw [Hmbc.out, Hmabc.out] <;> grind] at CT
      refine CT.mono ?_
      rintro e w'' ⟨za, zb, rfl, ho, hb⟩
      exact ⟨_, rfl, ⟨⟨za, zb, rfl⟩, ⟨za, zb, rfl, ho.mono hb'.size⟩⟩, hb⟩
    rintro _ ⟨y39, rfl⟩
    conv => arg 9; simp only [Act.put, List.setIfInBounds_toArray, List.set_cons_succ, List.set_cons_zero]
    refine wpF_specG (by rfl) rfl (fun w' hw' => ?_) ?_
    · have hb' := hw'.world
      go_simp
      have f34 := numO_of (x := y34) (z := mabc) (hw'.fact 34 (by kernel_rfl))
      have f39 := numO_of (x := y39) (z := mabc) (hw'.fact 39 (by kernel_rfl))
      have CT := sameT f34.r Bmabc.out f39.r Bmabc.out rfl
      refine CT.mono ?_
      rintro e w'' ⟨rfl, hb⟩
      exact ⟨_, rfl, rfl, hb⟩
    rintro _ rfl
    conv => arg 9; simp only [Act.put, List.setIfInBounds_toArray, List.set_cons_succ, List.set_cons_zero]
    refine wpF_reads rfl rfl ?_ (fun w' hw' => ?_) ?_
    rotate_left
    · have hb' := hw'.world
      skip
      clear hw'
      go_simp
      try rfl
    conv => arg 9; simp only [Act.put, List.setIfInBounds_toArray, List.set_cons_succ, List.set_cons_zero]
    refine wpF_reads rfl rfl ?_ (fun w' hw' => ?_) ?_
    rotate_left
    · have hb' := hw'.world
      skip
      clear hw'
      go_simp
      try rfl
    conv => arg 9; simp only [Act.put, List.setIfInBounds_toArray, List.set_cons_succ, List.set_cons_zero]
    refine wpF_readsG (by rfl) rfl ?_ (fun w' hw' => ?_) ?_
    rotate_left
    · have hb' := hw'.world
      obtain ⟨k0, k1, k2, k3⟩ := (BX4.out.below hb' BX4.out.lt).all
      clear hw'
      go_simp
      try rfl
    conv => arg 9; simp only [Act.put, List.setIfInBounds_toArray, List.set_cons_succ, List.set_cons_zero]
    refine wpF_readsG (by rfl) rfl ?_ (fun w' hw' => ?_) ?_
    rotate_left
    · have hb' := hw'.world
      obtain ⟨k0, k1, k2, k3⟩ := (BX3.out.below hb' BX3.out.lt).all
      clear hw'
      go_simp
      try rfl
    conv => arg 9; simp only [Act.put, List.setIfInBounds_toArray, List.set_cons_succ, List.set_cons_zero]
    refine wpF_specG (by rfl) rfl (fun w' hw' => ?_) ?_
    · have hb' := hw'.world
      go_simp
      have CT := mulA (N4.out.below hb').any Bzs.out (N3.out.below hb') BN3.out
      rw [show zs * z3 = msc by rw [Hzs.out, Hmsc.out] <;> grind] at CT
      refine CT.mono ?_
      rintro e w'' ⟨za, zb, rfl, ho, hb⟩
      exact ⟨_, rfl, ⟨⟨za, zb, rfl⟩, ⟨za, zb, rfl, ho.mono hb'.size⟩⟩, hb⟩
    rintro _ ⟨y45, rfl⟩
    conv => arg 9; simp only [Act.put, List.setIfInBounds_toArray, List.set_cons_succ, List.set_cons_zero]
    refine wpF_readsG (by rfl) rfl ?_ (fun w' hw' => ?_) ?_
    rotate_left
    · have hb' := hw'.world
      obtain ⟨k0, k1, k2, k3⟩ := (BX1.out.below hb' BX1.out.lt).all
      clear hw'
      go_simp
      try rfl
    conv => arg 9; simp only [Act.put, List.setIfInBounds_toArray, List.set_cons_succ, List.set_cons_zero]
    refine wpF_readsG (by rfl) rfl ?_ (fun w' hw' => ?_) ?_
    rotate_left
    · have hb' := hw'.world
      obtain ⟨k0, k1, k2, k3⟩ := (BX3.out.below hb' BX3.out.lt).all
      clear hw'
      go_simp
      try rfl
    conv => arg 9; simp only [Act.put, List.setIfInBounds_toArray, List.set_cons_succ, List.set_cons_zero]
    refine wpF_specG (by rfl) rfl (fun w' hw' => ?_) ?_
    · have hb' := hw'.world
      go_simp
      have CT := mulA (N1.out.below hb') BN1.out (N3.out.below hb') BN3.out
      rw [show z1 * z3 = mac by rw [Hmac.out] <;> grind] at CT
      refine CT.mono ?_
      rintro e w'' ⟨za, zb, rfl, ho, hb⟩
      exact ⟨_, rfl, ⟨⟨za, zb, rfl⟩, ⟨za, zb, rfl, ho.mono hb'.size⟩⟩, hb⟩
    rintro _ ⟨y48, rfl⟩
    conv => arg 9; simp only [Act.put, List.setIfInBounds_toArray, List.set_cons_succ, List.set_cons_zero]
    refine wpF_readsG (by rfl) rfl ?_ (fun w' hw' => ?_) ?_
    rotate_left
    · have hb' := hw'.world
      obtain ⟨k0, k1, k2, k3⟩ := (BX2.out.below hb' BX2.out.lt).all
      clear hw'
      go_simp
      try rfl
    conv => arg 9; simp only [Act.put, List.setIfInBounds_toArray, List.set_cons_succ, List.set_cons_zero]
    refine wpF_readsG (by rfl) rfl ?_ (fun w' hw' => ?_) ?_
    rotate_left
    · have hb' := hw'.world
      obtain ⟨k0, k1, k2, k3⟩ := (BX3.out.below hb' BX3.out.lt).all
      clear hw'
      go_simp
      try rfl
    conv => arg 9; simp only [Act.put, List.setIfInBounds_toArray, List.set_cons_succ, List.set_cons_zero]
    refine wpF_specG (by rfl) rfl (fun w' hw' => ?_) ?_
    · have hb' := hw'.world
      go_simp
      have CT := mulA (N2.out.below hb') BN2.out (N3.out.below hb') BN3.out
      rw [show z2 * z3 = mbc by rw [Hmbc.out] <;> grind] at CT
      refine CT.mono ?_
      rintro e w'' ⟨za, zb, rfl, ho, hb⟩
      exact ⟨_, rfl, ⟨⟨za, zb, rfl⟩, ⟨za, zb, rfl, ho.mono hb'.size⟩⟩, hb⟩
    rintro _ ⟨y51, rfl⟩
    conv => arg 9; simp only [Act.put, List.setIfInBounds_toArray, List.set_cons_succ, List.set_cons_zero]
    refine wpF_specG (by rfl) rfl (fun w' hw' => ?_) ?_
    · have hb' := hw'.world
      go_simp
      have f48 := numO_of (x := y48) (z := mac) (hw'.fact 48 (by kernel_rfl))
      have f51 := numO_of (x := y51) (z := mbc) (hw'.fact 51 (by kernel_rfl))
      have CT := addA f48.any Bmac.out f51.any Bmbc.out
      rw [show mac + mbc = msc by rw [Hmac.out, Hmbc.out, Hmsc.out] <;> grind] at CT
      refine CT.mono ?_
      rintro e w'' ⟨za, zb, rfl, ho, hb⟩
      exact ⟨_, rfl, ⟨⟨za, zb, rfl⟩, ⟨za, zb, rfl, ho.mono hb'.size⟩⟩, hb⟩
    rintro _ ⟨y52, rfl⟩
    conv => arg 9; simp only [Act.put, List.setIfInBounds_toArray, List.set_cons_succ, List.set_cons_zero]
    refine wpF_specG (by rfl) rfl (fun w' hw' => ?_) ?_
    · have hb' := hw'.world
      go_simp
      have f45 := numO_of (x := y45) (z := msc) (hw'.fact 45 (by kernel_rfl))
      have f52 := numO_of (x := y52) (z := msc) (hw'.fact 52 (by kernel_rfl))
      have CT := sameT f45.r Bmsc.out f52.r Bmsc.out rfl
      refine CT.mono ?_
      rintro e w'' ⟨rfl, hb⟩
      exact ⟨_, rfl, rfl, hb⟩
    rintro _ rfl
    conv => arg 9; simp only [Act.put, List.setIfInBounds_toArray, List.set_cons_succ, List.set_cons_zero]
    refine wpF_reads rfl rfl ?_ (fun w' hw' => ?_) ?_
    rotate_left
    · have hb' := hw'.world
      skip
      clear hw'
      go_simp
      try rfl
    conv => arg 9; simp only [Act.put, List.setIfInBounds_toArray, List.set_cons_succ, List.set_cons_zero]
    refine wpF_nil (fun w8 hb hF => ?_)
    have KG := Lib.hid (KG.out.trans (hb.mono KG.out.size))
    clear hF hb
    go_wp2_with fail
    go_ret
    exact ⟨rfl, KG.out⟩
theorem limbsRing_law (s1 : Bool) (a1 : Option Addr) (n1 c1 : Nat) (o1 : Nat → Int) (s2 : Bool) (a2 : Option Addr) (n2 c2 : Nat) (o2 : Nat → Int) (s3 : Bool) (a3 : Option Addr) (n3 c3 : Nat) (o3 : Nat → Int) (w : World) (htab : Tab w)
    (h1 : Rd w a1 n1 o1) (hc1 : n1 ≤ c1) (h2 : Rd w a2 n2 o2) (hc2 : n2 ≤ c2) (h3 : Rd w a3 n3 o3) (hc3 : n3 ≤ c3) :
    Calls Tryz.prog 4 #[numV s1 a1 n1 c1, numV s2 a2 n2 c2, numV s3 a3 n3 c3] w fun e w' => e = .returned (.bool true) ∧ Below w.heap.size w w' :=
  ring_walk s1 a1 n1 c1 _ s2 a2 n2 c2 _ s3 a3 n3 c3 _ w htab ⟨⟨o1, h1, rfl⟩, hc1⟩ ⟨⟨o2, h2, rfl⟩, hc2⟩ ⟨⟨o3, h3, rfl⟩, hc3⟩
end Go.Proofs.YtkpajfjjhbbieaaGreatDoor.Limb
namespace Go.Proofs.YtkpajfjjhbbieaaGreatDoor.Limb
open Go.RowKit Go.Sort

/-! ### The row and the card -/
open Go.ChangeShapes Go.WideShapes Go.ChangeAt
namespace LimbsRingC
theorem own : ownKnob Tryz.prog.godebug = none := by kernel_rfl
theorem laidOut : laidOutB Tryz.prog = true := by kernel_rfl

theorem tab_of_laid (W : World) (hL : laidMet Tryz.prog Rows.limbsRingRow.laid W) : Tab W :=
  Lib.tabIs_of_head (g := 2) (by kernel_rfl) (by kernel_rfl) (t := 235) (n := 20) (e := 74) Tryz.underlying235 Tryz.underlying74 (by kernel_rfl) (by kernel_rfl) hL.tail.tail
/-- A WORLD FOR THE WITNESS: the settled one, the tables holding what their initialisers lay. -/
noncomputable def laidWorld (os : Os) : World := World.laidAll Tryz.prog os Rows.limbsRingRow.laid
noncomputable def witArgs : Array Value := #[numV false none 0 0, numV false none 0 0, numV false none 0 0]
theorem laid_met (os : Os) : laidMet Tryz.prog Rows.limbsRingRow.laid ((laidWorld os).forCall (fun _ _ => 0) ⟨#[], witArgs, []⟩).memory :=
  laidMet_laidAll _ (by kernel_rfl) (by kernel_rfl)
theorem reads (os : Os) {H : Type} (enc : TypeId × Value → H) : ∃ places, DataW.whole enc Tryz.prog ((laidWorld os).forCall (fun _ _ => 0) ⟨#[], witArgs, []⟩).memory Tryz.f4.params.toList Rows.limbsRingSpec.vars false witArgs.toList 8 = some ([.agg [.lit (.bool false), .nil], .agg [.lit (.bool false), .nil], .agg [.lit (.bool false), .nil]], [], places) :=
  ⟨[], by kernel_rfl⟩

set_option maxRecDepth 100000 in
theorem lifted (os : Os) (started : os.Started) (H : Type) (enc : TypeId × Value → H) (F : Stop.Interp) :
    ReturnsInHanded {} Tryz.checked os 4 .any ((OpenSpec.ofChange Rows.limbsRingSpec).preRow enc Tryz.prog Tryz.f4 Rows.limbsRingRow.domain false Rows.limbsRingRow.laid) (((OpenSpec.ofChange Rows.limbsRingSpec).at F).post enc Tryz.prog Tryz.f4 false true false false) := by
  obtain ⟨places, hx⟩ := reads os enc
  refine returnsInHanded_of_row (C := Tryz.checked) (s := OpenSpec.ofChange Rows.limbsRingSpec) own started (by kernel_rfl) Tryz.func4
    (witness_row_atRef (enc := enc) (C := Tryz.checked) false (laidWorld os) witArgs (World.laidAll_os _ _ _) (by kernel_rfl) (by kernel_rfl) (by kernel_rfl)
      (OpenSpec.preRow_of_cond 8 hx (by kernel_rfl) (fun k hk => by cases hk) (by kernel_rfl) (laid_met os))) ?_
  intro W base args ds gs before hval0 hW _ _ _ hL _ _
  rw [MakeChecks.laidMetH_plain _ _ _ (by kernel_rfl)] at hL
  have htab : Tab W := tab_of_laid W hL
  have hval : ∀ (j : Nat) t v, Tryz.f4.params[j]? = some t → args[j]? = some v → Value.okWide Tryz.prog W .any base t v := hval0
  have hW' := hW
  obtain ⟨p, q, hA0, hV, rfl, hfz, hnd⟩ := hW
  have hA : DataW.TrodAll enc Tryz.prog W 0 (fun _ => true) true Tryz.f4.params.toList args.toList ds p := hA0
  rw [Tryz.params4] at hA hval
  obtain ⟨v0, v1, v2, d0, d1, d2, p0, p1, p2, rfl, rfl, rfl, h0, h1, h2⟩ := trodAll_three hA
  obtain ⟨rfl, rfl⟩ := trodVars_none hV
  obtain ⟨s1, a1, n1, c1, o1, rfl, r1, l1⟩ := open_num (hval 0 24 v0 rfl rfl) h0
  obtain ⟨s2, a2, n2, c2, o2, rfl, r2, l2⟩ := open_num (hval 1 24 v1 rfl rfl) h1
  obtain ⟨s3, a3, n3, c3, o3, rfl, r3, l3⟩ := open_num (hval 2 24 v2 rfl rfl) h2
  refine (limbsRing_law s1 a1 n1 c1 o1 s2 a2 n2 c2 o2 s3 a3 n3 c3 o3 W htab r1 l1 r2 l2 r3 l3).mono fun e W' ⟨he, hg⟩ => ?_
  subst he
  exact ⟨_, rfl, LawPost.law_post laidOut (by kernel_rfl) (by kernel_rfl) Tryz.underlying4 hW' rfl rfl hg⟩

theorem said : Rows.LimbsRingSaid :=
  OpenClaim.holds_of_cond 4 Tryz.f4 rfl rfl rfl rfl rfl rfl rfl ⟨rfl, rfl, rfl, rfl, rfl⟩ rfl rfl rfl rfl rfl (by kernel_rfl) Tryz.func4 (by kernel_rfl)
    (of_decide_eq_true (by kernel_rfl)) (by unfold Func.isWrapper; first | (rw [if_pos (by decide +kernel)]; kernel_rfl) | (rw [if_neg (by decide +kernel)]; exact ⟨rfl, rfl⟩))
    (fun os started H enc _ F => by rw [OpenClaim.pre_eq_preRow]; exact lifted os started H enc F)

/-- No parameter wants a stand-in; the program's own looks are off: what the card asks. -/
theorem plain (f : FuncId) (fn : Func) (hf : Tryz.pinned.checked.prog.funcNamed "reckoner/reckonerlaw01.LimbsRing" = some f) (hfn : Tryz.pinned.checked.prog.funcs[f]? = some fn) :
    true = Tryz.pinned.checked.prog.looks [] ∧ ∀ (j : Nat) t, fn.params[j]? = some t → Tryz.pinned.checked.prog.wantsStandIn t = false := by
  obtain rfl : f = 4 := Option.some.inj ((show Tryz.prog.funcNamed "reckoner/reckonerlaw01.LimbsRing" = some 4 by kernel_rfl).symm.trans hf) |>.symm
  obtain rfl : fn = Tryz.f4 := (Option.some.inj (Tryz.func4.symm.trans hfn)).symm
  refine ⟨by kernel_rfl, fun j t ht => ?_⟩
  rw [Tryz.params4] at ht
  obtain rfl : t = 24 := by simpa using Array.mem_of_getElem? ht
  exact (show Tryz.prog.wantsStandIn 24 = false by kernel_rfl)

/-- The card. -/
theorem card : Rows.LimbsRingCardSaid :=
  Claim7.holds_tied_plain_at .later [] _ _ _ _ said (fun _ h => by cases h) (by kernel_rfl) (fun _ h => by cases h) limbsRing_row_tie rfl ⟨rfl, rfl⟩ (by kernel_rfl) rfl plain (by kernel_rfl)
#print axioms card
end LimbsRingC
end Go.Proofs.YtkpajfjjhbbieaaGreatDoor.Limb
