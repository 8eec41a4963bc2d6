/-
  A number's text is read as it, if its digits are not too many; a text that is read is the number's; a hyphen more turns it.
-/
import Derived.Test.YtefjjhfahebmeaaGreatDoorRrG
set_option linter.unusedSimpArgs false
set_option linter.unusedVariables false
namespace Go.Proofs.YtefjjhfahebmeaaGreatDoor.Limb
open Go.RowKit Go.Sort
theorem tb_size (l : List UInt8) : (ByteArray.mk l.toArray).size = l.length := by show l.toArray.size = _; rw [List.size_toArray]
theorem itoa_len {z : Int} {k : Nat} (h : lenB z.natAbs ≤ k) : (Lib.itoa z).length ≤ 9 * k + 2 := by
  have h1 : Lib.nDigits z.natAbs ≤ 9 * k + 1 := itoa_lenN h rfl
  rw [itoa_len_eq]
  split <;> omega
def RZE (w : World) (c : Int) (e : Ending) (w' : World) : Prop := ∃ x : Option Addr × Nat, e = .returned (.tuple #[.agg #[.bool false, .slice x.1 0 x.2], .int .i64 c]) ∧ Below w.heap.size w w'
theorem parse_0 (w : World) {s : ByteArray} {c : Int} (hs : s.size ≤ 9223372036854775807) (hz : numT s.data.toList = 0) (hc : codeT s.data.toList = c) : Calls Tryz.prog 11 #[.string s] w (RZE w c) := by
  refine (parse_k w hs hz hc).mono ?_
  rintro e w' ⟨x, rfl, ho, hb⟩
  rw [ho.k.zv]
  exact ⟨(x.a, x.c), rfl, hb⟩
theorem hyph_data (s : ByteArray) : ((⟨#[45]⟩ : ByteArray) ++ s).data.toList = 45 :: s.data.toList := by
  rw [ByteArray.data_append, Array.toList_append]; rfl
theorem itoa_back {s : ByteArray} (h : codeT s.data.toList = 0) : (⟨(Lib.itoa (numT s.data.toList)).toArray⟩ : ByteArray) = s := by
  rw [(itoa_numT h).1, Array.toArray_toList]
set_option maxRecDepth 100000 in
set_option maxHeartbeats 16000000 in
theorem read_great (x1 : NV) (p1 : Int) (s : ByteArray) (w : World) (htab : Tab w) (h1 : AN w x1 p1) (hsm : s.size ≤ 9223372036854775807) (hg : 200 < x1.n) : Calls Tryz.prog 5 #[x1.v, .string s] w fun e w' => e = .returned (.bool true) ∧ Below w.heap.size w w' := by
  have HT := Lib.hid htab
  have KG := Lib.hid (Below.refl w.heap.size w)
  have N1 := Lib.hid h1
  have HSM := Lib.hid hsm
  have HG := Lib.hid hg
  clear hg
  clear htab h1 hsm
  go_enter Tryz.func5, Tryz.ntmps5
  go_upto_region 1 with (fail)
  obtain ⟨v2, hV⟩ : ∃ V, V = w.alloc (.cells #[.bool x1.s, .slice x1.a x1.n x1.c] 24) := ⟨_, rfl⟩
  have hbV : Below w.heap.size w v2 := by rw [hV]; exact ((Below.refl _ _).alloc (Nat.le_refl _) _)
  have BX1 := Lib.hid (show Bxs v2 (w.heap.size) 24 [.bool x1.s, .slice x1.a x1.n x1.c] by have h := Bxs.new (w) 24 [.bool x1.s, .slice x1.a x1.n x1.c]; rw [hV]; exact h)
  rw [show w.alloc (.cells #[.bool x1.s, .slice x1.a x1.n x1.c] 24) = v2 from hV.symm]
  have KG := Lib.hid (KG.out.trans (hbV.mono KG.out.size))
  clear hV hbV
  go_wp2_with fail
  have CT := Lib.hid (alive_true v2 (HT.out.on KG.out))
  with_reducible refine CT.out.mono ?_
  rintro e w3 ⟨rfl, hb⟩
  clear CT
  have BX1 := Lib.hid (BX1.out.below hb BX1.out.lt)
  have KG := Lib.hid (KG.out.trans (hb.mono KG.out.size))
  clear hb
  have cBX10 := BX1.out.cell (i := 0) rfl
  have cBX11 := BX1.out.cell (i := 1) rfl
  have cBX1f := BX1.out.fz
  have cBX1l := BX1.out.lt
  go_wp2_with fail
  clear cBX10 cBX11 cBX1f cBX1l
  obtain ⟨v5, hV⟩ : ∃ V, V = w3.alloc (.cells #[.bool x1.s, .slice x1.a x1.n x1.c] 24) := ⟨_, rfl⟩
  have hbV : Below w3.heap.size w3 v5 := by rw [hV]; exact ((Below.refl _ _).alloc (Nat.le_refl _) _)
  have BX4 := Lib.hid (show Bxs v5 (w3.heap.size) 24 [.bool x1.s, .slice x1.a x1.n x1.c] by have h := Bxs.new (w3) 24 [.bool x1.s, .slice x1.a x1.n x1.c]; rw [hV]; exact h)
  rw [show w3.alloc (.cells #[.bool x1.s, .slice x1.a x1.n x1.c] 24) = v5 from hV.symm]
  have BX1 := Lib.hid (BX1.out.below hbV BX1.out.lt)
  have KG := Lib.hid (KG.out.trans (hbV.mono KG.out.size))
  clear hV hbV
  have cBX10 := BX1.out.cell (i := 0) rfl
  have cBX11 := BX1.out.cell (i := 1) rfl
  have cBX1f := BX1.out.fz
  have cBX1l := BX1.out.lt
  have CT := Lib.hid (great1N (M := 200) BX4.out)
  rw [show ((200 : Nat) : Int) = 200 from rfl, show decide (200 < x1.n) = true from decide_eq_true HG.out] at CT
  with_reducible refine CT.out.mono ?_
  rintro e w6 ⟨rfl, hb⟩
  clear CT
  clear cBX10 cBX11 cBX1f cBX1l
  clear BX1
  clear BX4
  have KG := Lib.hid (KG.out.trans (hb.mono KG.out.size))
  clear hb
  go_wp2_with fail
  have CT := Lib.hid (alive_true w6 (HT.out.on KG.out))
  with_reducible refine CT.out.mono ?_
  rintro e w7 ⟨rfl, hb⟩
  clear CT
  have KG := Lib.hid (KG.out.trans (hb.mono KG.out.size))
  clear hb
  go_wp2_with fail
  go_ret
  exact ⟨rfl, KG.out⟩
set_option maxRecDepth 100000 in
set_option maxHeartbeats 16000000 in
theorem read_long (x1 : NV) (p1 : Int) (s : ByteArray) (w : World) (htab : Tab w) (h1 : AN w x1 p1) (b1 : x1.n ≤ 200) (hsm : s.size ≤ 9223372036854775807) (hs : 1048576 < s.size) : Calls Tryz.prog 5 #[x1.v, .string s] w fun e w' => e = .returned (.bool true) ∧ Below w.heap.size w w' := by
  have HT := Lib.hid htab
  have KG := Lib.hid (Below.refl w.heap.size w)
  have N1 := Lib.hid h1
  have Bx1 := Lib.hid b1
  have HSM := Lib.hid hsm
  have HS := Lib.hid hs
  clear hs
  clear htab h1 hsm b1
  go_enter Tryz.func5, Tryz.ntmps5
  go_upto_region 1 with (fail)
  obtain ⟨v2, hV⟩ : ∃ V, V = w.alloc (.cells #[.bool x1.s, .slice x1.a x1.n x1.c] 24) := ⟨_, rfl⟩
  have hbV : Below w.heap.size w v2 := by rw [hV]; exact ((Below.refl _ _).alloc (Nat.le_refl _) _)
  have BX1 := Lib.hid (show Bxs v2 (w.heap.size) 24 [.bool x1.s, .slice x1.a x1.n x1.c] by have h := Bxs.new (w) 24 [.bool x1.s, .slice x1.a x1.n x1.c]; rw [hV]; exact h)
  rw [show w.alloc (.cells #[.bool x1.s, .slice x1.a x1.n x1.c] 24) = v2 from hV.symm]
  have KG := Lib.hid (KG.out.trans (hbV.mono KG.out.size))
  clear hV hbV
  go_wp2_with fail
  have CT := Lib.hid (alive_true v2 (HT.out.on KG.out))
  with_reducible refine CT.out.mono ?_
  rintro e w3 ⟨rfl, hb⟩
  clear CT
  have BX1 := Lib.hid (BX1.out.below hb BX1.out.lt)
  have KG := Lib.hid (KG.out.trans (hb.mono KG.out.size))
  clear hb
  have cBX10 := BX1.out.cell (i := 0) rfl
  have cBX11 := BX1.out.cell (i := 1) rfl
  have cBX1f := BX1.out.fz
  have cBX1l := BX1.out.lt
  go_wp2_with fail
  clear cBX10 cBX11 cBX1f cBX1l
  obtain ⟨v5, hV⟩ : ∃ V, V = w3.alloc (.cells #[.bool x1.s, .slice x1.a x1.n x1.c] 24) := ⟨_, rfl⟩
  have hbV : Below w3.heap.size w3 v5 := by rw [hV]; exact ((Below.refl _ _).alloc (Nat.le_refl _) _)
  have BX4 := Lib.hid (show Bxs v5 (w3.heap.size) 24 [.bool x1.s, .slice x1.a x1.n x1.c] by have h := Bxs.new (w3) 24 [.bool x1.s, .slice x1.a x1.n x1.c]; rw [hV]; exact h)
  rw [show w3.alloc (.cells #[.bool x1.s, .slice x1.a x1.n x1.c] 24) = v5 from hV.symm]
  have BX1 := Lib.hid (BX1.out.below hbV BX1.out.lt)
  have KG := Lib.hid (KG.out.trans (hbV.mono KG.out.size))
  clear hV hbV
  have cBX10 := BX1.out.cell (i := 0) rfl
  have cBX11 := BX1.out.cell (i := 1) rfl
  have cBX1f := BX1.out.fz
  have cBX1l := BX1.out.lt
  have CT := Lib.hid (great1N (M := 200) BX4.out)
  rw [show ((200 : Nat) : Int) = 200 from rfl, show decide (200 < x1.n) = false from decide_eq_false (by have g0 : x1.n ≤ 200 := Bx1.out; omega)] at CT
  with_reducible refine CT.out.mono ?_
  rintro e w6 ⟨rfl, hb⟩
  clear CT
  clear cBX10 cBX11 cBX1f cBX1l
  clear BX1
  clear BX4
  have KG := Lib.hid (KG.out.trans (hb.mono KG.out.size))
  clear hb
  go_wp2_with fail
  obtain ⟨v8, hV⟩ : ∃ V, V = w6.alloc (.cells #[.int .i64 s.size] 3) := ⟨_, rfl⟩
  have hbV : Below w6.heap.size w6 v8 := by rw [hV]; exact ((Below.refl _ _).alloc (Nat.le_refl _) _)
  have BX7 := Lib.hid (show Bxs v8 (w6.heap.size) 3 [.int .i64 s.size] by have h := Bxs.new (w6) 3 [.int .i64 s.size]; rw [hV]; exact h)
  rw [show w6.alloc (.cells #[.int .i64 s.size] 3) = v8 from hV.symm]
  have KG := Lib.hid (KG.out.trans (hbV.mono KG.out.size))
  clear hV hbV
  have CT := Lib.hid (beyond1 BX7.out HSM.out)
  rw [show decide (1048576 < s.size) = true from decide_eq_true HS.out] at CT
  with_reducible refine CT.out.mono ?_
  rintro e w9 ⟨rfl, hb⟩
  clear CT
  clear BX7
  have KG := Lib.hid (KG.out.trans (hb.mono KG.out.size))
  clear hb
  go_wp2_with fail
  have CT := Lib.hid (alive_true w9 (HT.out.on KG.out))
  with_reducible refine CT.out.mono ?_
  rintro e w10 ⟨rfl, hb⟩
  clear CT
  have KG := Lib.hid (KG.out.trans (hb.mono KG.out.size))
  clear hb
  go_wp2_with fail
  go_ret
  exact ⟨rfl, KG.out⟩
set_option maxRecDepth 100000 in
set_option maxHeartbeats 16000000 in
theorem read_bad_p (x1 : NV) (p1 : Int) (s : ByteArray) (w : World) (htab : Tab w) (h1 : XN w x1) (b1 : x1.n ≤ 200) (hsm : s.size ≤ 9223372036854775807) (hs : ¬ 1048576 < s.size) (hc : codeT s.data.toList = 0) (hsg2 : 0 < numT s.data.toList) : Calls Tryz.prog 5 #[x1.v, .string s] w fun e w' => e = .returned (.bool true) ∧ Below w.heap.size w w' := by
  have HT := Lib.hid htab
  have KG := Lib.hid (Below.refl w.heap.size w)
  have N1 := Lib.hid h1
  have Bx1 := Lib.hid b1
  have HSM := Lib.hid hsm
  have HS := Lib.hid hs
  obtain ⟨tb, htb⟩ : ∃ t : ByteArray, t = ⟨(Lib.itoa 0).toArray⟩ := ⟨_, rfl⟩
  have HTB := Lib.hid htb
  have htl : tb.size = (Lib.itoa 0).length := by rw [htb]; exact tb_size _
  have htd : tb.data.toList = Lib.itoa 0 := by rw [htb]
  have et : tb = ⟨#[48]⟩ := by rw [htb]; exact congrArg ByteArray.mk itoa_zero
  have HTM := Lib.hid (show tb.size ≤ 9223372036854775807 by rw [et]; decide)
  have etn : (tb.toList == [48]) = true := by rw [et, ByteArray.toList_eq]; rfl
  obtain ⟨zt, hzt⟩ : ∃ z, z = numT tb.data.toList := ⟨_, rfl⟩
  have HZT := Lib.hid hzt
  obtain ⟨ct, hct⟩ : ∃ z, z = codeT tb.data.toList := ⟨_, rfl⟩
  have HCT := Lib.hid hct
  have LZzt := Lib.hid (show lenB zt.natAbs ≤ 23 by rw [hzt]; exact numT_len _)
  have HC := Lib.hid hc
  have hy := hyph_pos hc hsg2
  obtain ⟨zs, hzs⟩ : ∃ z, z = numT s.data.toList := ⟨_, rfl⟩
  have HZS := Lib.hid hzs
  have LZzs := Lib.hid (show lenB zs.natAbs ≤ 23 by rw [hzs]; exact numT_len _)
  have HBK := Lib.hid (show (⟨(Lib.itoa zs).toArray⟩ : ByteArray) = s by rw [hzs]; exact itoa_back hc)
  obtain ⟨hs2, hhs⟩ : ∃ t : ByteArray, t = ⟨#[45]⟩ ++ s := ⟨_, rfl⟩
  have hhd : hs2.data.toList = 45 :: s.data.toList := by rw [hhs]; exact hyph_data s
  have ehs : (⟨#[45]⟩ : ByteArray) ++ s = hs2 := hhs.symm
  have l1 : ¬ (9223372036854775807 < 1 + s.size) := by have := HS.out; omega
  have HHM := Lib.hid (show hs2.size ≤ 9223372036854775807 by rw [hhs, ByteArray.size_append]; have : (ByteArray.mk #[45]).size = 1 := rfl; omega)
  obtain ⟨zh, hzh⟩ : ∃ z, z = numT hs2.data.toList := ⟨_, rfl⟩
  have HZH := Lib.hid hzh.symm
  have LZzh := Lib.hid (show lenB zh.natAbs ≤ 23 by rw [hzh]; exact numT_len _)
  have HHC := Lib.hid (show codeT hs2.data.toList = 0 by rw [hhd]; exact hy.1)
  have EZH := Lib.hid (show zh = -zs by rw [hzh, hhd, hzs]; exact hy.2)
  have HP2 := Lib.hid (show 0 < zs by rw [hzs]; exact hsg2)
  clear hs htb htl htd et hzt hct hc hsg2 hzs hhs hhd hzh hy
  clear htab h1 hsm b1
  obtain ⟨z31, hz31⟩ : ∃ z : Int, z = -zs := ⟨_, rfl⟩
  have Hz31 := Lib.hid hz31
  have LZz31 := Lib.hid (show lenB z31.natAbs ≤ 23 by rw [hz31]; exact lenZ_neg LZzs.out)
  clear hz31
  go_enter Tryz.func5, Tryz.ntmps5
  go_upto_region 1 with (fail)
  obtain ⟨v2, hV⟩ : ∃ V, V = w.alloc (.cells #[.bool x1.s, .slice x1.a x1.n x1.c] 24) := ⟨_, rfl⟩
  have hbV : Below w.heap.size w v2 := by rw [hV]; exact ((Below.refl _ _).alloc (Nat.le_refl _) _)
  have BX1 := Lib.hid (show Bxs v2 (w.heap.size) 24 [.bool x1.s, .slice x1.a x1.n x1.c] by have h := Bxs.new (w) 24 [.bool x1.s, .slice x1.a x1.n x1.c]; rw [hV]; exact h)
  rw [show w.alloc (.cells #[.bool x1.s, .slice x1.a x1.n x1.c] 24) = v2 from hV.symm]
  have KG := Lib.hid (KG.out.trans (hbV.mono KG.out.size))
  clear hV hbV
  go_wp2_with fail
  have CT := Lib.hid (alive_true v2 (HT.out.on KG.out))
  with_reducible refine CT.out.mono ?_
  rintro e w3 ⟨rfl, hb⟩
  clear CT
  have BX1 := Lib.hid (BX1.out.below hb BX1.out.lt)
  have KG := Lib.hid (KG.out.trans (hb.mono KG.out.size))
  clear hb
  have cBX10 := BX1.out.cell (i := 0) rfl
  have cBX11 := BX1.out.cell (i := 1) rfl
  have cBX1f := BX1.out.fz
  have cBX1l := BX1.out.lt
  go_wp2_with fail
  clear cBX10 cBX11 cBX1f cBX1l
  obtain ⟨v5, hV⟩ : ∃ V, V = w3.alloc (.cells #[.bool x1.s, .slice x1.a x1.n x1.c] 24) := ⟨_, rfl⟩
  have hbV : Below w3.heap.size w3 v5 := by rw [hV]; exact ((Below.refl _ _).alloc (Nat.le_refl _) _)
  have BX4 := Lib.hid (show Bxs v5 (w3.heap.size) 24 [.bool x1.s, .slice x1.a x1.n x1.c] by have h := Bxs.new (w3) 24 [.bool x1.s, .slice x1.a x1.n x1.c]; rw [hV]; exact h)
  rw [show w3.alloc (.cells #[.bool x1.s, .slice x1.a x1.n x1.c] 24) = v5 from hV.symm]
  have BX1 := Lib.hid (BX1.out.below hbV BX1.out.lt)
  have KG := Lib.hid (KG.out.trans (hbV.mono KG.out.size))
  clear hV hbV
  have cBX10 := BX1.out.cell (i := 0) rfl
  have cBX11 := BX1.out.cell (i := 1) rfl
  have cBX1f := BX1.out.fz
  have cBX1l := BX1.out.lt
  have CT := Lib.hid (great1N (M := 200) BX4.out)
  rw [show ((200 : Nat) : Int) = 200 from rfl, show decide (200 < x1.n) = false from decide_eq_false (by have g0 : x1.n ≤ 200 := Bx1.out; omega)] at CT
  with_reducible refine CT.out.mono ?_
  rintro e w6 ⟨rfl, hb⟩
  clear CT
  clear cBX10 cBX11 cBX1f cBX1l
  have BX1 := Lib.hid (BX1.out.below hb BX1.out.lt)
  clear BX4
  have KG := Lib.hid (KG.out.trans (hb.mono KG.out.size))
  clear hb
  go_wp2_with fail
  obtain ⟨v8, hV⟩ : ∃ V, V = w6.alloc (.cells #[.int .i64 s.size] 3) := ⟨_, rfl⟩
  have hbV : Below w6.heap.size w6 v8 := by rw [hV]; exact ((Below.refl _ _).alloc (Nat.le_refl _) _)
  have BX7 := Lib.hid (show Bxs v8 (w6.heap.size) 3 [.int .i64 s.size] by have h := Bxs.new (w6) 3 [.int .i64 s.size]; rw [hV]; exact h)
  rw [show w6.alloc (.cells #[.int .i64 s.size] 3) = v8 from hV.symm]
  have BX1 := Lib.hid (BX1.out.below hbV BX1.out.lt)
  have KG := Lib.hid (KG.out.trans (hbV.mono KG.out.size))
  clear hV hbV
  have CT := Lib.hid (beyond1 BX7.out HSM.out)
  rw [show decide (1048576 < s.size) = false from decide_eq_false HS.out] at CT
  with_reducible refine CT.out.mono ?_
  rintro e w9 ⟨rfl, hb⟩
  clear CT
  have BX1 := Lib.hid (BX1.out.below hb BX1.out.lt)
  clear BX7
  have KG := Lib.hid (KG.out.trans (hb.mono KG.out.size))
  clear hb
  have cBX10 := BX1.out.cell (i := 0) rfl
  have cBX11 := BX1.out.cell (i := 1) rfl
  have cBX1f := BX1.out.fz
  have cBX1l := BX1.out.lt
  go_wp2_with fail
  have CT := Lib.hid (textN (N1.out.below KG.out).any (show x1.n ≤ 10000000 from Nat.le_trans Bx1.out (by decide)) (HT.out.on KG.out))
  rw [show (⟨(Lib.itoa 0).toArray⟩ : ByteArray) = tb from HTB.out.symm] at CT
  with_reducible refine CT.out.mono ?_
  rintro e w10 ⟨rfl, hb⟩
  clear CT
  clear cBX10 cBX11 cBX1f cBX1l
  have BX1 := Lib.hid (BX1.out.below hb BX1.out.lt)
  have KG := Lib.hid (KG.out.trans (hb.mono KG.out.size))
  clear hb
  go_wp2_with fail
  have CT := Lib.hid (parse_k w10 HTM.out HZT.out.symm HCT.out.symm)
  with_reducible refine CT.out.mono ?_
  rintro e w11 ⟨x12, rfl, hN13, hb⟩
  have N13 := Lib.hid hN13
  clear hN13
  clear CT
  have BX1 := Lib.hid (BX1.out.below hb BX1.out.lt)
  have KG := Lib.hid (KG.out.trans (hb.mono KG.out.size))
  clear hb
  clear N13
  go_upto_region 5 with (fail)
  obtain ⟨v15, hV⟩ : ∃ V, V = w11.alloc (.cells #[.bool x12.s, .slice x12.a x12.n x12.c] 24) := ⟨_, rfl⟩
  have hbV : Below w11.heap.size w11 v15 := by rw [hV]; exact ((Below.refl _ _).alloc (Nat.le_refl _) _)
  have BX14 := Lib.hid (show Bxs v15 (w11.heap.size) 24 [.bool x12.s, .slice x12.a x12.n x12.c] by have h := Bxs.new (w11) 24 [.bool x12.s, .slice x12.a x12.n x12.c]; rw [hV]; exact h)
  rw [show w11.alloc (.cells #[.bool x12.s, .slice x12.a x12.n x12.c] 24) = v15 from hV.symm]
  have BX1 := Lib.hid (BX1.out.below hbV BX1.out.lt)
  have KG := Lib.hid (KG.out.trans (hbV.mono KG.out.size))
  clear hV hbV
  clear BX14
  have cBX10 := BX1.out.cell (i := 0) rfl
  have cBX11 := BX1.out.cell (i := 1) rfl
  have cBX1f := BX1.out.fz
  have cBX1l := BX1.out.lt
  go_wp2_with fail
  have CT := Lib.hid (signN (N1.out.below KG.out).any (show x1.n ≤ 10000000 from Nat.le_trans Bx1.out (by decide)))
  rw [show cmpZ (0 : Int) 0 = 0 from cmpZ_eq rfl] at CT
  with_reducible refine CT.out.mono ?_
  rintro e w16 ⟨rfl, hb⟩
  clear CT
  clear cBX10 cBX11 cBX1f cBX1l
  have BX1 := Lib.hid (BX1.out.below hb BX1.out.lt)
  have KG := Lib.hid (KG.out.trans (hb.mono KG.out.size))
  clear hb
  have cBX10 := BX1.out.cell (i := 0) rfl
  have cBX11 := BX1.out.cell (i := 1) rfl
  have cBX1f := BX1.out.fz
  have cBX1l := BX1.out.lt
  go_wp2_with fail
  have CT := Lib.hid (checkBN (N1.out.below KG.out) (show x1.n ≤ 10000000 from Nat.le_trans Bx1.out (by decide)))
  with_reducible refine CT.out.mono ?_
  rintro e w17 ⟨rfl, hb⟩
  clear CT
  clear cBX10 cBX11 cBX1f cBX1l
  have BX1 := Lib.hid (BX1.out.below hb BX1.out.lt)
  have KG := Lib.hid (KG.out.trans (hb.mono KG.out.size))
  clear hb
  have cBX10 := BX1.out.cell (i := 0) rfl
  have cBX11 := BX1.out.cell (i := 1) rfl
  have cBX1f := BX1.out.fz
  have cBX1l := BX1.out.lt
  go_wp2_with fail
  have CT := Lib.hid (checkBN (N1.out.below KG.out) (show x1.n ≤ 10000000 from Nat.le_trans Bx1.out (by decide)))
  with_reducible refine CT.out.mono ?_
  rintro e w18 ⟨rfl, hb⟩
  clear CT
  clear cBX10 cBX11 cBX1f cBX1l
  clear BX1
  have KG := Lib.hid (KG.out.trans (hb.mono KG.out.size))
  clear hb
  go_wp2_with fail
  have CT := Lib.hid (parse_k w18 HSM.out HZS.out.symm HC.out)
  with_reducible refine CT.out.mono ?_
  rintro e w19 ⟨x20, rfl, hN21, hb⟩
  have N21 := Lib.hid hN21
  clear hN21
  clear CT
  have KG := Lib.hid (KG.out.trans (hb.mono KG.out.size))
  clear hb
  go_upto_region 11 with (fail)
  obtain ⟨v23, hV⟩ : ∃ V, V = w19.alloc (.cells #[.bool x20.s, .slice x20.a x20.n x20.c] 24) := ⟨_, rfl⟩
  have hbV : Below w19.heap.size w19 v23 := by rw [hV]; exact ((Below.refl _ _).alloc (Nat.le_refl _) _)
  have BX22 := Lib.hid (show Bxs v23 (w19.heap.size) 24 [.bool x20.s, .slice x20.a x20.n x20.c] by have h := Bxs.new (w19) 24 [.bool x20.s, .slice x20.a x20.n x20.c]; rw [hV]; exact h)
  rw [show w19.alloc (.cells #[.bool x20.s, .slice x20.a x20.n x20.c] 24) = v23 from hV.symm]
  have N21 := Lib.hid (N21.out.below hbV)
  have KG := Lib.hid (KG.out.trans (hbV.mono KG.out.size))
  clear hV hbV
  go_wp2_with fail
  have CT := Lib.hid (parse_k v23 HHM.out HZH.out HHC.out)
  with_reducible refine CT.out.mono ?_
  rintro e w24 ⟨x25, rfl, hN26, hb⟩
  have N26 := Lib.hid hN26
  clear hN26
  clear CT
  have N21 := Lib.hid (N21.out.below hb)
  have BX22 := Lib.hid (BX22.out.below hb BX22.out.lt)
  have KG := Lib.hid (KG.out.trans (hb.mono KG.out.size))
  clear hb
  go_upto_region 14 with (fail)
  obtain ⟨v28, hV⟩ : ∃ V, V = w24.alloc (.cells #[.bool x25.s, .slice x25.a x25.n x25.c] 24) := ⟨_, rfl⟩
  have hbV : Below w24.heap.size w24 v28 := by rw [hV]; exact ((Below.refl _ _).alloc (Nat.le_refl _) _)
  have BX27 := Lib.hid (show Bxs v28 (w24.heap.size) 24 [.bool x25.s, .slice x25.a x25.n x25.c] by have h := Bxs.new (w24) 24 [.bool x25.s, .slice x25.a x25.n x25.c]; rw [hV]; exact h)
  rw [show w24.alloc (.cells #[.bool x25.s, .slice x25.a x25.n x25.c] 24) = v28 from hV.symm]
  have N21 := Lib.hid (N21.out.below hbV)
  have N26 := Lib.hid (N26.out.below hbV)
  have BX22 := Lib.hid (BX22.out.below hbV BX22.out.lt)
  have KG := Lib.hid (KG.out.trans (hbV.mono KG.out.size))
  clear hV hbV
  have cBX220 := BX22.out.cell (i := 0) rfl
  have cBX221 := BX22.out.cell (i := 1) rfl
  have cBX22f := BX22.out.fz
  have cBX22l := BX22.out.lt
  go_wp2_with fail
  have CT := Lib.hid (checkN N21.out.k (N21.out.k.len LZzs.out (by decide)))
  with_reducible refine CT.out.mono ?_
  rintro e w29 ⟨rfl, hb⟩
  clear CT
  clear cBX220 cBX221 cBX22f cBX22l
  have N21 := Lib.hid (N21.out.below hb)
  have N26 := Lib.hid (N26.out.below hb)
  have BX22 := Lib.hid (BX22.out.below hb BX22.out.lt)
  have BX27 := Lib.hid (BX27.out.below hb BX27.out.lt)
  have KG := Lib.hid (KG.out.trans (hb.mono KG.out.size))
  clear hb
  have cBX220 := BX22.out.cell (i := 0) rfl
  have cBX221 := BX22.out.cell (i := 1) rfl
  have cBX22f := BX22.out.fz
  have cBX22l := BX22.out.lt
  go_wp2_with fail
  have CT := Lib.hid (textN N21.out.k.any (N21.out.k.len LZzs.out (by decide)) (HT.out.on KG.out))
  rw [show (⟨(Lib.itoa zs).toArray⟩ : ByteArray) = s from HBK.out] at CT
  with_reducible refine CT.out.mono ?_
  rintro e w30 ⟨rfl, hb⟩
  clear CT
  clear cBX220 cBX221 cBX22f cBX22l
  have N21 := Lib.hid (N21.out.below hb)
  have N26 := Lib.hid (N26.out.below hb)
  have BX22 := Lib.hid (BX22.out.below hb BX22.out.lt)
  have BX27 := Lib.hid (BX27.out.below hb BX27.out.lt)
  have KG := Lib.hid (KG.out.trans (hb.mono KG.out.size))
  clear hb
  go_upto_region 16 with (fail)
  refine Go.FreshS.wp_region_fresh 22 [] (Go.FreshS.spOf [(1, Go.FreshS.Sp.know (.int .i64 1)), (10, Go.FreshS.Sp.made (fun x : NV => x.v) (fun x w' => DN w' w30.heap.size x z31) NV.blk), (11, Go.FreshS.Sp.know (.bool true))])
    (fun w' => Below w30.heap.size w30 w') (by kernel_rfl) (by kernel_rfl) (by kernel_rfl)
    (Go.FreshS.spOf_cons (Go.FreshS.Sp.know_keeps _ _) (Go.FreshS.spOf_cons (Go.FreshS.Sp.made_keeps _ (fun _ _ _ h _ hk => h.kept hk) (Go.FreshS.notTaken (by kernel_rfl))) (Go.FreshS.spOf_cons (Go.FreshS.Sp.know_keeps _ _) (Go.FreshS.spOf_nil)))) (fun _ _ h hb => h.trans (hb.mono h.size)) ((Below.refl _ _).drew) ?_
  simp only [List.append_eq, List.cons_append, List.nil_append, List.take_succ_cons, List.take_zero, List.drop_succ_cons, List.drop_zero]
  refine Go.FreshS.wpF_reads rfl rfl rfl ?_ (fun w' hw' => ?_) ?_
  rotate_left
  · have hb' := hw'.world
    have hs0 := (BX22.out.below hb' BX22.out.lt).cell (i := 0) rfl
    have hs1 := (BX22.out.below hb' BX22.out.lt).cell (i := 1) rfl
    have hsf := (BX22.out.below hb' BX22.out.lt).fz
    have hsl := (BX22.out.below hb' BX22.out.lt).lt
    clear hw'
    go_simp
    try rfl
  conv => arg 10; simp only [Act.put, List.setIfInBounds_toArray, List.set_cons_succ, List.set_cons_zero]
  refine Go.FreshS.wpF_spec rfl rfl rfl (fun w' hw' => ?_) ?_
  · have hb' := hw'.world
    refine Go.FreshS.gives_of (Go.FreshS.PK (.int .i64 1)) ?_ (fun _ _ h => h.post)
    go_simp
    have CT := signN (N21.out.below hb').k.any ((N21.out.below hb').k.len LZzs.out (by decide))
    rw [show cmpZ zs 0 = 1 from cmpZ_gt HP2.out] at CT
    refine CT.mono ?_
    rintro e w'' ⟨rfl, hb⟩
    exact ⟨_, rfl, rfl, hb⟩
  rintro _ rfl
  conv => arg 10; simp only [Act.put, List.setIfInBounds_toArray, List.set_cons_succ, List.set_cons_zero]
  refine Go.FreshS.wpF_reads rfl rfl rfl ?_ (fun w' hw' => ?_) ?_
  rotate_left
  · have hb' := hw'.world
    skip
    clear hw'
    go_simp
    try rfl
  conv => arg 10; simp only [Act.put, List.setIfInBounds_toArray, List.set_cons_succ, List.set_cons_zero]
  refine Go.FreshS.wpF_reads rfl rfl rfl ?_ (fun w' hw' => ?_) ?_
  rotate_left
  · have hb' := hw'.world
    skip
    clear hw'
    go_simp
    try rfl
  conv => arg 10; simp only [Act.put, List.setIfInBounds_toArray, List.set_cons_succ, List.set_cons_zero]
  refine Go.FreshS.wpF_readsG (by rfl) rfl rfl ?_ (fun w' hw' => ?_) ?_
  rotate_left
  · have hb' := hw'.world
    skip
    clear hw'
    go_simp
    try rfl
  conv => arg 10; simp only [Act.put, List.setIfInBounds_toArray, List.set_cons_succ, List.set_cons_zero]
  refine Go.FreshS.wpF_readsG (by rfl) rfl rfl ?_ (fun w' hw' => ?_) ?_
  rotate_left
  · have hb' := hw'.world
    skip
    clear hw'
    go_simp
    try rfl
  conv => arg 10; simp only [Act.put, List.setIfInBounds_toArray, List.set_cons_succ, List.set_cons_zero]
  refine Go.FreshS.wpF_reads rfl rfl rfl ?_ (fun w' hw' => ?_) ?_
  rotate_left
  · have hb' := hw'.world
    skip
    clear hw'
    go_simp
    try rfl
  conv => arg 10; simp only [Act.put, List.setIfInBounds_toArray, List.set_cons_succ, List.set_cons_zero]
  refine Go.FreshS.wpF_reads rfl rfl rfl ?_ (fun w' hw' => ?_) ?_
  rotate_left
  · have hb' := hw'.world
    skip
    clear hw'
    go_simp
    try rfl
  conv => arg 10; simp only [Act.put, List.setIfInBounds_toArray, List.set_cons_succ, List.set_cons_zero]
  refine Go.FreshS.wpF_readsG (by rfl) rfl rfl ?_ (fun w' hw' => ?_) ?_
  rotate_left
  · have hb' := hw'.world
    have hs0 := (BX27.out.below hb' BX27.out.lt).cell (i := 0) rfl
    have hs1 := (BX27.out.below hb' BX27.out.lt).cell (i := 1) rfl
    have hsf := (BX27.out.below hb' BX27.out.lt).fz
    have hsl := (BX27.out.below hb' BX27.out.lt).lt
    clear hw'
    go_simp
    try rfl
  conv => arg 10; simp only [Act.put, List.setIfInBounds_toArray, List.set_cons_succ, List.set_cons_zero]
  refine Go.FreshS.wpF_readsG (by rfl) rfl rfl ?_ (fun w' hw' => ?_) ?_
  rotate_left
  · have hb' := hw'.world
    have hs0 := (BX22.out.below hb' BX22.out.lt).cell (i := 0) rfl
    have hs1 := (BX22.out.below hb' BX22.out.lt).cell (i := 1) rfl
    have hsf := (BX22.out.below hb' BX22.out.lt).fz
    have hsl := (BX22.out.below hb' BX22.out.lt).lt
    clear hw'
    go_simp
    try rfl
  conv => arg 10; simp only [Act.put, List.setIfInBounds_toArray, List.set_cons_succ, List.set_cons_zero]
  refine Go.FreshS.wpF_gspec (by rfl) rfl rfl (fun w' hw' => ?_) ?_
  · have hb' := hw'.world
    refine Go.FreshS.gives_of (Go.FreshS.PM (fun x : NV => x.v) (fun x w' => DN w' w30.heap.size x z31) NV.blk w'.heap.size) ?_ (fun _ _ h => h.post @NV.inj)
    go_simp
    have CT := negN (N21.out.below hb').k.any ((N21.out.below hb').k.len LZzs.out (by decide))
    rw [show -zs = z31 from Hz31.out.symm] at CT
    refine CT.mono ?_
    rintro e w'' ⟨za, rfl, ho, hb⟩
    exact ⟨_, rfl, ⟨za, rfl, ho.mono hb'.size, ho.blks⟩, hb⟩
  rintro _ ⟨y10, rfl⟩
  conv => arg 10; simp only [Act.put, List.setIfInBounds_toArray, List.set_cons_succ, List.set_cons_zero]
  refine Go.FreshS.wpF_gspec (by rfl) rfl rfl (fun w' hw' => ?_) ?_
  · have hb' := hw'.world
    refine Go.FreshS.gives_of (Go.FreshS.PK (.bool true)) ?_ (fun _ _ h => h.post)
    go_simp
    have f10 := Go.FreshS.made_of (val := fun x : NV => x.v) (Φ := fun x w' => DN w' w30.heap.size x z31) @NV.inj (hw'.fact 10 (by kernel_rfl))
    have CT := sameTN (N26.out.below hb').k ((N26.out.below hb').k.len LZzh.out (by decide)) f10.k (f10.k.len LZz31.out (by decide)) (by have h := EZH.out; simp only [Hz31.out]; exact h)
    refine CT.mono ?_
    rintro e w'' ⟨rfl, hb⟩
    exact ⟨_, rfl, rfl, hb⟩
  rintro _ rfl
  conv => arg 10; simp only [Act.put, List.setIfInBounds_toArray, List.set_cons_succ, List.set_cons_zero]
  refine Go.FreshS.wpF_reads rfl rfl rfl ?_ (fun w' hw' => ?_) ?_
  rotate_left
  · have hb' := hw'.world
    skip
    clear hw'
    go_simp
    try rfl
  conv => arg 10; simp only [Act.put, List.setIfInBounds_toArray, List.set_cons_succ, List.set_cons_zero]
  refine Go.FreshS.wpF_reads rfl rfl rfl ?_ (fun w' hw' => ?_) ?_
  rotate_left
  · have hb' := hw'.world
    skip
    clear hw'
    go_simp
    try rfl
  conv => arg 10; simp only [Act.put, List.setIfInBounds_toArray, List.set_cons_succ, List.set_cons_zero]
  refine Go.FreshS.wpF_skip (by rfl) rfl ?_
  conv => arg 10; simp only [Act.put, List.setIfInBounds_toArray, List.set_cons_succ, List.set_cons_zero]
  refine Go.FreshS.wpF_skip (by rfl) rfl ?_
  conv => arg 10; simp only [Act.put, List.setIfInBounds_toArray, List.set_cons_succ, List.set_cons_zero]
  refine Go.FreshS.wpF_skip (by rfl) rfl ?_
  conv => arg 10; simp only [Act.put, List.setIfInBounds_toArray, List.set_cons_succ, List.set_cons_zero]
  refine Go.FreshS.wpF_skip (by rfl) rfl ?_
  conv => arg 10; simp only [Act.put, List.setIfInBounds_toArray, List.set_cons_succ, List.set_cons_zero]
  refine Go.FreshS.wpF_skip (by rfl) rfl ?_
  conv => arg 10; simp only [Act.put, List.setIfInBounds_toArray, List.set_cons_succ, List.set_cons_zero]
  refine Go.FreshS.wpF_skip (by rfl) rfl ?_
  conv => arg 10; simp only [Act.put, List.setIfInBounds_toArray, List.set_cons_succ, List.set_cons_zero]
  refine Go.FreshS.wpF_skip (by rfl) rfl ?_
  conv => arg 10; simp only [Act.put, List.setIfInBounds_toArray, List.set_cons_succ, List.set_cons_zero]
  refine Go.FreshS.wpF_reads rfl rfl rfl ?_ (fun w' hw' => ?_) ?_
  rotate_left
  · have hb' := hw'.world
    skip
    clear hw'
    go_simp
    try rfl
  conv => arg 10; simp only [Act.put, List.setIfInBounds_toArray, List.set_cons_succ, List.set_cons_zero]
  refine Go.FreshS.wpF_nil (fun w32 hb hF => ?_)
  clear hF
  clear N21
  clear N26
  clear BX22
  clear BX27
  have KG := Lib.hid (KG.out.trans (hb.mono KG.out.size))
  clear hb
  go_wp2_with fail
  go_ret
  exact ⟨rfl, KG.out⟩
set_option maxRecDepth 100000 in
set_option maxHeartbeats 16000000 in
theorem read_bad_n (x1 : NV) (p1 : Int) (s : ByteArray) (w : World) (htab : Tab w) (h1 : XN w x1) (b1 : x1.n ≤ 200) (hsm : s.size ≤ 9223372036854775807) (hs : ¬ 1048576 < s.size) (hc : codeT s.data.toList = 0) (hsg2 : numT s.data.toList ≤ 0) : Calls Tryz.prog 5 #[x1.v, .string s] w fun e w' => e = .returned (.bool true) ∧ Below w.heap.size w w' := by
  have HT := Lib.hid htab
  have KG := Lib.hid (Below.refl w.heap.size w)
  have N1 := Lib.hid h1
  have Bx1 := Lib.hid b1
  have HSM := Lib.hid hsm
  have HS := Lib.hid hs
  obtain ⟨tb, htb⟩ : ∃ t : ByteArray, t = ⟨(Lib.itoa 0).toArray⟩ := ⟨_, rfl⟩
  have HTB := Lib.hid htb
  have htl : tb.size = (Lib.itoa 0).length := by rw [htb]; exact tb_size _
  have htd : tb.data.toList = Lib.itoa 0 := by rw [htb]
  have et : tb = ⟨#[48]⟩ := by rw [htb]; exact congrArg ByteArray.mk itoa_zero
  have HTM := Lib.hid (show tb.size ≤ 9223372036854775807 by rw [et]; decide)
  have etn : (tb.toList == [48]) = true := by rw [et, ByteArray.toList_eq]; rfl
  obtain ⟨zt, hzt⟩ : ∃ z, z = numT tb.data.toList := ⟨_, rfl⟩
  have HZT := Lib.hid hzt
  obtain ⟨ct, hct⟩ : ∃ z, z = codeT tb.data.toList := ⟨_, rfl⟩
  have HCT := Lib.hid hct
  have LZzt := Lib.hid (show lenB zt.natAbs ≤ 23 by rw [hzt]; exact numT_len _)
  have HC := Lib.hid hc
  have hy := hyph_not hc hsg2
  obtain ⟨zs, hzs⟩ : ∃ z, z = numT s.data.toList := ⟨_, rfl⟩
  have HZS := Lib.hid hzs
  have LZzs := Lib.hid (show lenB zs.natAbs ≤ 23 by rw [hzs]; exact numT_len _)
  have HBK := Lib.hid (show (⟨(Lib.itoa zs).toArray⟩ : ByteArray) = s by rw [hzs]; exact itoa_back hc)
  obtain ⟨hs2, hhs⟩ : ∃ t : ByteArray, t = ⟨#[45]⟩ ++ s := ⟨_, rfl⟩
  have hhd : hs2.data.toList = 45 :: s.data.toList := by rw [hhs]; exact hyph_data s
  have ehs : (⟨#[45]⟩ : ByteArray) ++ s = hs2 := hhs.symm
  have l1 : ¬ (9223372036854775807 < 1 + s.size) := by have := HS.out; omega
  have HHM := Lib.hid (show hs2.size ≤ 9223372036854775807 by rw [hhs, ByteArray.size_append]; have : (ByteArray.mk #[45]).size = 1 := rfl; omega)
  obtain ⟨zh, hzh⟩ : ∃ z, z = numT hs2.data.toList := ⟨_, rfl⟩
  have HZH := Lib.hid hzh.symm
  have LZzh := Lib.hid (show lenB zh.natAbs ≤ 23 by rw [hzh]; exact numT_len _)
  have HHC := Lib.hid (show codeT hs2.data.toList = 4 by rw [hhd]; exact hy)
  obtain ⟨s2, hs2e⟩ : ∃ c, c = cmpZ zs 0 := ⟨_, rfl⟩
  have HS2 := Lib.hid hs2e.symm
  have gs2z : s2 ≤ 0 := by rw [hs2e]; have h9 : zs ≤ 0 := (by rw [hzs]; exact hsg2); unfold cmpZ; split; (exact (by decide)); rw [if_neg (by omega)]; exact Int.le_refl 0
  have gs2 : decide (0 < s2) = false := decide_eq_false (by omega)
  have gs3 : decide (s2 ≤ 0) = true := decide_eq_true gs2z
  clear gs2z
  clear hs htb htl htd et hzt hct hc hsg2 hzs hhs hhd hzh hy hs2e
  clear htab h1 hsm b1
  go_enter Tryz.func5, Tryz.ntmps5
  go_upto_region 1 with (fail)
  obtain ⟨v2, hV⟩ : ∃ V, V = w.alloc (.cells #[.bool x1.s, .slice x1.a x1.n x1.c] 24) := ⟨_, rfl⟩
  have hbV : Below w.heap.size w v2 := by rw [hV]; exact ((Below.refl _ _).alloc (Nat.le_refl _) _)
  have BX1 := Lib.hid (show Bxs v2 (w.heap.size) 24 [.bool x1.s, .slice x1.a x1.n x1.c] by have h := Bxs.new (w) 24 [.bool x1.s, .slice x1.a x1.n x1.c]; rw [hV]; exact h)
  rw [show w.alloc (.cells #[.bool x1.s, .slice x1.a x1.n x1.c] 24) = v2 from hV.symm]
  have KG := Lib.hid (KG.out.trans (hbV.mono KG.out.size))
  clear hV hbV
  go_wp2_with fail
  have CT := Lib.hid (alive_true v2 (HT.out.on KG.out))
  with_reducible refine CT.out.mono ?_
  rintro e w3 ⟨rfl, hb⟩
  clear CT
  have BX1 := Lib.hid (BX1.out.below hb BX1.out.lt)
  have KG := Lib.hid (KG.out.trans (hb.mono KG.out.size))
  clear hb
  have cBX10 := BX1.out.cell (i := 0) rfl
  have cBX11 := BX1.out.cell (i := 1) rfl
  have cBX1f := BX1.out.fz
  have cBX1l := BX1.out.lt
  go_wp2_with fail
  clear cBX10 cBX11 cBX1f cBX1l
  obtain ⟨v5, hV⟩ : ∃ V, V = w3.alloc (.cells #[.bool x1.s, .slice x1.a x1.n x1.c] 24) := ⟨_, rfl⟩
  have hbV : Below w3.heap.size w3 v5 := by rw [hV]; exact ((Below.refl _ _).alloc (Nat.le_refl _) _)
  have BX4 := Lib.hid (show Bxs v5 (w3.heap.size) 24 [.bool x1.s, .slice x1.a x1.n x1.c] by have h := Bxs.new (w3) 24 [.bool x1.s, .slice x1.a x1.n x1.c]; rw [hV]; exact h)
  rw [show w3.alloc (.cells #[.bool x1.s, .slice x1.a x1.n x1.c] 24) = v5 from hV.symm]
  have BX1 := Lib.hid (BX1.out.below hbV BX1.out.lt)
  have KG := Lib.hid (KG.out.trans (hbV.mono KG.out.size))
  clear hV hbV
  have cBX10 := BX1.out.cell (i := 0) rfl
  have cBX11 := BX1.out.cell (i := 1) rfl
  have cBX1f := BX1.out.fz
  have cBX1l := BX1.out.lt
  have CT := Lib.hid (great1N (M := 200) BX4.out)
  rw [show ((200 : Nat) : Int) = 200 from rfl, show decide (200 < x1.n) = false from decide_eq_false (by have g0 : x1.n ≤ 200 := Bx1.out; omega)] at CT
  with_reducible refine CT.out.mono ?_
  rintro e w6 ⟨rfl, hb⟩
  clear CT
  clear cBX10 cBX11 cBX1f cBX1l
  have BX1 := Lib.hid (BX1.out.below hb BX1.out.lt)
  clear BX4
  have KG := Lib.hid (KG.out.trans (hb.mono KG.out.size))
  clear hb
  go_wp2_with fail
  obtain ⟨v8, hV⟩ : ∃ V, V = w6.alloc (.cells #[.int .i64 s.size] 3) := ⟨_, rfl⟩
  have hbV : Below w6.heap.size w6 v8 := by rw [hV]; exact ((Below.refl _ _).alloc (Nat.le_refl _) _)
  have BX7 := Lib.hid (show Bxs v8 (w6.heap.size) 3 [.int .i64 s.size] by have h := Bxs.new (w6) 3 [.int .i64 s.size]; rw [hV]; exact h)
  rw [show w6.alloc (.cells #[.int .i64 s.size] 3) = v8 from hV.symm]
  have BX1 := Lib.hid (BX1.out.below hbV BX1.out.lt)
  have KG := Lib.hid (KG.out.trans (hbV.mono KG.out.size))
  clear hV hbV
  have CT := Lib.hid (beyond1 BX7.out HSM.out)
  rw [show decide (1048576 < s.size) = false from decide_eq_false HS.out] at CT
  with_reducible refine CT.out.mono ?_
  rintro e w9 ⟨rfl, hb⟩
  clear CT
  have BX1 := Lib.hid (BX1.out.below hb BX1.out.lt)
  clear BX7
  have KG := Lib.hid (KG.out.trans (hb.mono KG.out.size))
  clear hb
  have cBX10 := BX1.out.cell (i := 0) rfl
  have cBX11 := BX1.out.cell (i := 1) rfl
  have cBX1f := BX1.out.fz
  have cBX1l := BX1.out.lt
  go_wp2_with fail
  have CT := Lib.hid (textN (N1.out.below KG.out).any (show x1.n ≤ 10000000 from Nat.le_trans Bx1.out (by decide)) (HT.out.on KG.out))
  rw [show (⟨(Lib.itoa 0).toArray⟩ : ByteArray) = tb from HTB.out.symm] at CT
  with_reducible refine CT.out.mono ?_
  rintro e w10 ⟨rfl, hb⟩
  clear CT
  clear cBX10 cBX11 cBX1f cBX1l
  have BX1 := Lib.hid (BX1.out.below hb BX1.out.lt)
  have KG := Lib.hid (KG.out.trans (hb.mono KG.out.size))
  clear hb
  go_wp2_with fail
  have CT := Lib.hid (parse_k w10 HTM.out HZT.out.symm HCT.out.symm)
  with_reducible refine CT.out.mono ?_
  rintro e w11 ⟨x12, rfl, hN13, hb⟩
  have N13 := Lib.hid hN13
  clear hN13
  clear CT
  have BX1 := Lib.hid (BX1.out.below hb BX1.out.lt)
  have KG := Lib.hid (KG.out.trans (hb.mono KG.out.size))
  clear hb
  clear N13
  go_upto_region 5 with (fail)
  obtain ⟨v15, hV⟩ : ∃ V, V = w11.alloc (.cells #[.bool x12.s, .slice x12.a x12.n x12.c] 24) := ⟨_, rfl⟩
  have hbV : Below w11.heap.size w11 v15 := by rw [hV]; exact ((Below.refl _ _).alloc (Nat.le_refl _) _)
  have BX14 := Lib.hid (show Bxs v15 (w11.heap.size) 24 [.bool x12.s, .slice x12.a x12.n x12.c] by have h := Bxs.new (w11) 24 [.bool x12.s, .slice x12.a x12.n x12.c]; rw [hV]; exact h)
  rw [show w11.alloc (.cells #[.bool x12.s, .slice x12.a x12.n x12.c] 24) = v15 from hV.symm]
  have BX1 := Lib.hid (BX1.out.below hbV BX1.out.lt)
  have KG := Lib.hid (KG.out.trans (hbV.mono KG.out.size))
  clear hV hbV
  clear BX14
  have cBX10 := BX1.out.cell (i := 0) rfl
  have cBX11 := BX1.out.cell (i := 1) rfl
  have cBX1f := BX1.out.fz
  have cBX1l := BX1.out.lt
  go_wp2_with fail
  have CT := Lib.hid (signN (N1.out.below KG.out).any (show x1.n ≤ 10000000 from Nat.le_trans Bx1.out (by decide)))
  rw [show cmpZ (0 : Int) 0 = 0 from cmpZ_eq rfl] at CT
  with_reducible refine CT.out.mono ?_
  rintro e w16 ⟨rfl, hb⟩
  clear CT
  clear cBX10 cBX11 cBX1f cBX1l
  have BX1 := Lib.hid (BX1.out.below hb BX1.out.lt)
  have KG := Lib.hid (KG.out.trans (hb.mono KG.out.size))
  clear hb
  have cBX10 := BX1.out.cell (i := 0) rfl
  have cBX11 := BX1.out.cell (i := 1) rfl
  have cBX1f := BX1.out.fz
  have cBX1l := BX1.out.lt
  go_wp2_with fail
  have CT := Lib.hid (checkBN (N1.out.below KG.out) (show x1.n ≤ 10000000 from Nat.le_trans Bx1.out (by decide)))
  with_reducible refine CT.out.mono ?_
  rintro e w17 ⟨rfl, hb⟩
  clear CT
  clear cBX10 cBX11 cBX1f cBX1l
  have BX1 := Lib.hid (BX1.out.below hb BX1.out.lt)
  have KG := Lib.hid (KG.out.trans (hb.mono KG.out.size))
  clear hb
  have cBX10 := BX1.out.cell (i := 0) rfl
  have cBX11 := BX1.out.cell (i := 1) rfl
  have cBX1f := BX1.out.fz
  have cBX1l := BX1.out.lt
  go_wp2_with fail
  have CT := Lib.hid (checkBN (N1.out.below KG.out) (show x1.n ≤ 10000000 from Nat.le_trans Bx1.out (by decide)))
  with_reducible refine CT.out.mono ?_
  rintro e w18 ⟨rfl, hb⟩
  clear CT
  clear cBX10 cBX11 cBX1f cBX1l
  clear BX1
  have KG := Lib.hid (KG.out.trans (hb.mono KG.out.size))
  clear hb
  go_wp2_with fail
  have CT := Lib.hid (parse_k w18 HSM.out HZS.out.symm HC.out)
  with_reducible refine CT.out.mono ?_
  rintro e w19 ⟨x20, rfl, hN21, hb⟩
  have N21 := Lib.hid hN21
  clear hN21
  clear CT
  have KG := Lib.hid (KG.out.trans (hb.mono KG.out.size))
  clear hb
  go_upto_region 11 with (fail)
  obtain ⟨v23, hV⟩ : ∃ V, V = w19.alloc (.cells #[.bool x20.s, .slice x20.a x20.n x20.c] 24) := ⟨_, rfl⟩
  have hbV : Below w19.heap.size w19 v23 := by rw [hV]; exact ((Below.refl _ _).alloc (Nat.le_refl _) _)
  have BX22 := Lib.hid (show Bxs v23 (w19.heap.size) 24 [.bool x20.s, .slice x20.a x20.n x20.c] by have h := Bxs.new (w19) 24 [.bool x20.s, .slice x20.a x20.n x20.c]; rw [hV]; exact h)
  rw [show w19.alloc (.cells #[.bool x20.s, .slice x20.a x20.n x20.c] 24) = v23 from hV.symm]
  have N21 := Lib.hid (N21.out.below hbV)
  have KG := Lib.hid (KG.out.trans (hbV.mono KG.out.size))
  clear hV hbV
  go_wp2_with fail
  have CT := Lib.hid (parse_k v23 HHM.out HZH.out HHC.out)
  with_reducible refine CT.out.mono ?_
  rintro e w24 ⟨x25, rfl, hN26, hb⟩
  have N26 := Lib.hid hN26
  clear hN26
  clear CT
  have N21 := Lib.hid (N21.out.below hb)
  have BX22 := Lib.hid (BX22.out.below hb BX22.out.lt)
  have KG := Lib.hid (KG.out.trans (hb.mono KG.out.size))
  clear hb
  clear N26
  go_upto_region 14 with (fail)
  obtain ⟨v28, hV⟩ : ∃ V, V = w24.alloc (.cells #[.bool x25.s, .slice x25.a x25.n x25.c] 24) := ⟨_, rfl⟩
  have hbV : Below w24.heap.size w24 v28 := by rw [hV]; exact ((Below.refl _ _).alloc (Nat.le_refl _) _)
  have BX27 := Lib.hid (show Bxs v28 (w24.heap.size) 24 [.bool x25.s, .slice x25.a x25.n x25.c] by have h := Bxs.new (w24) 24 [.bool x25.s, .slice x25.a x25.n x25.c]; rw [hV]; exact h)
  rw [show w24.alloc (.cells #[.bool x25.s, .slice x25.a x25.n x25.c] 24) = v28 from hV.symm]
  have N21 := Lib.hid (N21.out.below hbV)
  have BX22 := Lib.hid (BX22.out.below hbV BX22.out.lt)
  have KG := Lib.hid (KG.out.trans (hbV.mono KG.out.size))
  clear hV hbV
  clear BX27
  have cBX220 := BX22.out.cell (i := 0) rfl
  have cBX221 := BX22.out.cell (i := 1) rfl
  have cBX22f := BX22.out.fz
  have cBX22l := BX22.out.lt
  go_wp2_with fail
  have CT := Lib.hid (checkN N21.out.k (N21.out.k.len LZzs.out (by decide)))
  with_reducible refine CT.out.mono ?_
  rintro e w29 ⟨rfl, hb⟩
  clear CT
  clear cBX220 cBX221 cBX22f cBX22l
  have N21 := Lib.hid (N21.out.below hb)
  have BX22 := Lib.hid (BX22.out.below hb BX22.out.lt)
  have KG := Lib.hid (KG.out.trans (hb.mono KG.out.size))
  clear hb
  have cBX220 := BX22.out.cell (i := 0) rfl
  have cBX221 := BX22.out.cell (i := 1) rfl
  have cBX22f := BX22.out.fz
  have cBX22l := BX22.out.lt
  go_wp2_with fail
  have CT := Lib.hid (textN N21.out.k.any (N21.out.k.len LZzs.out (by decide)) (HT.out.on KG.out))
  rw [show (⟨(Lib.itoa zs).toArray⟩ : ByteArray) = s from HBK.out] at CT
  with_reducible refine CT.out.mono ?_
  rintro e w30 ⟨rfl, hb⟩
  clear CT
  clear cBX220 cBX221 cBX22f cBX22l
  have N21 := Lib.hid (N21.out.below hb)
  have BX22 := Lib.hid (BX22.out.below hb BX22.out.lt)
  have KG := Lib.hid (KG.out.trans (hb.mono KG.out.size))
  clear hb
  go_upto_region 16 with (fail)
  refine Go.FreshS.wp_region_fresh 22 [] (Go.FreshS.spOf [(1, Go.FreshS.Sp.know (.int .i64 s2)), (15, Go.FreshS.Sp.know (.int .i64 s2))])
    (fun w' => Below w30.heap.size w30 w') (by kernel_rfl) (by kernel_rfl) (by kernel_rfl)
    (Go.FreshS.spOf_cons (Go.FreshS.Sp.know_keeps _ _) (Go.FreshS.spOf_cons (Go.FreshS.Sp.know_keeps _ _) (Go.FreshS.spOf_nil))) (fun _ _ h hb => h.trans (hb.mono h.size)) ((Below.refl _ _).drew) ?_
  simp only [List.append_eq, List.cons_append, List.nil_append, List.take_succ_cons, List.take_zero, List.drop_succ_cons, List.drop_zero]
  refine Go.FreshS.wpF_reads rfl rfl rfl ?_ (fun w' hw' => ?_) ?_
  rotate_left
  · have hb' := hw'.world
    have hs0 := (BX22.out.below hb' BX22.out.lt).cell (i := 0) rfl
    have hs1 := (BX22.out.below hb' BX22.out.lt).cell (i := 1) rfl
    have hsf := (BX22.out.below hb' BX22.out.lt).fz
    have hsl := (BX22.out.below hb' BX22.out.lt).lt
    clear hw'
    go_simp
    try rfl
  conv => arg 10; simp only [Act.put, List.setIfInBounds_toArray, List.set_cons_succ, List.set_cons_zero]
  refine Go.FreshS.wpF_spec rfl rfl rfl (fun w' hw' => ?_) ?_
  · have hb' := hw'.world
    refine Go.FreshS.gives_of (Go.FreshS.PK (.int .i64 s2)) ?_ (fun _ _ h => h.post)
    go_simp
    have CT := signN (N21.out.below hb').k.any ((N21.out.below hb').k.len LZzs.out (by decide))
    rw [show cmpZ zs 0 = s2 from HS2.out] at CT
    refine CT.mono ?_
    rintro e w'' ⟨rfl, hb⟩
    exact ⟨_, rfl, rfl, hb⟩
  rintro _ rfl
  conv => arg 10; simp only [Act.put, List.setIfInBounds_toArray, List.set_cons_succ, List.set_cons_zero]
  refine Go.FreshS.wpF_reads rfl rfl rfl ?_ (fun w' hw' => ?_) ?_
  rotate_left
  · have hb' := hw'.world
    skip
    clear hw'
    go_simp
    try rfl
  conv => arg 10; simp only [Act.put, List.setIfInBounds_toArray, List.set_cons_succ, List.set_cons_zero]
  refine Go.FreshS.wpF_reads rfl rfl rfl ?_ (fun w' hw' => ?_) ?_
  rotate_left
  · have hb' := hw'.world
    skip
    clear hw'
    go_simp
    try rfl
  conv => arg 10; simp only [Act.put, List.setIfInBounds_toArray, List.set_cons_succ, List.set_cons_zero]
  refine Go.FreshS.wpF_skip (by rfl) rfl ?_
  conv => arg 10; simp only [Act.put, List.setIfInBounds_toArray, List.set_cons_succ, List.set_cons_zero]
  refine Go.FreshS.wpF_skip (by rfl) rfl ?_
  conv => arg 10; simp only [Act.put, List.setIfInBounds_toArray, List.set_cons_succ, List.set_cons_zero]
  refine Go.FreshS.wpF_reads rfl rfl rfl ?_ (fun w' hw' => ?_) ?_
  rotate_left
  · have hb' := hw'.world
    skip
    clear hw'
    go_simp
    try rfl
  conv => arg 10; simp only [Act.put, List.setIfInBounds_toArray, List.set_cons_succ, List.set_cons_zero]
  refine Go.FreshS.wpF_reads rfl rfl rfl ?_ (fun w' hw' => ?_) ?_
  rotate_left
  · have hb' := hw'.world
    skip
    clear hw'
    go_simp
    try rfl
  conv => arg 10; simp only [Act.put, List.setIfInBounds_toArray, List.set_cons_succ, List.set_cons_zero]
  refine Go.FreshS.wpF_skip (by rfl) rfl ?_
  conv => arg 10; simp only [Act.put, List.setIfInBounds_toArray, List.set_cons_succ, List.set_cons_zero]
  refine Go.FreshS.wpF_skip (by rfl) rfl ?_
  conv => arg 10; simp only [Act.put, List.setIfInBounds_toArray, List.set_cons_succ, List.set_cons_zero]
  refine Go.FreshS.wpF_skip (by rfl) rfl ?_
  conv => arg 10; simp only [Act.put, List.setIfInBounds_toArray, List.set_cons_succ, List.set_cons_zero]
  refine Go.FreshS.wpF_skip (by rfl) rfl ?_
  conv => arg 10; simp only [Act.put, List.setIfInBounds_toArray, List.set_cons_succ, List.set_cons_zero]
  refine Go.FreshS.wpF_reads rfl rfl rfl ?_ (fun w' hw' => ?_) ?_
  rotate_left
  · have hb' := hw'.world
    skip
    clear hw'
    go_simp
    try rfl
  conv => arg 10; simp only [Act.put, List.setIfInBounds_toArray, List.set_cons_succ, List.set_cons_zero]
  refine Go.FreshS.wpF_reads rfl rfl rfl ?_ (fun w' hw' => ?_) ?_
  rotate_left
  · have hb' := hw'.world
    skip
    clear hw'
    go_simp
    try rfl
  conv => arg 10; simp only [Act.put, List.setIfInBounds_toArray, List.set_cons_succ, List.set_cons_zero]
  refine Go.FreshS.wpF_readsG (by rfl) rfl rfl ?_ (fun w' hw' => ?_) ?_
  rotate_left
  · have hb' := hw'.world
    have hs0 := (BX22.out.below hb' BX22.out.lt).cell (i := 0) rfl
    have hs1 := (BX22.out.below hb' BX22.out.lt).cell (i := 1) rfl
    have hsf := (BX22.out.below hb' BX22.out.lt).fz
    have hsl := (BX22.out.below hb' BX22.out.lt).lt
    clear hw'
    go_simp
    try rfl
  conv => arg 10; simp only [Act.put, List.setIfInBounds_toArray, List.set_cons_succ, List.set_cons_zero]
  refine Go.FreshS.wpF_gspec (by rfl) rfl rfl (fun w' hw' => ?_) ?_
  · have hb' := hw'.world
    refine Go.FreshS.gives_of (Go.FreshS.PK (.int .i64 s2)) ?_ (fun _ _ h => h.post)
    go_simp
    have CT := signN (N21.out.below hb').k.any ((N21.out.below hb').k.len LZzs.out (by decide))
    rw [show cmpZ zs 0 = s2 from HS2.out] at CT
    refine CT.mono ?_
    rintro e w'' ⟨rfl, hb⟩
    exact ⟨_, rfl, rfl, hb⟩
  rintro _ rfl
  conv => arg 10; simp only [Act.put, List.setIfInBounds_toArray, List.set_cons_succ, List.set_cons_zero]
  refine Go.FreshS.wpF_readsG (by rfl) rfl rfl ?_ (fun w' hw' => ?_) ?_
  rotate_left
  · have hb' := hw'.world
    skip
    clear hw'
    go_simp
    try rfl
  conv => arg 10; simp only [Act.put, List.setIfInBounds_toArray, List.set_cons_succ, List.set_cons_zero]
  refine Go.FreshS.wpF_readsG (by rfl) rfl rfl ?_ (fun w' hw' => ?_) ?_
  rotate_left
  · have hb' := hw'.world
    skip
    clear hw'
    go_simp
    try rfl
  conv => arg 10; simp only [Act.put, List.setIfInBounds_toArray, List.set_cons_succ, List.set_cons_zero]
  refine Go.FreshS.wpF_readsG (by rfl) rfl rfl ?_ (fun w' hw' => ?_) ?_
  rotate_left
  · have hb' := hw'.world
    skip
    clear hw'
    go_simp
    try rfl
  conv => arg 10; simp only [Act.put, List.setIfInBounds_toArray, List.set_cons_succ, List.set_cons_zero]
  refine Go.FreshS.wpF_readsG (by rfl) rfl rfl ?_ (fun w' hw' => ?_) ?_
  rotate_left
  · have hb' := hw'.world
    skip
    clear hw'
    go_simp
    try rfl
  conv => arg 10; simp only [Act.put, List.setIfInBounds_toArray, List.set_cons_succ, List.set_cons_zero]
  refine Go.FreshS.wpF_readsG (by rfl) rfl rfl ?_ (fun w' hw' => ?_) ?_
  rotate_left
  · have hb' := hw'.world
    skip
    clear hw'
    go_simp
    try rfl
  conv => arg 10; simp only [Act.put, List.setIfInBounds_toArray, List.set_cons_succ, List.set_cons_zero]
  refine Go.FreshS.wpF_reads rfl rfl rfl ?_ (fun w' hw' => ?_) ?_
  rotate_left
  · have hb' := hw'.world
    skip
    clear hw'
    go_simp
    try rfl
  conv => arg 10; simp only [Act.put, List.setIfInBounds_toArray, List.set_cons_succ, List.set_cons_zero]
  refine Go.FreshS.wpF_nil (fun w31 hb hF => ?_)
  clear hF
  clear N21
  clear BX22
  have KG := Lib.hid (KG.out.trans (hb.mono KG.out.size))
  clear hb
  go_wp2_with fail
  go_ret
  exact ⟨rfl, KG.out⟩
set_option maxRecDepth 100000 in
set_option maxHeartbeats 16000000 in
theorem read_bad_c3 (x1 : NV) (p1 : Int) (s : ByteArray) (w : World) (htab : Tab w) (h1 : XN w x1) (b1 : x1.n ≤ 200) (hsm : s.size ≤ 9223372036854775807) (hs : ¬ 1048576 < s.size) (hc : codeT s.data.toList = 3) (hz0 : numT s.data.toList = 0) : Calls Tryz.prog 5 #[x1.v, .string s] w fun e w' => e = .returned (.bool true) ∧ Below w.heap.size w w' := by
  have HT := Lib.hid htab
  have KG := Lib.hid (Below.refl w.heap.size w)
  have N1 := Lib.hid h1
  have Bx1 := Lib.hid b1
  have HSM := Lib.hid hsm
  have HS := Lib.hid hs
  obtain ⟨tb, htb⟩ : ∃ t : ByteArray, t = ⟨(Lib.itoa 0).toArray⟩ := ⟨_, rfl⟩
  have HTB := Lib.hid htb
  have htl : tb.size = (Lib.itoa 0).length := by rw [htb]; exact tb_size _
  have htd : tb.data.toList = Lib.itoa 0 := by rw [htb]
  have et : tb = ⟨#[48]⟩ := by rw [htb]; exact congrArg ByteArray.mk itoa_zero
  have HTM := Lib.hid (show tb.size ≤ 9223372036854775807 by rw [et]; decide)
  have etn : (tb.toList == [48]) = true := by rw [et, ByteArray.toList_eq]; rfl
  obtain ⟨zt, hzt⟩ : ∃ z, z = numT tb.data.toList := ⟨_, rfl⟩
  have HZT := Lib.hid hzt
  obtain ⟨ct, hct⟩ : ∃ z, z = codeT tb.data.toList := ⟨_, rfl⟩
  have HCT := Lib.hid hct
  have LZzt := Lib.hid (show lenB zt.natAbs ≤ 23 by rw [hzt]; exact numT_len _)
  have HC := Lib.hid hc
  have HZ0 := Lib.hid hz0
  clear hs htb htl htd et hzt hct hc hz0
  clear htab h1 hsm b1
  go_enter Tryz.func5, Tryz.ntmps5
  go_upto_region 1 with (fail)
  obtain ⟨v2, hV⟩ : ∃ V, V = w.alloc (.cells #[.bool x1.s, .slice x1.a x1.n x1.c] 24) := ⟨_, rfl⟩
  have hbV : Below w.heap.size w v2 := by rw [hV]; exact ((Below.refl _ _).alloc (Nat.le_refl _) _)
  have BX1 := Lib.hid (show Bxs v2 (w.heap.size) 24 [.bool x1.s, .slice x1.a x1.n x1.c] by have h := Bxs.new (w) 24 [.bool x1.s, .slice x1.a x1.n x1.c]; rw [hV]; exact h)
  rw [show w.alloc (.cells #[.bool x1.s, .slice x1.a x1.n x1.c] 24) = v2 from hV.symm]
  have KG := Lib.hid (KG.out.trans (hbV.mono KG.out.size))
  clear hV hbV
  go_wp2_with fail
  have CT := Lib.hid (alive_true v2 (HT.out.on KG.out))
  with_reducible refine CT.out.mono ?_
  rintro e w3 ⟨rfl, hb⟩
  clear CT
  have BX1 := Lib.hid (BX1.out.below hb BX1.out.lt)
  have KG := Lib.hid (KG.out.trans (hb.mono KG.out.size))
  clear hb
  have cBX10 := BX1.out.cell (i := 0) rfl
  have cBX11 := BX1.out.cell (i := 1) rfl
  have cBX1f := BX1.out.fz
  have cBX1l := BX1.out.lt
  go_wp2_with fail
  clear cBX10 cBX11 cBX1f cBX1l
  obtain ⟨v5, hV⟩ : ∃ V, V = w3.alloc (.cells #[.bool x1.s, .slice x1.a x1.n x1.c] 24) := ⟨_, rfl⟩
  have hbV : Below w3.heap.size w3 v5 := by rw [hV]; exact ((Below.refl _ _).alloc (Nat.le_refl _) _)
  have BX4 := Lib.hid (show Bxs v5 (w3.heap.size) 24 [.bool x1.s, .slice x1.a x1.n x1.c] by have h := Bxs.new (w3) 24 [.bool x1.s, .slice x1.a x1.n x1.c]; rw [hV]; exact h)
  rw [show w3.alloc (.cells #[.bool x1.s, .slice x1.a x1.n x1.c] 24) = v5 from hV.symm]
  have BX1 := Lib.hid (BX1.out.below hbV BX1.out.lt)
  have KG := Lib.hid (KG.out.trans (hbV.mono KG.out.size))
  clear hV hbV
  have cBX10 := BX1.out.cell (i := 0) rfl
  have cBX11 := BX1.out.cell (i := 1) rfl
  have cBX1f := BX1.out.fz
  have cBX1l := BX1.out.lt
  have CT := Lib.hid (great1N (M := 200) BX4.out)
  rw [show ((200 : Nat) : Int) = 200 from rfl, show decide (200 < x1.n) = false from decide_eq_false (by have g0 : x1.n ≤ 200 := Bx1.out; omega)] at CT
  with_reducible refine CT.out.mono ?_
  rintro e w6 ⟨rfl, hb⟩
  clear CT
  clear cBX10 cBX11 cBX1f cBX1l
  have BX1 := Lib.hid (BX1.out.below hb BX1.out.lt)
  clear BX4
  have KG := Lib.hid (KG.out.trans (hb.mono KG.out.size))
  clear hb
  go_wp2_with fail
  obtain ⟨v8, hV⟩ : ∃ V, V = w6.alloc (.cells #[.int .i64 s.size] 3) := ⟨_, rfl⟩
  have hbV : Below w6.heap.size w6 v8 := by rw [hV]; exact ((Below.refl _ _).alloc (Nat.le_refl _) _)
  have BX7 := Lib.hid (show Bxs v8 (w6.heap.size) 3 [.int .i64 s.size] by have h := Bxs.new (w6) 3 [.int .i64 s.size]; rw [hV]; exact h)
  rw [show w6.alloc (.cells #[.int .i64 s.size] 3) = v8 from hV.symm]
  have BX1 := Lib.hid (BX1.out.below hbV BX1.out.lt)
  have KG := Lib.hid (KG.out.trans (hbV.mono KG.out.size))
  clear hV hbV
  have CT := Lib.hid (beyond1 BX7.out HSM.out)
  rw [show decide (1048576 < s.size) = false from decide_eq_false HS.out] at CT
  with_reducible refine CT.out.mono ?_
  rintro e w9 ⟨rfl, hb⟩
  clear CT
  have BX1 := Lib.hid (BX1.out.below hb BX1.out.lt)
  clear BX7
  have KG := Lib.hid (KG.out.trans (hb.mono KG.out.size))
  clear hb
  have cBX10 := BX1.out.cell (i := 0) rfl
  have cBX11 := BX1.out.cell (i := 1) rfl
  have cBX1f := BX1.out.fz
  have cBX1l := BX1.out.lt
  go_wp2_with fail
  have CT := Lib.hid (textN (N1.out.below KG.out).any (show x1.n ≤ 10000000 from Nat.le_trans Bx1.out (by decide)) (HT.out.on KG.out))
  rw [show (⟨(Lib.itoa 0).toArray⟩ : ByteArray) = tb from HTB.out.symm] at CT
  with_reducible refine CT.out.mono ?_
  rintro e w10 ⟨rfl, hb⟩
  clear CT
  clear cBX10 cBX11 cBX1f cBX1l
  have BX1 := Lib.hid (BX1.out.below hb BX1.out.lt)
  have KG := Lib.hid (KG.out.trans (hb.mono KG.out.size))
  clear hb
  go_wp2_with fail
  have CT := Lib.hid (parse_k w10 HTM.out HZT.out.symm HCT.out.symm)
  with_reducible refine CT.out.mono ?_
  rintro e w11 ⟨x12, rfl, hN13, hb⟩
  have N13 := Lib.hid hN13
  clear hN13
  clear CT
  have BX1 := Lib.hid (BX1.out.below hb BX1.out.lt)
  have KG := Lib.hid (KG.out.trans (hb.mono KG.out.size))
  clear hb
  clear N13
  go_upto_region 5 with (fail)
  obtain ⟨v15, hV⟩ : ∃ V, V = w11.alloc (.cells #[.bool x12.s, .slice x12.a x12.n x12.c] 24) := ⟨_, rfl⟩
  have hbV : Below w11.heap.size w11 v15 := by rw [hV]; exact ((Below.refl _ _).alloc (Nat.le_refl _) _)
  have BX14 := Lib.hid (show Bxs v15 (w11.heap.size) 24 [.bool x12.s, .slice x12.a x12.n x12.c] by have h := Bxs.new (w11) 24 [.bool x12.s, .slice x12.a x12.n x12.c]; rw [hV]; exact h)
  rw [show w11.alloc (.cells #[.bool x12.s, .slice x12.a x12.n x12.c] 24) = v15 from hV.symm]
  have BX1 := Lib.hid (BX1.out.below hbV BX1.out.lt)
  have KG := Lib.hid (KG.out.trans (hbV.mono KG.out.size))
  clear hV hbV
  clear BX14
  have cBX10 := BX1.out.cell (i := 0) rfl
  have cBX11 := BX1.out.cell (i := 1) rfl
  have cBX1f := BX1.out.fz
  have cBX1l := BX1.out.lt
  go_wp2_with fail
  have CT := Lib.hid (signN (N1.out.below KG.out).any (show x1.n ≤ 10000000 from Nat.le_trans Bx1.out (by decide)))
  rw [show cmpZ (0 : Int) 0 = 0 from cmpZ_eq rfl] at CT
  with_reducible refine CT.out.mono ?_
  rintro e w16 ⟨rfl, hb⟩
  clear CT
  clear cBX10 cBX11 cBX1f cBX1l
  have BX1 := Lib.hid (BX1.out.below hb BX1.out.lt)
  have KG := Lib.hid (KG.out.trans (hb.mono KG.out.size))
  clear hb
  have cBX10 := BX1.out.cell (i := 0) rfl
  have cBX11 := BX1.out.cell (i := 1) rfl
  have cBX1f := BX1.out.fz
  have cBX1l := BX1.out.lt
  go_wp2_with fail
  have CT := Lib.hid (checkBN (N1.out.below KG.out) (show x1.n ≤ 10000000 from Nat.le_trans Bx1.out (by decide)))
  with_reducible refine CT.out.mono ?_
  rintro e w17 ⟨rfl, hb⟩
  clear CT
  clear cBX10 cBX11 cBX1f cBX1l
  have BX1 := Lib.hid (BX1.out.below hb BX1.out.lt)
  have KG := Lib.hid (KG.out.trans (hb.mono KG.out.size))
  clear hb
  have cBX10 := BX1.out.cell (i := 0) rfl
  have cBX11 := BX1.out.cell (i := 1) rfl
  have cBX1f := BX1.out.fz
  have cBX1l := BX1.out.lt
  go_wp2_with fail
  have CT := Lib.hid (checkBN (N1.out.below KG.out) (show x1.n ≤ 10000000 from Nat.le_trans Bx1.out (by decide)))
  with_reducible refine CT.out.mono ?_
  rintro e w18 ⟨rfl, hb⟩
  clear CT
  clear cBX10 cBX11 cBX1f cBX1l
  clear BX1
  have KG := Lib.hid (KG.out.trans (hb.mono KG.out.size))
  clear hb
  go_wp2_with fail
  have CT := Lib.hid (parse_0 w18 HSM.out HZ0.out HC.out)
  with_reducible refine CT.out.mono ?_
  rintro e w19 ⟨x20, rfl, hb⟩
  clear CT
  have KG := Lib.hid (KG.out.trans (hb.mono KG.out.size))
  clear hb
  go_upto_region 11 with (fail)
  obtain ⟨v22, hV⟩ : ∃ V, V = w19.alloc (.cells #[.bool false, .slice x20.1 0 x20.2] 24) := ⟨_, rfl⟩
  have hbV : Below w19.heap.size w19 v22 := by rw [hV]; exact ((Below.refl _ _).alloc (Nat.le_refl _) _)
  have BX21 := Lib.hid (show Bxs v22 (w19.heap.size) 24 [.bool false, .slice x20.1 0 x20.2] by have h := Bxs.new (w19) 24 [.bool false, .slice x20.1 0 x20.2]; rw [hV]; exact h)
  rw [show w19.alloc (.cells #[.bool false, .slice x20.1 0 x20.2] 24) = v22 from hV.symm]
  have KG := Lib.hid (KG.out.trans (hbV.mono KG.out.size))
  clear hV hbV
  have cBX210 := BX21.out.cell (i := 0) rfl
  have cBX211 := BX21.out.cell (i := 1) rfl
  have cBX21f := BX21.out.fz
  have cBX21l := BX21.out.lt
  go_wp2_with fail
  go_ret
  exact ⟨rfl, KG.out⟩
set_option maxRecDepth 100000 in
set_option maxHeartbeats 16000000 in
theorem read_bad_c4 (x1 : NV) (p1 : Int) (s : ByteArray) (w : World) (htab : Tab w) (h1 : XN w x1) (b1 : x1.n ≤ 200) (hsm : s.size ≤ 9223372036854775807) (hs : ¬ 1048576 < s.size) (hc : codeT s.data.toList = 4) (hz0 : numT s.data.toList = 0) : Calls Tryz.prog 5 #[x1.v, .string s] w fun e w' => e = .returned (.bool true) ∧ Below w.heap.size w w' := by
  have HT := Lib.hid htab
  have KG := Lib.hid (Below.refl w.heap.size w)
  have N1 := Lib.hid h1
  have Bx1 := Lib.hid b1
  have HSM := Lib.hid hsm
  have HS := Lib.hid hs
  obtain ⟨tb, htb⟩ : ∃ t : ByteArray, t = ⟨(Lib.itoa 0).toArray⟩ := ⟨_, rfl⟩
  have HTB := Lib.hid htb
  have htl : tb.size = (Lib.itoa 0).length := by rw [htb]; exact tb_size _
  have htd : tb.data.toList = Lib.itoa 0 := by rw [htb]
  have et : tb = ⟨#[48]⟩ := by rw [htb]; exact congrArg ByteArray.mk itoa_zero
  have HTM := Lib.hid (show tb.size ≤ 9223372036854775807 by rw [et]; decide)
  have etn : (tb.toList == [48]) = true := by rw [et, ByteArray.toList_eq]; rfl
  obtain ⟨zt, hzt⟩ : ∃ z, z = numT tb.data.toList := ⟨_, rfl⟩
  have HZT := Lib.hid hzt
  obtain ⟨ct, hct⟩ : ∃ z, z = codeT tb.data.toList := ⟨_, rfl⟩
  have HCT := Lib.hid hct
  have LZzt := Lib.hid (show lenB zt.natAbs ≤ 23 by rw [hzt]; exact numT_len _)
  have HC := Lib.hid hc
  have HZ0 := Lib.hid hz0
  clear hs htb htl htd et hzt hct hc hz0
  clear htab h1 hsm b1
  go_enter Tryz.func5, Tryz.ntmps5
  go_upto_region 1 with (fail)
  obtain ⟨v2, hV⟩ : ∃ V, V = w.alloc (.cells #[.bool x1.s, .slice x1.a x1.n x1.c] 24) := ⟨_, rfl⟩
  have hbV : Below w.heap.size w v2 := by rw [hV]; exact ((Below.refl _ _).alloc (Nat.le_refl _) _)
  have BX1 := Lib.hid (show Bxs v2 (w.heap.size) 24 [.bool x1.s, .slice x1.a x1.n x1.c] by have h := Bxs.new (w) 24 [.bool x1.s, .slice x1.a x1.n x1.c]; rw [hV]; exact h)
  rw [show w.alloc (.cells #[.bool x1.s, .slice x1.a x1.n x1.c] 24) = v2 from hV.symm]
  have KG := Lib.hid (KG.out.trans (hbV.mono KG.out.size))
  clear hV hbV
  go_wp2_with fail
  have CT := Lib.hid (alive_true v2 (HT.out.on KG.out))
  with_reducible refine CT.out.mono ?_
  rintro e w3 ⟨rfl, hb⟩
  clear CT
  have BX1 := Lib.hid (BX1.out.below hb BX1.out.lt)
  have KG := Lib.hid (KG.out.trans (hb.mono KG.out.size))
  clear hb
  have cBX10 := BX1.out.cell (i := 0) rfl
  have cBX11 := BX1.out.cell (i := 1) rfl
  have cBX1f := BX1.out.fz
  have cBX1l := BX1.out.lt
  go_wp2_with fail
  clear cBX10 cBX11 cBX1f cBX1l
  obtain ⟨v5, hV⟩ : ∃ V, V = w3.alloc (.cells #[.bool x1.s, .slice x1.a x1.n x1.c] 24) := ⟨_, rfl⟩
  have hbV : Below w3.heap.size w3 v5 := by rw [hV]; exact ((Below.refl _ _).alloc (Nat.le_refl _) _)
  have BX4 := Lib.hid (show Bxs v5 (w3.heap.size) 24 [.bool x1.s, .slice x1.a x1.n x1.c] by have h := Bxs.new (w3) 24 [.bool x1.s, .slice x1.a x1.n x1.c]; rw [hV]; exact h)
  rw [show w3.alloc (.cells #[.bool x1.s, .slice x1.a x1.n x1.c] 24) = v5 from hV.symm]
  have BX1 := Lib.hid (BX1.out.below hbV BX1.out.lt)
  have KG := Lib.hid (KG.out.trans (hbV.mono KG.out.size))
  clear hV hbV
  have cBX10 := BX1.out.cell (i := 0) rfl
  have cBX11 := BX1.out.cell (i := 1) rfl
  have cBX1f := BX1.out.fz
  have cBX1l := BX1.out.lt
  have CT := Lib.hid (great1N (M := 200) BX4.out)
  rw [show ((200 : Nat) : Int) = 200 from rfl, show decide (200 < x1.n) = false from decide_eq_false (by have g0 : x1.n ≤ 200 := Bx1.out; omega)] at CT
  with_reducible refine CT.out.mono ?_
  rintro e w6 ⟨rfl, hb⟩
  clear CT
  clear cBX10 cBX11 cBX1f cBX1l
  have BX1 := Lib.hid (BX1.out.below hb BX1.out.lt)
  clear BX4
  have KG := Lib.hid (KG.out.trans (hb.mono KG.out.size))
  clear hb
  go_wp2_with fail
  obtain ⟨v8, hV⟩ : ∃ V, V = w6.alloc (.cells #[.int .i64 s.size] 3) := ⟨_, rfl⟩
  have hbV : Below w6.heap.size w6 v8 := by rw [hV]; exact ((Below.refl _ _).alloc (Nat.le_refl _) _)
  have BX7 := Lib.hid (show Bxs v8 (w6.heap.size) 3 [.int .i64 s.size] by have h := Bxs.new (w6) 3 [.int .i64 s.size]; rw [hV]; exact h)
  rw [show w6.alloc (.cells #[.int .i64 s.size] 3) = v8 from hV.symm]
  have BX1 := Lib.hid (BX1.out.below hbV BX1.out.lt)
  have KG := Lib.hid (KG.out.trans (hbV.mono KG.out.size))
  clear hV hbV
  have CT := Lib.hid (beyond1 BX7.out HSM.out)
  rw [show decide (1048576 < s.size) = false from decide_eq_false HS.out] at CT
  with_reducible refine CT.out.mono ?_
  rintro e w9 ⟨rfl, hb⟩
  clear CT
  have BX1 := Lib.hid (BX1.out.below hb BX1.out.lt)
  clear BX7
  have KG := Lib.hid (KG.out.trans (hb.mono KG.out.size))
  clear hb
  have cBX10 := BX1.out.cell (i := 0) rfl
  have cBX11 := BX1.out.cell (i := 1) rfl
  have cBX1f := BX1.out.fz
  have cBX1l := BX1.out.lt
  go_wp2_with fail
  have CT := Lib.hid (textN (N1.out.below KG.out).any (show x1.n ≤ 10000000 from Nat.le_trans Bx1.out (by decide)) (HT.out.on KG.out))
  rw [show (⟨(Lib.itoa 0).toArray⟩ : ByteArray) = tb from HTB.out.symm] at CT
  with_reducible refine CT.out.mono ?_
  rintro e w10 ⟨rfl, hb⟩
  clear CT
  clear cBX10 cBX11 cBX1f cBX1l
  have BX1 := Lib.hid (BX1.out.below hb BX1.out.lt)
  have KG := Lib.hid (KG.out.trans (hb.mono KG.out.size))
  clear hb
  go_wp2_with fail
  have CT := Lib.hid (parse_k w10 HTM.out HZT.out.symm HCT.out.symm)
  with_reducible refine CT.out.mono ?_
  rintro e w11 ⟨x12, rfl, hN13, hb⟩
  have N13 := Lib.hid hN13
  clear hN13
  clear CT
  have BX1 := Lib.hid (BX1.out.below hb BX1.out.lt)
  have KG := Lib.hid (KG.out.trans (hb.mono KG.out.size))
  clear hb
  clear N13
  go_upto_region 5 with (fail)
  obtain ⟨v15, hV⟩ : ∃ V, V = w11.alloc (.cells #[.bool x12.s, .slice x12.a x12.n x12.c] 24) := ⟨_, rfl⟩
  have hbV : Below w11.heap.size w11 v15 := by rw [hV]; exact ((Below.refl _ _).alloc (Nat.le_refl _) _)
  have BX14 := Lib.hid (show Bxs v15 (w11.heap.size) 24 [.bool x12.s, .slice x12.a x12.n x12.c] by have h := Bxs.new (w11) 24 [.bool x12.s, .slice x12.a x12.n x12.c]; rw [hV]; exact h)
  rw [show w11.alloc (.cells #[.bool x12.s, .slice x12.a x12.n x12.c] 24) = v15 from hV.symm]
  have BX1 := Lib.hid (BX1.out.below hbV BX1.out.lt)
  have KG := Lib.hid (KG.out.trans (hbV.mono KG.out.size))
  clear hV hbV
  clear BX14
  have cBX10 := BX1.out.cell (i := 0) rfl
  have cBX11 := BX1.out.cell (i := 1) rfl
  have cBX1f := BX1.out.fz
  have cBX1l := BX1.out.lt
  go_wp2_with fail
  have CT := Lib.hid (signN (N1.out.below KG.out).any (show x1.n ≤ 10000000 from Nat.le_trans Bx1.out (by decide)))
  rw [show cmpZ (0 : Int) 0 = 0 from cmpZ_eq rfl] at CT
  with_reducible refine CT.out.mono ?_
  rintro e w16 ⟨rfl, hb⟩
  clear CT
  clear cBX10 cBX11 cBX1f cBX1l
  have BX1 := Lib.hid (BX1.out.below hb BX1.out.lt)
  have KG := Lib.hid (KG.out.trans (hb.mono KG.out.size))
  clear hb
  have cBX10 := BX1.out.cell (i := 0) rfl
  have cBX11 := BX1.out.cell (i := 1) rfl
  have cBX1f := BX1.out.fz
  have cBX1l := BX1.out.lt
  go_wp2_with fail
  have CT := Lib.hid (checkBN (N1.out.below KG.out) (show x1.n ≤ 10000000 from Nat.le_trans Bx1.out (by decide)))
  with_reducible refine CT.out.mono ?_
  rintro e w17 ⟨rfl, hb⟩
  clear CT
  clear cBX10 cBX11 cBX1f cBX1l
  have BX1 := Lib.hid (BX1.out.below hb BX1.out.lt)
  have KG := Lib.hid (KG.out.trans (hb.mono KG.out.size))
  clear hb
  have cBX10 := BX1.out.cell (i := 0) rfl
  have cBX11 := BX1.out.cell (i := 1) rfl
  have cBX1f := BX1.out.fz
  have cBX1l := BX1.out.lt
  go_wp2_with fail
  have CT := Lib.hid (checkBN (N1.out.below KG.out) (show x1.n ≤ 10000000 from Nat.le_trans Bx1.out (by decide)))
  with_reducible refine CT.out.mono ?_
  rintro e w18 ⟨rfl, hb⟩
  clear CT
  clear cBX10 cBX11 cBX1f cBX1l
  clear BX1
  have KG := Lib.hid (KG.out.trans (hb.mono KG.out.size))
  clear hb
  go_wp2_with fail
  have CT := Lib.hid (parse_0 w18 HSM.out HZ0.out HC.out)
  with_reducible refine CT.out.mono ?_
  rintro e w19 ⟨x20, rfl, hb⟩
  clear CT
  have KG := Lib.hid (KG.out.trans (hb.mono KG.out.size))
  clear hb
  go_upto_region 11 with (fail)
  obtain ⟨v22, hV⟩ : ∃ V, V = w19.alloc (.cells #[.bool false, .slice x20.1 0 x20.2] 24) := ⟨_, rfl⟩
  have hbV : Below w19.heap.size w19 v22 := by rw [hV]; exact ((Below.refl _ _).alloc (Nat.le_refl _) _)
  have BX21 := Lib.hid (show Bxs v22 (w19.heap.size) 24 [.bool false, .slice x20.1 0 x20.2] by have h := Bxs.new (w19) 24 [.bool false, .slice x20.1 0 x20.2]; rw [hV]; exact h)
  rw [show w19.alloc (.cells #[.bool false, .slice x20.1 0 x20.2] 24) = v22 from hV.symm]
  have KG := Lib.hid (KG.out.trans (hbV.mono KG.out.size))
  clear hV hbV
  have cBX210 := BX21.out.cell (i := 0) rfl
  have cBX211 := BX21.out.cell (i := 1) rfl
  have cBX21f := BX21.out.fz
  have cBX21l := BX21.out.lt
  go_wp2_with fail
  go_ret
  exact ⟨rfl, KG.out⟩
set_option maxRecDepth 100000 in
set_option maxHeartbeats 16000000 in
theorem read_ps_p (x1 : NV) (p1 : Int) (s : ByteArray) (w : World) (htab : Tab w) (h1 : KN w x1 p1) (b1 : x1.n ≤ 200) (hsm : s.size ≤ 9223372036854775807) (hs : ¬ 1048576 < s.size) (hz : ¬ p1 < 0) (hd : Lib.nDigits p1.natAbs ≤ 200) (hc : codeT s.data.toList = 0) (hsg2 : 0 < numT s.data.toList) : Calls Tryz.prog 5 #[x1.v, .string s] w fun e w' => e = .returned (.bool true) ∧ Below w.heap.size w w' := by
  have HT := Lib.hid htab
  have KG := Lib.hid (Below.refl w.heap.size w)
  have N1 := Lib.hid h1
  have LZp1 := Lib.hid (show lenB p1.natAbs ≤ 200 by have := h1.n; omega)
  have HSM := Lib.hid hsm
  have HS := Lib.hid hs
  obtain ⟨tb, htb⟩ : ∃ t : ByteArray, t = ⟨(Lib.itoa p1).toArray⟩ := ⟨_, rfl⟩
  have HTB := Lib.hid htb
  have htl : tb.size = (Lib.itoa p1).length := by rw [htb]; exact tb_size _
  have htd : tb.data.toList = Lib.itoa p1 := by rw [htb]
  have hil := itoa_len_eq p1
  have hle := itoa_len (z := p1) (k := 200) LZp1.out
  rw [if_neg hz] at hil
  have HTM := Lib.hid (show tb.size ≤ 9223372036854775807 by omega)
  obtain ⟨sg, hsg⟩ : ∃ c, c = cmpZ p1 0 := ⟨_, rfl⟩
  have HSG := Lib.hid hsg.symm
  have gsg : ¬ (sg < 0) := by rw [hsg]; unfold cmpZ; rw [if_neg hz]; split <;> omega
  have gt : (tb.size : Int) ≤ 200 := by omega
  have HCT := Lib.hid (show codeT tb.data.toList = 0 by rw [htd, codeT_itoa, if_neg (by omega)])
  have HZT := Lib.hid (show numT tb.data.toList = p1 by rw [htd]; exact numT_itoa hd)
  have HC := Lib.hid hc
  have hy := hyph_pos hc hsg2
  obtain ⟨zs, hzs⟩ : ∃ z, z = numT s.data.toList := ⟨_, rfl⟩
  have HZS := Lib.hid hzs
  have LZzs := Lib.hid (show lenB zs.natAbs ≤ 23 by rw [hzs]; exact numT_len _)
  have HBK := Lib.hid (show (⟨(Lib.itoa zs).toArray⟩ : ByteArray) = s by rw [hzs]; exact itoa_back hc)
  obtain ⟨hs2, hhs⟩ : ∃ t : ByteArray, t = ⟨#[45]⟩ ++ s := ⟨_, rfl⟩
  have hhd : hs2.data.toList = 45 :: s.data.toList := by rw [hhs]; exact hyph_data s
  have ehs : (⟨#[45]⟩ : ByteArray) ++ s = hs2 := hhs.symm
  have l1 : ¬ (9223372036854775807 < 1 + s.size) := by have := HS.out; omega
  have HHM := Lib.hid (show hs2.size ≤ 9223372036854775807 by rw [hhs, ByteArray.size_append]; have : (ByteArray.mk #[45]).size = 1 := rfl; omega)
  obtain ⟨zh, hzh⟩ : ∃ z, z = numT hs2.data.toList := ⟨_, rfl⟩
  have HZH := Lib.hid hzh.symm
  have LZzh := Lib.hid (show lenB zh.natAbs ≤ 23 by rw [hzh]; exact numT_len _)
  have HHC := Lib.hid (show codeT hs2.data.toList = 0 by rw [hhd]; exact hy.1)
  have EZH := Lib.hid (show zh = -zs by rw [hzh, hhd, hzs]; exact hy.2)
  have HP2 := Lib.hid (show 0 < zs by rw [hzs]; exact hsg2)
  clear hs htb htl htd hz hd hil hle hsg hc hsg2 hzs hhs hhd hzh hy
  clear htab h1 hsm b1
  obtain ⟨z32, hz32⟩ : ∃ z : Int, z = -zs := ⟨_, rfl⟩
  have Hz32 := Lib.hid hz32
  have LZz32 := Lib.hid (show lenB z32.natAbs ≤ 23 by rw [hz32]; exact lenZ_neg LZzs.out)
  clear hz32
  go_enter Tryz.func5, Tryz.ntmps5
  go_upto_region 1 with (fail)
  obtain ⟨v2, hV⟩ : ∃ V, V = w.alloc (.cells #[.bool x1.s, .slice x1.a x1.n x1.c] 24) := ⟨_, rfl⟩
  have hbV : Below w.heap.size w v2 := by rw [hV]; exact ((Below.refl _ _).alloc (Nat.le_refl _) _)
  have BX1 := Lib.hid (show Bxs v2 (w.heap.size) 24 [.bool x1.s, .slice x1.a x1.n x1.c] by have h := Bxs.new (w) 24 [.bool x1.s, .slice x1.a x1.n x1.c]; rw [hV]; exact h)
  rw [show w.alloc (.cells #[.bool x1.s, .slice x1.a x1.n x1.c] 24) = v2 from hV.symm]
  have KG := Lib.hid (KG.out.trans (hbV.mono KG.out.size))
  clear hV hbV
  go_wp2_with fail
  have CT := Lib.hid (alive_true v2 (HT.out.on KG.out))
  with_reducible refine CT.out.mono ?_
  rintro e w3 ⟨rfl, hb⟩
  clear CT
  have BX1 := Lib.hid (BX1.out.below hb BX1.out.lt)
  have KG := Lib.hid (KG.out.trans (hb.mono KG.out.size))
  clear hb
  have cBX10 := BX1.out.cell (i := 0) rfl
  have cBX11 := BX1.out.cell (i := 1) rfl
  have cBX1f := BX1.out.fz
  have cBX1l := BX1.out.lt
  go_wp2_with fail
  clear cBX10 cBX11 cBX1f cBX1l
  obtain ⟨v5, hV⟩ : ∃ V, V = w3.alloc (.cells #[.bool x1.s, .slice x1.a x1.n x1.c] 24) := ⟨_, rfl⟩
  have hbV : Below w3.heap.size w3 v5 := by rw [hV]; exact ((Below.refl _ _).alloc (Nat.le_refl _) _)
  have BX4 := Lib.hid (show Bxs v5 (w3.heap.size) 24 [.bool x1.s, .slice x1.a x1.n x1.c] by have h := Bxs.new (w3) 24 [.bool x1.s, .slice x1.a x1.n x1.c]; rw [hV]; exact h)
  rw [show w3.alloc (.cells #[.bool x1.s, .slice x1.a x1.n x1.c] 24) = v5 from hV.symm]
  have BX1 := Lib.hid (BX1.out.below hbV BX1.out.lt)
  have KG := Lib.hid (KG.out.trans (hbV.mono KG.out.size))
  clear hV hbV
  have cBX10 := BX1.out.cell (i := 0) rfl
  have cBX11 := BX1.out.cell (i := 1) rfl
  have cBX1f := BX1.out.fz
  have cBX1l := BX1.out.lt
  have CT := Lib.hid (great1N (M := 200) BX4.out)
  rw [show ((200 : Nat) : Int) = 200 from rfl, show decide (200 < x1.n) = false from decide_eq_false (by have g0 : x1.n ≤ 200 := ((N1.out.below KG.out).len LZp1.out (by decide)); omega)] at CT
  with_reducible refine CT.out.mono ?_
  rintro e w6 ⟨rfl, hb⟩
  clear CT
  clear cBX10 cBX11 cBX1f cBX1l
  have BX1 := Lib.hid (BX1.out.below hb BX1.out.lt)
  clear BX4
  have KG := Lib.hid (KG.out.trans (hb.mono KG.out.size))
  clear hb
  go_wp2_with fail
  obtain ⟨v8, hV⟩ : ∃ V, V = w6.alloc (.cells #[.int .i64 s.size] 3) := ⟨_, rfl⟩
  have hbV : Below w6.heap.size w6 v8 := by rw [hV]; exact ((Below.refl _ _).alloc (Nat.le_refl _) _)
  have BX7 := Lib.hid (show Bxs v8 (w6.heap.size) 3 [.int .i64 s.size] by have h := Bxs.new (w6) 3 [.int .i64 s.size]; rw [hV]; exact h)
  rw [show w6.alloc (.cells #[.int .i64 s.size] 3) = v8 from hV.symm]
  have BX1 := Lib.hid (BX1.out.below hbV BX1.out.lt)
  have KG := Lib.hid (KG.out.trans (hbV.mono KG.out.size))
  clear hV hbV
  have CT := Lib.hid (beyond1 BX7.out HSM.out)
  rw [show decide (1048576 < s.size) = false from decide_eq_false HS.out] at CT
  with_reducible refine CT.out.mono ?_
  rintro e w9 ⟨rfl, hb⟩
  clear CT
  have BX1 := Lib.hid (BX1.out.below hb BX1.out.lt)
  clear BX7
  have KG := Lib.hid (KG.out.trans (hb.mono KG.out.size))
  clear hb
  have cBX10 := BX1.out.cell (i := 0) rfl
  have cBX11 := BX1.out.cell (i := 1) rfl
  have cBX1f := BX1.out.fz
  have cBX1l := BX1.out.lt
  go_wp2_with fail
  have CT := Lib.hid (textN (N1.out.below KG.out).any ((N1.out.below KG.out).len LZp1.out (by decide)) (HT.out.on KG.out))
  rw [show (⟨(Lib.itoa p1).toArray⟩ : ByteArray) = tb from HTB.out.symm] at CT
  with_reducible refine CT.out.mono ?_
  rintro e w10 ⟨rfl, hb⟩
  clear CT
  clear cBX10 cBX11 cBX1f cBX1l
  have BX1 := Lib.hid (BX1.out.below hb BX1.out.lt)
  have KG := Lib.hid (KG.out.trans (hb.mono KG.out.size))
  clear hb
  go_wp2_with fail
  have CT := Lib.hid (parse_k w10 HTM.out HZT.out HCT.out)
  with_reducible refine CT.out.mono ?_
  rintro e w11 ⟨x12, rfl, hN13, hb⟩
  have N13 := Lib.hid hN13
  clear hN13
  clear CT
  have BX1 := Lib.hid (BX1.out.below hb BX1.out.lt)
  have KG := Lib.hid (KG.out.trans (hb.mono KG.out.size))
  clear hb
  go_upto_region 5 with (fail)
  obtain ⟨v15, hV⟩ : ∃ V, V = w11.alloc (.cells #[.bool x12.s, .slice x12.a x12.n x12.c] 24) := ⟨_, rfl⟩
  have hbV : Below w11.heap.size w11 v15 := by rw [hV]; exact ((Below.refl _ _).alloc (Nat.le_refl _) _)
  have BX14 := Lib.hid (show Bxs v15 (w11.heap.size) 24 [.bool x12.s, .slice x12.a x12.n x12.c] by have h := Bxs.new (w11) 24 [.bool x12.s, .slice x12.a x12.n x12.c]; rw [hV]; exact h)
  rw [show w11.alloc (.cells #[.bool x12.s, .slice x12.a x12.n x12.c] 24) = v15 from hV.symm]
  have N13 := Lib.hid (N13.out.below hbV)
  have BX1 := Lib.hid (BX1.out.below hbV BX1.out.lt)
  have KG := Lib.hid (KG.out.trans (hbV.mono KG.out.size))
  clear hV hbV
  have cBX10 := BX1.out.cell (i := 0) rfl
  have cBX11 := BX1.out.cell (i := 1) rfl
  have cBX1f := BX1.out.fz
  have cBX1l := BX1.out.lt
  go_wp2_with fail
  have CT := Lib.hid (signN (N1.out.below KG.out).any ((N1.out.below KG.out).len LZp1.out (by decide)))
  rw [show cmpZ p1 0 = sg from HSG.out] at CT
  with_reducible refine CT.out.mono ?_
  rintro e w16 ⟨rfl, hb⟩
  clear CT
  clear cBX10 cBX11 cBX1f cBX1l
  have N13 := Lib.hid (N13.out.below hb)
  have BX1 := Lib.hid (BX1.out.below hb BX1.out.lt)
  have BX14 := Lib.hid (BX14.out.below hb BX14.out.lt)
  have KG := Lib.hid (KG.out.trans (hb.mono KG.out.size))
  clear hb
  have cBX10 := BX1.out.cell (i := 0) rfl
  have cBX11 := BX1.out.cell (i := 1) rfl
  have cBX1f := BX1.out.fz
  have cBX1l := BX1.out.lt
  go_wp2_with fail
  have CT := Lib.hid (checkN (N1.out.below KG.out) ((N1.out.below KG.out).len LZp1.out (by decide)))
  with_reducible refine CT.out.mono ?_
  rintro e w17 ⟨rfl, hb⟩
  clear CT
  clear cBX10 cBX11 cBX1f cBX1l
  have N13 := Lib.hid (N13.out.below hb)
  have BX1 := Lib.hid (BX1.out.below hb BX1.out.lt)
  have BX14 := Lib.hid (BX14.out.below hb BX14.out.lt)
  have KG := Lib.hid (KG.out.trans (hb.mono KG.out.size))
  clear hb
  have cBX140 := BX14.out.cell (i := 0) rfl
  have cBX141 := BX14.out.cell (i := 1) rfl
  have cBX14f := BX14.out.fz
  have cBX14l := BX14.out.lt
  have cBX10 := BX1.out.cell (i := 0) rfl
  have cBX11 := BX1.out.cell (i := 1) rfl
  have cBX1f := BX1.out.fz
  have cBX1l := BX1.out.lt
  go_wp2_with fail
  have CT := Lib.hid (sameTN N13.out.k (N13.out.k.len LZp1.out (by decide)) (N1.out.below KG.out) ((N1.out.below KG.out).len LZp1.out (by decide)) (rfl))
  with_reducible refine CT.out.mono ?_
  rintro e w18 ⟨rfl, hb⟩
  clear CT
  clear cBX140 cBX141 cBX14f cBX14l
  clear cBX10 cBX11 cBX1f cBX1l
  clear N13
  have BX1 := Lib.hid (BX1.out.below hb BX1.out.lt)
  clear BX14
  have KG := Lib.hid (KG.out.trans (hb.mono KG.out.size))
  clear hb
  have cBX10 := BX1.out.cell (i := 0) rfl
  have cBX11 := BX1.out.cell (i := 1) rfl
  have cBX1f := BX1.out.fz
  have cBX1l := BX1.out.lt
  go_wp2_with fail
  have CT := Lib.hid (checkN (N1.out.below KG.out) ((N1.out.below KG.out).len LZp1.out (by decide)))
  with_reducible refine CT.out.mono ?_
  rintro e w19 ⟨rfl, hb⟩
  clear CT
  clear cBX10 cBX11 cBX1f cBX1l
  clear BX1
  have KG := Lib.hid (KG.out.trans (hb.mono KG.out.size))
  clear hb
  go_wp2_with fail
  have CT := Lib.hid (parse_k w19 HSM.out HZS.out.symm HC.out)
  with_reducible refine CT.out.mono ?_
  rintro e w20 ⟨x21, rfl, hN22, hb⟩
  have N22 := Lib.hid hN22
  clear hN22
  clear CT
  have KG := Lib.hid (KG.out.trans (hb.mono KG.out.size))
  clear hb
  go_upto_region 11 with (fail)
  obtain ⟨v24, hV⟩ : ∃ V, V = w20.alloc (.cells #[.bool x21.s, .slice x21.a x21.n x21.c] 24) := ⟨_, rfl⟩
  have hbV : Below w20.heap.size w20 v24 := by rw [hV]; exact ((Below.refl _ _).alloc (Nat.le_refl _) _)
  have BX23 := Lib.hid (show Bxs v24 (w20.heap.size) 24 [.bool x21.s, .slice x21.a x21.n x21.c] by have h := Bxs.new (w20) 24 [.bool x21.s, .slice x21.a x21.n x21.c]; rw [hV]; exact h)
  rw [show w20.alloc (.cells #[.bool x21.s, .slice x21.a x21.n x21.c] 24) = v24 from hV.symm]
  have N22 := Lib.hid (N22.out.below hbV)
  have KG := Lib.hid (KG.out.trans (hbV.mono KG.out.size))
  clear hV hbV
  go_wp2_with fail
  have CT := Lib.hid (parse_k v24 HHM.out HZH.out HHC.out)
  with_reducible refine CT.out.mono ?_
  rintro e w25 ⟨x26, rfl, hN27, hb⟩
  have N27 := Lib.hid hN27
  clear hN27
  clear CT
  have N22 := Lib.hid (N22.out.below hb)
  have BX23 := Lib.hid (BX23.out.below hb BX23.out.lt)
  have KG := Lib.hid (KG.out.trans (hb.mono KG.out.size))
  clear hb
  go_upto_region 14 with (fail)
  obtain ⟨v29, hV⟩ : ∃ V, V = w25.alloc (.cells #[.bool x26.s, .slice x26.a x26.n x26.c] 24) := ⟨_, rfl⟩
  have hbV : Below w25.heap.size w25 v29 := by rw [hV]; exact ((Below.refl _ _).alloc (Nat.le_refl _) _)
  have BX28 := Lib.hid (show Bxs v29 (w25.heap.size) 24 [.bool x26.s, .slice x26.a x26.n x26.c] by have h := Bxs.new (w25) 24 [.bool x26.s, .slice x26.a x26.n x26.c]; rw [hV]; exact h)
  rw [show w25.alloc (.cells #[.bool x26.s, .slice x26.a x26.n x26.c] 24) = v29 from hV.symm]
  have N22 := Lib.hid (N22.out.below hbV)
  have N27 := Lib.hid (N27.out.below hbV)
  have BX23 := Lib.hid (BX23.out.below hbV BX23.out.lt)
  have KG := Lib.hid (KG.out.trans (hbV.mono KG.out.size))
  clear hV hbV
  have cBX230 := BX23.out.cell (i := 0) rfl
  have cBX231 := BX23.out.cell (i := 1) rfl
  have cBX23f := BX23.out.fz
  have cBX23l := BX23.out.lt
  go_wp2_with fail
  have CT := Lib.hid (checkN N22.out.k (N22.out.k.len LZzs.out (by decide)))
  with_reducible refine CT.out.mono ?_
  rintro e w30 ⟨rfl, hb⟩
  clear CT
  clear cBX230 cBX231 cBX23f cBX23l
  have N22 := Lib.hid (N22.out.below hb)
  have N27 := Lib.hid (N27.out.below hb)
  have BX23 := Lib.hid (BX23.out.below hb BX23.out.lt)
  have BX28 := Lib.hid (BX28.out.below hb BX28.out.lt)
  have KG := Lib.hid (KG.out.trans (hb.mono KG.out.size))
  clear hb
  have cBX230 := BX23.out.cell (i := 0) rfl
  have cBX231 := BX23.out.cell (i := 1) rfl
  have cBX23f := BX23.out.fz
  have cBX23l := BX23.out.lt
  go_wp2_with fail
  have CT := Lib.hid (textN N22.out.k.any (N22.out.k.len LZzs.out (by decide)) (HT.out.on KG.out))
  rw [show (⟨(Lib.itoa zs).toArray⟩ : ByteArray) = s from HBK.out] at CT
  with_reducible refine CT.out.mono ?_
  rintro e w31 ⟨rfl, hb⟩
  clear CT
  clear cBX230 cBX231 cBX23f cBX23l
  have N22 := Lib.hid (N22.out.below hb)
  have N27 := Lib.hid (N27.out.below hb)
  have BX23 := Lib.hid (BX23.out.below hb BX23.out.lt)
  have BX28 := Lib.hid (BX28.out.below hb BX28.out.lt)
  have KG := Lib.hid (KG.out.trans (hb.mono KG.out.size))
  clear hb
  go_upto_region 16 with (fail)
  refine Go.FreshS.wp_region_fresh 22 [] (Go.FreshS.spOf [(1, Go.FreshS.Sp.know (.int .i64 1)), (10, Go.FreshS.Sp.made (fun x : NV => x.v) (fun x w' => DN w' w31.heap.size x z32) NV.blk), (11, Go.FreshS.Sp.know (.bool true))])
    (fun w' => Below w31.heap.size w31 w') (by kernel_rfl) (by kernel_rfl) (by kernel_rfl)
    (Go.FreshS.spOf_cons (Go.FreshS.Sp.know_keeps _ _) (Go.FreshS.spOf_cons (Go.FreshS.Sp.made_keeps _ (fun _ _ _ h _ hk => h.kept hk) (Go.FreshS.notTaken (by kernel_rfl))) (Go.FreshS.spOf_cons (Go.FreshS.Sp.know_keeps _ _) (Go.FreshS.spOf_nil)))) (fun _ _ h hb => h.trans (hb.mono h.size)) ((Below.refl _ _).drew) ?_
  simp only [List.append_eq, List.cons_append, List.nil_append, List.take_succ_cons, List.take_zero, List.drop_succ_cons, List.drop_zero]
  refine Go.FreshS.wpF_reads rfl rfl rfl ?_ (fun w' hw' => ?_) ?_
  rotate_left
  · have hb' := hw'.world
    have hs0 := (BX23.out.below hb' BX23.out.lt).cell (i := 0) rfl
    have hs1 := (BX23.out.below hb' BX23.out.lt).cell (i := 1) rfl
    have hsf := (BX23.out.below hb' BX23.out.lt).fz
    have hsl := (BX23.out.below hb' BX23.out.lt).lt
    clear hw'
    go_simp
    try rfl
  conv => arg 10; simp only [Act.put, List.setIfInBounds_toArray, List.set_cons_succ, List.set_cons_zero]
  refine Go.FreshS.wpF_spec rfl rfl rfl (fun w' hw' => ?_) ?_
  · have hb' := hw'.world
    refine Go.FreshS.gives_of (Go.FreshS.PK (.int .i64 1)) ?_ (fun _ _ h => h.post)
    go_simp
    have CT := signN (N22.out.below hb').k.any ((N22.out.below hb').k.len LZzs.out (by decide))
    rw [show cmpZ zs 0 = 1 from cmpZ_gt HP2.out] at CT
    refine CT.mono ?_
    rintro e w'' ⟨rfl, hb⟩
    exact ⟨_, rfl, rfl, hb⟩
  rintro _ rfl
  conv => arg 10; simp only [Act.put, List.setIfInBounds_toArray, List.set_cons_succ, List.set_cons_zero]
  refine Go.FreshS.wpF_reads rfl rfl rfl ?_ (fun w' hw' => ?_) ?_
  rotate_left
  · have hb' := hw'.world
    skip
    clear hw'
    go_simp
    try rfl
  conv => arg 10; simp only [Act.put, List.setIfInBounds_toArray, List.set_cons_succ, List.set_cons_zero]
  refine Go.FreshS.wpF_reads rfl rfl rfl ?_ (fun w' hw' => ?_) ?_
  rotate_left
  · have hb' := hw'.world
    skip
    clear hw'
    go_simp
    try rfl
  conv => arg 10; simp only [Act.put, List.setIfInBounds_toArray, List.set_cons_succ, List.set_cons_zero]
  refine Go.FreshS.wpF_readsG (by rfl) rfl rfl ?_ (fun w' hw' => ?_) ?_
  rotate_left
  · have hb' := hw'.world
    skip
    clear hw'
    go_simp
    try rfl
  conv => arg 10; simp only [Act.put, List.setIfInBounds_toArray, List.set_cons_succ, List.set_cons_zero]
  refine Go.FreshS.wpF_readsG (by rfl) rfl rfl ?_ (fun w' hw' => ?_) ?_
  rotate_left
  · have hb' := hw'.world
    skip
    clear hw'
    go_simp
    try rfl
  conv => arg 10; simp only [Act.put, List.setIfInBounds_toArray, List.set_cons_succ, List.set_cons_zero]
  refine Go.FreshS.wpF_reads rfl rfl rfl ?_ (fun w' hw' => ?_) ?_
  rotate_left
  · have hb' := hw'.world
    skip
    clear hw'
    go_simp
    try rfl
  conv => arg 10; simp only [Act.put, List.setIfInBounds_toArray, List.set_cons_succ, List.set_cons_zero]
  refine Go.FreshS.wpF_reads rfl rfl rfl ?_ (fun w' hw' => ?_) ?_
  rotate_left
  · have hb' := hw'.world
    skip
    clear hw'
    go_simp
    try rfl
  conv => arg 10; simp only [Act.put, List.setIfInBounds_toArray, List.set_cons_succ, List.set_cons_zero]
  refine Go.FreshS.wpF_readsG (by rfl) rfl rfl ?_ (fun w' hw' => ?_) ?_
  rotate_left
  · have hb' := hw'.world
    have hs0 := (BX28.out.below hb' BX28.out.lt).cell (i := 0) rfl
    have hs1 := (BX28.out.below hb' BX28.out.lt).cell (i := 1) rfl
    have hsf := (BX28.out.below hb' BX28.out.lt).fz
    have hsl := (BX28.out.below hb' BX28.out.lt).lt
    clear hw'
    go_simp
    try rfl
  conv => arg 10; simp only [Act.put, List.setIfInBounds_toArray, List.set_cons_succ, List.set_cons_zero]
  refine Go.FreshS.wpF_readsG (by rfl) rfl rfl ?_ (fun w' hw' => ?_) ?_
  rotate_left
  · have hb' := hw'.world
    have hs0 := (BX23.out.below hb' BX23.out.lt).cell (i := 0) rfl
    have hs1 := (BX23.out.below hb' BX23.out.lt).cell (i := 1) rfl
    have hsf := (BX23.out.below hb' BX23.out.lt).fz
    have hsl := (BX23.out.below hb' BX23.out.lt).lt
    clear hw'
    go_simp
    try rfl
  conv => arg 10; simp only [Act.put, List.setIfInBounds_toArray, List.set_cons_succ, List.set_cons_zero]
  refine Go.FreshS.wpF_gspec (by rfl) rfl rfl (fun w' hw' => ?_) ?_
  · have hb' := hw'.world
    refine Go.FreshS.gives_of (Go.FreshS.PM (fun x : NV => x.v) (fun x w' => DN w' w31.heap.size x z32) NV.blk w'.heap.size) ?_ (fun _ _ h => h.post @NV.inj)
    go_simp
    have CT := negN (N22.out.below hb').k.any ((N22.out.below hb').k.len LZzs.out (by decide))
    rw [show -zs = z32 from Hz32.out.symm] at CT
    refine CT.mono ?_
    rintro e w'' ⟨za, rfl, ho, hb⟩
    exact ⟨_, rfl, ⟨za, rfl, ho.mono hb'.size, ho.blks⟩, hb⟩
  rintro _ ⟨y10, rfl⟩
  conv => arg 10; simp only [Act.put, List.setIfInBounds_toArray, List.set_cons_succ, List.set_cons_zero]
  refine Go.FreshS.wpF_gspec (by rfl) rfl rfl (fun w' hw' => ?_) ?_
  · have hb' := hw'.world
    refine Go.FreshS.gives_of (Go.FreshS.PK (.bool true)) ?_ (fun _ _ h => h.post)
    go_simp
    have f10 := Go.FreshS.made_of (val := fun x : NV => x.v) (Φ := fun x w' => DN w' w31.heap.size x z32) @NV.inj (hw'.fact 10 (by kernel_rfl))
    have CT := sameTN (N27.out.below hb').k ((N27.out.below hb').k.len LZzh.out (by decide)) f10.k (f10.k.len LZz32.out (by decide)) (by have h := EZH.out; simp only [Hz32.out]; exact h)
    refine CT.mono ?_
    rintro e w'' ⟨rfl, hb⟩
    exact ⟨_, rfl, rfl, hb⟩
  rintro _ rfl
  conv => arg 10; simp only [Act.put, List.setIfInBounds_toArray, List.set_cons_succ, List.set_cons_zero]
  refine Go.FreshS.wpF_reads rfl rfl rfl ?_ (fun w' hw' => ?_) ?_
  rotate_left
  · have hb' := hw'.world
    skip
    clear hw'
    go_simp
    try rfl
  conv => arg 10; simp only [Act.put, List.setIfInBounds_toArray, List.set_cons_succ, List.set_cons_zero]
  refine Go.FreshS.wpF_reads rfl rfl rfl ?_ (fun w' hw' => ?_) ?_
  rotate_left
  · have hb' := hw'.world
    skip
    clear hw'
    go_simp
    try rfl
  conv => arg 10; simp only [Act.put, List.setIfInBounds_toArray, List.set_cons_succ, List.set_cons_zero]
  refine Go.FreshS.wpF_skip (by rfl) rfl ?_
  conv => arg 10; simp only [Act.put, List.setIfInBounds_toArray, List.set_cons_succ, List.set_cons_zero]
  refine Go.FreshS.wpF_skip (by rfl) rfl ?_
  conv => arg 10; simp only [Act.put, List.setIfInBounds_toArray, List.set_cons_succ, List.set_cons_zero]
  refine Go.FreshS.wpF_skip (by rfl) rfl ?_
  conv => arg 10; simp only [Act.put, List.setIfInBounds_toArray, List.set_cons_succ, List.set_cons_zero]
  refine Go.FreshS.wpF_skip (by rfl) rfl ?_
  conv => arg 10; simp only [Act.put, List.setIfInBounds_toArray, List.set_cons_succ, List.set_cons_zero]
  refine Go.FreshS.wpF_skip (by rfl) rfl ?_
  conv => arg 10; simp only [Act.put, List.setIfInBounds_toArray, List.set_cons_succ, List.set_cons_zero]
  refine Go.FreshS.wpF_skip (by rfl) rfl ?_
  conv => arg 10; simp only [Act.put, List.setIfInBounds_toArray, List.set_cons_succ, List.set_cons_zero]
  refine Go.FreshS.wpF_skip (by rfl) rfl ?_
  conv => arg 10; simp only [Act.put, List.setIfInBounds_toArray, List.set_cons_succ, List.set_cons_zero]
  refine Go.FreshS.wpF_reads rfl rfl rfl ?_ (fun w' hw' => ?_) ?_
  rotate_left
  · have hb' := hw'.world
    skip
    clear hw'
    go_simp
    try rfl
  conv => arg 10; simp only [Act.put, List.setIfInBounds_toArray, List.set_cons_succ, List.set_cons_zero]
  refine Go.FreshS.wpF_nil (fun w33 hb hF => ?_)
  clear hF
  clear N22
  clear N27
  clear BX23
  clear BX28
  have KG := Lib.hid (KG.out.trans (hb.mono KG.out.size))
  clear hb
  go_wp2_with fail
  go_ret
  exact ⟨rfl, KG.out⟩
set_option maxRecDepth 100000 in
set_option maxHeartbeats 16000000 in
theorem read_ps_n (x1 : NV) (p1 : Int) (s : ByteArray) (w : World) (htab : Tab w) (h1 : KN w x1 p1) (b1 : x1.n ≤ 200) (hsm : s.size ≤ 9223372036854775807) (hs : ¬ 1048576 < s.size) (hz : ¬ p1 < 0) (hd : Lib.nDigits p1.natAbs ≤ 200) (hc : codeT s.data.toList = 0) (hsg2 : numT s.data.toList ≤ 0) : Calls Tryz.prog 5 #[x1.v, .string s] w fun e w' => e = .returned (.bool true) ∧ Below w.heap.size w w' := by
  have HT := Lib.hid htab
  have KG := Lib.hid (Below.refl w.heap.size w)
  have N1 := Lib.hid h1
  have LZp1 := Lib.hid (show lenB p1.natAbs ≤ 200 by have := h1.n; omega)
  have HSM := Lib.hid hsm
  have HS := Lib.hid hs
  obtain ⟨tb, htb⟩ : ∃ t : ByteArray, t = ⟨(Lib.itoa p1).toArray⟩ := ⟨_, rfl⟩
  have HTB := Lib.hid htb
  have htl : tb.size = (Lib.itoa p1).length := by rw [htb]; exact tb_size _
  have htd : tb.data.toList = Lib.itoa p1 := by rw [htb]
  have hil := itoa_len_eq p1
  have hle := itoa_len (z := p1) (k := 200) LZp1.out
  rw [if_neg hz] at hil
  have HTM := Lib.hid (show tb.size ≤ 9223372036854775807 by omega)
  obtain ⟨sg, hsg⟩ : ∃ c, c = cmpZ p1 0 := ⟨_, rfl⟩
  have HSG := Lib.hid hsg.symm
  have gsg : ¬ (sg < 0) := by rw [hsg]; unfold cmpZ; rw [if_neg hz]; split <;> omega
  have gt : (tb.size : Int) ≤ 200 := by omega
  have HCT := Lib.hid (show codeT tb.data.toList = 0 by rw [htd, codeT_itoa, if_neg (by omega)])
  have HZT := Lib.hid (show numT tb.data.toList = p1 by rw [htd]; exact numT_itoa hd)
  have HC := Lib.hid hc
  have hy := hyph_not hc hsg2
  obtain ⟨zs, hzs⟩ : ∃ z, z = numT s.data.toList := ⟨_, rfl⟩
  have HZS := Lib.hid hzs
  have LZzs := Lib.hid (show lenB zs.natAbs ≤ 23 by rw [hzs]; exact numT_len _)
  have HBK := Lib.hid (show (⟨(Lib.itoa zs).toArray⟩ : ByteArray) = s by rw [hzs]; exact itoa_back hc)
  obtain ⟨hs2, hhs⟩ : ∃ t : ByteArray, t = ⟨#[45]⟩ ++ s := ⟨_, rfl⟩
  have hhd : hs2.data.toList = 45 :: s.data.toList := by rw [hhs]; exact hyph_data s
  have ehs : (⟨#[45]⟩ : ByteArray) ++ s = hs2 := hhs.symm
  have l1 : ¬ (9223372036854775807 < 1 + s.size) := by have := HS.out; omega
  have HHM := Lib.hid (show hs2.size ≤ 9223372036854775807 by rw [hhs, ByteArray.size_append]; have : (ByteArray.mk #[45]).size = 1 := rfl; omega)
  obtain ⟨zh, hzh⟩ : ∃ z, z = numT hs2.data.toList := ⟨_, rfl⟩
  have HZH := Lib.hid hzh.symm
  have LZzh := Lib.hid (show lenB zh.natAbs ≤ 23 by rw [hzh]; exact numT_len _)
  have HHC := Lib.hid (show codeT hs2.data.toList = 4 by rw [hhd]; exact hy)
  obtain ⟨s2, hs2e⟩ : ∃ c, c = cmpZ zs 0 := ⟨_, rfl⟩
  have HS2 := Lib.hid hs2e.symm
  have gs2z : s2 ≤ 0 := by rw [hs2e]; have h9 : zs ≤ 0 := (by rw [hzs]; exact hsg2); unfold cmpZ; split; (exact (by decide)); rw [if_neg (by omega)]; exact Int.le_refl 0
  have gs2 : decide (0 < s2) = false := decide_eq_false (by omega)
  have gs3 : decide (s2 ≤ 0) = true := decide_eq_true gs2z
  clear gs2z
  clear hs htb htl htd hz hd hil hle hsg hc hsg2 hzs hhs hhd hzh hy hs2e
  clear htab h1 hsm b1
  go_enter Tryz.func5, Tryz.ntmps5
  go_upto_region 1 with (fail)
  obtain ⟨v2, hV⟩ : ∃ V, V = w.alloc (.cells #[.bool x1.s, .slice x1.a x1.n x1.c] 24) := ⟨_, rfl⟩
  have hbV : Below w.heap.size w v2 := by rw [hV]; exact ((Below.refl _ _).alloc (Nat.le_refl _) _)
  have BX1 := Lib.hid (show Bxs v2 (w.heap.size) 24 [.bool x1.s, .slice x1.a x1.n x1.c] by have h := Bxs.new (w) 24 [.bool x1.s, .slice x1.a x1.n x1.c]; rw [hV]; exact h)
  rw [show w.alloc (.cells #[.bool x1.s, .slice x1.a x1.n x1.c] 24) = v2 from hV.symm]
  have KG := Lib.hid (KG.out.trans (hbV.mono KG.out.size))
  clear hV hbV
  go_wp2_with fail
  have CT := Lib.hid (alive_true v2 (HT.out.on KG.out))
  with_reducible refine CT.out.mono ?_
  rintro e w3 ⟨rfl, hb⟩
  clear CT
  have BX1 := Lib.hid (BX1.out.below hb BX1.out.lt)
  have KG := Lib.hid (KG.out.trans (hb.mono KG.out.size))
  clear hb
  have cBX10 := BX1.out.cell (i := 0) rfl
  have cBX11 := BX1.out.cell (i := 1) rfl
  have cBX1f := BX1.out.fz
  have cBX1l := BX1.out.lt
  go_wp2_with fail
  clear cBX10 cBX11 cBX1f cBX1l
  obtain ⟨v5, hV⟩ : ∃ V, V = w3.alloc (.cells #[.bool x1.s, .slice x1.a x1.n x1.c] 24) := ⟨_, rfl⟩
  have hbV : Below w3.heap.size w3 v5 := by rw [hV]; exact ((Below.refl _ _).alloc (Nat.le_refl _) _)
  have BX4 := Lib.hid (show Bxs v5 (w3.heap.size) 24 [.bool x1.s, .slice x1.a x1.n x1.c] by have h := Bxs.new (w3) 24 [.bool x1.s, .slice x1.a x1.n x1.c]; rw [hV]; exact h)
  rw [show w3.alloc (.cells #[.bool x1.s, .slice x1.a x1.n x1.c] 24) = v5 from hV.symm]
  have BX1 := Lib.hid (BX1.out.below hbV BX1.out.lt)
  have KG := Lib.hid (KG.out.trans (hbV.mono KG.out.size))
  clear hV hbV
  have cBX10 := BX1.out.cell (i := 0) rfl
  have cBX11 := BX1.out.cell (i := 1) rfl
  have cBX1f := BX1.out.fz
  have cBX1l := BX1.out.lt
  have CT := Lib.hid (great1N (M := 200) BX4.out)
  rw [show ((200 : Nat) : Int) = 200 from rfl, show decide (200 < x1.n) = false from decide_eq_false (by have g0 : x1.n ≤ 200 := ((N1.out.below KG.out).len LZp1.out (by decide)); omega)] at CT
  with_reducible refine CT.out.mono ?_
  rintro e w6 ⟨rfl, hb⟩
  clear CT
  clear cBX10 cBX11 cBX1f cBX1l
  have BX1 := Lib.hid (BX1.out.below hb BX1.out.lt)
  clear BX4
  have KG := Lib.hid (KG.out.trans (hb.mono KG.out.size))
  clear hb
  go_wp2_with fail
  obtain ⟨v8, hV⟩ : ∃ V, V = w6.alloc (.cells #[.int .i64 s.size] 3) := ⟨_, rfl⟩
  have hbV : Below w6.heap.size w6 v8 := by rw [hV]; exact ((Below.refl _ _).alloc (Nat.le_refl _) _)
  have BX7 := Lib.hid (show Bxs v8 (w6.heap.size) 3 [.int .i64 s.size] by have h := Bxs.new (w6) 3 [.int .i64 s.size]; rw [hV]; exact h)
  rw [show w6.alloc (.cells #[.int .i64 s.size] 3) = v8 from hV.symm]
  have BX1 := Lib.hid (BX1.out.below hbV BX1.out.lt)
  have KG := Lib.hid (KG.out.trans (hbV.mono KG.out.size))
  clear hV hbV
  have CT := Lib.hid (beyond1 BX7.out HSM.out)
  rw [show decide (1048576 < s.size) = false from decide_eq_false HS.out] at CT
  with_reducible refine CT.out.mono ?_
  rintro e w9 ⟨rfl, hb⟩
  clear CT
  have BX1 := Lib.hid (BX1.out.below hb BX1.out.lt)
  clear BX7
  have KG := Lib.hid (KG.out.trans (hb.mono KG.out.size))
  clear hb
  have cBX10 := BX1.out.cell (i := 0) rfl
  have cBX11 := BX1.out.cell (i := 1) rfl
  have cBX1f := BX1.out.fz
  have cBX1l := BX1.out.lt
  go_wp2_with fail
  have CT := Lib.hid (textN (N1.out.below KG.out).any ((N1.out.below KG.out).len LZp1.out (by decide)) (HT.out.on KG.out))
  rw [show (⟨(Lib.itoa p1).toArray⟩ : ByteArray) = tb from HTB.out.symm] at CT
  with_reducible refine CT.out.mono ?_
  rintro e w10 ⟨rfl, hb⟩
  clear CT
  clear cBX10 cBX11 cBX1f cBX1l
  have BX1 := Lib.hid (BX1.out.below hb BX1.out.lt)
  have KG := Lib.hid (KG.out.trans (hb.mono KG.out.size))
  clear hb
  go_wp2_with fail
  have CT := Lib.hid (parse_k w10 HTM.out HZT.out HCT.out)
  with_reducible refine CT.out.mono ?_
  rintro e w11 ⟨x12, rfl, hN13, hb⟩
  have N13 := Lib.hid hN13
  clear hN13
  clear CT
  have BX1 := Lib.hid (BX1.out.below hb BX1.out.lt)
  have KG := Lib.hid (KG.out.trans (hb.mono KG.out.size))
  clear hb
  go_upto_region 5 with (fail)
  obtain ⟨v15, hV⟩ : ∃ V, V = w11.alloc (.cells #[.bool x12.s, .slice x12.a x12.n x12.c] 24) := ⟨_, rfl⟩
  have hbV : Below w11.heap.size w11 v15 := by rw [hV]; exact ((Below.refl _ _).alloc (Nat.le_refl _) _)
  have BX14 := Lib.hid (show Bxs v15 (w11.heap.size) 24 [.bool x12.s, .slice x12.a x12.n x12.c] by have h := Bxs.new (w11) 24 [.bool x12.s, .slice x12.a x12.n x12.c]; rw [hV]; exact h)
  rw [show w11.alloc (.cells #[.bool x12.s, .slice x12.a x12.n x12.c] 24) = v15 from hV.symm]
  have N13 := Lib.hid (N13.out.below hbV)
  have BX1 := Lib.hid (BX1.out.below hbV BX1.out.lt)
  have KG := Lib.hid (KG.out.trans (hbV.mono KG.out.size))
  clear hV hbV
  have cBX10 := BX1.out.cell (i := 0) rfl
  have cBX11 := BX1.out.cell (i := 1) rfl
  have cBX1f := BX1.out.fz
  have cBX1l := BX1.out.lt
  go_wp2_with fail
  have CT := Lib.hid (signN (N1.out.below KG.out).any ((N1.out.below KG.out).len LZp1.out (by decide)))
  rw [show cmpZ p1 0 = sg from HSG.out] at CT
  with_reducible refine CT.out.mono ?_
  rintro e w16 ⟨rfl, hb⟩
  clear CT
  clear cBX10 cBX11 cBX1f cBX1l
  have N13 := Lib.hid (N13.out.below hb)
  have BX1 := Lib.hid (BX1.out.below hb BX1.out.lt)
  have BX14 := Lib.hid (BX14.out.below hb BX14.out.lt)
  have KG := Lib.hid (KG.out.trans (hb.mono KG.out.size))
  clear hb
  have cBX10 := BX1.out.cell (i := 0) rfl
  have cBX11 := BX1.out.cell (i := 1) rfl
  have cBX1f := BX1.out.fz
  have cBX1l := BX1.out.lt
  go_wp2_with fail
  have CT := Lib.hid (checkN (N1.out.below KG.out) ((N1.out.below KG.out).len LZp1.out (by decide)))
  with_reducible refine CT.out.mono ?_
  rintro e w17 ⟨rfl, hb⟩
  clear CT
  clear cBX10 cBX11 cBX1f cBX1l
  have N13 := Lib.hid (N13.out.below hb)
  have BX1 := Lib.hid (BX1.out.below hb BX1.out.lt)
  have BX14 := Lib.hid (BX14.out.below hb BX14.out.lt)
  have KG := Lib.hid (KG.out.trans (hb.mono KG.out.size))
  clear hb
  have cBX140 := BX14.out.cell (i := 0) rfl
  have cBX141 := BX14.out.cell (i := 1) rfl
  have cBX14f := BX14.out.fz
  have cBX14l := BX14.out.lt
  have cBX10 := BX1.out.cell (i := 0) rfl
  have cBX11 := BX1.out.cell (i := 1) rfl
  have cBX1f := BX1.out.fz
  have cBX1l := BX1.out.lt
  go_wp2_with fail
  have CT := Lib.hid (sameTN N13.out.k (N13.out.k.len LZp1.out (by decide)) (N1.out.below KG.out) ((N1.out.below KG.out).len LZp1.out (by decide)) (rfl))
  with_reducible refine CT.out.mono ?_
  rintro e w18 ⟨rfl, hb⟩
  clear CT
  clear cBX140 cBX141 cBX14f cBX14l
  clear cBX10 cBX11 cBX1f cBX1l
  clear N13
  have BX1 := Lib.hid (BX1.out.below hb BX1.out.lt)
  clear BX14
  have KG := Lib.hid (KG.out.trans (hb.mono KG.out.size))
  clear hb
  have cBX10 := BX1.out.cell (i := 0) rfl
  have cBX11 := BX1.out.cell (i := 1) rfl
  have cBX1f := BX1.out.fz
  have cBX1l := BX1.out.lt
  go_wp2_with fail
  have CT := Lib.hid (checkN (N1.out.below KG.out) ((N1.out.below KG.out).len LZp1.out (by decide)))
  with_reducible refine CT.out.mono ?_
  rintro e w19 ⟨rfl, hb⟩
  clear CT
  clear cBX10 cBX11 cBX1f cBX1l
  clear BX1
  have KG := Lib.hid (KG.out.trans (hb.mono KG.out.size))
  clear hb
  go_wp2_with fail
  have CT := Lib.hid (parse_k w19 HSM.out HZS.out.symm HC.out)
  with_reducible refine CT.out.mono ?_
  rintro e w20 ⟨x21, rfl, hN22, hb⟩
  have N22 := Lib.hid hN22
  clear hN22
  clear CT
  have KG := Lib.hid (KG.out.trans (hb.mono KG.out.size))
  clear hb
  go_upto_region 11 with (fail)
  obtain ⟨v24, hV⟩ : ∃ V, V = w20.alloc (.cells #[.bool x21.s, .slice x21.a x21.n x21.c] 24) := ⟨_, rfl⟩
  have hbV : Below w20.heap.size w20 v24 := by rw [hV]; exact ((Below.refl _ _).alloc (Nat.le_refl _) _)
  have BX23 := Lib.hid (show Bxs v24 (w20.heap.size) 24 [.bool x21.s, .slice x21.a x21.n x21.c] by have h := Bxs.new (w20) 24 [.bool x21.s, .slice x21.a x21.n x21.c]; rw [hV]; exact h)
  rw [show w20.alloc (.cells #[.bool x21.s, .slice x21.a x21.n x21.c] 24) = v24 from hV.symm]
  have N22 := Lib.hid (N22.out.below hbV)
  have KG := Lib.hid (KG.out.trans (hbV.mono KG.out.size))
  clear hV hbV
  go_wp2_with fail
  have CT := Lib.hid (parse_k v24 HHM.out HZH.out HHC.out)
  with_reducible refine CT.out.mono ?_
  rintro e w25 ⟨x26, rfl, hN27, hb⟩
  have N27 := Lib.hid hN27
  clear hN27
  clear CT
  have N22 := Lib.hid (N22.out.below hb)
  have BX23 := Lib.hid (BX23.out.below hb BX23.out.lt)
  have KG := Lib.hid (KG.out.trans (hb.mono KG.out.size))
  clear hb
  clear N27
  go_upto_region 14 with (fail)
  obtain ⟨v29, hV⟩ : ∃ V, V = w25.alloc (.cells #[.bool x26.s, .slice x26.a x26.n x26.c] 24) := ⟨_, rfl⟩
  have hbV : Below w25.heap.size w25 v29 := by rw [hV]; exact ((Below.refl _ _).alloc (Nat.le_refl _) _)
  have BX28 := Lib.hid (show Bxs v29 (w25.heap.size) 24 [.bool x26.s, .slice x26.a x26.n x26.c] by have h := Bxs.new (w25) 24 [.bool x26.s, .slice x26.a x26.n x26.c]; rw [hV]; exact h)
  rw [show w25.alloc (.cells #[.bool x26.s, .slice x26.a x26.n x26.c] 24) = v29 from hV.symm]
  have N22 := Lib.hid (N22.out.below hbV)
  have BX23 := Lib.hid (BX23.out.below hbV BX23.out.lt)
  have KG := Lib.hid (KG.out.trans (hbV.mono KG.out.size))
  clear hV hbV
  clear BX28
  have cBX230 := BX23.out.cell (i := 0) rfl
  have cBX231 := BX23.out.cell (i := 1) rfl
  have cBX23f := BX23.out.fz
  have cBX23l := BX23.out.lt
  go_wp2_with fail
  have CT := Lib.hid (checkN N22.out.k (N22.out.k.len LZzs.out (by decide)))
  with_reducible refine CT.out.mono ?_
  rintro e w30 ⟨rfl, hb⟩
  clear CT
  clear cBX230 cBX231 cBX23f cBX23l
  have N22 := Lib.hid (N22.out.below hb)
  have BX23 := Lib.hid (BX23.out.below hb BX23.out.lt)
  have KG := Lib.hid (KG.out.trans (hb.mono KG.out.size))
  clear hb
  have cBX230 := BX23.out.cell (i := 0) rfl
  have cBX231 := BX23.out.cell (i := 1) rfl
  have cBX23f := BX23.out.fz
  have cBX23l := BX23.out.lt
  go_wp2_with fail
  have CT := Lib.hid (textN N22.out.k.any (N22.out.k.len LZzs.out (by decide)) (HT.out.on KG.out))
  rw [show (⟨(Lib.itoa zs).toArray⟩ : ByteArray) = s from HBK.out] at CT
  with_reducible refine CT.out.mono ?_
  rintro e w31 ⟨rfl, hb⟩
  clear CT
  clear cBX230 cBX231 cBX23f cBX23l
  have N22 := Lib.hid (N22.out.below hb)
  have BX23 := Lib.hid (BX23.out.below hb BX23.out.lt)
  have KG := Lib.hid (KG.out.trans (hb.mono KG.out.size))
  clear hb
  go_upto_region 16 with (fail)
  refine Go.FreshS.wp_region_fresh 22 [] (Go.FreshS.spOf [(1, Go.FreshS.Sp.know (.int .i64 s2)), (15, Go.FreshS.Sp.know (.int .i64 s2))])
    (fun w' => Below w31.heap.size w31 w') (by kernel_rfl) (by kernel_rfl) (by kernel_rfl)
    (Go.FreshS.spOf_cons (Go.FreshS.Sp.know_keeps _ _) (Go.FreshS.spOf_cons (Go.FreshS.Sp.know_keeps _ _) (Go.FreshS.spOf_nil))) (fun _ _ h hb => h.trans (hb.mono h.size)) ((Below.refl _ _).drew) ?_
  simp only [List.append_eq, List.cons_append, List.nil_append, List.take_succ_cons, List.take_zero, List.drop_succ_cons, List.drop_zero]
  refine Go.FreshS.wpF_reads rfl rfl rfl ?_ (fun w' hw' => ?_) ?_
  rotate_left
  · have hb' := hw'.world
    have hs0 := (BX23.out.below hb' BX23.out.lt).cell (i := 0) rfl
    have hs1 := (BX23.out.below hb' BX23.out.lt).cell (i := 1) rfl
    have hsf := (BX23.out.below hb' BX23.out.lt).fz
    have hsl := (BX23.out.below hb' BX23.out.lt).lt
    clear hw'
    go_simp
    try rfl
  conv => arg 10; simp only [Act.put, List.setIfInBounds_toArray, List.set_cons_succ, List.set_cons_zero]
  refine Go.FreshS.wpF_spec rfl rfl rfl (fun w' hw' => ?_) ?_
  · have hb' := hw'.world
    refine Go.FreshS.gives_of (Go.FreshS.PK (.int .i64 s2)) ?_ (fun _ _ h => h.post)
    go_simp
    have CT := signN (N22.out.below hb').k.any ((N22.out.below hb').k.len LZzs.out (by decide))
    rw [show cmpZ zs 0 = s2 from HS2.out] at CT
    refine CT.mono ?_
    rintro e w'' ⟨rfl, hb⟩
    exact ⟨_, rfl, rfl, hb⟩
  rintro _ rfl
  conv => arg 10; simp only [Act.put, List.setIfInBounds_toArray, List.set_cons_succ, List.set_cons_zero]
  refine Go.FreshS.wpF_reads rfl rfl rfl ?_ (fun w' hw' => ?_) ?_
  rotate_left
  · have hb' := hw'.world
    skip
    clear hw'
    go_simp
    try rfl
  conv => arg 10; simp only [Act.put, List.setIfInBounds_toArray, List.set_cons_succ, List.set_cons_zero]
  refine Go.FreshS.wpF_reads rfl rfl rfl ?_ (fun w' hw' => ?_) ?_
  rotate_left
  · have hb' := hw'.world
    skip
    clear hw'
    go_simp
    try rfl
  conv => arg 10; simp only [Act.put, List.setIfInBounds_toArray, List.set_cons_succ, List.set_cons_zero]
  refine Go.FreshS.wpF_skip (by rfl) rfl ?_
  conv => arg 10; simp only [Act.put, List.setIfInBounds_toArray, List.set_cons_succ, List.set_cons_zero]
  refine Go.FreshS.wpF_skip (by rfl) rfl ?_
  conv => arg 10; simp only [Act.put, List.setIfInBounds_toArray, List.set_cons_succ, List.set_cons_zero]
  refine Go.FreshS.wpF_reads rfl rfl rfl ?_ (fun w' hw' => ?_) ?_
  rotate_left
  · have hb' := hw'.world
    skip
    clear hw'
    go_simp
    try rfl
  conv => arg 10; simp only [Act.put, List.setIfInBounds_toArray, List.set_cons_succ, List.set_cons_zero]
  refine Go.FreshS.wpF_reads rfl rfl rfl ?_ (fun w' hw' => ?_) ?_
  rotate_left
  · have hb' := hw'.world
    skip
    clear hw'
    go_simp
    try rfl
  conv => arg 10; simp only [Act.put, List.setIfInBounds_toArray, List.set_cons_succ, List.set_cons_zero]
  refine Go.FreshS.wpF_skip (by rfl) rfl ?_
  conv => arg 10; simp only [Act.put, List.setIfInBounds_toArray, List.set_cons_succ, List.set_cons_zero]
  refine Go.FreshS.wpF_skip (by rfl) rfl ?_
  conv => arg 10; simp only [Act.put, List.setIfInBounds_toArray, List.set_cons_succ, List.set_cons_zero]
  refine Go.FreshS.wpF_skip (by rfl) rfl ?_
  conv => arg 10; simp only [Act.put, List.setIfInBounds_toArray, List.set_cons_succ, List.set_cons_zero]
  refine Go.FreshS.wpF_skip (by rfl) rfl ?_
  conv => arg 10; simp only [Act.put, List.setIfInBounds_toArray, List.set_cons_succ, List.set_cons_zero]
  refine Go.FreshS.wpF_reads rfl rfl rfl ?_ (fun w' hw' => ?_) ?_
  rotate_left
  · have hb' := hw'.world
    skip
    clear hw'
    go_simp
    try rfl
  conv => arg 10; simp only [Act.put, List.setIfInBounds_toArray, List.set_cons_succ, List.set_cons_zero]
  refine Go.FreshS.wpF_reads rfl rfl rfl ?_ (fun w' hw' => ?_) ?_
  rotate_left
  · have hb' := hw'.world
    skip
    clear hw'
    go_simp
    try rfl
  conv => arg 10; simp only [Act.put, List.setIfInBounds_toArray, List.set_cons_succ, List.set_cons_zero]
  refine Go.FreshS.wpF_readsG (by rfl) rfl rfl ?_ (fun w' hw' => ?_) ?_
  rotate_left
  · have hb' := hw'.world
    have hs0 := (BX23.out.below hb' BX23.out.lt).cell (i := 0) rfl
    have hs1 := (BX23.out.below hb' BX23.out.lt).cell (i := 1) rfl
    have hsf := (BX23.out.below hb' BX23.out.lt).fz
    have hsl := (BX23.out.below hb' BX23.out.lt).lt
    clear hw'
    go_simp
    try rfl
  conv => arg 10; simp only [Act.put, List.setIfInBounds_toArray, List.set_cons_succ, List.set_cons_zero]
  refine Go.FreshS.wpF_gspec (by rfl) rfl rfl (fun w' hw' => ?_) ?_
  · have hb' := hw'.world
    refine Go.FreshS.gives_of (Go.FreshS.PK (.int .i64 s2)) ?_ (fun _ _ h => h.post)
    go_simp
    have CT := signN (N22.out.below hb').k.any ((N22.out.below hb').k.len LZzs.out (by decide))
    rw [show cmpZ zs 0 = s2 from HS2.out] at CT
    refine CT.mono ?_
    rintro e w'' ⟨rfl, hb⟩
    exact ⟨_, rfl, rfl, hb⟩
  rintro _ rfl
  conv => arg 10; simp only [Act.put, List.setIfInBounds_toArray, List.set_cons_succ, List.set_cons_zero]
  refine Go.FreshS.wpF_readsG (by rfl) rfl rfl ?_ (fun w' hw' => ?_) ?_
  rotate_left
  · have hb' := hw'.world
    skip
    clear hw'
    go_simp
    try rfl
  conv => arg 10; simp only [Act.put, List.setIfInBounds_toArray, List.set_cons_succ, List.set_cons_zero]
  refine Go.FreshS.wpF_readsG (by rfl) rfl rfl ?_ (fun w' hw' => ?_) ?_
  rotate_left
  · have hb' := hw'.world
    skip
    clear hw'
    go_simp
    try rfl
  conv => arg 10; simp only [Act.put, List.setIfInBounds_toArray, List.set_cons_succ, List.set_cons_zero]
  refine Go.FreshS.wpF_readsG (by rfl) rfl rfl ?_ (fun w' hw' => ?_) ?_
  rotate_left
  · have hb' := hw'.world
    skip
    clear hw'
    go_simp
    try rfl
  conv => arg 10; simp only [Act.put, List.setIfInBounds_toArray, List.set_cons_succ, List.set_cons_zero]
  refine Go.FreshS.wpF_readsG (by rfl) rfl rfl ?_ (fun w' hw' => ?_) ?_
  rotate_left
  · have hb' := hw'.world
    skip
    clear hw'
    go_simp
    try rfl
  conv => arg 10; simp only [Act.put, List.setIfInBounds_toArray, List.set_cons_succ, List.set_cons_zero]
  refine Go.FreshS.wpF_readsG (by rfl) rfl rfl ?_ (fun w' hw' => ?_) ?_
  rotate_left
  · have hb' := hw'.world
    skip
    clear hw'
    go_simp
    try rfl
  conv => arg 10; simp only [Act.put, List.setIfInBounds_toArray, List.set_cons_succ, List.set_cons_zero]
  refine Go.FreshS.wpF_reads rfl rfl rfl ?_ (fun w' hw' => ?_) ?_
  rotate_left
  · have hb' := hw'.world
    skip
    clear hw'
    go_simp
    try rfl
  conv => arg 10; simp only [Act.put, List.setIfInBounds_toArray, List.set_cons_succ, List.set_cons_zero]
  refine Go.FreshS.wpF_nil (fun w32 hb hF => ?_)
  clear hF
  clear N22
  clear BX23
  have KG := Lib.hid (KG.out.trans (hb.mono KG.out.size))
  clear hb
  go_wp2_with fail
  go_ret
  exact ⟨rfl, KG.out⟩
set_option maxRecDepth 100000 in
set_option maxHeartbeats 16000000 in
theorem read_ps_c3 (x1 : NV) (p1 : Int) (s : ByteArray) (w : World) (htab : Tab w) (h1 : KN w x1 p1) (b1 : x1.n ≤ 200) (hsm : s.size ≤ 9223372036854775807) (hs : ¬ 1048576 < s.size) (hz : ¬ p1 < 0) (hd : Lib.nDigits p1.natAbs ≤ 200) (hc : codeT s.data.toList = 3) (hz0 : numT s.data.toList = 0) : Calls Tryz.prog 5 #[x1.v, .string s] w fun e w' => e = .returned (.bool true) ∧ Below w.heap.size w w' := by
  have HT := Lib.hid htab
  have KG := Lib.hid (Below.refl w.heap.size w)
  have N1 := Lib.hid h1
  have LZp1 := Lib.hid (show lenB p1.natAbs ≤ 200 by have := h1.n; omega)
  have HSM := Lib.hid hsm
  have HS := Lib.hid hs
  obtain ⟨tb, htb⟩ : ∃ t : ByteArray, t = ⟨(Lib.itoa p1).toArray⟩ := ⟨_, rfl⟩
  have HTB := Lib.hid htb
  have htl : tb.size = (Lib.itoa p1).length := by rw [htb]; exact tb_size _
  have htd : tb.data.toList = Lib.itoa p1 := by rw [htb]
  have hil := itoa_len_eq p1
  have hle := itoa_len (z := p1) (k := 200) LZp1.out
  rw [if_neg hz] at hil
  have HTM := Lib.hid (show tb.size ≤ 9223372036854775807 by omega)
  obtain ⟨sg, hsg⟩ : ∃ c, c = cmpZ p1 0 := ⟨_, rfl⟩
  have HSG := Lib.hid hsg.symm
  have gsg : ¬ (sg < 0) := by rw [hsg]; unfold cmpZ; rw [if_neg hz]; split <;> omega
  have gt : (tb.size : Int) ≤ 200 := by omega
  have HCT := Lib.hid (show codeT tb.data.toList = 0 by rw [htd, codeT_itoa, if_neg (by omega)])
  have HZT := Lib.hid (show numT tb.data.toList = p1 by rw [htd]; exact numT_itoa hd)
  have HC := Lib.hid hc
  have HZ0 := Lib.hid hz0
  clear hs htb htl htd hz hd hil hle hsg hc hz0
  clear htab h1 hsm b1
  go_enter Tryz.func5, Tryz.ntmps5
  go_upto_region 1 with (fail)
  obtain ⟨v2, hV⟩ : ∃ V, V = w.alloc (.cells #[.bool x1.s, .slice x1.a x1.n x1.c] 24) := ⟨_, rfl⟩
  have hbV : Below w.heap.size w v2 := by rw [hV]; exact ((Below.refl _ _).alloc (Nat.le_refl _) _)
  have BX1 := Lib.hid (show Bxs v2 (w.heap.size) 24 [.bool x1.s, .slice x1.a x1.n x1.c] by have h := Bxs.new (w) 24 [.bool x1.s, .slice x1.a x1.n x1.c]; rw [hV]; exact h)
  rw [show w.alloc (.cells #[.bool x1.s, .slice x1.a x1.n x1.c] 24) = v2 from hV.symm]
  have KG := Lib.hid (KG.out.trans (hbV.mono KG.out.size))
  clear hV hbV
  go_wp2_with fail
  have CT := Lib.hid (alive_true v2 (HT.out.on KG.out))
  with_reducible refine CT.out.mono ?_
  rintro e w3 ⟨rfl, hb⟩
  clear CT
  have BX1 := Lib.hid (BX1.out.below hb BX1.out.lt)
  have KG := Lib.hid (KG.out.trans (hb.mono KG.out.size))
  clear hb
  have cBX10 := BX1.out.cell (i := 0) rfl
  have cBX11 := BX1.out.cell (i := 1) rfl
  have cBX1f := BX1.out.fz
  have cBX1l := BX1.out.lt
  go_wp2_with fail
  clear cBX10 cBX11 cBX1f cBX1l
  obtain ⟨v5, hV⟩ : ∃ V, V = w3.alloc (.cells #[.bool x1.s, .slice x1.a x1.n x1.c] 24) := ⟨_, rfl⟩
  have hbV : Below w3.heap.size w3 v5 := by rw [hV]; exact ((Below.refl _ _).alloc (Nat.le_refl _) _)
  have BX4 := Lib.hid (show Bxs v5 (w3.heap.size) 24 [.bool x1.s, .slice x1.a x1.n x1.c] by have h := Bxs.new (w3) 24 [.bool x1.s, .slice x1.a x1.n x1.c]; rw [hV]; exact h)
  rw [show w3.alloc (.cells #[.bool x1.s, .slice x1.a x1.n x1.c] 24) = v5 from hV.symm]
  have BX1 := Lib.hid (BX1.out.below hbV BX1.out.lt)
  have KG := Lib.hid (KG.out.trans (hbV.mono KG.out.size))
  clear hV hbV
  have cBX10 := BX1.out.cell (i := 0) rfl
  have cBX11 := BX1.out.cell (i := 1) rfl
  have cBX1f := BX1.out.fz
  have cBX1l := BX1.out.lt
  have CT := Lib.hid (great1N (M := 200) BX4.out)
  rw [show ((200 : Nat) : Int) = 200 from rfl, show decide (200 < x1.n) = false from decide_eq_false (by have g0 : x1.n ≤ 200 := ((N1.out.below KG.out).len LZp1.out (by decide)); omega)] at CT
  with_reducible refine CT.out.mono ?_
  rintro e w6 ⟨rfl, hb⟩
  clear CT
  clear cBX10 cBX11 cBX1f cBX1l
  have BX1 := Lib.hid (BX1.out.below hb BX1.out.lt)
  clear BX4
  have KG := Lib.hid (KG.out.trans (hb.mono KG.out.size))
  clear hb
  go_wp2_with fail
  obtain ⟨v8, hV⟩ : ∃ V, V = w6.alloc (.cells #[.int .i64 s.size] 3) := ⟨_, rfl⟩
  have hbV : Below w6.heap.size w6 v8 := by rw [hV]; exact ((Below.refl _ _).alloc (Nat.le_refl _) _)
  have BX7 := Lib.hid (show Bxs v8 (w6.heap.size) 3 [.int .i64 s.size] by have h := Bxs.new (w6) 3 [.int .i64 s.size]; rw [hV]; exact h)
  rw [show w6.alloc (.cells #[.int .i64 s.size] 3) = v8 from hV.symm]
  have BX1 := Lib.hid (BX1.out.below hbV BX1.out.lt)
  have KG := Lib.hid (KG.out.trans (hbV.mono KG.out.size))
  clear hV hbV
  have CT := Lib.hid (beyond1 BX7.out HSM.out)
  rw [show decide (1048576 < s.size) = false from decide_eq_false HS.out] at CT
  with_reducible refine CT.out.mono ?_
  rintro e w9 ⟨rfl, hb⟩
  clear CT
  have BX1 := Lib.hid (BX1.out.below hb BX1.out.lt)
  clear BX7
  have KG := Lib.hid (KG.out.trans (hb.mono KG.out.size))
  clear hb
  have cBX10 := BX1.out.cell (i := 0) rfl
  have cBX11 := BX1.out.cell (i := 1) rfl
  have cBX1f := BX1.out.fz
  have cBX1l := BX1.out.lt
  go_wp2_with fail
  have CT := Lib.hid (textN (N1.out.below KG.out).any ((N1.out.below KG.out).len LZp1.out (by decide)) (HT.out.on KG.out))
  rw [show (⟨(Lib.itoa p1).toArray⟩ : ByteArray) = tb from HTB.out.symm] at CT
  with_reducible refine CT.out.mono ?_
  rintro e w10 ⟨rfl, hb⟩
  clear CT
  clear cBX10 cBX11 cBX1f cBX1l
  have BX1 := Lib.hid (BX1.out.below hb BX1.out.lt)
  have KG := Lib.hid (KG.out.trans (hb.mono KG.out.size))
  clear hb
  go_wp2_with fail
  have CT := Lib.hid (parse_k w10 HTM.out HZT.out HCT.out)
  with_reducible refine CT.out.mono ?_
  rintro e w11 ⟨x12, rfl, hN13, hb⟩
  have N13 := Lib.hid hN13
  clear hN13
  clear CT
  have BX1 := Lib.hid (BX1.out.below hb BX1.out.lt)
  have KG := Lib.hid (KG.out.trans (hb.mono KG.out.size))
  clear hb
  go_upto_region 5 with (fail)
  obtain ⟨v15, hV⟩ : ∃ V, V = w11.alloc (.cells #[.bool x12.s, .slice x12.a x12.n x12.c] 24) := ⟨_, rfl⟩
  have hbV : Below w11.heap.size w11 v15 := by rw [hV]; exact ((Below.refl _ _).alloc (Nat.le_refl _) _)
  have BX14 := Lib.hid (show Bxs v15 (w11.heap.size) 24 [.bool x12.s, .slice x12.a x12.n x12.c] by have h := Bxs.new (w11) 24 [.bool x12.s, .slice x12.a x12.n x12.c]; rw [hV]; exact h)
  rw [show w11.alloc (.cells #[.bool x12.s, .slice x12.a x12.n x12.c] 24) = v15 from hV.symm]
  have N13 := Lib.hid (N13.out.below hbV)
  have BX1 := Lib.hid (BX1.out.below hbV BX1.out.lt)
  have KG := Lib.hid (KG.out.trans (hbV.mono KG.out.size))
  clear hV hbV
  have cBX10 := BX1.out.cell (i := 0) rfl
  have cBX11 := BX1.out.cell (i := 1) rfl
  have cBX1f := BX1.out.fz
  have cBX1l := BX1.out.lt
  go_wp2_with fail
  have CT := Lib.hid (signN (N1.out.below KG.out).any ((N1.out.below KG.out).len LZp1.out (by decide)))
  rw [show cmpZ p1 0 = sg from HSG.out] at CT
  with_reducible refine CT.out.mono ?_
  rintro e w16 ⟨rfl, hb⟩
  clear CT
  clear cBX10 cBX11 cBX1f cBX1l
  have N13 := Lib.hid (N13.out.below hb)
  have BX1 := Lib.hid (BX1.out.below hb BX1.out.lt)
  have BX14 := Lib.hid (BX14.out.below hb BX14.out.lt)
  have KG := Lib.hid (KG.out.trans (hb.mono KG.out.size))
  clear hb
  have cBX10 := BX1.out.cell (i := 0) rfl
  have cBX11 := BX1.out.cell (i := 1) rfl
  have cBX1f := BX1.out.fz
  have cBX1l := BX1.out.lt
  go_wp2_with fail
  have CT := Lib.hid (checkN (N1.out.below KG.out) ((N1.out.below KG.out).len LZp1.out (by decide)))
  with_reducible refine CT.out.mono ?_
  rintro e w17 ⟨rfl, hb⟩
  clear CT
  clear cBX10 cBX11 cBX1f cBX1l
  have N13 := Lib.hid (N13.out.below hb)
  have BX1 := Lib.hid (BX1.out.below hb BX1.out.lt)
  have BX14 := Lib.hid (BX14.out.below hb BX14.out.lt)
  have KG := Lib.hid (KG.out.trans (hb.mono KG.out.size))
  clear hb
  have cBX140 := BX14.out.cell (i := 0) rfl
  have cBX141 := BX14.out.cell (i := 1) rfl
  have cBX14f := BX14.out.fz
  have cBX14l := BX14.out.lt
  have cBX10 := BX1.out.cell (i := 0) rfl
  have cBX11 := BX1.out.cell (i := 1) rfl
  have cBX1f := BX1.out.fz
  have cBX1l := BX1.out.lt
  go_wp2_with fail
  have CT := Lib.hid (sameTN N13.out.k (N13.out.k.len LZp1.out (by decide)) (N1.out.below KG.out) ((N1.out.below KG.out).len LZp1.out (by decide)) (rfl))
  with_reducible refine CT.out.mono ?_
  rintro e w18 ⟨rfl, hb⟩
  clear CT
  clear cBX140 cBX141 cBX14f cBX14l
  clear cBX10 cBX11 cBX1f cBX1l
  clear N13
  have BX1 := Lib.hid (BX1.out.below hb BX1.out.lt)
  clear BX14
  have KG := Lib.hid (KG.out.trans (hb.mono KG.out.size))
  clear hb
  have cBX10 := BX1.out.cell (i := 0) rfl
  have cBX11 := BX1.out.cell (i := 1) rfl
  have cBX1f := BX1.out.fz
  have cBX1l := BX1.out.lt
  go_wp2_with fail
  have CT := Lib.hid (checkN (N1.out.below KG.out) ((N1.out.below KG.out).len LZp1.out (by decide)))
  with_reducible refine CT.out.mono ?_
  rintro e w19 ⟨rfl, hb⟩
  clear CT
  clear cBX10 cBX11 cBX1f cBX1l
  clear BX1
  have KG := Lib.hid (KG.out.trans (hb.mono KG.out.size))
  clear hb
  go_wp2_with fail
  have CT := Lib.hid (parse_0 w19 HSM.out HZ0.out HC.out)
  with_reducible refine CT.out.mono ?_
  rintro e w20 ⟨x21, rfl, hb⟩
  clear CT
  have KG := Lib.hid (KG.out.trans (hb.mono KG.out.size))
  clear hb
  go_upto_region 11 with (fail)
  obtain ⟨v23, hV⟩ : ∃ V, V = w20.alloc (.cells #[.bool false, .slice x21.1 0 x21.2] 24) := ⟨_, rfl⟩
  have hbV : Below w20.heap.size w20 v23 := by rw [hV]; exact ((Below.refl _ _).alloc (Nat.le_refl _) _)
  have BX22 := Lib.hid (show Bxs v23 (w20.heap.size) 24 [.bool false, .slice x21.1 0 x21.2] by have h := Bxs.new (w20) 24 [.bool false, .slice x21.1 0 x21.2]; rw [hV]; exact h)
  rw [show w20.alloc (.cells #[.bool false, .slice x21.1 0 x21.2] 24) = v23 from hV.symm]
  have KG := Lib.hid (KG.out.trans (hbV.mono KG.out.size))
  clear hV hbV
  have cBX220 := BX22.out.cell (i := 0) rfl
  have cBX221 := BX22.out.cell (i := 1) rfl
  have cBX22f := BX22.out.fz
  have cBX22l := BX22.out.lt
  go_wp2_with fail
  go_ret
  exact ⟨rfl, KG.out⟩
set_option maxRecDepth 100000 in
set_option maxHeartbeats 16000000 in
theorem read_ps_c4 (x1 : NV) (p1 : Int) (s : ByteArray) (w : World) (htab : Tab w) (h1 : KN w x1 p1) (b1 : x1.n ≤ 200) (hsm : s.size ≤ 9223372036854775807) (hs : ¬ 1048576 < s.size) (hz : ¬ p1 < 0) (hd : Lib.nDigits p1.natAbs ≤ 200) (hc : codeT s.data.toList = 4) (hz0 : numT s.data.toList = 0) : Calls Tryz.prog 5 #[x1.v, .string s] w fun e w' => e = .returned (.bool true) ∧ Below w.heap.size w w' := by
  have HT := Lib.hid htab
  have KG := Lib.hid (Below.refl w.heap.size w)
  have N1 := Lib.hid h1
  have LZp1 := Lib.hid (show lenB p1.natAbs ≤ 200 by have := h1.n; omega)
  have HSM := Lib.hid hsm
  have HS := Lib.hid hs
  obtain ⟨tb, htb⟩ : ∃ t : ByteArray, t = ⟨(Lib.itoa p1).toArray⟩ := ⟨_, rfl⟩
  have HTB := Lib.hid htb
  have htl : tb.size = (Lib.itoa p1).length := by rw [htb]; exact tb_size _
  have htd : tb.data.toList = Lib.itoa p1 := by rw [htb]
  have hil := itoa_len_eq p1
  have hle := itoa_len (z := p1) (k := 200) LZp1.out
  rw [if_neg hz] at hil
  have HTM := Lib.hid (show tb.size ≤ 9223372036854775807 by omega)
  obtain ⟨sg, hsg⟩ : ∃ c, c = cmpZ p1 0 := ⟨_, rfl⟩
  have HSG := Lib.hid hsg.symm
  have gsg : ¬ (sg < 0) := by rw [hsg]; unfold cmpZ; rw [if_neg hz]; split <;> omega
  have gt : (tb.size : Int) ≤ 200 := by omega
  have HCT := Lib.hid (show codeT tb.data.toList = 0 by rw [htd, codeT_itoa, if_neg (by omega)])
  have HZT := Lib.hid (show numT tb.data.toList = p1 by rw [htd]; exact numT_itoa hd)
  have HC := Lib.hid hc
  have HZ0 := Lib.hid hz0
  clear hs htb htl htd hz hd hil hle hsg hc hz0
  clear htab h1 hsm b1
  go_enter Tryz.func5, Tryz.ntmps5
  go_upto_region 1 with (fail)
  obtain ⟨v2, hV⟩ : ∃ V, V = w.alloc (.cells #[.bool x1.s, .slice x1.a x1.n x1.c] 24) := ⟨_, rfl⟩
  have hbV : Below w.heap.size w v2 := by rw [hV]; exact ((Below.refl _ _).alloc (Nat.le_refl _) _)
  have BX1 := Lib.hid (show Bxs v2 (w.heap.size) 24 [.bool x1.s, .slice x1.a x1.n x1.c] by have h := Bxs.new (w) 24 [.bool x1.s, .slice x1.a x1.n x1.c]; rw [hV]; exact h)
  rw [show w.alloc (.cells #[.bool x1.s, .slice x1.a x1.n x1.c] 24) = v2 from hV.symm]
  have KG := Lib.hid (KG.out.trans (hbV.mono KG.out.size))
  clear hV hbV
  go_wp2_with fail
  have CT := Lib.hid (alive_true v2 (HT.out.on KG.out))
  with_reducible refine CT.out.mono ?_
  rintro e w3 ⟨rfl, hb⟩
  clear CT
  have BX1 := Lib.hid (BX1.out.below hb BX1.out.lt)
  have KG := Lib.hid (KG.out.trans (hb.mono KG.out.size))
  clear hb
  have cBX10 := BX1.out.cell (i := 0) rfl
  have cBX11 := BX1.out.cell (i := 1) rfl
  have cBX1f := BX1.out.fz
  have cBX1l := BX1.out.lt
  go_wp2_with fail
  clear cBX10 cBX11 cBX1f cBX1l
  obtain ⟨v5, hV⟩ : ∃ V, V = w3.alloc (.cells #[.bool x1.s, .slice x1.a x1.n x1.c] 24) := ⟨_, rfl⟩
  have hbV : Below w3.heap.size w3 v5 := by rw [hV]; exact ((Below.refl _ _).alloc (Nat.le_refl _) _)
  have BX4 := Lib.hid (show Bxs v5 (w3.heap.size) 24 [.bool x1.s, .slice x1.a x1.n x1.c] by have h := Bxs.new (w3) 24 [.bool x1.s, .slice x1.a x1.n x1.c]; rw [hV]; exact h)
  rw [show w3.alloc (.cells #[.bool x1.s, .slice x1.a x1.n x1.c] 24) = v5 from hV.symm]
  have BX1 := Lib.hid (BX1.out.below hbV BX1.out.lt)
  have KG := Lib.hid (KG.out.trans (hbV.mono KG.out.size))
  clear hV hbV
  have cBX10 := BX1.out.cell (i := 0) rfl
  have cBX11 := BX1.out.cell (i := 1) rfl
  have cBX1f := BX1.out.fz
  have cBX1l := BX1.out.lt
  have CT := Lib.hid (great1N (M := 200) BX4.out)
  rw [show ((200 : Nat) : Int) = 200 from rfl, show decide (200 < x1.n) = false from decide_eq_false (by have g0 : x1.n ≤ 200 := ((N1.out.below KG.out).len LZp1.out (by decide)); omega)] at CT
  with_reducible refine CT.out.mono ?_
  rintro e w6 ⟨rfl, hb⟩
  clear CT
  clear cBX10 cBX11 cBX1f cBX1l
  have BX1 := Lib.hid (BX1.out.below hb BX1.out.lt)
  clear BX4
  have KG := Lib.hid (KG.out.trans (hb.mono KG.out.size))
  clear hb
  go_wp2_with fail
  obtain ⟨v8, hV⟩ : ∃ V, V = w6.alloc (.cells #[.int .i64 s.size] 3) := ⟨_, rfl⟩
  have hbV : Below w6.heap.size w6 v8 := by rw [hV]; exact ((Below.refl _ _).alloc (Nat.le_refl _) _)
  have BX7 := Lib.hid (show Bxs v8 (w6.heap.size) 3 [.int .i64 s.size] by have h := Bxs.new (w6) 3 [.int .i64 s.size]; rw [hV]; exact h)
  rw [show w6.alloc (.cells #[.int .i64 s.size] 3) = v8 from hV.symm]
  have BX1 := Lib.hid (BX1.out.below hbV BX1.out.lt)
  have KG := Lib.hid (KG.out.trans (hbV.mono KG.out.size))
  clear hV hbV
  have CT := Lib.hid (beyond1 BX7.out HSM.out)
  rw [show decide (1048576 < s.size) = false from decide_eq_false HS.out] at CT
  with_reducible refine CT.out.mono ?_
  rintro e w9 ⟨rfl, hb⟩
  clear CT
  have BX1 := Lib.hid (BX1.out.below hb BX1.out.lt)
  clear BX7
  have KG := Lib.hid (KG.out.trans (hb.mono KG.out.size))
  clear hb
  have cBX10 := BX1.out.cell (i := 0) rfl
  have cBX11 := BX1.out.cell (i := 1) rfl
  have cBX1f := BX1.out.fz
  have cBX1l := BX1.out.lt
  go_wp2_with fail
  have CT := Lib.hid (textN (N1.out.below KG.out).any ((N1.out.below KG.out).len LZp1.out (by decide)) (HT.out.on KG.out))
  rw [show (⟨(Lib.itoa p1).toArray⟩ : ByteArray) = tb from HTB.out.symm] at CT
  with_reducible refine CT.out.mono ?_
  rintro e w10 ⟨rfl, hb⟩
  clear CT
  clear cBX10 cBX11 cBX1f cBX1l
  have BX1 := Lib.hid (BX1.out.below hb BX1.out.lt)
  have KG := Lib.hid (KG.out.trans (hb.mono KG.out.size))
  clear hb
  go_wp2_with fail
  have CT := Lib.hid (parse_k w10 HTM.out HZT.out HCT.out)
  with_reducible refine CT.out.mono ?_
  rintro e w11 ⟨x12, rfl, hN13, hb⟩
  have N13 := Lib.hid hN13
  clear hN13
  clear CT
  have BX1 := Lib.hid (BX1.out.below hb BX1.out.lt)
  have KG := Lib.hid (KG.out.trans (hb.mono KG.out.size))
  clear hb
  go_upto_region 5 with (fail)
  obtain ⟨v15, hV⟩ : ∃ V, V = w11.alloc (.cells #[.bool x12.s, .slice x12.a x12.n x12.c] 24) := ⟨_, rfl⟩
  have hbV : Below w11.heap.size w11 v15 := by rw [hV]; exact ((Below.refl _ _).alloc (Nat.le_refl _) _)
  have BX14 := Lib.hid (show Bxs v15 (w11.heap.size) 24 [.bool x12.s, .slice x12.a x12.n x12.c] by have h := Bxs.new (w11) 24 [.bool x12.s, .slice x12.a x12.n x12.c]; rw [hV]; exact h)
  rw [show w11.alloc (.cells #[.bool x12.s, .slice x12.a x12.n x12.c] 24) = v15 from hV.symm]
  have N13 := Lib.hid (N13.out.below hbV)
  have BX1 := Lib.hid (BX1.out.below hbV BX1.out.lt)
  have KG := Lib.hid (KG.out.trans (hbV.mono KG.out.size))
  clear hV hbV
  have cBX10 := BX1.out.cell (i := 0) rfl
  have cBX11 := BX1.out.cell (i := 1) rfl
  have cBX1f := BX1.out.fz
  have cBX1l := BX1.out.lt
  go_wp2_with fail
  have CT := Lib.hid (signN (N1.out.below KG.out).any ((N1.out.below KG.out).len LZp1.out (by decide)))
  rw [show cmpZ p1 0 = sg from HSG.out] at CT
  with_reducible refine CT.out.mono ?_
  rintro e w16 ⟨rfl, hb⟩
  clear CT
  clear cBX10 cBX11 cBX1f cBX1l
  have N13 := Lib.hid (N13.out.below hb)
  have BX1 := Lib.hid (BX1.out.below hb BX1.out.lt)
  have BX14 := Lib.hid (BX14.out.below hb BX14.out.lt)
  have KG := Lib.hid (KG.out.trans (hb.mono KG.out.size))
  clear hb
  have cBX10 := BX1.out.cell (i := 0) rfl
  have cBX11 := BX1.out.cell (i := 1) rfl
  have cBX1f := BX1.out.fz
  have cBX1l := BX1.out.lt
  go_wp2_with fail
  have CT := Lib.hid (checkN (N1.out.below KG.out) ((N1.out.below KG.out).len LZp1.out (by decide)))
  with_reducible refine CT.out.mono ?_
  rintro e w17 ⟨rfl, hb⟩
  clear CT
  clear cBX10 cBX11 cBX1f cBX1l
  have N13 := Lib.hid (N13.out.below hb)
  have BX1 := Lib.hid (BX1.out.below hb BX1.out.lt)
  have BX14 := Lib.hid (BX14.out.below hb BX14.out.lt)
  have KG := Lib.hid (KG.out.trans (hb.mono KG.out.size))
  clear hb
  have cBX140 := BX14.out.cell (i := 0) rfl
  have cBX141 := BX14.out.cell (i := 1) rfl
  have cBX14f := BX14.out.fz
  have cBX14l := BX14.out.lt
  have cBX10 := BX1.out.cell (i := 0) rfl
  have cBX11 := BX1.out.cell (i := 1) rfl
  have cBX1f := BX1.out.fz
  have cBX1l := BX1.out.lt
  go_wp2_with fail
  have CT := Lib.hid (sameTN N13.out.k (N13.out.k.len LZp1.out (by decide)) (N1.out.below KG.out) ((N1.out.below KG.out).len LZp1.out (by decide)) (rfl))
  with_reducible refine CT.out.mono ?_
  rintro e w18 ⟨rfl, hb⟩
  clear CT
  clear cBX140 cBX141 cBX14f cBX14l
  clear cBX10 cBX11 cBX1f cBX1l
  clear N13
  have BX1 := Lib.hid (BX1.out.below hb BX1.out.lt)
  clear BX14
  have KG := Lib.hid (KG.out.trans (hb.mono KG.out.size))
  clear hb
  have cBX10 := BX1.out.cell (i := 0) rfl
  have cBX11 := BX1.out.cell (i := 1) rfl
  have cBX1f := BX1.out.fz
  have cBX1l := BX1.out.lt
  go_wp2_with fail
  have CT := Lib.hid (checkN (N1.out.below KG.out) ((N1.out.below KG.out).len LZp1.out (by decide)))
  with_reducible refine CT.out.mono ?_
  rintro e w19 ⟨rfl, hb⟩
  clear CT
  clear cBX10 cBX11 cBX1f cBX1l
  clear BX1
  have KG := Lib.hid (KG.out.trans (hb.mono KG.out.size))
  clear hb
  go_wp2_with fail
  have CT := Lib.hid (parse_0 w19 HSM.out HZ0.out HC.out)
  with_reducible refine CT.out.mono ?_
  rintro e w20 ⟨x21, rfl, hb⟩
  clear CT
  have KG := Lib.hid (KG.out.trans (hb.mono KG.out.size))
  clear hb
  go_upto_region 11 with (fail)
  obtain ⟨v23, hV⟩ : ∃ V, V = w20.alloc (.cells #[.bool false, .slice x21.1 0 x21.2] 24) := ⟨_, rfl⟩
  have hbV : Below w20.heap.size w20 v23 := by rw [hV]; exact ((Below.refl _ _).alloc (Nat.le_refl _) _)
  have BX22 := Lib.hid (show Bxs v23 (w20.heap.size) 24 [.bool false, .slice x21.1 0 x21.2] by have h := Bxs.new (w20) 24 [.bool false, .slice x21.1 0 x21.2]; rw [hV]; exact h)
  rw [show w20.alloc (.cells #[.bool false, .slice x21.1 0 x21.2] 24) = v23 from hV.symm]
  have KG := Lib.hid (KG.out.trans (hbV.mono KG.out.size))
  clear hV hbV
  have cBX220 := BX22.out.cell (i := 0) rfl
  have cBX221 := BX22.out.cell (i := 1) rfl
  have cBX22f := BX22.out.fz
  have cBX22l := BX22.out.lt
  go_wp2_with fail
  go_ret
  exact ⟨rfl, KG.out⟩
set_option maxRecDepth 100000 in
set_option maxHeartbeats 16000000 in
theorem read_pl_p (x1 : NV) (p1 : Int) (s : ByteArray) (w : World) (htab : Tab w) (h1 : KN w x1 p1) (b1 : x1.n ≤ 200) (hsm : s.size ≤ 9223372036854775807) (hs : ¬ 1048576 < s.size) (hz : ¬ p1 < 0) (hd : 200 < Lib.nDigits p1.natAbs) (hc : codeT s.data.toList = 0) (hsg2 : 0 < numT s.data.toList) : Calls Tryz.prog 5 #[x1.v, .string s] w fun e w' => e = .returned (.bool true) ∧ Below w.heap.size w w' := by
  have HT := Lib.hid htab
  have KG := Lib.hid (Below.refl w.heap.size w)
  have N1 := Lib.hid h1
  have LZp1 := Lib.hid (show lenB p1.natAbs ≤ 200 by have := h1.n; omega)
  have HSM := Lib.hid hsm
  have HS := Lib.hid hs
  obtain ⟨tb, htb⟩ : ∃ t : ByteArray, t = ⟨(Lib.itoa p1).toArray⟩ := ⟨_, rfl⟩
  have HTB := Lib.hid htb
  have htl : tb.size = (Lib.itoa p1).length := by rw [htb]; exact tb_size _
  have htd : tb.data.toList = Lib.itoa p1 := by rw [htb]
  have hil := itoa_len_eq p1
  have hle := itoa_len (z := p1) (k := 200) LZp1.out
  rw [if_neg hz] at hil
  have HTM := Lib.hid (show tb.size ≤ 9223372036854775807 by omega)
  obtain ⟨sg, hsg⟩ : ∃ c, c = cmpZ p1 0 := ⟨_, rfl⟩
  have HSG := Lib.hid hsg.symm
  have gsg : ¬ (sg < 0) := by rw [hsg]; unfold cmpZ; rw [if_neg hz]; split <;> omega
  have gt : ¬ ((tb.size : Int) ≤ 200) := by omega
  have gt2 : (tb.size : Int) > 200 := by omega
  have HCT := Lib.hid (show codeT tb.data.toList = 3 by rw [htd, codeT_itoa, if_pos hd])
  obtain ⟨zt, hzt⟩ : ∃ z, z = numT tb.data.toList := ⟨_, rfl⟩
  have HZT := Lib.hid hzt.symm
  have LZzt := Lib.hid (show lenB zt.natAbs ≤ 23 by rw [hzt]; exact numT_len _)
  have HC := Lib.hid hc
  have hy := hyph_pos hc hsg2
  obtain ⟨zs, hzs⟩ : ∃ z, z = numT s.data.toList := ⟨_, rfl⟩
  have HZS := Lib.hid hzs
  have LZzs := Lib.hid (show lenB zs.natAbs ≤ 23 by rw [hzs]; exact numT_len _)
  have HBK := Lib.hid (show (⟨(Lib.itoa zs).toArray⟩ : ByteArray) = s by rw [hzs]; exact itoa_back hc)
  obtain ⟨hs2, hhs⟩ : ∃ t : ByteArray, t = ⟨#[45]⟩ ++ s := ⟨_, rfl⟩
  have hhd : hs2.data.toList = 45 :: s.data.toList := by rw [hhs]; exact hyph_data s
  have ehs : (⟨#[45]⟩ : ByteArray) ++ s = hs2 := hhs.symm
  have l1 : ¬ (9223372036854775807 < 1 + s.size) := by have := HS.out; omega
  have HHM := Lib.hid (show hs2.size ≤ 9223372036854775807 by rw [hhs, ByteArray.size_append]; have : (ByteArray.mk #[45]).size = 1 := rfl; omega)
  obtain ⟨zh, hzh⟩ : ∃ z, z = numT hs2.data.toList := ⟨_, rfl⟩
  have HZH := Lib.hid hzh.symm
  have LZzh := Lib.hid (show lenB zh.natAbs ≤ 23 by rw [hzh]; exact numT_len _)
  have HHC := Lib.hid (show codeT hs2.data.toList = 0 by rw [hhd]; exact hy.1)
  have EZH := Lib.hid (show zh = -zs by rw [hzh, hhd, hzs]; exact hy.2)
  have HP2 := Lib.hid (show 0 < zs by rw [hzs]; exact hsg2)
  clear hs htb htl htd hz hd hil hle hsg hzt hc hsg2 hzs hhs hhd hzh hy
  clear htab h1 hsm b1
  obtain ⟨z31, hz31⟩ : ∃ z : Int, z = -zs := ⟨_, rfl⟩
  have Hz31 := Lib.hid hz31
  have LZz31 := Lib.hid (show lenB z31.natAbs ≤ 23 by rw [hz31]; exact lenZ_neg LZzs.out)
  clear hz31
  go_enter Tryz.func5, Tryz.ntmps5
  go_upto_region 1 with (fail)
  obtain ⟨v2, hV⟩ : ∃ V, V = w.alloc (.cells #[.bool x1.s, .slice x1.a x1.n x1.c] 24) := ⟨_, rfl⟩
  have hbV : Below w.heap.size w v2 := by rw [hV]; exact ((Below.refl _ _).alloc (Nat.le_refl _) _)
  have BX1 := Lib.hid (show Bxs v2 (w.heap.size) 24 [.bool x1.s, .slice x1.a x1.n x1.c] by have h := Bxs.new (w) 24 [.bool x1.s, .slice x1.a x1.n x1.c]; rw [hV]; exact h)
  rw [show w.alloc (.cells #[.bool x1.s, .slice x1.a x1.n x1.c] 24) = v2 from hV.symm]
  have KG := Lib.hid (KG.out.trans (hbV.mono KG.out.size))
  clear hV hbV
  go_wp2_with fail
  have CT := Lib.hid (alive_true v2 (HT.out.on KG.out))
  with_reducible refine CT.out.mono ?_
  rintro e w3 ⟨rfl, hb⟩
  clear CT
  have BX1 := Lib.hid (BX1.out.below hb BX1.out.lt)
  have KG := Lib.hid (KG.out.trans (hb.mono KG.out.size))
  clear hb
  have cBX10 := BX1.out.cell (i := 0) rfl
  have cBX11 := BX1.out.cell (i := 1) rfl
  have cBX1f := BX1.out.fz
  have cBX1l := BX1.out.lt
  go_wp2_with fail
  clear cBX10 cBX11 cBX1f cBX1l
  obtain ⟨v5, hV⟩ : ∃ V, V = w3.alloc (.cells #[.bool x1.s, .slice x1.a x1.n x1.c] 24) := ⟨_, rfl⟩
  have hbV : Below w3.heap.size w3 v5 := by rw [hV]; exact ((Below.refl _ _).alloc (Nat.le_refl _) _)
  have BX4 := Lib.hid (show Bxs v5 (w3.heap.size) 24 [.bool x1.s, .slice x1.a x1.n x1.c] by have h := Bxs.new (w3) 24 [.bool x1.s, .slice x1.a x1.n x1.c]; rw [hV]; exact h)
  rw [show w3.alloc (.cells #[.bool x1.s, .slice x1.a x1.n x1.c] 24) = v5 from hV.symm]
  have BX1 := Lib.hid (BX1.out.below hbV BX1.out.lt)
  have KG := Lib.hid (KG.out.trans (hbV.mono KG.out.size))
  clear hV hbV
  have cBX10 := BX1.out.cell (i := 0) rfl
  have cBX11 := BX1.out.cell (i := 1) rfl
  have cBX1f := BX1.out.fz
  have cBX1l := BX1.out.lt
  have CT := Lib.hid (great1N (M := 200) BX4.out)
  rw [show ((200 : Nat) : Int) = 200 from rfl, show decide (200 < x1.n) = false from decide_eq_false (by have g0 : x1.n ≤ 200 := ((N1.out.below KG.out).len LZp1.out (by decide)); omega)] at CT
  with_reducible refine CT.out.mono ?_
  rintro e w6 ⟨rfl, hb⟩
  clear CT
  clear cBX10 cBX11 cBX1f cBX1l
  have BX1 := Lib.hid (BX1.out.below hb BX1.out.lt)
  clear BX4
  have KG := Lib.hid (KG.out.trans (hb.mono KG.out.size))
  clear hb
  go_wp2_with fail
  obtain ⟨v8, hV⟩ : ∃ V, V = w6.alloc (.cells #[.int .i64 s.size] 3) := ⟨_, rfl⟩
  have hbV : Below w6.heap.size w6 v8 := by rw [hV]; exact ((Below.refl _ _).alloc (Nat.le_refl _) _)
  have BX7 := Lib.hid (show Bxs v8 (w6.heap.size) 3 [.int .i64 s.size] by have h := Bxs.new (w6) 3 [.int .i64 s.size]; rw [hV]; exact h)
  rw [show w6.alloc (.cells #[.int .i64 s.size] 3) = v8 from hV.symm]
  have BX1 := Lib.hid (BX1.out.below hbV BX1.out.lt)
  have KG := Lib.hid (KG.out.trans (hbV.mono KG.out.size))
  clear hV hbV
  have CT := Lib.hid (beyond1 BX7.out HSM.out)
  rw [show decide (1048576 < s.size) = false from decide_eq_false HS.out] at CT
  with_reducible refine CT.out.mono ?_
  rintro e w9 ⟨rfl, hb⟩
  clear CT
  have BX1 := Lib.hid (BX1.out.below hb BX1.out.lt)
  clear BX7
  have KG := Lib.hid (KG.out.trans (hb.mono KG.out.size))
  clear hb
  have cBX10 := BX1.out.cell (i := 0) rfl
  have cBX11 := BX1.out.cell (i := 1) rfl
  have cBX1f := BX1.out.fz
  have cBX1l := BX1.out.lt
  go_wp2_with fail
  have CT := Lib.hid (textN (N1.out.below KG.out).any ((N1.out.below KG.out).len LZp1.out (by decide)) (HT.out.on KG.out))
  rw [show (⟨(Lib.itoa p1).toArray⟩ : ByteArray) = tb from HTB.out.symm] at CT
  with_reducible refine CT.out.mono ?_
  rintro e w10 ⟨rfl, hb⟩
  clear CT
  clear cBX10 cBX11 cBX1f cBX1l
  have BX1 := Lib.hid (BX1.out.below hb BX1.out.lt)
  have KG := Lib.hid (KG.out.trans (hb.mono KG.out.size))
  clear hb
  go_wp2_with fail
  have CT := Lib.hid (parse_k w10 HTM.out HZT.out HCT.out)
  with_reducible refine CT.out.mono ?_
  rintro e w11 ⟨x12, rfl, hN13, hb⟩
  have N13 := Lib.hid hN13
  clear hN13
  clear CT
  have BX1 := Lib.hid (BX1.out.below hb BX1.out.lt)
  have KG := Lib.hid (KG.out.trans (hb.mono KG.out.size))
  clear hb
  clear N13
  go_upto_region 5 with (fail)
  obtain ⟨v15, hV⟩ : ∃ V, V = w11.alloc (.cells #[.bool x12.s, .slice x12.a x12.n x12.c] 24) := ⟨_, rfl⟩
  have hbV : Below w11.heap.size w11 v15 := by rw [hV]; exact ((Below.refl _ _).alloc (Nat.le_refl _) _)
  have BX14 := Lib.hid (show Bxs v15 (w11.heap.size) 24 [.bool x12.s, .slice x12.a x12.n x12.c] by have h := Bxs.new (w11) 24 [.bool x12.s, .slice x12.a x12.n x12.c]; rw [hV]; exact h)
  rw [show w11.alloc (.cells #[.bool x12.s, .slice x12.a x12.n x12.c] 24) = v15 from hV.symm]
  have BX1 := Lib.hid (BX1.out.below hbV BX1.out.lt)
  have KG := Lib.hid (KG.out.trans (hbV.mono KG.out.size))
  clear hV hbV
  clear BX14
  have cBX10 := BX1.out.cell (i := 0) rfl
  have cBX11 := BX1.out.cell (i := 1) rfl
  have cBX1f := BX1.out.fz
  have cBX1l := BX1.out.lt
  go_wp2_with fail
  have CT := Lib.hid (signN (N1.out.below KG.out).any ((N1.out.below KG.out).len LZp1.out (by decide)))
  rw [show cmpZ p1 0 = sg from HSG.out] at CT
  with_reducible refine CT.out.mono ?_
  rintro e w16 ⟨rfl, hb⟩
  clear CT
  clear cBX10 cBX11 cBX1f cBX1l
  have BX1 := Lib.hid (BX1.out.below hb BX1.out.lt)
  have KG := Lib.hid (KG.out.trans (hb.mono KG.out.size))
  clear hb
  have cBX10 := BX1.out.cell (i := 0) rfl
  have cBX11 := BX1.out.cell (i := 1) rfl
  have cBX1f := BX1.out.fz
  have cBX1l := BX1.out.lt
  go_wp2_with fail
  have CT := Lib.hid (checkN (N1.out.below KG.out) ((N1.out.below KG.out).len LZp1.out (by decide)))
  with_reducible refine CT.out.mono ?_
  rintro e w17 ⟨rfl, hb⟩
  clear CT
  clear cBX10 cBX11 cBX1f cBX1l
  have BX1 := Lib.hid (BX1.out.below hb BX1.out.lt)
  have KG := Lib.hid (KG.out.trans (hb.mono KG.out.size))
  clear hb
  have cBX10 := BX1.out.cell (i := 0) rfl
  have cBX11 := BX1.out.cell (i := 1) rfl
  have cBX1f := BX1.out.fz
  have cBX1l := BX1.out.lt
  go_wp2_with fail
  have CT := Lib.hid (checkN (N1.out.below KG.out) ((N1.out.below KG.out).len LZp1.out (by decide)))
  with_reducible refine CT.out.mono ?_
  rintro e w18 ⟨rfl, hb⟩
  clear CT
  clear cBX10 cBX11 cBX1f cBX1l
  clear BX1
  have KG := Lib.hid (KG.out.trans (hb.mono KG.out.size))
  clear hb
  go_wp2_with fail
  have CT := Lib.hid (parse_k w18 HSM.out HZS.out.symm HC.out)
  with_reducible refine CT.out.mono ?_
  rintro e w19 ⟨x20, rfl, hN21, hb⟩
  have N21 := Lib.hid hN21
  clear hN21
  clear CT
  have KG := Lib.hid (KG.out.trans (hb.mono KG.out.size))
  clear hb
  go_upto_region 11 with (fail)
  obtain ⟨v23, hV⟩ : ∃ V, V = w19.alloc (.cells #[.bool x20.s, .slice x20.a x20.n x20.c] 24) := ⟨_, rfl⟩
  have hbV : Below w19.heap.size w19 v23 := by rw [hV]; exact ((Below.refl _ _).alloc (Nat.le_refl _) _)
  have BX22 := Lib.hid (show Bxs v23 (w19.heap.size) 24 [.bool x20.s, .slice x20.a x20.n x20.c] by have h := Bxs.new (w19) 24 [.bool x20.s, .slice x20.a x20.n x20.c]; rw [hV]; exact h)
  rw [show w19.alloc (.cells #[.bool x20.s, .slice x20.a x20.n x20.c] 24) = v23 from hV.symm]
  have N21 := Lib.hid (N21.out.below hbV)
  have KG := Lib.hid (KG.out.trans (hbV.mono KG.out.size))
  clear hV hbV
  go_wp2_with fail
  have CT := Lib.hid (parse_k v23 HHM.out HZH.out HHC.out)
  with_reducible refine CT.out.mono ?_
  rintro e w24 ⟨x25, rfl, hN26, hb⟩
  have N26 := Lib.hid hN26
  clear hN26
  clear CT
  have N21 := Lib.hid (N21.out.below hb)
  have BX22 := Lib.hid (BX22.out.below hb BX22.out.lt)
  have KG := Lib.hid (KG.out.trans (hb.mono KG.out.size))
  clear hb
  go_upto_region 14 with (fail)
  obtain ⟨v28, hV⟩ : ∃ V, V = w24.alloc (.cells #[.bool x25.s, .slice x25.a x25.n x25.c] 24) := ⟨_, rfl⟩
  have hbV : Below w24.heap.size w24 v28 := by rw [hV]; exact ((Below.refl _ _).alloc (Nat.le_refl _) _)
  have BX27 := Lib.hid (show Bxs v28 (w24.heap.size) 24 [.bool x25.s, .slice x25.a x25.n x25.c] by have h := Bxs.new (w24) 24 [.bool x25.s, .slice x25.a x25.n x25.c]; rw [hV]; exact h)
  rw [show w24.alloc (.cells #[.bool x25.s, .slice x25.a x25.n x25.c] 24) = v28 from hV.symm]
  have N21 := Lib.hid (N21.out.below hbV)
  have N26 := Lib.hid (N26.out.below hbV)
  have BX22 := Lib.hid (BX22.out.below hbV BX22.out.lt)
  have KG := Lib.hid (KG.out.trans (hbV.mono KG.out.size))
  clear hV hbV
  have cBX220 := BX22.out.cell (i := 0) rfl
  have cBX221 := BX22.out.cell (i := 1) rfl
  have cBX22f := BX22.out.fz
  have cBX22l := BX22.out.lt
  go_wp2_with fail
  have CT := Lib.hid (checkN N21.out.k (N21.out.k.len LZzs.out (by decide)))
  with_reducible refine CT.out.mono ?_
  rintro e w29 ⟨rfl, hb⟩
  clear CT
  clear cBX220 cBX221 cBX22f cBX22l
  have N21 := Lib.hid (N21.out.below hb)
  have N26 := Lib.hid (N26.out.below hb)
  have BX22 := Lib.hid (BX22.out.below hb BX22.out.lt)
  have BX27 := Lib.hid (BX27.out.below hb BX27.out.lt)
  have KG := Lib.hid (KG.out.trans (hb.mono KG.out.size))
  clear hb
  have cBX220 := BX22.out.cell (i := 0) rfl
  have cBX221 := BX22.out.cell (i := 1) rfl
  have cBX22f := BX22.out.fz
  have cBX22l := BX22.out.lt
  go_wp2_with fail
  have CT := Lib.hid (textN N21.out.k.any (N21.out.k.len LZzs.out (by decide)) (HT.out.on KG.out))
  rw [show (⟨(Lib.itoa zs).toArray⟩ : ByteArray) = s from HBK.out] at CT
  with_reducible refine CT.out.mono ?_
  rintro e w30 ⟨rfl, hb⟩
  clear CT
  clear cBX220 cBX221 cBX22f cBX22l
  have N21 := Lib.hid (N21.out.below hb)
  have N26 := Lib.hid (N26.out.below hb)
  have BX22 := Lib.hid (BX22.out.below hb BX22.out.lt)
  have BX27 := Lib.hid (BX27.out.below hb BX27.out.lt)
  have KG := Lib.hid (KG.out.trans (hb.mono KG.out.size))
  clear hb
  go_upto_region 16 with (fail)
  refine Go.FreshS.wp_region_fresh 22 [] (Go.FreshS.spOf [(1, Go.FreshS.Sp.know (.int .i64 1)), (10, Go.FreshS.Sp.made (fun x : NV => x.v) (fun x w' => DN w' w30.heap.size x z31) NV.blk), (11, Go.FreshS.Sp.know (.bool true))])
    (fun w' => Below w30.heap.size w30 w') (by kernel_rfl) (by kernel_rfl) (by kernel_rfl)
    (Go.FreshS.spOf_cons (Go.FreshS.Sp.know_keeps _ _) (Go.FreshS.spOf_cons (Go.FreshS.Sp.made_keeps _ (fun _ _ _ h _ hk => h.kept hk) (Go.FreshS.notTaken (by kernel_rfl))) (Go.FreshS.spOf_cons (Go.FreshS.Sp.know_keeps _ _) (Go.FreshS.spOf_nil)))) (fun _ _ h hb => h.trans (hb.mono h.size)) ((Below.refl _ _).drew) ?_
  simp only [List.append_eq, List.cons_append, List.nil_append, List.take_succ_cons, List.take_zero, List.drop_succ_cons, List.drop_zero]
  refine Go.FreshS.wpF_reads rfl rfl rfl ?_ (fun w' hw' => ?_) ?_
  rotate_left
  · have hb' := hw'.world
    have hs0 := (BX22.out.below hb' BX22.out.lt).cell (i := 0) rfl
    have hs1 := (BX22.out.below hb' BX22.out.lt).cell (i := 1) rfl
    have hsf := (BX22.out.below hb' BX22.out.lt).fz
    have hsl := (BX22.out.below hb' BX22.out.lt).lt
    clear hw'
    go_simp
    try rfl
  conv => arg 10; simp only [Act.put, List.setIfInBounds_toArray, List.set_cons_succ, List.set_cons_zero]
  refine Go.FreshS.wpF_spec rfl rfl rfl (fun w' hw' => ?_) ?_
  · have hb' := hw'.world
    refine Go.FreshS.gives_of (Go.FreshS.PK (.int .i64 1)) ?_ (fun _ _ h => h.post)
    go_simp
    have CT := signN (N21.out.below hb').k.any ((N21.out.below hb').k.len LZzs.out (by decide))
    rw [show cmpZ zs 0 = 1 from cmpZ_gt HP2.out] at CT
    refine CT.mono ?_
    rintro e w'' ⟨rfl, hb⟩
    exact ⟨_, rfl, rfl, hb⟩
  rintro _ rfl
  conv => arg 10; simp only [Act.put, List.setIfInBounds_toArray, List.set_cons_succ, List.set_cons_zero]
  refine Go.FreshS.wpF_reads rfl rfl rfl ?_ (fun w' hw' => ?_) ?_
  rotate_left
  · have hb' := hw'.world
    skip
    clear hw'
    go_simp
    try rfl
  conv => arg 10; simp only [Act.put, List.setIfInBounds_toArray, List.set_cons_succ, List.set_cons_zero]
  refine Go.FreshS.wpF_reads rfl rfl rfl ?_ (fun w' hw' => ?_) ?_
  rotate_left
  · have hb' := hw'.world
    skip
    clear hw'
    go_simp
    try rfl
  conv => arg 10; simp only [Act.put, List.setIfInBounds_toArray, List.set_cons_succ, List.set_cons_zero]
  refine Go.FreshS.wpF_readsG (by rfl) rfl rfl ?_ (fun w' hw' => ?_) ?_
  rotate_left
  · have hb' := hw'.world
    skip
    clear hw'
    go_simp
    try rfl
  conv => arg 10; simp only [Act.put, List.setIfInBounds_toArray, List.set_cons_succ, List.set_cons_zero]
  refine Go.FreshS.wpF_readsG (by rfl) rfl rfl ?_ (fun w' hw' => ?_) ?_
  rotate_left
  · have hb' := hw'.world
    skip
    clear hw'
    go_simp
    try rfl
  conv => arg 10; simp only [Act.put, List.setIfInBounds_toArray, List.set_cons_succ, List.set_cons_zero]
  refine Go.FreshS.wpF_reads rfl rfl rfl ?_ (fun w' hw' => ?_) ?_
  rotate_left
  · have hb' := hw'.world
    skip
    clear hw'
    go_simp
    try rfl
  conv => arg 10; simp only [Act.put, List.setIfInBounds_toArray, List.set_cons_succ, List.set_cons_zero]
  refine Go.FreshS.wpF_reads rfl rfl rfl ?_ (fun w' hw' => ?_) ?_
  rotate_left
  · have hb' := hw'.world
    skip
    clear hw'
    go_simp
    try rfl
  conv => arg 10; simp only [Act.put, List.setIfInBounds_toArray, List.set_cons_succ, List.set_cons_zero]
  refine Go.FreshS.wpF_readsG (by rfl) rfl rfl ?_ (fun w' hw' => ?_) ?_
  rotate_left
  · have hb' := hw'.world
    have hs0 := (BX27.out.below hb' BX27.out.lt).cell (i := 0) rfl
    have hs1 := (BX27.out.below hb' BX27.out.lt).cell (i := 1) rfl
    have hsf := (BX27.out.below hb' BX27.out.lt).fz
    have hsl := (BX27.out.below hb' BX27.out.lt).lt
    clear hw'
    go_simp
    try rfl
  conv => arg 10; simp only [Act.put, List.setIfInBounds_toArray, List.set_cons_succ, List.set_cons_zero]
  refine Go.FreshS.wpF_readsG (by rfl) rfl rfl ?_ (fun w' hw' => ?_) ?_
  rotate_left
  · have hb' := hw'.world
    have hs0 := (BX22.out.below hb' BX22.out.lt).cell (i := 0) rfl
    have hs1 := (BX22.out.below hb' BX22.out.lt).cell (i := 1) rfl
    have hsf := (BX22.out.below hb' BX22.out.lt).fz
    have hsl := (BX22.out.below hb' BX22.out.lt).lt
    clear hw'
    go_simp
    try rfl
  conv => arg 10; simp only [Act.put, List.setIfInBounds_toArray, List.set_cons_succ, List.set_cons_zero]
  refine Go.FreshS.wpF_gspec (by rfl) rfl rfl (fun w' hw' => ?_) ?_
  · have hb' := hw'.world
    refine Go.FreshS.gives_of (Go.FreshS.PM (fun x : NV => x.v) (fun x w' => DN w' w30.heap.size x z31) NV.blk w'.heap.size) ?_ (fun _ _ h => h.post @NV.inj)
    go_simp
    have CT := negN (N21.out.below hb').k.any ((N21.out.below hb').k.len LZzs.out (by decide))
    rw [show -zs = z31 from Hz31.out.symm] at CT
    refine CT.mono ?_
    rintro e w'' ⟨za, rfl, ho, hb⟩
    exact ⟨_, rfl, ⟨za, rfl, ho.mono hb'.size, ho.blks⟩, hb⟩
  rintro _ ⟨y10, rfl⟩
  conv => arg 10; simp only [Act.put, List.setIfInBounds_toArray, List.set_cons_succ, List.set_cons_zero]
  refine Go.FreshS.wpF_gspec (by rfl) rfl rfl (fun w' hw' => ?_) ?_
  · have hb' := hw'.world
    refine Go.FreshS.gives_of (Go.FreshS.PK (.bool true)) ?_ (fun _ _ h => h.post)
    go_simp
    have f10 := Go.FreshS.made_of (val := fun x : NV => x.v) (Φ := fun x w' => DN w' w30.heap.size x z31) @NV.inj (hw'.fact 10 (by kernel_rfl))
    have CT := sameTN (N26.out.below hb').k ((N26.out.below hb').k.len LZzh.out (by decide)) f10.k (f10.k.len LZz31.out (by decide)) (by have h := EZH.out; simp only [Hz31.out]; exact h)
    refine CT.mono ?_
    rintro e w'' ⟨rfl, hb⟩
    exact ⟨_, rfl, rfl, hb⟩
  rintro _ rfl
  conv => arg 10; simp only [Act.put, List.setIfInBounds_toArray, List.set_cons_succ, List.set_cons_zero]
  refine Go.FreshS.wpF_reads rfl rfl rfl ?_ (fun w' hw' => ?_) ?_
  rotate_left
  · have hb' := hw'.world
    skip
    clear hw'
    go_simp
    try rfl
  conv => arg 10; simp only [Act.put, List.setIfInBounds_toArray, List.set_cons_succ, List.set_cons_zero]
  refine Go.FreshS.wpF_reads rfl rfl rfl ?_ (fun w' hw' => ?_) ?_
  rotate_left
  · have hb' := hw'.world
    skip
    clear hw'
    go_simp
    try rfl
  conv => arg 10; simp only [Act.put, List.setIfInBounds_toArray, List.set_cons_succ, List.set_cons_zero]
  refine Go.FreshS.wpF_skip (by rfl) rfl ?_
  conv => arg 10; simp only [Act.put, List.setIfInBounds_toArray, List.set_cons_succ, List.set_cons_zero]
  refine Go.FreshS.wpF_skip (by rfl) rfl ?_
  conv => arg 10; simp only [Act.put, List.setIfInBounds_toArray, List.set_cons_succ, List.set_cons_zero]
  refine Go.FreshS.wpF_skip (by rfl) rfl ?_
  conv => arg 10; simp only [Act.put, List.setIfInBounds_toArray, List.set_cons_succ, List.set_cons_zero]
  refine Go.FreshS.wpF_skip (by rfl) rfl ?_
  conv => arg 10; simp only [Act.put, List.setIfInBounds_toArray, List.set_cons_succ, List.set_cons_zero]
  refine Go.FreshS.wpF_skip (by rfl) rfl ?_
  conv => arg 10; simp only [Act.put, List.setIfInBounds_toArray, List.set_cons_succ, List.set_cons_zero]
  refine Go.FreshS.wpF_skip (by rfl) rfl ?_
  conv => arg 10; simp only [Act.put, List.setIfInBounds_toArray, List.set_cons_succ, List.set_cons_zero]
  refine Go.FreshS.wpF_skip (by rfl) rfl ?_
  conv => arg 10; simp only [Act.put, List.setIfInBounds_toArray, List.set_cons_succ, List.set_cons_zero]
  refine Go.FreshS.wpF_reads rfl rfl rfl ?_ (fun w' hw' => ?_) ?_
  rotate_left
  · have hb' := hw'.world
    skip
    clear hw'
    go_simp
    try rfl
  conv => arg 10; simp only [Act.put, List.setIfInBounds_toArray, List.set_cons_succ, List.set_cons_zero]
  refine Go.FreshS.wpF_nil (fun w32 hb hF => ?_)
  clear hF
  clear N21
  clear N26
  clear BX22
  clear BX27
  have KG := Lib.hid (KG.out.trans (hb.mono KG.out.size))
  clear hb
  go_wp2_with fail
  go_ret
  exact ⟨rfl, KG.out⟩
set_option maxRecDepth 100000 in
set_option maxHeartbeats 16000000 in
theorem read_pl_n (x1 : NV) (p1 : Int) (s : ByteArray) (w : World) (htab : Tab w) (h1 : KN w x1 p1) (b1 : x1.n ≤ 200) (hsm : s.size ≤ 9223372036854775807) (hs : ¬ 1048576 < s.size) (hz : ¬ p1 < 0) (hd : 200 < Lib.nDigits p1.natAbs) (hc : codeT s.data.toList = 0) (hsg2 : numT s.data.toList ≤ 0) : Calls Tryz.prog 5 #[x1.v, .string s] w fun e w' => e = .returned (.bool true) ∧ Below w.heap.size w w' := by
  have HT := Lib.hid htab
  have KG := Lib.hid (Below.refl w.heap.size w)
  have N1 := Lib.hid h1
  have LZp1 := Lib.hid (show lenB p1.natAbs ≤ 200 by have := h1.n; omega)
  have HSM := Lib.hid hsm
  have HS := Lib.hid hs
  obtain ⟨tb, htb⟩ : ∃ t : ByteArray, t = ⟨(Lib.itoa p1).toArray⟩ := ⟨_, rfl⟩
  have HTB := Lib.hid htb
  have htl : tb.size = (Lib.itoa p1).length := by rw [htb]; exact tb_size _
  have htd : tb.data.toList = Lib.itoa p1 := by rw [htb]
  have hil := itoa_len_eq p1
  have hle := itoa_len (z := p1) (k := 200) LZp1.out
  rw [if_neg hz] at hil
  have HTM := Lib.hid (show tb.size ≤ 9223372036854775807 by omega)
  obtain ⟨sg, hsg⟩ : ∃ c, c = cmpZ p1 0 := ⟨_, rfl⟩
  have HSG := Lib.hid hsg.symm
  have gsg : ¬ (sg < 0) := by rw [hsg]; unfold cmpZ; rw [if_neg hz]; split <;> omega
  have gt : ¬ ((tb.size : Int) ≤ 200) := by omega
  have gt2 : (tb.size : Int) > 200 := by omega
  have HCT := Lib.hid (show codeT tb.data.toList = 3 by rw [htd, codeT_itoa, if_pos hd])
  obtain ⟨zt, hzt⟩ : ∃ z, z = numT tb.data.toList := ⟨_, rfl⟩
  have HZT := Lib.hid hzt.symm
  have LZzt := Lib.hid (show lenB zt.natAbs ≤ 23 by rw [hzt]; exact numT_len _)
  have HC := Lib.hid hc
  have hy := hyph_not hc hsg2
  obtain ⟨zs, hzs⟩ : ∃ z, z = numT s.data.toList := ⟨_, rfl⟩
  have HZS := Lib.hid hzs
  have LZzs := Lib.hid (show lenB zs.natAbs ≤ 23 by rw [hzs]; exact numT_len _)
  have HBK := Lib.hid (show (⟨(Lib.itoa zs).toArray⟩ : ByteArray) = s by rw [hzs]; exact itoa_back hc)
  obtain ⟨hs2, hhs⟩ : ∃ t : ByteArray, t = ⟨#[45]⟩ ++ s := ⟨_, rfl⟩
  have hhd : hs2.data.toList = 45 :: s.data.toList := by rw [hhs]; exact hyph_data s
  have ehs : (⟨#[45]⟩ : ByteArray) ++ s = hs2 := hhs.symm
  have l1 : ¬ (9223372036854775807 < 1 + s.size) := by have := HS.out; omega
  have HHM := Lib.hid (show hs2.size ≤ 9223372036854775807 by rw [hhs, ByteArray.size_append]; have : (ByteArray.mk #[45]).size = 1 := rfl; omega)
  obtain ⟨zh, hzh⟩ : ∃ z, z = numT hs2.data.toList := ⟨_, rfl⟩
  have HZH := Lib.hid hzh.symm
  have LZzh := Lib.hid (show lenB zh.natAbs ≤ 23 by rw [hzh]; exact numT_len _)
  have HHC := Lib.hid (show codeT hs2.data.toList = 4 by rw [hhd]; exact hy)
  obtain ⟨s2, hs2e⟩ : ∃ c, c = cmpZ zs 0 := ⟨_, rfl⟩
  have HS2 := Lib.hid hs2e.symm
  have gs2z : s2 ≤ 0 := by rw [hs2e]; have h9 : zs ≤ 0 := (by rw [hzs]; exact hsg2); unfold cmpZ; split; (exact (by decide)); rw [if_neg (by omega)]; exact Int.le_refl 0
  have gs2 : decide (0 < s2) = false := decide_eq_false (by omega)
  have gs3 : decide (s2 ≤ 0) = true := decide_eq_true gs2z
  clear gs2z
  clear hs htb htl htd hz hd hil hle hsg hzt hc hsg2 hzs hhs hhd hzh hy hs2e
  clear htab h1 hsm b1
  go_enter Tryz.func5, Tryz.ntmps5
  go_upto_region 1 with (fail)
  obtain ⟨v2, hV⟩ : ∃ V, V = w.alloc (.cells #[.bool x1.s, .slice x1.a x1.n x1.c] 24) := ⟨_, rfl⟩
  have hbV : Below w.heap.size w v2 := by rw [hV]; exact ((Below.refl _ _).alloc (Nat.le_refl _) _)
  have BX1 := Lib.hid (show Bxs v2 (w.heap.size) 24 [.bool x1.s, .slice x1.a x1.n x1.c] by have h := Bxs.new (w) 24 [.bool x1.s, .slice x1.a x1.n x1.c]; rw [hV]; exact h)
  rw [show w.alloc (.cells #[.bool x1.s, .slice x1.a x1.n x1.c] 24) = v2 from hV.symm]
  have KG := Lib.hid (KG.out.trans (hbV.mono KG.out.size))
  clear hV hbV
  go_wp2_with fail
  have CT := Lib.hid (alive_true v2 (HT.out.on KG.out))
  with_reducible refine CT.out.mono ?_
  rintro e w3 ⟨rfl, hb⟩
  clear CT
  have BX1 := Lib.hid (BX1.out.below hb BX1.out.lt)
  have KG := Lib.hid (KG.out.trans (hb.mono KG.out.size))
  clear hb
  have cBX10 := BX1.out.cell (i := 0) rfl
  have cBX11 := BX1.out.cell (i := 1) rfl
  have cBX1f := BX1.out.fz
  have cBX1l := BX1.out.lt
  go_wp2_with fail
  clear cBX10 cBX11 cBX1f cBX1l
  obtain ⟨v5, hV⟩ : ∃ V, V = w3.alloc (.cells #[.bool x1.s, .slice x1.a x1.n x1.c] 24) := ⟨_, rfl⟩
  have hbV : Below w3.heap.size w3 v5 := by rw [hV]; exact ((Below.refl _ _).alloc (Nat.le_refl _) _)
  have BX4 := Lib.hid (show Bxs v5 (w3.heap.size) 24 [.bool x1.s, .slice x1.a x1.n x1.c] by have h := Bxs.new (w3) 24 [.bool x1.s, .slice x1.a x1.n x1.c]; rw [hV]; exact h)
  rw [show w3.alloc (.cells #[.bool x1.s, .slice x1.a x1.n x1.c] 24) = v5 from hV.symm]
  have BX1 := Lib.hid (BX1.out.below hbV BX1.out.lt)
  have KG := Lib.hid (KG.out.trans (hbV.mono KG.out.size))
  clear hV hbV
  have cBX10 := BX1.out.cell (i := 0) rfl
  have cBX11 := BX1.out.cell (i := 1) rfl
  have cBX1f := BX1.out.fz
  have cBX1l := BX1.out.lt
  have CT := Lib.hid (great1N (M := 200) BX4.out)
  rw [show ((200 : Nat) : Int) = 200 from rfl, show decide (200 < x1.n) = false from decide_eq_false (by have g0 : x1.n ≤ 200 := ((N1.out.below KG.out).len LZp1.out (by decide)); omega)] at CT
  with_reducible refine CT.out.mono ?_
  rintro e w6 ⟨rfl, hb⟩
  clear CT
  clear cBX10 cBX11 cBX1f cBX1l
  have BX1 := Lib.hid (BX1.out.below hb BX1.out.lt)
  clear BX4
  have KG := Lib.hid (KG.out.trans (hb.mono KG.out.size))
  clear hb
  go_wp2_with fail
  obtain ⟨v8, hV⟩ : ∃ V, V = w6.alloc (.cells #[.int .i64 s.size] 3) := ⟨_, rfl⟩
  have hbV : Below w6.heap.size w6 v8 := by rw [hV]; exact ((Below.refl _ _).alloc (Nat.le_refl _) _)
  have BX7 := Lib.hid (show Bxs v8 (w6.heap.size) 3 [.int .i64 s.size] by have h := Bxs.new (w6) 3 [.int .i64 s.size]; rw [hV]; exact h)
  rw [show w6.alloc (.cells #[.int .i64 s.size] 3) = v8 from hV.symm]
  have BX1 := Lib.hid (BX1.out.below hbV BX1.out.lt)
  have KG := Lib.hid (KG.out.trans (hbV.mono KG.out.size))
  clear hV hbV
  have CT := Lib.hid (beyond1 BX7.out HSM.out)
  rw [show decide (1048576 < s.size) = false from decide_eq_false HS.out] at CT
  with_reducible refine CT.out.mono ?_
  rintro e w9 ⟨rfl, hb⟩
  clear CT
  have BX1 := Lib.hid (BX1.out.below hb BX1.out.lt)
  clear BX7
  have KG := Lib.hid (KG.out.trans (hb.mono KG.out.size))
  clear hb
  have cBX10 := BX1.out.cell (i := 0) rfl
  have cBX11 := BX1.out.cell (i := 1) rfl
  have cBX1f := BX1.out.fz
  have cBX1l := BX1.out.lt
  go_wp2_with fail
  have CT := Lib.hid (textN (N1.out.below KG.out).any ((N1.out.below KG.out).len LZp1.out (by decide)) (HT.out.on KG.out))
  rw [show (⟨(Lib.itoa p1).toArray⟩ : ByteArray) = tb from HTB.out.symm] at CT
  with_reducible refine CT.out.mono ?_
  rintro e w10 ⟨rfl, hb⟩
  clear CT
  clear cBX10 cBX11 cBX1f cBX1l
  have BX1 := Lib.hid (BX1.out.below hb BX1.out.lt)
  have KG := Lib.hid (KG.out.trans (hb.mono KG.out.size))
  clear hb
  go_wp2_with fail
  have CT := Lib.hid (parse_k w10 HTM.out HZT.out HCT.out)
  with_reducible refine CT.out.mono ?_
  rintro e w11 ⟨x12, rfl, hN13, hb⟩
  have N13 := Lib.hid hN13
  clear hN13
  clear CT
  have BX1 := Lib.hid (BX1.out.below hb BX1.out.lt)
  have KG := Lib.hid (KG.out.trans (hb.mono KG.out.size))
  clear hb
  clear N13
  go_upto_region 5 with (fail)
  obtain ⟨v15, hV⟩ : ∃ V, V = w11.alloc (.cells #[.bool x12.s, .slice x12.a x12.n x12.c] 24) := ⟨_, rfl⟩
  have hbV : Below w11.heap.size w11 v15 := by rw [hV]; exact ((Below.refl _ _).alloc (Nat.le_refl _) _)
  have BX14 := Lib.hid (show Bxs v15 (w11.heap.size) 24 [.bool x12.s, .slice x12.a x12.n x12.c] by have h := Bxs.new (w11) 24 [.bool x12.s, .slice x12.a x12.n x12.c]; rw [hV]; exact h)
  rw [show w11.alloc (.cells #[.bool x12.s, .slice x12.a x12.n x12.c] 24) = v15 from hV.symm]
  have BX1 := Lib.hid (BX1.out.below hbV BX1.out.lt)
  have KG := Lib.hid (KG.out.trans (hbV.mono KG.out.size))
  clear hV hbV
  clear BX14
  have cBX10 := BX1.out.cell (i := 0) rfl
  have cBX11 := BX1.out.cell (i := 1) rfl
  have cBX1f := BX1.out.fz
  have cBX1l := BX1.out.lt
  go_wp2_with fail
  have CT := Lib.hid (signN (N1.out.below KG.out).any ((N1.out.below KG.out).len LZp1.out (by decide)))
  rw [show cmpZ p1 0 = sg from HSG.out] at CT
  with_reducible refine CT.out.mono ?_
  rintro e w16 ⟨rfl, hb⟩
  clear CT
  clear cBX10 cBX11 cBX1f cBX1l
  have BX1 := Lib.hid (BX1.out.below hb BX1.out.lt)
  have KG := Lib.hid (KG.out.trans (hb.mono KG.out.size))
  clear hb
  have cBX10 := BX1.out.cell (i := 0) rfl
  have cBX11 := BX1.out.cell (i := 1) rfl
  have cBX1f := BX1.out.fz
  have cBX1l := BX1.out.lt
  go_wp2_with fail
  have CT := Lib.hid (checkN (N1.out.below KG.out) ((N1.out.below KG.out).len LZp1.out (by decide)))
  with_reducible refine CT.out.mono ?_
  rintro e w17 ⟨rfl, hb⟩
  clear CT
  clear cBX10 cBX11 cBX1f cBX1l
  have BX1 := Lib.hid (BX1.out.below hb BX1.out.lt)
  have KG := Lib.hid (KG.out.trans (hb.mono KG.out.size))
  clear hb
  have cBX10 := BX1.out.cell (i := 0) rfl
  have cBX11 := BX1.out.cell (i := 1) rfl
  have cBX1f := BX1.out.fz
  have cBX1l := BX1.out.lt
  go_wp2_with fail
  have CT := Lib.hid (checkN (N1.out.below KG.out) ((N1.out.below KG.out).len LZp1.out (by decide)))
  with_reducible refine CT.out.mono ?_
  rintro e w18 ⟨rfl, hb⟩
  clear CT
  clear cBX10 cBX11 cBX1f cBX1l
  clear BX1
  have KG := Lib.hid (KG.out.trans (hb.mono KG.out.size))
  clear hb
  go_wp2_with fail
  have CT := Lib.hid (parse_k w18 HSM.out HZS.out.symm HC.out)
  with_reducible refine CT.out.mono ?_
  rintro e w19 ⟨x20, rfl, hN21, hb⟩
  have N21 := Lib.hid hN21
  clear hN21
  clear CT
  have KG := Lib.hid (KG.out.trans (hb.mono KG.out.size))
  clear hb
  go_upto_region 11 with (fail)
  obtain ⟨v23, hV⟩ : ∃ V, V = w19.alloc (.cells #[.bool x20.s, .slice x20.a x20.n x20.c] 24) := ⟨_, rfl⟩
  have hbV : Below w19.heap.size w19 v23 := by rw [hV]; exact ((Below.refl _ _).alloc (Nat.le_refl _) _)
  have BX22 := Lib.hid (show Bxs v23 (w19.heap.size) 24 [.bool x20.s, .slice x20.a x20.n x20.c] by have h := Bxs.new (w19) 24 [.bool x20.s, .slice x20.a x20.n x20.c]; rw [hV]; exact h)
  rw [show w19.alloc (.cells #[.bool x20.s, .slice x20.a x20.n x20.c] 24) = v23 from hV.symm]
  have N21 := Lib.hid (N21.out.below hbV)
  have KG := Lib.hid (KG.out.trans (hbV.mono KG.out.size))
  clear hV hbV
  go_wp2_with fail
  have CT := Lib.hid (parse_k v23 HHM.out HZH.out HHC.out)
  with_reducible refine CT.out.mono ?_
  rintro e w24 ⟨x25, rfl, hN26, hb⟩
  have N26 := Lib.hid hN26
  clear hN26
  clear CT
  have N21 := Lib.hid (N21.out.below hb)
  have BX22 := Lib.hid (BX22.out.below hb BX22.out.lt)
  have KG := Lib.hid (KG.out.trans (hb.mono KG.out.size))
  clear hb
  clear N26
  go_upto_region 14 with (fail)
  obtain ⟨v28, hV⟩ : ∃ V, V = w24.alloc (.cells #[.bool x25.s, .slice x25.a x25.n x25.c] 24) := ⟨_, rfl⟩
  have hbV : Below w24.heap.size w24 v28 := by rw [hV]; exact ((Below.refl _ _).alloc (Nat.le_refl _) _)
  have BX27 := Lib.hid (show Bxs v28 (w24.heap.size) 24 [.bool x25.s, .slice x25.a x25.n x25.c] by have h := Bxs.new (w24) 24 [.bool x25.s, .slice x25.a x25.n x25.c]; rw [hV]; exact h)
  rw [show w24.alloc (.cells #[.bool x25.s, .slice x25.a x25.n x25.c] 24) = v28 from hV.symm]
  have N21 := Lib.hid (N21.out.below hbV)
  have BX22 := Lib.hid (BX22.out.below hbV BX22.out.lt)
  have KG := Lib.hid (KG.out.trans (hbV.mono KG.out.size))
  clear hV hbV
  clear BX27
  have cBX220 := BX22.out.cell (i := 0) rfl
  have cBX221 := BX22.out.cell (i := 1) rfl
  have cBX22f := BX22.out.fz
  have cBX22l := BX22.out.lt
  go_wp2_with fail
  have CT := Lib.hid (checkN N21.out.k (N21.out.k.len LZzs.out (by decide)))
  with_reducible refine CT.out.mono ?_
  rintro e w29 ⟨rfl, hb⟩
  clear CT
  clear cBX220 cBX221 cBX22f cBX22l
  have N21 := Lib.hid (N21.out.below hb)
  have BX22 := Lib.hid (BX22.out.below hb BX22.out.lt)
  have KG := Lib.hid (KG.out.trans (hb.mono KG.out.size))
  clear hb
  have cBX220 := BX22.out.cell (i := 0) rfl
  have cBX221 := BX22.out.cell (i := 1) rfl
  have cBX22f := BX22.out.fz
  have cBX22l := BX22.out.lt
  go_wp2_with fail
  have CT := Lib.hid (textN N21.out.k.any (N21.out.k.len LZzs.out (by decide)) (HT.out.on KG.out))
  rw [show (⟨(Lib.itoa zs).toArray⟩ : ByteArray) = s from HBK.out] at CT
  with_reducible refine CT.out.mono ?_
  rintro e w30 ⟨rfl, hb⟩
  clear CT
  clear cBX220 cBX221 cBX22f cBX22l
  have N21 := Lib.hid (N21.out.below hb)
  have BX22 := Lib.hid (BX22.out.below hb BX22.out.lt)
  have KG := Lib.hid (KG.out.trans (hb.mono KG.out.size))
  clear hb
  go_upto_region 16 with (fail)
  refine Go.FreshS.wp_region_fresh 22 [] (Go.FreshS.spOf [(1, Go.FreshS.Sp.know (.int .i64 s2)), (15, Go.FreshS.Sp.know (.int .i64 s2))])
    (fun w' => Below w30.heap.size w30 w') (by kernel_rfl) (by kernel_rfl) (by kernel_rfl)
    (Go.FreshS.spOf_cons (Go.FreshS.Sp.know_keeps _ _) (Go.FreshS.spOf_cons (Go.FreshS.Sp.know_keeps _ _) (Go.FreshS.spOf_nil))) (fun _ _ h hb => h.trans (hb.mono h.size)) ((Below.refl _ _).drew) ?_
  simp only [List.append_eq, List.cons_append, List.nil_append, List.take_succ_cons, List.take_zero, List.drop_succ_cons, List.drop_zero]
  refine Go.FreshS.wpF_reads rfl rfl rfl ?_ (fun w' hw' => ?_) ?_
  rotate_left
  · have hb' := hw'.world
    have hs0 := (BX22.out.below hb' BX22.out.lt).cell (i := 0) rfl
    have hs1 := (BX22.out.below hb' BX22.out.lt).cell (i := 1) rfl
    have hsf := (BX22.out.below hb' BX22.out.lt).fz
    have hsl := (BX22.out.below hb' BX22.out.lt).lt
    clear hw'
    go_simp
    try rfl
  conv => arg 10; simp only [Act.put, List.setIfInBounds_toArray, List.set_cons_succ, List.set_cons_zero]
  refine Go.FreshS.wpF_spec rfl rfl rfl (fun w' hw' => ?_) ?_
  · have hb' := hw'.world
    refine Go.FreshS.gives_of (Go.FreshS.PK (.int .i64 s2)) ?_ (fun _ _ h => h.post)
    go_simp
    have CT := signN (N21.out.below hb').k.any ((N21.out.below hb').k.len LZzs.out (by decide))
    rw [show cmpZ zs 0 = s2 from HS2.out] at CT
    refine CT.mono ?_
    rintro e w'' ⟨rfl, hb⟩
    exact ⟨_, rfl, rfl, hb⟩
  rintro _ rfl
  conv => arg 10; simp only [Act.put, List.setIfInBounds_toArray, List.set_cons_succ, List.set_cons_zero]
  refine Go.FreshS.wpF_reads rfl rfl rfl ?_ (fun w' hw' => ?_) ?_
  rotate_left
  · have hb' := hw'.world
    skip
    clear hw'
    go_simp
    try rfl
  conv => arg 10; simp only [Act.put, List.setIfInBounds_toArray, List.set_cons_succ, List.set_cons_zero]
  refine Go.FreshS.wpF_reads rfl rfl rfl ?_ (fun w' hw' => ?_) ?_
  rotate_left
  · have hb' := hw'.world
    skip
    clear hw'
    go_simp
    try rfl
  conv => arg 10; simp only [Act.put, List.setIfInBounds_toArray, List.set_cons_succ, List.set_cons_zero]
  refine Go.FreshS.wpF_skip (by rfl) rfl ?_
  conv => arg 10; simp only [Act.put, List.setIfInBounds_toArray, List.set_cons_succ, List.set_cons_zero]
  refine Go.FreshS.wpF_skip (by rfl) rfl ?_
  conv => arg 10; simp only [Act.put, List.setIfInBounds_toArray, List.set_cons_succ, List.set_cons_zero]
  refine Go.FreshS.wpF_reads rfl rfl rfl ?_ (fun w' hw' => ?_) ?_
  rotate_left
  · have hb' := hw'.world
    skip
    clear hw'
    go_simp
    try rfl
  conv => arg 10; simp only [Act.put, List.setIfInBounds_toArray, List.set_cons_succ, List.set_cons_zero]
  refine Go.FreshS.wpF_reads rfl rfl rfl ?_ (fun w' hw' => ?_) ?_
  rotate_left
  · have hb' := hw'.world
    skip
    clear hw'
    go_simp
    try rfl
  conv => arg 10; simp only [Act.put, List.setIfInBounds_toArray, List.set_cons_succ, List.set_cons_zero]
  refine Go.FreshS.wpF_skip (by rfl) rfl ?_
  conv => arg 10; simp only [Act.put, List.setIfInBounds_toArray, List.set_cons_succ, List.set_cons_zero]
  refine Go.FreshS.wpF_skip (by rfl) rfl ?_
  conv => arg 10; simp only [Act.put, List.setIfInBounds_toArray, List.set_cons_succ, List.set_cons_zero]
  refine Go.FreshS.wpF_skip (by rfl) rfl ?_
  conv => arg 10; simp only [Act.put, List.setIfInBounds_toArray, List.set_cons_succ, List.set_cons_zero]
  refine Go.FreshS.wpF_skip (by rfl) rfl ?_
  conv => arg 10; simp only [Act.put, List.setIfInBounds_toArray, List.set_cons_succ, List.set_cons_zero]
  refine Go.FreshS.wpF_reads rfl rfl rfl ?_ (fun w' hw' => ?_) ?_
  rotate_left
  · have hb' := hw'.world
    skip
    clear hw'
    go_simp
    try rfl
  conv => arg 10; simp only [Act.put, List.setIfInBounds_toArray, List.set_cons_succ, List.set_cons_zero]
  refine Go.FreshS.wpF_reads rfl rfl rfl ?_ (fun w' hw' => ?_) ?_
  rotate_left
  · have hb' := hw'.world
    skip
    clear hw'
    go_simp
    try rfl
  conv => arg 10; simp only [Act.put, List.setIfInBounds_toArray, List.set_cons_succ, List.set_cons_zero]
  refine Go.FreshS.wpF_readsG (by rfl) rfl rfl ?_ (fun w' hw' => ?_) ?_
  rotate_left
  · have hb' := hw'.world
    have hs0 := (BX22.out.below hb' BX22.out.lt).cell (i := 0) rfl
    have hs1 := (BX22.out.below hb' BX22.out.lt).cell (i := 1) rfl
    have hsf := (BX22.out.below hb' BX22.out.lt).fz
    have hsl := (BX22.out.below hb' BX22.out.lt).lt
    clear hw'
    go_simp
    try rfl
  conv => arg 10; simp only [Act.put, List.setIfInBounds_toArray, List.set_cons_succ, List.set_cons_zero]
  refine Go.FreshS.wpF_gspec (by rfl) rfl rfl (fun w' hw' => ?_) ?_
  · have hb' := hw'.world
    refine Go.FreshS.gives_of (Go.FreshS.PK (.int .i64 s2)) ?_ (fun _ _ h => h.post)
    go_simp
    have CT := signN (N21.out.below hb').k.any ((N21.out.below hb').k.len LZzs.out (by decide))
    rw [show cmpZ zs 0 = s2 from HS2.out] at CT
    refine CT.mono ?_
    rintro e w'' ⟨rfl, hb⟩
    exact ⟨_, rfl, rfl, hb⟩
  rintro _ rfl
  conv => arg 10; simp only [Act.put, List.setIfInBounds_toArray, List.set_cons_succ, List.set_cons_zero]
  refine Go.FreshS.wpF_readsG (by rfl) rfl rfl ?_ (fun w' hw' => ?_) ?_
  rotate_left
  · have hb' := hw'.world
    skip
    clear hw'
    go_simp
    try rfl
  conv => arg 10; simp only [Act.put, List.setIfInBounds_toArray, List.set_cons_succ, List.set_cons_zero]
  refine Go.FreshS.wpF_readsG (by rfl) rfl rfl ?_ (fun w' hw' => ?_) ?_
  rotate_left
  · have hb' := hw'.world
    skip
    clear hw'
    go_simp
    try rfl
  conv => arg 10; simp only [Act.put, List.setIfInBounds_toArray, List.set_cons_succ, List.set_cons_zero]
  refine Go.FreshS.wpF_readsG (by rfl) rfl rfl ?_ (fun w' hw' => ?_) ?_
  rotate_left
  · have hb' := hw'.world
    skip
    clear hw'
    go_simp
    try rfl
  conv => arg 10; simp only [Act.put, List.setIfInBounds_toArray, List.set_cons_succ, List.set_cons_zero]
  refine Go.FreshS.wpF_readsG (by rfl) rfl rfl ?_ (fun w' hw' => ?_) ?_
  rotate_left
  · have hb' := hw'.world
    skip
    clear hw'
    go_simp
    try rfl
  conv => arg 10; simp only [Act.put, List.setIfInBounds_toArray, List.set_cons_succ, List.set_cons_zero]
  refine Go.FreshS.wpF_readsG (by rfl) rfl rfl ?_ (fun w' hw' => ?_) ?_
  rotate_left
  · have hb' := hw'.world
    skip
    clear hw'
    go_simp
    try rfl
  conv => arg 10; simp only [Act.put, List.setIfInBounds_toArray, List.set_cons_succ, List.set_cons_zero]
  refine Go.FreshS.wpF_reads rfl rfl rfl ?_ (fun w' hw' => ?_) ?_
  rotate_left
  · have hb' := hw'.world
    skip
    clear hw'
    go_simp
    try rfl
  conv => arg 10; simp only [Act.put, List.setIfInBounds_toArray, List.set_cons_succ, List.set_cons_zero]
  refine Go.FreshS.wpF_nil (fun w31 hb hF => ?_)
  clear hF
  clear N21
  clear BX22
  have KG := Lib.hid (KG.out.trans (hb.mono KG.out.size))
  clear hb
  go_wp2_with fail
  go_ret
  exact ⟨rfl, KG.out⟩
set_option maxRecDepth 100000 in
set_option maxHeartbeats 16000000 in
theorem read_pl_c3 (x1 : NV) (p1 : Int) (s : ByteArray) (w : World) (htab : Tab w) (h1 : KN w x1 p1) (b1 : x1.n ≤ 200) (hsm : s.size ≤ 9223372036854775807) (hs : ¬ 1048576 < s.size) (hz : ¬ p1 < 0) (hd : 200 < Lib.nDigits p1.natAbs) (hc : codeT s.data.toList = 3) (hz0 : numT s.data.toList = 0) : Calls Tryz.prog 5 #[x1.v, .string s] w fun e w' => e = .returned (.bool true) ∧ Below w.heap.size w w' := by
  have HT := Lib.hid htab
  have KG := Lib.hid (Below.refl w.heap.size w)
  have N1 := Lib.hid h1
  have LZp1 := Lib.hid (show lenB p1.natAbs ≤ 200 by have := h1.n; omega)
  have HSM := Lib.hid hsm
  have HS := Lib.hid hs
  obtain ⟨tb, htb⟩ : ∃ t : ByteArray, t = ⟨(Lib.itoa p1).toArray⟩ := ⟨_, rfl⟩
  have HTB := Lib.hid htb
  have htl : tb.size = (Lib.itoa p1).length := by rw [htb]; exact tb_size _
  have htd : tb.data.toList = Lib.itoa p1 := by rw [htb]
  have hil := itoa_len_eq p1
  have hle := itoa_len (z := p1) (k := 200) LZp1.out
  rw [if_neg hz] at hil
  have HTM := Lib.hid (show tb.size ≤ 9223372036854775807 by omega)
  obtain ⟨sg, hsg⟩ : ∃ c, c = cmpZ p1 0 := ⟨_, rfl⟩
  have HSG := Lib.hid hsg.symm
  have gsg : ¬ (sg < 0) := by rw [hsg]; unfold cmpZ; rw [if_neg hz]; split <;> omega
  have gt : ¬ ((tb.size : Int) ≤ 200) := by omega
  have gt2 : (tb.size : Int) > 200 := by omega
  have HCT := Lib.hid (show codeT tb.data.toList = 3 by rw [htd, codeT_itoa, if_pos hd])
  obtain ⟨zt, hzt⟩ : ∃ z, z = numT tb.data.toList := ⟨_, rfl⟩
  have HZT := Lib.hid hzt.symm
  have LZzt := Lib.hid (show lenB zt.natAbs ≤ 23 by rw [hzt]; exact numT_len _)
  have HC := Lib.hid hc
  have HZ0 := Lib.hid hz0
  clear hs htb htl htd hz hd hil hle hsg hzt hc hz0
  clear htab h1 hsm b1
  go_enter Tryz.func5, Tryz.ntmps5
  go_upto_region 1 with (fail)
  obtain ⟨v2, hV⟩ : ∃ V, V = w.alloc (.cells #[.bool x1.s, .slice x1.a x1.n x1.c] 24) := ⟨_, rfl⟩
  have hbV : Below w.heap.size w v2 := by rw [hV]; exact ((Below.refl _ _).alloc (Nat.le_refl _) _)
  have BX1 := Lib.hid (show Bxs v2 (w.heap.size) 24 [.bool x1.s, .slice x1.a x1.n x1.c] by have h := Bxs.new (w) 24 [.bool x1.s, .slice x1.a x1.n x1.c]; rw [hV]; exact h)
  rw [show w.alloc (.cells #[.bool x1.s, .slice x1.a x1.n x1.c] 24) = v2 from hV.symm]
  have KG := Lib.hid (KG.out.trans (hbV.mono KG.out.size))
  clear hV hbV
  go_wp2_with fail
  have CT := Lib.hid (alive_true v2 (HT.out.on KG.out))
  with_reducible refine CT.out.mono ?_
  rintro e w3 ⟨rfl, hb⟩
  clear CT
  have BX1 := Lib.hid (BX1.out.below hb BX1.out.lt)
  have KG := Lib.hid (KG.out.trans (hb.mono KG.out.size))
  clear hb
  have cBX10 := BX1.out.cell (i := 0) rfl
  have cBX11 := BX1.out.cell (i := 1) rfl
  have cBX1f := BX1.out.fz
  have cBX1l := BX1.out.lt
  go_wp2_with fail
  clear cBX10 cBX11 cBX1f cBX1l
  obtain ⟨v5, hV⟩ : ∃ V, V = w3.alloc (.cells #[.bool x1.s, .slice x1.a x1.n x1.c] 24) := ⟨_, rfl⟩
  have hbV : Below w3.heap.size w3 v5 := by rw [hV]; exact ((Below.refl _ _).alloc (Nat.le_refl _) _)
  have BX4 := Lib.hid (show Bxs v5 (w3.heap.size) 24 [.bool x1.s, .slice x1.a x1.n x1.c] by have h := Bxs.new (w3) 24 [.bool x1.s, .slice x1.a x1.n x1.c]; rw [hV]; exact h)
  rw [show w3.alloc (.cells #[.bool x1.s, .slice x1.a x1.n x1.c] 24) = v5 from hV.symm]
  have BX1 := Lib.hid (BX1.out.below hbV BX1.out.lt)
  have KG := Lib.hid (KG.out.trans (hbV.mono KG.out.size))
  clear hV hbV
  have cBX10 := BX1.out.cell (i := 0) rfl
  have cBX11 := BX1.out.cell (i := 1) rfl
  have cBX1f := BX1.out.fz
  have cBX1l := BX1.out.lt
  have CT := Lib.hid (great1N (M := 200) BX4.out)
  rw [show ((200 : Nat) : Int) = 200 from rfl, show decide (200 < x1.n) = false from decide_eq_false (by have g0 : x1.n ≤ 200 := ((N1.out.below KG.out).len LZp1.out (by decide)); omega)] at CT
  with_reducible refine CT.out.mono ?_
  rintro e w6 ⟨rfl, hb⟩
  clear CT
  clear cBX10 cBX11 cBX1f cBX1l
  have BX1 := Lib.hid (BX1.out.below hb BX1.out.lt)
  clear BX4
  have KG := Lib.hid (KG.out.trans (hb.mono KG.out.size))
  clear hb
  go_wp2_with fail
  obtain ⟨v8, hV⟩ : ∃ V, V = w6.alloc (.cells #[.int .i64 s.size] 3) := ⟨_, rfl⟩
  have hbV : Below w6.heap.size w6 v8 := by rw [hV]; exact ((Below.refl _ _).alloc (Nat.le_refl _) _)
  have BX7 := Lib.hid (show Bxs v8 (w6.heap.size) 3 [.int .i64 s.size] by have h := Bxs.new (w6) 3 [.int .i64 s.size]; rw [hV]; exact h)
  rw [show w6.alloc (.cells #[.int .i64 s.size] 3) = v8 from hV.symm]
  have BX1 := Lib.hid (BX1.out.below hbV BX1.out.lt)
  have KG := Lib.hid (KG.out.trans (hbV.mono KG.out.size))
  clear hV hbV
  have CT := Lib.hid (beyond1 BX7.out HSM.out)
  rw [show decide (1048576 < s.size) = false from decide_eq_false HS.out] at CT
  with_reducible refine CT.out.mono ?_
  rintro e w9 ⟨rfl, hb⟩
  clear CT
  have BX1 := Lib.hid (BX1.out.below hb BX1.out.lt)
  clear BX7
  have KG := Lib.hid (KG.out.trans (hb.mono KG.out.size))
  clear hb
  have cBX10 := BX1.out.cell (i := 0) rfl
  have cBX11 := BX1.out.cell (i := 1) rfl
  have cBX1f := BX1.out.fz
  have cBX1l := BX1.out.lt
  go_wp2_with fail
  have CT := Lib.hid (textN (N1.out.below KG.out).any ((N1.out.below KG.out).len LZp1.out (by decide)) (HT.out.on KG.out))
  rw [show (⟨(Lib.itoa p1).toArray⟩ : ByteArray) = tb from HTB.out.symm] at CT
  with_reducible refine CT.out.mono ?_
  rintro e w10 ⟨rfl, hb⟩
  clear CT
  clear cBX10 cBX11 cBX1f cBX1l
  have BX1 := Lib.hid (BX1.out.below hb BX1.out.lt)
  have KG := Lib.hid (KG.out.trans (hb.mono KG.out.size))
  clear hb
  go_wp2_with fail
  have CT := Lib.hid (parse_k w10 HTM.out HZT.out HCT.out)
  with_reducible refine CT.out.mono ?_
  rintro e w11 ⟨x12, rfl, hN13, hb⟩
  have N13 := Lib.hid hN13
  clear hN13
  clear CT
  have BX1 := Lib.hid (BX1.out.below hb BX1.out.lt)
  have KG := Lib.hid (KG.out.trans (hb.mono KG.out.size))
  clear hb
  clear N13
  go_upto_region 5 with (fail)
  obtain ⟨v15, hV⟩ : ∃ V, V = w11.alloc (.cells #[.bool x12.s, .slice x12.a x12.n x12.c] 24) := ⟨_, rfl⟩
  have hbV : Below w11.heap.size w11 v15 := by rw [hV]; exact ((Below.refl _ _).alloc (Nat.le_refl _) _)
  have BX14 := Lib.hid (show Bxs v15 (w11.heap.size) 24 [.bool x12.s, .slice x12.a x12.n x12.c] by have h := Bxs.new (w11) 24 [.bool x12.s, .slice x12.a x12.n x12.c]; rw [hV]; exact h)
  rw [show w11.alloc (.cells #[.bool x12.s, .slice x12.a x12.n x12.c] 24) = v15 from hV.symm]
  have BX1 := Lib.hid (BX1.out.below hbV BX1.out.lt)
  have KG := Lib.hid (KG.out.trans (hbV.mono KG.out.size))
  clear hV hbV
  clear BX14
  have cBX10 := BX1.out.cell (i := 0) rfl
  have cBX11 := BX1.out.cell (i := 1) rfl
  have cBX1f := BX1.out.fz
  have cBX1l := BX1.out.lt
  go_wp2_with fail
  have CT := Lib.hid (signN (N1.out.below KG.out).any ((N1.out.below KG.out).len LZp1.out (by decide)))
  rw [show cmpZ p1 0 = sg from HSG.out] at CT
  with_reducible refine CT.out.mono ?_
  rintro e w16 ⟨rfl, hb⟩
  clear CT
  clear cBX10 cBX11 cBX1f cBX1l
  have BX1 := Lib.hid (BX1.out.below hb BX1.out.lt)
  have KG := Lib.hid (KG.out.trans (hb.mono KG.out.size))
  clear hb
  have cBX10 := BX1.out.cell (i := 0) rfl
  have cBX11 := BX1.out.cell (i := 1) rfl
  have cBX1f := BX1.out.fz
  have cBX1l := BX1.out.lt
  go_wp2_with fail
  have CT := Lib.hid (checkN (N1.out.below KG.out) ((N1.out.below KG.out).len LZp1.out (by decide)))
  with_reducible refine CT.out.mono ?_
  rintro e w17 ⟨rfl, hb⟩
  clear CT
  clear cBX10 cBX11 cBX1f cBX1l
  have BX1 := Lib.hid (BX1.out.below hb BX1.out.lt)
  have KG := Lib.hid (KG.out.trans (hb.mono KG.out.size))
  clear hb
  have cBX10 := BX1.out.cell (i := 0) rfl
  have cBX11 := BX1.out.cell (i := 1) rfl
  have cBX1f := BX1.out.fz
  have cBX1l := BX1.out.lt
  go_wp2_with fail
  have CT := Lib.hid (checkN (N1.out.below KG.out) ((N1.out.below KG.out).len LZp1.out (by decide)))
  with_reducible refine CT.out.mono ?_
  rintro e w18 ⟨rfl, hb⟩
  clear CT
  clear cBX10 cBX11 cBX1f cBX1l
  clear BX1
  have KG := Lib.hid (KG.out.trans (hb.mono KG.out.size))
  clear hb
  go_wp2_with fail
  have CT := Lib.hid (parse_0 w18 HSM.out HZ0.out HC.out)
  with_reducible refine CT.out.mono ?_
  rintro e w19 ⟨x20, rfl, hb⟩
  clear CT
  have KG := Lib.hid (KG.out.trans (hb.mono KG.out.size))
  clear hb
  go_upto_region 11 with (fail)
  obtain ⟨v22, hV⟩ : ∃ V, V = w19.alloc (.cells #[.bool false, .slice x20.1 0 x20.2] 24) := ⟨_, rfl⟩
  have hbV : Below w19.heap.size w19 v22 := by rw [hV]; exact ((Below.refl _ _).alloc (Nat.le_refl _) _)
  have BX21 := Lib.hid (show Bxs v22 (w19.heap.size) 24 [.bool false, .slice x20.1 0 x20.2] by have h := Bxs.new (w19) 24 [.bool false, .slice x20.1 0 x20.2]; rw [hV]; exact h)
  rw [show w19.alloc (.cells #[.bool false, .slice x20.1 0 x20.2] 24) = v22 from hV.symm]
  have KG := Lib.hid (KG.out.trans (hbV.mono KG.out.size))
  clear hV hbV
  have cBX210 := BX21.out.cell (i := 0) rfl
  have cBX211 := BX21.out.cell (i := 1) rfl
  have cBX21f := BX21.out.fz
  have cBX21l := BX21.out.lt
  go_wp2_with fail
  go_ret
  exact ⟨rfl, KG.out⟩
set_option maxRecDepth 100000 in
set_option maxHeartbeats 16000000 in
theorem read_pl_c4 (x1 : NV) (p1 : Int) (s : ByteArray) (w : World) (htab : Tab w) (h1 : KN w x1 p1) (b1 : x1.n ≤ 200) (hsm : s.size ≤ 9223372036854775807) (hs : ¬ 1048576 < s.size) (hz : ¬ p1 < 0) (hd : 200 < Lib.nDigits p1.natAbs) (hc : codeT s.data.toList = 4) (hz0 : numT s.data.toList = 0) : Calls Tryz.prog 5 #[x1.v, .string s] w fun e w' => e = .returned (.bool true) ∧ Below w.heap.size w w' := by
  have HT := Lib.hid htab
  have KG := Lib.hid (Below.refl w.heap.size w)
  have N1 := Lib.hid h1
  have LZp1 := Lib.hid (show lenB p1.natAbs ≤ 200 by have := h1.n; omega)
  have HSM := Lib.hid hsm
  have HS := Lib.hid hs
  obtain ⟨tb, htb⟩ : ∃ t : ByteArray, t = ⟨(Lib.itoa p1).toArray⟩ := ⟨_, rfl⟩
  have HTB := Lib.hid htb
  have htl : tb.size = (Lib.itoa p1).length := by rw [htb]; exact tb_size _
  have htd : tb.data.toList = Lib.itoa p1 := by rw [htb]
  have hil := itoa_len_eq p1
  have hle := itoa_len (z := p1) (k := 200) LZp1.out
  rw [if_neg hz] at hil
  have HTM := Lib.hid (show tb.size ≤ 9223372036854775807 by omega)
  obtain ⟨sg, hsg⟩ : ∃ c, c = cmpZ p1 0 := ⟨_, rfl⟩
  have HSG := Lib.hid hsg.symm
  have gsg : ¬ (sg < 0) := by rw [hsg]; unfold cmpZ; rw [if_neg hz]; split <;> omega
  have gt : ¬ ((tb.size : Int) ≤ 200) := by omega
  have gt2 : (tb.size : Int) > 200 := by omega
  have HCT := Lib.hid (show codeT tb.data.toList = 3 by rw [htd, codeT_itoa, if_pos hd])
  obtain ⟨zt, hzt⟩ : ∃ z, z = numT tb.data.toList := ⟨_, rfl⟩
  have HZT := Lib.hid hzt.symm
  have LZzt := Lib.hid (show lenB zt.natAbs ≤ 23 by rw [hzt]; exact numT_len _)
  have HC := Lib.hid hc
  have HZ0 := Lib.hid hz0
  clear hs htb htl htd hz hd hil hle hsg hzt hc hz0
  clear htab h1 hsm b1
  go_enter Tryz.func5, Tryz.ntmps5
  go_upto_region 1 with (fail)
  obtain ⟨v2, hV⟩ : ∃ V, V = w.alloc (.cells #[.bool x1.s, .slice x1.a x1.n x1.c] 24) := ⟨_, rfl⟩
  have hbV : Below w.heap.size w v2 := by rw [hV]; exact ((Below.refl _ _).alloc (Nat.le_refl _) _)
  have BX1 := Lib.hid (show Bxs v2 (w.heap.size) 24 [.bool x1.s, .slice x1.a x1.n x1.c] by have h := Bxs.new (w) 24 [.bool x1.s, .slice x1.a x1.n x1.c]; rw [hV]; exact h)
  rw [show w.alloc (.cells #[.bool x1.s, .slice x1.a x1.n x1.c] 24) = v2 from hV.symm]
  have KG := Lib.hid (KG.out.trans (hbV.mono KG.out.size))
  clear hV hbV
  go_wp2_with fail
  have CT := Lib.hid (alive_true v2 (HT.out.on KG.out))
  with_reducible refine CT.out.mono ?_
  rintro e w3 ⟨rfl, hb⟩
  clear CT
  have BX1 := Lib.hid (BX1.out.below hb BX1.out.lt)
  have KG := Lib.hid (KG.out.trans (hb.mono KG.out.size))
  clear hb
  have cBX10 := BX1.out.cell (i := 0) rfl
  have cBX11 := BX1.out.cell (i := 1) rfl
  have cBX1f := BX1.out.fz
  have cBX1l := BX1.out.lt
  go_wp2_with fail
  clear cBX10 cBX11 cBX1f cBX1l
  obtain ⟨v5, hV⟩ : ∃ V, V = w3.alloc (.cells #[.bool x1.s, .slice x1.a x1.n x1.c] 24) := ⟨_, rfl⟩
  have hbV : Below w3.heap.size w3 v5 := by rw [hV]; exact ((Below.refl _ _).alloc (Nat.le_refl _) _)
  have BX4 := Lib.hid (show Bxs v5 (w3.heap.size) 24 [.bool x1.s, .slice x1.a x1.n x1.c] by have h := Bxs.new (w3) 24 [.bool x1.s, .slice x1.a x1.n x1.c]; rw [hV]; exact h)
  rw [show w3.alloc (.cells #[.bool x1.s, .slice x1.a x1.n x1.c] 24) = v5 from hV.symm]
  have BX1 := Lib.hid (BX1.out.below hbV BX1.out.lt)
  have KG := Lib.hid (KG.out.trans (hbV.mono KG.out.size))
  clear hV hbV
  have cBX10 := BX1.out.cell (i := 0) rfl
  have cBX11 := BX1.out.cell (i := 1) rfl
  have cBX1f := BX1.out.fz
  have cBX1l := BX1.out.lt
  have CT := Lib.hid (great1N (M := 200) BX4.out)
  rw [show ((200 : Nat) : Int) = 200 from rfl, show decide (200 < x1.n) = false from decide_eq_false (by have g0 : x1.n ≤ 200 := ((N1.out.below KG.out).len LZp1.out (by decide)); omega)] at CT
  with_reducible refine CT.out.mono ?_
  rintro e w6 ⟨rfl, hb⟩
  clear CT
  clear cBX10 cBX11 cBX1f cBX1l
  have BX1 := Lib.hid (BX1.out.below hb BX1.out.lt)
  clear BX4
  have KG := Lib.hid (KG.out.trans (hb.mono KG.out.size))
  clear hb
  go_wp2_with fail
  obtain ⟨v8, hV⟩ : ∃ V, V = w6.alloc (.cells #[.int .i64 s.size] 3) := ⟨_, rfl⟩
  have hbV : Below w6.heap.size w6 v8 := by rw [hV]; exact ((Below.refl _ _).alloc (Nat.le_refl _) _)
  have BX7 := Lib.hid (show Bxs v8 (w6.heap.size) 3 [.int .i64 s.size] by have h := Bxs.new (w6) 3 [.int .i64 s.size]; rw [hV]; exact h)
  rw [show w6.alloc (.cells #[.int .i64 s.size] 3) = v8 from hV.symm]
  have BX1 := Lib.hid (BX1.out.below hbV BX1.out.lt)
  have KG := Lib.hid (KG.out.trans (hbV.mono KG.out.size))
  clear hV hbV
  have CT := Lib.hid (beyond1 BX7.out HSM.out)
  rw [show decide (1048576 < s.size) = false from decide_eq_false HS.out] at CT
  with_reducible refine CT.out.mono ?_
  rintro e w9 ⟨rfl, hb⟩
  clear CT
  have BX1 := Lib.hid (BX1.out.below hb BX1.out.lt)
  clear BX7
  have KG := Lib.hid (KG.out.trans (hb.mono KG.out.size))
  clear hb
  have cBX10 := BX1.out.cell (i := 0) rfl
  have cBX11 := BX1.out.cell (i := 1) rfl
  have cBX1f := BX1.out.fz
  have cBX1l := BX1.out.lt
  go_wp2_with fail
  have CT := Lib.hid (textN (N1.out.below KG.out).any ((N1.out.below KG.out).len LZp1.out (by decide)) (HT.out.on KG.out))
  rw [show (⟨(Lib.itoa p1).toArray⟩ : ByteArray) = tb from HTB.out.symm] at CT
  with_reducible refine CT.out.mono ?_
  rintro e w10 ⟨rfl, hb⟩
  clear CT
  clear cBX10 cBX11 cBX1f cBX1l
  have BX1 := Lib.hid (BX1.out.below hb BX1.out.lt)
  have KG := Lib.hid (KG.out.trans (hb.mono KG.out.size))
  clear hb
  go_wp2_with fail
  have CT := Lib.hid (parse_k w10 HTM.out HZT.out HCT.out)
  with_reducible refine CT.out.mono ?_
  rintro e w11 ⟨x12, rfl, hN13, hb⟩
  have N13 := Lib.hid hN13
  clear hN13
  clear CT
  have BX1 := Lib.hid (BX1.out.below hb BX1.out.lt)
  have KG := Lib.hid (KG.out.trans (hb.mono KG.out.size))
  clear hb
  clear N13
  go_upto_region 5 with (fail)
  obtain ⟨v15, hV⟩ : ∃ V, V = w11.alloc (.cells #[.bool x12.s, .slice x12.a x12.n x12.c] 24) := ⟨_, rfl⟩
  have hbV : Below w11.heap.size w11 v15 := by rw [hV]; exact ((Below.refl _ _).alloc (Nat.le_refl _) _)
  have BX14 := Lib.hid (show Bxs v15 (w11.heap.size) 24 [.bool x12.s, .slice x12.a x12.n x12.c] by have h := Bxs.new (w11) 24 [.bool x12.s, .slice x12.a x12.n x12.c]; rw [hV]; exact h)
  rw [show w11.alloc (.cells #[.bool x12.s, .slice x12.a x12.n x12.c] 24) = v15 from hV.symm]
  have BX1 := Lib.hid (BX1.out.below hbV BX1.out.lt)
  have KG := Lib.hid (KG.out.trans (hbV.mono KG.out.size))
  clear hV hbV
  clear BX14
  have cBX10 := BX1.out.cell (i := 0) rfl
  have cBX11 := BX1.out.cell (i := 1) rfl
  have cBX1f := BX1.out.fz
  have cBX1l := BX1.out.lt
  go_wp2_with fail
  have CT := Lib.hid (signN (N1.out.below KG.out).any ((N1.out.below KG.out).len LZp1.out (by decide)))
  rw [show cmpZ p1 0 = sg from HSG.out] at CT
  with_reducible refine CT.out.mono ?_
  rintro e w16 ⟨rfl, hb⟩
  clear CT
  clear cBX10 cBX11 cBX1f cBX1l
  have BX1 := Lib.hid (BX1.out.below hb BX1.out.lt)
  have KG := Lib.hid (KG.out.trans (hb.mono KG.out.size))
  clear hb
  have cBX10 := BX1.out.cell (i := 0) rfl
  have cBX11 := BX1.out.cell (i := 1) rfl
  have cBX1f := BX1.out.fz
  have cBX1l := BX1.out.lt
  go_wp2_with fail
  have CT := Lib.hid (checkN (N1.out.below KG.out) ((N1.out.below KG.out).len LZp1.out (by decide)))
  with_reducible refine CT.out.mono ?_
  rintro e w17 ⟨rfl, hb⟩
  clear CT
  clear cBX10 cBX11 cBX1f cBX1l
  have BX1 := Lib.hid (BX1.out.below hb BX1.out.lt)
  have KG := Lib.hid (KG.out.trans (hb.mono KG.out.size))
  clear hb
  have cBX10 := BX1.out.cell (i := 0) rfl
  have cBX11 := BX1.out.cell (i := 1) rfl
  have cBX1f := BX1.out.fz
  have cBX1l := BX1.out.lt
  go_wp2_with fail
  have CT := Lib.hid (checkN (N1.out.below KG.out) ((N1.out.below KG.out).len LZp1.out (by decide)))
  with_reducible refine CT.out.mono ?_
  rintro e w18 ⟨rfl, hb⟩
  clear CT
  clear cBX10 cBX11 cBX1f cBX1l
  clear BX1
  have KG := Lib.hid (KG.out.trans (hb.mono KG.out.size))
  clear hb
  go_wp2_with fail
  have CT := Lib.hid (parse_0 w18 HSM.out HZ0.out HC.out)
  with_reducible refine CT.out.mono ?_
  rintro e w19 ⟨x20, rfl, hb⟩
  clear CT
  have KG := Lib.hid (KG.out.trans (hb.mono KG.out.size))
  clear hb
  go_upto_region 11 with (fail)
  obtain ⟨v22, hV⟩ : ∃ V, V = w19.alloc (.cells #[.bool false, .slice x20.1 0 x20.2] 24) := ⟨_, rfl⟩
  have hbV : Below w19.heap.size w19 v22 := by rw [hV]; exact ((Below.refl _ _).alloc (Nat.le_refl _) _)
  have BX21 := Lib.hid (show Bxs v22 (w19.heap.size) 24 [.bool false, .slice x20.1 0 x20.2] by have h := Bxs.new (w19) 24 [.bool false, .slice x20.1 0 x20.2]; rw [hV]; exact h)
  rw [show w19.alloc (.cells #[.bool false, .slice x20.1 0 x20.2] 24) = v22 from hV.symm]
  have KG := Lib.hid (KG.out.trans (hbV.mono KG.out.size))
  clear hV hbV
  have cBX210 := BX21.out.cell (i := 0) rfl
  have cBX211 := BX21.out.cell (i := 1) rfl
  have cBX21f := BX21.out.fz
  have cBX21l := BX21.out.lt
  go_wp2_with fail
  go_ret
  exact ⟨rfl, KG.out⟩
end Go.Proofs.YtefjjhfahebmeaaGreatDoor.Limb
