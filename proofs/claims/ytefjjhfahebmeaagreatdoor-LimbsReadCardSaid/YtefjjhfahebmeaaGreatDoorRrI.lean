/-
  The law LimbsRead: whatever it is handed, it returns true, and what it was handed reads behind the call as it read before; the card ties the listed tables to the program's text.
-/
import Derived.Test.YtefjjhfahebmeaaGreatDoorRrH
import Derived.Test.YtefjjhfahebmeaaGreatDoorCards
import Derived.Test.YtefjjhfahebmeaaGreatDoorTie
import Derived.ChangeMaps5
import Derived.Lay
import Derived.MakeChecks
import Derived.Stop.LaidErr
import Derived.Deep.DeepWitnessRowRef
import Derived.WalkKit
import Derived.ProofKit
import Derived.OpenShut
import Derived.Deep.DeepHandedRow
import Derived.Lib.LaidTab
set_option linter.unusedSimpArgs false
set_option linter.unusedVariables false
namespace Go.Proofs.YtefjjhfahebmeaaGreatDoor.Limb
open Go.RowKit Go.Sort
set_option maxRecDepth 100000 in
set_option maxHeartbeats 16000000 in
theorem read_ns_p (x1 : NV) (p1 : Int) (s : ByteArray) (w : World) (htab : Tab w) (h1 : KN w x1 p1) (b1 : x1.n ≤ 200) (hsm : s.size ≤ 9223372036854775807) (hs : ¬ 1048576 < s.size) (hz : p1 < 0) (hd : Lib.nDigits p1.natAbs ≤ 200) (hc : codeT s.data.toList = 0) (hsg2 : 0 < numT s.data.toList) : Calls Tryz.prog 5 #[x1.v, .string s] w fun e w' => e = .returned (.bool true) ∧ Below w.heap.size w w' := by
  have HT := Lib.hid htab
  have KG := Lib.hid (Below.refl w.heap.size w)
  have N1 := Lib.hid h1
  have LZp1 := Lib.hid (show lenB p1.natAbs ≤ 200 by have := h1.n; omega)
  have HSM := Lib.hid hsm
  have HS := Lib.hid hs
  obtain ⟨tb, htb⟩ : ∃ t : ByteArray, t = ⟨(Lib.itoa p1).toArray⟩ := ⟨_, rfl⟩
  have HTB := Lib.hid htb
  have htl : tb.size = (Lib.itoa p1).length := by rw [htb]; exact tb_size _
  have htd : tb.data.toList = Lib.itoa p1 := by rw [htb]
  have hil := itoa_len_eq p1
  have hle := itoa_len (z := p1) (k := 200) LZp1.out
  rw [if_pos hz] at hil
  have HTM := Lib.hid (show tb.size ≤ 9223372036854775807 by omega)
  have HPZ := Lib.hid hz
  obtain ⟨dg, hdg⟩ : ∃ d : Int, d = (tb.size : Int) - 1 := ⟨_, rfl⟩
  have edg : IntKind.i64.wrap ((tb.size : Int) - 1) = dg := by rw [hdg]; exact IntWalk.i64_in _ (by omega)
  have gt : dg ≤ 200 := by omega
  have HCT := Lib.hid (show codeT tb.data.toList = 0 by rw [htd, codeT_itoa, if_neg (by omega)])
  have HZT := Lib.hid (show numT tb.data.toList = p1 by rw [htd]; exact numT_itoa hd)
  have HC := Lib.hid hc
  have hy := hyph_pos hc hsg2
  obtain ⟨zs, hzs⟩ : ∃ z, z = numT s.data.toList := ⟨_, rfl⟩
  have HZS := Lib.hid hzs
  have LZzs := Lib.hid (show lenB zs.natAbs ≤ 23 by rw [hzs]; exact numT_len _)
  have HBK := Lib.hid (show (⟨(Lib.itoa zs).toArray⟩ : ByteArray) = s by rw [hzs]; exact itoa_back hc)
  obtain ⟨hs2, hhs⟩ : ∃ t : ByteArray, t = ⟨#[45]⟩ ++ s := ⟨_, rfl⟩
  have hhd : hs2.data.toList = 45 :: s.data.toList := by rw [hhs]; exact hyph_data s
  have ehs : (⟨#[45]⟩ : ByteArray) ++ s = hs2 := hhs.symm
  have l1 : ¬ (9223372036854775807 < 1 + s.size) := by have := HS.out; omega
  have HHM := Lib.hid (show hs2.size ≤ 9223372036854775807 by rw [hhs, ByteArray.size_append]; have : (ByteArray.mk #[45]).size = 1 := rfl; omega)
  obtain ⟨zh, hzh⟩ : ∃ z, z = numT hs2.data.toList := ⟨_, rfl⟩
  have HZH := Lib.hid hzh.symm
  have LZzh := Lib.hid (show lenB zh.natAbs ≤ 23 by rw [hzh]; exact numT_len _)
  have HHC := Lib.hid (show codeT hs2.data.toList = 0 by rw [hhd]; exact hy.1)
  have EZH := Lib.hid (show zh = -zs by rw [hzh, hhd, hzs]; exact hy.2)
  have HP2 := Lib.hid (show 0 < zs by rw [hzs]; exact hsg2)
  clear hs htb htl htd hz hd hil hle hdg hc hsg2 hzs hhs hhd hzh hy
  clear htab h1 hsm b1
  obtain ⟨z32, hz32⟩ : ∃ z : Int, z = -zs := ⟨_, rfl⟩
  have Hz32 := Lib.hid hz32
  have LZz32 := Lib.hid (show lenB z32.natAbs ≤ 23 by rw [hz32]; exact lenZ_neg LZzs.out)
  clear hz32
  go_enter Tryz.func5, Tryz.ntmps5
  go_upto_region 1 with (fail)
  obtain ⟨v2, hV⟩ : ∃ V, V = w.alloc (.cells #[.bool x1.s, .slice x1.a x1.n x1.c] 24) := ⟨_, rfl⟩
  have hbV : Below w.heap.size w v2 := by rw [hV]; exact ((Below.refl _ _).alloc (Nat.le_refl _) _)
  have BX1 := Lib.hid (show Bxs v2 (w.heap.size) 24 [.bool x1.s, .slice x1.a x1.n x1.c] by have h := Bxs.new (w) 24 [.bool x1.s, .slice x1.a x1.n x1.c]; rw [hV]; exact h)
  rw [show w.alloc (.cells #[.bool x1.s, .slice x1.a x1.n x1.c] 24) = v2 from hV.symm]
  have KG := Lib.hid (KG.out.trans (hbV.mono KG.out.size))
  clear hV hbV
  go_wp2_with fail
  have CT := Lib.hid (alive_true v2 (HT.out.on KG.out))
  with_reducible refine CT.out.mono ?_
  rintro e w3 ⟨rfl, hb⟩
  clear CT
  have BX1 := Lib.hid (BX1.out.below hb BX1.out.lt)
  have KG := Lib.hid (KG.out.trans (hb.mono KG.out.size))
  clear hb
  have cBX10 := BX1.out.cell (i := 0) rfl
  have cBX11 := BX1.out.cell (i := 1) rfl
  have cBX1f := BX1.out.fz
  have cBX1l := BX1.out.lt
  go_wp2_with fail
  clear cBX10 cBX11 cBX1f cBX1l
  obtain ⟨v5, hV⟩ : ∃ V, V = w3.alloc (.cells #[.bool x1.s, .slice x1.a x1.n x1.c] 24) := ⟨_, rfl⟩
  have hbV : Below w3.heap.size w3 v5 := by rw [hV]; exact ((Below.refl _ _).alloc (Nat.le_refl _) _)
  have BX4 := Lib.hid (show Bxs v5 (w3.heap.size) 24 [.bool x1.s, .slice x1.a x1.n x1.c] by have h := Bxs.new (w3) 24 [.bool x1.s, .slice x1.a x1.n x1.c]; rw [hV]; exact h)
  rw [show w3.alloc (.cells #[.bool x1.s, .slice x1.a x1.n x1.c] 24) = v5 from hV.symm]
  have BX1 := Lib.hid (BX1.out.below hbV BX1.out.lt)
  have KG := Lib.hid (KG.out.trans (hbV.mono KG.out.size))
  clear hV hbV
  have cBX10 := BX1.out.cell (i := 0) rfl
  have cBX11 := BX1.out.cell (i := 1) rfl
  have cBX1f := BX1.out.fz
  have cBX1l := BX1.out.lt
  have CT := Lib.hid (great1N (M := 200) BX4.out)
  rw [show ((200 : Nat) : Int) = 200 from rfl, show decide (200 < x1.n) = false from decide_eq_false (by have g0 : x1.n ≤ 200 := ((N1.out.below KG.out).len LZp1.out (by decide)); omega)] at CT
  with_reducible refine CT.out.mono ?_
  rintro e w6 ⟨rfl, hb⟩
  clear CT
  clear cBX10 cBX11 cBX1f cBX1l
  have BX1 := Lib.hid (BX1.out.below hb BX1.out.lt)
  clear BX4
  have KG := Lib.hid (KG.out.trans (hb.mono KG.out.size))
  clear hb
  go_wp2_with fail
  obtain ⟨v8, hV⟩ : ∃ V, V = w6.alloc (.cells #[.int .i64 s.size] 3) := ⟨_, rfl⟩
  have hbV : Below w6.heap.size w6 v8 := by rw [hV]; exact ((Below.refl _ _).alloc (Nat.le_refl _) _)
  have BX7 := Lib.hid (show Bxs v8 (w6.heap.size) 3 [.int .i64 s.size] by have h := Bxs.new (w6) 3 [.int .i64 s.size]; rw [hV]; exact h)
  rw [show w6.alloc (.cells #[.int .i64 s.size] 3) = v8 from hV.symm]
  have BX1 := Lib.hid (BX1.out.below hbV BX1.out.lt)
  have KG := Lib.hid (KG.out.trans (hbV.mono KG.out.size))
  clear hV hbV
  have CT := Lib.hid (beyond1 BX7.out HSM.out)
  rw [show decide (1048576 < s.size) = false from decide_eq_false HS.out] at CT
  with_reducible refine CT.out.mono ?_
  rintro e w9 ⟨rfl, hb⟩
  clear CT
  have BX1 := Lib.hid (BX1.out.below hb BX1.out.lt)
  clear BX7
  have KG := Lib.hid (KG.out.trans (hb.mono KG.out.size))
  clear hb
  have cBX10 := BX1.out.cell (i := 0) rfl
  have cBX11 := BX1.out.cell (i := 1) rfl
  have cBX1f := BX1.out.fz
  have cBX1l := BX1.out.lt
  go_wp2_with fail
  have CT := Lib.hid (textN (N1.out.below KG.out).any ((N1.out.below KG.out).len LZp1.out (by decide)) (HT.out.on KG.out))
  rw [show (⟨(Lib.itoa p1).toArray⟩ : ByteArray) = tb from HTB.out.symm] at CT
  with_reducible refine CT.out.mono ?_
  rintro e w10 ⟨rfl, hb⟩
  clear CT
  clear cBX10 cBX11 cBX1f cBX1l
  have BX1 := Lib.hid (BX1.out.below hb BX1.out.lt)
  have KG := Lib.hid (KG.out.trans (hb.mono KG.out.size))
  clear hb
  go_wp2_with fail
  have CT := Lib.hid (parse_k w10 HTM.out HZT.out HCT.out)
  with_reducible refine CT.out.mono ?_
  rintro e w11 ⟨x12, rfl, hN13, hb⟩
  have N13 := Lib.hid hN13
  clear hN13
  clear CT
  have BX1 := Lib.hid (BX1.out.below hb BX1.out.lt)
  have KG := Lib.hid (KG.out.trans (hb.mono KG.out.size))
  clear hb
  go_upto_region 5 with (fail)
  obtain ⟨v15, hV⟩ : ∃ V, V = w11.alloc (.cells #[.bool x12.s, .slice x12.a x12.n x12.c] 24) := ⟨_, rfl⟩
  have hbV : Below w11.heap.size w11 v15 := by rw [hV]; exact ((Below.refl _ _).alloc (Nat.le_refl _) _)
  have BX14 := Lib.hid (show Bxs v15 (w11.heap.size) 24 [.bool x12.s, .slice x12.a x12.n x12.c] by have h := Bxs.new (w11) 24 [.bool x12.s, .slice x12.a x12.n x12.c]; rw [hV]; exact h)
  rw [show w11.alloc (.cells #[.bool x12.s, .slice x12.a x12.n x12.c] 24) = v15 from hV.symm]
  have N13 := Lib.hid (N13.out.below hbV)
  have BX1 := Lib.hid (BX1.out.below hbV BX1.out.lt)
  have KG := Lib.hid (KG.out.trans (hbV.mono KG.out.size))
  clear hV hbV
  have cBX10 := BX1.out.cell (i := 0) rfl
  have cBX11 := BX1.out.cell (i := 1) rfl
  have cBX1f := BX1.out.fz
  have cBX1l := BX1.out.lt
  go_wp2_with fail
  have CT := Lib.hid (signN (N1.out.below KG.out).any ((N1.out.below KG.out).len LZp1.out (by decide)))
  rw [show cmpZ p1 0 = (-1) from cmpZ_lt HPZ.out] at CT
  with_reducible refine CT.out.mono ?_
  rintro e w16 ⟨rfl, hb⟩
  clear CT
  clear cBX10 cBX11 cBX1f cBX1l
  have N13 := Lib.hid (N13.out.below hb)
  have BX1 := Lib.hid (BX1.out.below hb BX1.out.lt)
  have BX14 := Lib.hid (BX14.out.below hb BX14.out.lt)
  have KG := Lib.hid (KG.out.trans (hb.mono KG.out.size))
  clear hb
  have cBX10 := BX1.out.cell (i := 0) rfl
  have cBX11 := BX1.out.cell (i := 1) rfl
  have cBX1f := BX1.out.fz
  have cBX1l := BX1.out.lt
  go_wp2_with fail
  have CT := Lib.hid (checkN (N1.out.below KG.out) ((N1.out.below KG.out).len LZp1.out (by decide)))
  with_reducible refine CT.out.mono ?_
  rintro e w17 ⟨rfl, hb⟩
  clear CT
  clear cBX10 cBX11 cBX1f cBX1l
  have N13 := Lib.hid (N13.out.below hb)
  have BX1 := Lib.hid (BX1.out.below hb BX1.out.lt)
  have BX14 := Lib.hid (BX14.out.below hb BX14.out.lt)
  have KG := Lib.hid (KG.out.trans (hb.mono KG.out.size))
  clear hb
  have cBX140 := BX14.out.cell (i := 0) rfl
  have cBX141 := BX14.out.cell (i := 1) rfl
  have cBX14f := BX14.out.fz
  have cBX14l := BX14.out.lt
  have cBX10 := BX1.out.cell (i := 0) rfl
  have cBX11 := BX1.out.cell (i := 1) rfl
  have cBX1f := BX1.out.fz
  have cBX1l := BX1.out.lt
  go_wp2_with fail
  have CT := Lib.hid (sameTN N13.out.k (N13.out.k.len LZp1.out (by decide)) (N1.out.below KG.out) ((N1.out.below KG.out).len LZp1.out (by decide)) (rfl))
  with_reducible refine CT.out.mono ?_
  rintro e w18 ⟨rfl, hb⟩
  clear CT
  clear cBX140 cBX141 cBX14f cBX14l
  clear cBX10 cBX11 cBX1f cBX1l
  clear N13
  have BX1 := Lib.hid (BX1.out.below hb BX1.out.lt)
  clear BX14
  have KG := Lib.hid (KG.out.trans (hb.mono KG.out.size))
  clear hb
  have cBX10 := BX1.out.cell (i := 0) rfl
  have cBX11 := BX1.out.cell (i := 1) rfl
  have cBX1f := BX1.out.fz
  have cBX1l := BX1.out.lt
  go_wp2_with fail
  have CT := Lib.hid (checkN (N1.out.below KG.out) ((N1.out.below KG.out).len LZp1.out (by decide)))
  with_reducible refine CT.out.mono ?_
  rintro e w19 ⟨rfl, hb⟩
  clear CT
  clear cBX10 cBX11 cBX1f cBX1l
  clear BX1
  have KG := Lib.hid (KG.out.trans (hb.mono KG.out.size))
  clear hb
  go_wp2_with fail
  have CT := Lib.hid (parse_k w19 HSM.out HZS.out.symm HC.out)
  with_reducible refine CT.out.mono ?_
  rintro e w20 ⟨x21, rfl, hN22, hb⟩
  have N22 := Lib.hid hN22
  clear hN22
  clear CT
  have KG := Lib.hid (KG.out.trans (hb.mono KG.out.size))
  clear hb
  go_upto_region 11 with (fail)
  obtain ⟨v24, hV⟩ : ∃ V, V = w20.alloc (.cells #[.bool x21.s, .slice x21.a x21.n x21.c] 24) := ⟨_, rfl⟩
  have hbV : Below w20.heap.size w20 v24 := by rw [hV]; exact ((Below.refl _ _).alloc (Nat.le_refl _) _)
  have BX23 := Lib.hid (show Bxs v24 (w20.heap.size) 24 [.bool x21.s, .slice x21.a x21.n x21.c] by have h := Bxs.new (w20) 24 [.bool x21.s, .slice x21.a x21.n x21.c]; rw [hV]; exact h)
  rw [show w20.alloc (.cells #[.bool x21.s, .slice x21.a x21.n x21.c] 24) = v24 from hV.symm]
  have N22 := Lib.hid (N22.out.below hbV)
  have KG := Lib.hid (KG.out.trans (hbV.mono KG.out.size))
  clear hV hbV
  go_wp2_with fail
  have CT := Lib.hid (parse_k v24 HHM.out HZH.out HHC.out)
  with_reducible refine CT.out.mono ?_
  rintro e w25 ⟨x26, rfl, hN27, hb⟩
  have N27 := Lib.hid hN27
  clear hN27
  clear CT
  have N22 := Lib.hid (N22.out.below hb)
  have BX23 := Lib.hid (BX23.out.below hb BX23.out.lt)
  have KG := Lib.hid (KG.out.trans (hb.mono KG.out.size))
  clear hb
  go_upto_region 14 with (fail)
  obtain ⟨v29, hV⟩ : ∃ V, V = w25.alloc (.cells #[.bool x26.s, .slice x26.a x26.n x26.c] 24) := ⟨_, rfl⟩
  have hbV : Below w25.heap.size w25 v29 := by rw [hV]; exact ((Below.refl _ _).alloc (Nat.le_refl _) _)
  have BX28 := Lib.hid (show Bxs v29 (w25.heap.size) 24 [.bool x26.s, .slice x26.a x26.n x26.c] by have h := Bxs.new (w25) 24 [.bool x26.s, .slice x26.a x26.n x26.c]; rw [hV]; exact h)
  rw [show w25.alloc (.cells #[.bool x26.s, .slice x26.a x26.n x26.c] 24) = v29 from hV.symm]
  have N22 := Lib.hid (N22.out.below hbV)
  have N27 := Lib.hid (N27.out.below hbV)
  have BX23 := Lib.hid (BX23.out.below hbV BX23.out.lt)
  have KG := Lib.hid (KG.out.trans (hbV.mono KG.out.size))
  clear hV hbV
  have cBX230 := BX23.out.cell (i := 0) rfl
  have cBX231 := BX23.out.cell (i := 1) rfl
  have cBX23f := BX23.out.fz
  have cBX23l := BX23.out.lt
  go_wp2_with fail
  have CT := Lib.hid (checkN N22.out.k (N22.out.k.len LZzs.out (by decide)))
  with_reducible refine CT.out.mono ?_
  rintro e w30 ⟨rfl, hb⟩
  clear CT
  clear cBX230 cBX231 cBX23f cBX23l
  have N22 := Lib.hid (N22.out.below hb)
  have N27 := Lib.hid (N27.out.below hb)
  have BX23 := Lib.hid (BX23.out.below hb BX23.out.lt)
  have BX28 := Lib.hid (BX28.out.below hb BX28.out.lt)
  have KG := Lib.hid (KG.out.trans (hb.mono KG.out.size))
  clear hb
  have cBX230 := BX23.out.cell (i := 0) rfl
  have cBX231 := BX23.out.cell (i := 1) rfl
  have cBX23f := BX23.out.fz
  have cBX23l := BX23.out.lt
  go_wp2_with fail
  have CT := Lib.hid (textN N22.out.k.any (N22.out.k.len LZzs.out (by decide)) (HT.out.on KG.out))
  rw [show (⟨(Lib.itoa zs).toArray⟩ : ByteArray) = s from HBK.out] at CT
  with_reducible refine CT.out.mono ?_
  rintro e w31 ⟨rfl, hb⟩
  clear CT
  clear cBX230 cBX231 cBX23f cBX23l
  have N22 := Lib.hid (N22.out.below hb)
  have N27 := Lib.hid (N27.out.below hb)
  have BX23 := Lib.hid (BX23.out.below hb BX23.out.lt)
  have BX28 := Lib.hid (BX28.out.below hb BX28.out.lt)
  have KG := Lib.hid (KG.out.trans (hb.mono KG.out.size))
  clear hb
  go_upto_region 16 with (fail)
  refine Go.FreshS.wp_region_fresh 22 [] (Go.FreshS.spOf [(1, Go.FreshS.Sp.know (.int .i64 1)), (10, Go.FreshS.Sp.made (fun x : NV => x.v) (fun x w' => DN w' w31.heap.size x z32) NV.blk), (11, Go.FreshS.Sp.know (.bool true))])
    (fun w' => Below w31.heap.size w31 w') (by kernel_rfl) (by kernel_rfl) (by kernel_rfl)
    (Go.FreshS.spOf_cons (Go.FreshS.Sp.know_keeps _ _) (Go.FreshS.spOf_cons (Go.FreshS.Sp.made_keeps _ (fun _ _ _ h _ hk => h.kept hk) (Go.FreshS.notTaken (by kernel_rfl))) (Go.FreshS.spOf_cons (Go.FreshS.Sp.know_keeps _ _) (Go.FreshS.spOf_nil)))) (fun _ _ h hb => h.trans (hb.mono h.size)) ((Below.refl _ _).drew) ?_
  simp only [List.append_eq, List.cons_append, List.nil_append, List.take_succ_cons, List.take_zero, List.drop_succ_cons, List.drop_zero]
  refine Go.FreshS.wpF_reads rfl rfl rfl ?_ (fun w' hw' => ?_) ?_
  rotate_left
  · have hb' := hw'.world
    have hs0 := (BX23.out.below hb' BX23.out.lt).cell (i := 0) rfl
    have hs1 := (BX23.out.below hb' BX23.out.lt).cell (i := 1) rfl
    have hsf := (BX23.out.below hb' BX23.out.lt).fz
    have hsl := (BX23.out.below hb' BX23.out.lt).lt
    clear hw'
    go_simp
    try rfl
  conv => arg 10; simp only [Act.put, List.setIfInBounds_toArray, List.set_cons_succ, List.set_cons_zero]
  refine Go.FreshS.wpF_spec rfl rfl rfl (fun w' hw' => ?_) ?_
  · have hb' := hw'.world
    refine Go.FreshS.gives_of (Go.FreshS.PK (.int .i64 1)) ?_ (fun _ _ h => h.post)
    go_simp
    have CT := signN (N22.out.below hb').k.any ((N22.out.below hb').k.len LZzs.out (by decide))
    rw [show cmpZ zs 0 = 1 from cmpZ_gt HP2.out] at CT
    refine CT.mono ?_
    rintro e w'' ⟨rfl, hb⟩
    exact ⟨_, rfl, rfl, hb⟩
  rintro _ rfl
  conv => arg 10; simp only [Act.put, List.setIfInBounds_toArray, List.set_cons_succ, List.set_cons_zero]
  refine Go.FreshS.wpF_reads rfl rfl rfl ?_ (fun w' hw' => ?_) ?_
  rotate_left
  · have hb' := hw'.world
    skip
    clear hw'
    go_simp
    try rfl
  conv => arg 10; simp only [Act.put, List.setIfInBounds_toArray, List.set_cons_succ, List.set_cons_zero]
  refine Go.FreshS.wpF_reads rfl rfl rfl ?_ (fun w' hw' => ?_) ?_
  rotate_left
  · have hb' := hw'.world
    skip
    clear hw'
    go_simp
    try rfl
  conv => arg 10; simp only [Act.put, List.setIfInBounds_toArray, List.set_cons_succ, List.set_cons_zero]
  refine Go.FreshS.wpF_readsG (by rfl) rfl rfl ?_ (fun w' hw' => ?_) ?_
  rotate_left
  · have hb' := hw'.world
    skip
    clear hw'
    go_simp
    try rfl
  conv => arg 10; simp only [Act.put, List.setIfInBounds_toArray, List.set_cons_succ, List.set_cons_zero]
  refine Go.FreshS.wpF_readsG (by rfl) rfl rfl ?_ (fun w' hw' => ?_) ?_
  rotate_left
  · have hb' := hw'.world
    skip
    clear hw'
    go_simp
    try rfl
  conv => arg 10; simp only [Act.put, List.setIfInBounds_toArray, List.set_cons_succ, List.set_cons_zero]
  refine Go.FreshS.wpF_reads rfl rfl rfl ?_ (fun w' hw' => ?_) ?_
  rotate_left
  · have hb' := hw'.world
    skip
    clear hw'
    go_simp
    try rfl
  conv => arg 10; simp only [Act.put, List.setIfInBounds_toArray, List.set_cons_succ, List.set_cons_zero]
  refine Go.FreshS.wpF_reads rfl rfl rfl ?_ (fun w' hw' => ?_) ?_
  rotate_left
  · have hb' := hw'.world
    skip
    clear hw'
    go_simp
    try rfl
  conv => arg 10; simp only [Act.put, List.setIfInBounds_toArray, List.set_cons_succ, List.set_cons_zero]
  refine Go.FreshS.wpF_readsG (by rfl) rfl rfl ?_ (fun w' hw' => ?_) ?_
  rotate_left
  · have hb' := hw'.world
    have hs0 := (BX28.out.below hb' BX28.out.lt).cell (i := 0) rfl
    have hs1 := (BX28.out.below hb' BX28.out.lt).cell (i := 1) rfl
    have hsf := (BX28.out.below hb' BX28.out.lt).fz
    have hsl := (BX28.out.below hb' BX28.out.lt).lt
    clear hw'
    go_simp
    try rfl
  conv => arg 10; simp only [Act.put, List.setIfInBounds_toArray, List.set_cons_succ, List.set_cons_zero]
  refine Go.FreshS.wpF_readsG (by rfl) rfl rfl ?_ (fun w' hw' => ?_) ?_
  rotate_left
  · have hb' := hw'.world
    have hs0 := (BX23.out.below hb' BX23.out.lt).cell (i := 0) rfl
    have hs1 := (BX23.out.below hb' BX23.out.lt).cell (i := 1) rfl
    have hsf := (BX23.out.below hb' BX23.out.lt).fz
    have hsl := (BX23.out.below hb' BX23.out.lt).lt
    clear hw'
    go_simp
    try rfl
  conv => arg 10; simp only [Act.put, List.setIfInBounds_toArray, List.set_cons_succ, List.set_cons_zero]
  refine Go.FreshS.wpF_gspec (by rfl) rfl rfl (fun w' hw' => ?_) ?_
  · have hb' := hw'.world
    refine Go.FreshS.gives_of (Go.FreshS.PM (fun x : NV => x.v) (fun x w' => DN w' w31.heap.size x z32) NV.blk w'.heap.size) ?_ (fun _ _ h => h.post @NV.inj)
    go_simp
    have CT := negN (N22.out.below hb').k.any ((N22.out.below hb').k.len LZzs.out (by decide))
    rw [show -zs = z32 from Hz32.out.symm] at CT
    refine CT.mono ?_
    rintro e w'' ⟨za, rfl, ho, hb⟩
    exact ⟨_, rfl, ⟨za, rfl, ho.mono hb'.size, ho.blks⟩, hb⟩
  rintro _ ⟨y10, rfl⟩
  conv => arg 10; simp only [Act.put, List.setIfInBounds_toArray, List.set_cons_succ, List.set_cons_zero]
  refine Go.FreshS.wpF_gspec (by rfl) rfl rfl (fun w' hw' => ?_) ?_
  · have hb' := hw'.world
    refine Go.FreshS.gives_of (Go.FreshS.PK (.bool true)) ?_ (fun _ _ h => h.post)
    go_simp
    have f10 := Go.FreshS.made_of (val := fun x : NV => x.v) (Φ := fun x w' => DN w' w31.heap.size x z32) @NV.inj (hw'.fact 10 (by kernel_rfl))
    have CT := sameTN (N27.out.below hb').k ((N27.out.below hb').k.len LZzh.out (by decide)) f10.k (f10.k.len LZz32.out (by decide)) (by have h := EZH.out; simp only [Hz32.out]; exact h)
    refine CT.mono ?_
    rintro e w'' ⟨rfl, hb⟩
    exact ⟨_, rfl, rfl, hb⟩
  rintro _ rfl
  conv => arg 10; simp only [Act.put, List.setIfInBounds_toArray, List.set_cons_succ, List.set_cons_zero]
  refine Go.FreshS.wpF_reads rfl rfl rfl ?_ (fun w' hw' => ?_) ?_
  rotate_left
  · have hb' := hw'.world
    skip
    clear hw'
    go_simp
    try rfl
  conv => arg 10; simp only [Act.put, List.setIfInBounds_toArray, List.set_cons_succ, List.set_cons_zero]
  refine Go.FreshS.wpF_reads rfl rfl rfl ?_ (fun w' hw' => ?_) ?_
  rotate_left
  · have hb' := hw'.world
    skip
    clear hw'
    go_simp
    try rfl
  conv => arg 10; simp only [Act.put, List.setIfInBounds_toArray, List.set_cons_succ, List.set_cons_zero]
  refine Go.FreshS.wpF_skip (by rfl) rfl ?_
  conv => arg 10; simp only [Act.put, List.setIfInBounds_toArray, List.set_cons_succ, List.set_cons_zero]
  refine Go.FreshS.wpF_skip (by rfl) rfl ?_
  conv => arg 10; simp only [Act.put, List.setIfInBounds_toArray, List.set_cons_succ, List.set_cons_zero]
  refine Go.FreshS.wpF_skip (by rfl) rfl ?_
  conv => arg 10; simp only [Act.put, List.setIfInBounds_toArray, List.set_cons_succ, List.set_cons_zero]
  refine Go.FreshS.wpF_skip (by rfl) rfl ?_
  conv => arg 10; simp only [Act.put, List.setIfInBounds_toArray, List.set_cons_succ, List.set_cons_zero]
  refine Go.FreshS.wpF_skip (by rfl) rfl ?_
  conv => arg 10; simp only [Act.put, List.setIfInBounds_toArray, List.set_cons_succ, List.set_cons_zero]
  refine Go.FreshS.wpF_skip (by rfl) rfl ?_
  conv => arg 10; simp only [Act.put, List.setIfInBounds_toArray, List.set_cons_succ, List.set_cons_zero]
  refine Go.FreshS.wpF_skip (by rfl) rfl ?_
  conv => arg 10; simp only [Act.put, List.setIfInBounds_toArray, List.set_cons_succ, List.set_cons_zero]
  refine Go.FreshS.wpF_reads rfl rfl rfl ?_ (fun w' hw' => ?_) ?_
  rotate_left
  · have hb' := hw'.world
    skip
    clear hw'
    go_simp
    try rfl
  conv => arg 10; simp only [Act.put, List.setIfInBounds_toArray, List.set_cons_succ, List.set_cons_zero]
  refine Go.FreshS.wpF_nil (fun w33 hb hF => ?_)
  clear hF
  clear N22
  clear N27
  clear BX23
  clear BX28
  have KG := Lib.hid (KG.out.trans (hb.mono KG.out.size))
  clear hb
  go_wp2_with fail
  go_ret
  exact ⟨rfl, KG.out⟩
set_option maxRecDepth 100000 in
set_option maxHeartbeats 16000000 in
theorem read_ns_n (x1 : NV) (p1 : Int) (s : ByteArray) (w : World) (htab : Tab w) (h1 : KN w x1 p1) (b1 : x1.n ≤ 200) (hsm : s.size ≤ 9223372036854775807) (hs : ¬ 1048576 < s.size) (hz : p1 < 0) (hd : Lib.nDigits p1.natAbs ≤ 200) (hc : codeT s.data.toList = 0) (hsg2 : numT s.data.toList ≤ 0) : Calls Tryz.prog 5 #[x1.v, .string s] w fun e w' => e = .returned (.bool true) ∧ Below w.heap.size w w' := by
  have HT := Lib.hid htab
  have KG := Lib.hid (Below.refl w.heap.size w)
  have N1 := Lib.hid h1
  have LZp1 := Lib.hid (show lenB p1.natAbs ≤ 200 by have := h1.n; omega)
  have HSM := Lib.hid hsm
  have HS := Lib.hid hs
  obtain ⟨tb, htb⟩ : ∃ t : ByteArray, t = ⟨(Lib.itoa p1).toArray⟩ := ⟨_, rfl⟩
  have HTB := Lib.hid htb
  have htl : tb.size = (Lib.itoa p1).length := by rw [htb]; exact tb_size _
  have htd : tb.data.toList = Lib.itoa p1 := by rw [htb]
  have hil := itoa_len_eq p1
  have hle := itoa_len (z := p1) (k := 200) LZp1.out
  rw [if_pos hz] at hil
  have HTM := Lib.hid (show tb.size ≤ 9223372036854775807 by omega)
  have HPZ := Lib.hid hz
  obtain ⟨dg, hdg⟩ : ∃ d : Int, d = (tb.size : Int) - 1 := ⟨_, rfl⟩
  have edg : IntKind.i64.wrap ((tb.size : Int) - 1) = dg := by rw [hdg]; exact IntWalk.i64_in _ (by omega)
  have gt : dg ≤ 200 := by omega
  have HCT := Lib.hid (show codeT tb.data.toList = 0 by rw [htd, codeT_itoa, if_neg (by omega)])
  have HZT := Lib.hid (show numT tb.data.toList = p1 by rw [htd]; exact numT_itoa hd)
  have HC := Lib.hid hc
  have hy := hyph_not hc hsg2
  obtain ⟨zs, hzs⟩ : ∃ z, z = numT s.data.toList := ⟨_, rfl⟩
  have HZS := Lib.hid hzs
  have LZzs := Lib.hid (show lenB zs.natAbs ≤ 23 by rw [hzs]; exact numT_len _)
  have HBK := Lib.hid (show (⟨(Lib.itoa zs).toArray⟩ : ByteArray) = s by rw [hzs]; exact itoa_back hc)
  obtain ⟨hs2, hhs⟩ : ∃ t : ByteArray, t = ⟨#[45]⟩ ++ s := ⟨_, rfl⟩
  have hhd : hs2.data.toList = 45 :: s.data.toList := by rw [hhs]; exact hyph_data s
  have ehs : (⟨#[45]⟩ : ByteArray) ++ s = hs2 := hhs.symm
  have l1 : ¬ (9223372036854775807 < 1 + s.size) := by have := HS.out; omega
  have HHM := Lib.hid (show hs2.size ≤ 9223372036854775807 by rw [hhs, ByteArray.size_append]; have : (ByteArray.mk #[45]).size = 1 := rfl; omega)
  obtain ⟨zh, hzh⟩ : ∃ z, z = numT hs2.data.toList := ⟨_, rfl⟩
  have HZH := Lib.hid hzh.symm
  have LZzh := Lib.hid (show lenB zh.natAbs ≤ 23 by rw [hzh]; exact numT_len _)
  have HHC := Lib.hid (show codeT hs2.data.toList = 4 by rw [hhd]; exact hy)
  obtain ⟨s2, hs2e⟩ : ∃ c, c = cmpZ zs 0 := ⟨_, rfl⟩
  have HS2 := Lib.hid hs2e.symm
  have gs2z : s2 ≤ 0 := by rw [hs2e]; have h9 : zs ≤ 0 := (by rw [hzs]; exact hsg2); unfold cmpZ; split; (exact (by decide)); rw [if_neg (by omega)]; exact Int.le_refl 0
  have gs2 : decide (0 < s2) = false := decide_eq_false (by omega)
  have gs3 : decide (s2 ≤ 0) = true := decide_eq_true gs2z
  clear gs2z
  clear hs htb htl htd hz hd hil hle hdg hc hsg2 hzs hhs hhd hzh hy hs2e
  clear htab h1 hsm b1
  go_enter Tryz.func5, Tryz.ntmps5
  go_upto_region 1 with (fail)
  obtain ⟨v2, hV⟩ : ∃ V, V = w.alloc (.cells #[.bool x1.s, .slice x1.a x1.n x1.c] 24) := ⟨_, rfl⟩
  have hbV : Below w.heap.size w v2 := by rw [hV]; exact ((Below.refl _ _).alloc (Nat.le_refl _) _)
  have BX1 := Lib.hid (show Bxs v2 (w.heap.size) 24 [.bool x1.s, .slice x1.a x1.n x1.c] by have h := Bxs.new (w) 24 [.bool x1.s, .slice x1.a x1.n x1.c]; rw [hV]; exact h)
  rw [show w.alloc (.cells #[.bool x1.s, .slice x1.a x1.n x1.c] 24) = v2 from hV.symm]
  have KG := Lib.hid (KG.out.trans (hbV.mono KG.out.size))
  clear hV hbV
  go_wp2_with fail
  have CT := Lib.hid (alive_true v2 (HT.out.on KG.out))
  with_reducible refine CT.out.mono ?_
  rintro e w3 ⟨rfl, hb⟩
  clear CT
  have BX1 := Lib.hid (BX1.out.below hb BX1.out.lt)
  have KG := Lib.hid (KG.out.trans (hb.mono KG.out.size))
  clear hb
  have cBX10 := BX1.out.cell (i := 0) rfl
  have cBX11 := BX1.out.cell (i := 1) rfl
  have cBX1f := BX1.out.fz
  have cBX1l := BX1.out.lt
  go_wp2_with fail
  clear cBX10 cBX11 cBX1f cBX1l
  obtain ⟨v5, hV⟩ : ∃ V, V = w3.alloc (.cells #[.bool x1.s, .slice x1.a x1.n x1.c] 24) := ⟨_, rfl⟩
  have hbV : Below w3.heap.size w3 v5 := by rw [hV]; exact ((Below.refl _ _).alloc (Nat.le_refl _) _)
  have BX4 := Lib.hid (show Bxs v5 (w3.heap.size) 24 [.bool x1.s, .slice x1.a x1.n x1.c] by have h := Bxs.new (w3) 24 [.bool x1.s, .slice x1.a x1.n x1.c]; rw [hV]; exact h)
  rw [show w3.alloc (.cells #[.bool x1.s, .slice x1.a x1.n x1.c] 24) = v5 from hV.symm]
  have BX1 := Lib.hid (BX1.out.below hbV BX1.out.lt)
  have KG := Lib.hid (KG.out.trans (hbV.mono KG.out.size))
  clear hV hbV
  have cBX10 := BX1.out.cell (i := 0) rfl
  have cBX11 := BX1.out.cell (i := 1) rfl
  have cBX1f := BX1.out.fz
  have cBX1l := BX1.out.lt
  have CT := Lib.hid (great1N (M := 200) BX4.out)
  rw [show ((200 : Nat) : Int) = 200 from rfl, show decide (200 < x1.n) = false from decide_eq_false (by have g0 : x1.n ≤ 200 := ((N1.out.below KG.out).len LZp1.out (by decide)); omega)] at CT
  with_reducible refine CT.out.mono ?_
  rintro e w6 ⟨rfl, hb⟩
  clear CT
  clear cBX10 cBX11 cBX1f cBX1l
  have BX1 := Lib.hid (BX1.out.below hb BX1.out.lt)
  clear BX4
  have KG := Lib.hid (KG.out.trans (hb.mono KG.out.size))
  clear hb
  go_wp2_with fail
  obtain ⟨v8, hV⟩ : ∃ V, V = w6.alloc (.cells #[.int .i64 s.size] 3) := ⟨_, rfl⟩
  have hbV : Below w6.heap.size w6 v8 := by rw [hV]; exact ((Below.refl _ _).alloc (Nat.le_refl _) _)
  have BX7 := Lib.hid (show Bxs v8 (w6.heap.size) 3 [.int .i64 s.size] by have h := Bxs.new (w6) 3 [.int .i64 s.size]; rw [hV]; exact h)
  rw [show w6.alloc (.cells #[.int .i64 s.size] 3) = v8 from hV.symm]
  have BX1 := Lib.hid (BX1.out.below hbV BX1.out.lt)
  have KG := Lib.hid (KG.out.trans (hbV.mono KG.out.size))
  clear hV hbV
  have CT := Lib.hid (beyond1 BX7.out HSM.out)
  rw [show decide (1048576 < s.size) = false from decide_eq_false HS.out] at CT
  with_reducible refine CT.out.mono ?_
  rintro e w9 ⟨rfl, hb⟩
  clear CT
  have BX1 := Lib.hid (BX1.out.below hb BX1.out.lt)
  clear BX7
  have KG := Lib.hid (KG.out.trans (hb.mono KG.out.size))
  clear hb
  have cBX10 := BX1.out.cell (i := 0) rfl
  have cBX11 := BX1.out.cell (i := 1) rfl
  have cBX1f := BX1.out.fz
  have cBX1l := BX1.out.lt
  go_wp2_with fail
  have CT := Lib.hid (textN (N1.out.below KG.out).any ((N1.out.below KG.out).len LZp1.out (by decide)) (HT.out.on KG.out))
  rw [show (⟨(Lib.itoa p1).toArray⟩ : ByteArray) = tb from HTB.out.symm] at CT
  with_reducible refine CT.out.mono ?_
  rintro e w10 ⟨rfl, hb⟩
  clear CT
  clear cBX10 cBX11 cBX1f cBX1l
  have BX1 := Lib.hid (BX1.out.below hb BX1.out.lt)
  have KG := Lib.hid (KG.out.trans (hb.mono KG.out.size))
  clear hb
  go_wp2_with fail
  have CT := Lib.hid (parse_k w10 HTM.out HZT.out HCT.out)
  with_reducible refine CT.out.mono ?_
  rintro e w11 ⟨x12, rfl, hN13, hb⟩
  have N13 := Lib.hid hN13
  clear hN13
  clear CT
  have BX1 := Lib.hid (BX1.out.below hb BX1.out.lt)
  have KG := Lib.hid (KG.out.trans (hb.mono KG.out.size))
  clear hb
  go_upto_region 5 with (fail)
  obtain ⟨v15, hV⟩ : ∃ V, V = w11.alloc (.cells #[.bool x12.s, .slice x12.a x12.n x12.c] 24) := ⟨_, rfl⟩
  have hbV : Below w11.heap.size w11 v15 := by rw [hV]; exact ((Below.refl _ _).alloc (Nat.le_refl _) _)
  have BX14 := Lib.hid (show Bxs v15 (w11.heap.size) 24 [.bool x12.s, .slice x12.a x12.n x12.c] by have h := Bxs.new (w11) 24 [.bool x12.s, .slice x12.a x12.n x12.c]; rw [hV]; exact h)
  rw [show w11.alloc (.cells #[.bool x12.s, .slice x12.a x12.n x12.c] 24) = v15 from hV.symm]
  have N13 := Lib.hid (N13.out.below hbV)
  have BX1 := Lib.hid (BX1.out.below hbV BX1.out.lt)
  have KG := Lib.hid (KG.out.trans (hbV.mono KG.out.size))
  clear hV hbV
  have cBX10 := BX1.out.cell (i := 0) rfl
  have cBX11 := BX1.out.cell (i := 1) rfl
  have cBX1f := BX1.out.fz
  have cBX1l := BX1.out.lt
  go_wp2_with fail
  have CT := Lib.hid (signN (N1.out.below KG.out).any ((N1.out.below KG.out).len LZp1.out (by decide)))
  rw [show cmpZ p1 0 = (-1) from cmpZ_lt HPZ.out] at CT
  with_reducible refine CT.out.mono ?_
  rintro e w16 ⟨rfl, hb⟩
  clear CT
  clear cBX10 cBX11 cBX1f cBX1l
  have N13 := Lib.hid (N13.out.below hb)
  have BX1 := Lib.hid (BX1.out.below hb BX1.out.lt)
  have BX14 := Lib.hid (BX14.out.below hb BX14.out.lt)
  have KG := Lib.hid (KG.out.trans (hb.mono KG.out.size))
  clear hb
  have cBX10 := BX1.out.cell (i := 0) rfl
  have cBX11 := BX1.out.cell (i := 1) rfl
  have cBX1f := BX1.out.fz
  have cBX1l := BX1.out.lt
  go_wp2_with fail
  have CT := Lib.hid (checkN (N1.out.below KG.out) ((N1.out.below KG.out).len LZp1.out (by decide)))
  with_reducible refine CT.out.mono ?_
  rintro e w17 ⟨rfl, hb⟩
  clear CT
  clear cBX10 cBX11 cBX1f cBX1l
  have N13 := Lib.hid (N13.out.below hb)
  have BX1 := Lib.hid (BX1.out.below hb BX1.out.lt)
  have BX14 := Lib.hid (BX14.out.below hb BX14.out.lt)
  have KG := Lib.hid (KG.out.trans (hb.mono KG.out.size))
  clear hb
  have cBX140 := BX14.out.cell (i := 0) rfl
  have cBX141 := BX14.out.cell (i := 1) rfl
  have cBX14f := BX14.out.fz
  have cBX14l := BX14.out.lt
  have cBX10 := BX1.out.cell (i := 0) rfl
  have cBX11 := BX1.out.cell (i := 1) rfl
  have cBX1f := BX1.out.fz
  have cBX1l := BX1.out.lt
  go_wp2_with fail
  have CT := Lib.hid (sameTN N13.out.k (N13.out.k.len LZp1.out (by decide)) (N1.out.below KG.out) ((N1.out.below KG.out).len LZp1.out (by decide)) (rfl))
  with_reducible refine CT.out.mono ?_
  rintro e w18 ⟨rfl, hb⟩
  clear CT
  clear cBX140 cBX141 cBX14f cBX14l
  clear cBX10 cBX11 cBX1f cBX1l
  clear N13
  have BX1 := Lib.hid (BX1.out.below hb BX1.out.lt)
  clear BX14
  have KG := Lib.hid (KG.out.trans (hb.mono KG.out.size))
  clear hb
  have cBX10 := BX1.out.cell (i := 0) rfl
  have cBX11 := BX1.out.cell (i := 1) rfl
  have cBX1f := BX1.out.fz
  have cBX1l := BX1.out.lt
  go_wp2_with fail
  have CT := Lib.hid (checkN (N1.out.below KG.out) ((N1.out.below KG.out).len LZp1.out (by decide)))
  with_reducible refine CT.out.mono ?_
  rintro e w19 ⟨rfl, hb⟩
  clear CT
  clear cBX10 cBX11 cBX1f cBX1l
  clear BX1
  have KG := Lib.hid (KG.out.trans (hb.mono KG.out.size))
  clear hb
  go_wp2_with fail
  have CT := Lib.hid (parse_k w19 HSM.out HZS.out.symm HC.out)
  with_reducible refine CT.out.mono ?_
  rintro e w20 ⟨x21, rfl, hN22, hb⟩
  have N22 := Lib.hid hN22
  clear hN22
  clear CT
  have KG := Lib.hid (KG.out.trans (hb.mono KG.out.size))
  clear hb
  go_upto_region 11 with (fail)
  obtain ⟨v24, hV⟩ : ∃ V, V = w20.alloc (.cells #[.bool x21.s, .slice x21.a x21.n x21.c] 24) := ⟨_, rfl⟩
  have hbV : Below w20.heap.size w20 v24 := by rw [hV]; exact ((Below.refl _ _).alloc (Nat.le_refl _) _)
  have BX23 := Lib.hid (show Bxs v24 (w20.heap.size) 24 [.bool x21.s, .slice x21.a x21.n x21.c] by have h := Bxs.new (w20) 24 [.bool x21.s, .slice x21.a x21.n x21.c]; rw [hV]; exact h)
  rw [show w20.alloc (.cells #[.bool x21.s, .slice x21.a x21.n x21.c] 24) = v24 from hV.symm]
  have N22 := Lib.hid (N22.out.below hbV)
  have KG := Lib.hid (KG.out.trans (hbV.mono KG.out.size))
  clear hV hbV
  go_wp2_with fail
  have CT := Lib.hid (parse_k v24 HHM.out HZH.out HHC.out)
  with_reducible refine CT.out.mono ?_
  rintro e w25 ⟨x26, rfl, hN27, hb⟩
  have N27 := Lib.hid hN27
  clear hN27
  clear CT
  have N22 := Lib.hid (N22.out.below hb)
  have BX23 := Lib.hid (BX23.out.below hb BX23.out.lt)
  have KG := Lib.hid (KG.out.trans (hb.mono KG.out.size))
  clear hb
  clear N27
  go_upto_region 14 with (fail)
  obtain ⟨v29, hV⟩ : ∃ V, V = w25.alloc (.cells #[.bool x26.s, .slice x26.a x26.n x26.c] 24) := ⟨_, rfl⟩
  have hbV : Below w25.heap.size w25 v29 := by rw [hV]; exact ((Below.refl _ _).alloc (Nat.le_refl _) _)
  have BX28 := Lib.hid (show Bxs v29 (w25.heap.size) 24 [.bool x26.s, .slice x26.a x26.n x26.c] by have h := Bxs.new (w25) 24 [.bool x26.s, .slice x26.a x26.n x26.c]; rw [hV]; exact h)
  rw [show w25.alloc (.cells #[.bool x26.s, .slice x26.a x26.n x26.c] 24) = v29 from hV.symm]
  have N22 := Lib.hid (N22.out.below hbV)
  have BX23 := Lib.hid (BX23.out.below hbV BX23.out.lt)
  have KG := Lib.hid (KG.out.trans (hbV.mono KG.out.size))
  clear hV hbV
  clear BX28
  have cBX230 := BX23.out.cell (i := 0) rfl
  have cBX231 := BX23.out.cell (i := 1) rfl
  have cBX23f := BX23.out.fz
  have cBX23l := BX23.out.lt
  go_wp2_with fail
  have CT := Lib.hid (checkN N22.out.k (N22.out.k.len LZzs.out (by decide)))
  with_reducible refine CT.out.mono ?_
  rintro e w30 ⟨rfl, hb⟩
  clear CT
  clear cBX230 cBX231 cBX23f cBX23l
  have N22 := Lib.hid (N22.out.below hb)
  have BX23 := Lib.hid (BX23.out.below hb BX23.out.lt)
  have KG := Lib.hid (KG.out.trans (hb.mono KG.out.size))
  clear hb
  have cBX230 := BX23.out.cell (i := 0) rfl
  have cBX231 := BX23.out.cell (i := 1) rfl
  have cBX23f := BX23.out.fz
  have cBX23l := BX23.out.lt
  go_wp2_with fail
  have CT := Lib.hid (textN N22.out.k.any (N22.out.k.len LZzs.out (by decide)) (HT.out.on KG.out))
  rw [show (⟨(Lib.itoa zs).toArray⟩ : ByteArray) = s from HBK.out] at CT
  with_reducible refine CT.out.mono ?_
  rintro e w31 ⟨rfl, hb⟩
  clear CT
  clear cBX230 cBX231 cBX23f cBX23l
  have N22 := Lib.hid (N22.out.below hb)
  have BX23 := Lib.hid (BX23.out.below hb BX23.out.lt)
  have KG := Lib.hid (KG.out.trans (hb.mono KG.out.size))
  clear hb
  go_upto_region 16 with (fail)
  refine Go.FreshS.wp_region_fresh 22 [] (Go.FreshS.spOf [(1, Go.FreshS.Sp.know (.int .i64 s2)), (15, Go.FreshS.Sp.know (.int .i64 s2))])
    (fun w' => Below w31.heap.size w31 w') (by kernel_rfl) (by kernel_rfl) (by kernel_rfl)
    (Go.FreshS.spOf_cons (Go.FreshS.Sp.know_keeps _ _) (Go.FreshS.spOf_cons (Go.FreshS.Sp.know_keeps _ _) (Go.FreshS.spOf_nil))) (fun _ _ h hb => h.trans (hb.mono h.size)) ((Below.refl _ _).drew) ?_
  simp only [List.append_eq, List.cons_append, List.nil_append, List.take_succ_cons, List.take_zero, List.drop_succ_cons, List.drop_zero]
  refine Go.FreshS.wpF_reads rfl rfl rfl ?_ (fun w' hw' => ?_) ?_
  rotate_left
  · have hb' := hw'.world
    have hs0 := (BX23.out.below hb' BX23.out.lt).cell (i := 0) rfl
    have hs1 := (BX23.out.below hb' BX23.out.lt).cell (i := 1) rfl
    have hsf := (BX23.out.below hb' BX23.out.lt).fz
    have hsl := (BX23.out.below hb' BX23.out.lt).lt
    clear hw'
    go_simp
    try rfl
  conv => arg 10; simp only [Act.put, List.setIfInBounds_toArray, List.set_cons_succ, List.set_cons_zero]
  refine Go.FreshS.wpF_spec rfl rfl rfl (fun w' hw' => ?_) ?_
  · have hb' := hw'.world
    refine Go.FreshS.gives_of (Go.FreshS.PK (.int .i64 s2)) ?_ (fun _ _ h => h.post)
    go_simp
    have CT := signN (N22.out.below hb').k.any ((N22.out.below hb').k.len LZzs.out (by decide))
    rw [show cmpZ zs 0 = s2 from HS2.out] at CT
    refine CT.mono ?_
    rintro e w'' ⟨rfl, hb⟩
    exact ⟨_, rfl, rfl, hb⟩
  rintro _ rfl
  conv => arg 10; simp only [Act.put, List.setIfInBounds_toArray, List.set_cons_succ, List.set_cons_zero]
  refine Go.FreshS.wpF_reads rfl rfl rfl ?_ (fun w' hw' => ?_) ?_
  rotate_left
  · have hb' := hw'.world
    skip
    clear hw'
    go_simp
    try rfl
  conv => arg 10; simp only [Act.put, List.setIfInBounds_toArray, List.set_cons_succ, List.set_cons_zero]
  refine Go.FreshS.wpF_reads rfl rfl rfl ?_ (fun w' hw' => ?_) ?_
  rotate_left
  · have hb' := hw'.world
    skip
    clear hw'
    go_simp
    try rfl
  conv => arg 10; simp only [Act.put, List.setIfInBounds_toArray, List.set_cons_succ, List.set_cons_zero]
  refine Go.FreshS.wpF_skip (by rfl) rfl ?_
  conv => arg 10; simp only [Act.put, List.setIfInBounds_toArray, List.set_cons_succ, List.set_cons_zero]
  refine Go.FreshS.wpF_skip (by rfl) rfl ?_
  conv => arg 10; simp only [Act.put, List.setIfInBounds_toArray, List.set_cons_succ, List.set_cons_zero]
  refine Go.FreshS.wpF_reads rfl rfl rfl ?_ (fun w' hw' => ?_) ?_
  rotate_left
  · have hb' := hw'.world
    skip
    clear hw'
    go_simp
    try rfl
  conv => arg 10; simp only [Act.put, List.setIfInBounds_toArray, List.set_cons_succ, List.set_cons_zero]
  refine Go.FreshS.wpF_reads rfl rfl rfl ?_ (fun w' hw' => ?_) ?_
  rotate_left
  · have hb' := hw'.world
    skip
    clear hw'
    go_simp
    try rfl
  conv => arg 10; simp only [Act.put, List.setIfInBounds_toArray, List.set_cons_succ, List.set_cons_zero]
  refine Go.FreshS.wpF_skip (by rfl) rfl ?_
  conv => arg 10; simp only [Act.put, List.setIfInBounds_toArray, List.set_cons_succ, List.set_cons_zero]
  refine Go.FreshS.wpF_skip (by rfl) rfl ?_
  conv => arg 10; simp only [Act.put, List.setIfInBounds_toArray, List.set_cons_succ, List.set_cons_zero]
  refine Go.FreshS.wpF_skip (by rfl) rfl ?_
  conv => arg 10; simp only [Act.put, List.setIfInBounds_toArray, List.set_cons_succ, List.set_cons_zero]
  refine Go.FreshS.wpF_skip (by rfl) rfl ?_
  conv => arg 10; simp only [Act.put, List.setIfInBounds_toArray, List.set_cons_succ, List.set_cons_zero]
  refine Go.FreshS.wpF_reads rfl rfl rfl ?_ (fun w' hw' => ?_) ?_
  rotate_left
  · have hb' := hw'.world
    skip
    clear hw'
    go_simp
    try rfl
  conv => arg 10; simp only [Act.put, List.setIfInBounds_toArray, List.set_cons_succ, List.set_cons_zero]
  refine Go.FreshS.wpF_reads rfl rfl rfl ?_ (fun w' hw' => ?_) ?_
  rotate_left
  · have hb' := hw'.world
    skip
    clear hw'
    go_simp
    try rfl
  conv => arg 10; simp only [Act.put, List.setIfInBounds_toArray, List.set_cons_succ, List.set_cons_zero]
  refine Go.FreshS.wpF_readsG (by rfl) rfl rfl ?_ (fun w' hw' => ?_) ?_
  rotate_left
  · have hb' := hw'.world
    have hs0 := (BX23.out.below hb' BX23.out.lt).cell (i := 0) rfl
    have hs1 := (BX23.out.below hb' BX23.out.lt).cell (i := 1) rfl
    have hsf := (BX23.out.below hb' BX23.out.lt).fz
    have hsl := (BX23.out.below hb' BX23.out.lt).lt
    clear hw'
    go_simp
    try rfl
  conv => arg 10; simp only [Act.put, List.setIfInBounds_toArray, List.set_cons_succ, List.set_cons_zero]
  refine Go.FreshS.wpF_gspec (by rfl) rfl rfl (fun w' hw' => ?_) ?_
  · have hb' := hw'.world
    refine Go.FreshS.gives_of (Go.FreshS.PK (.int .i64 s2)) ?_ (fun _ _ h => h.post)
    go_simp
    have CT := signN (N22.out.below hb').k.any ((N22.out.below hb').k.len LZzs.out (by decide))
    rw [show cmpZ zs 0 = s2 from HS2.out] at CT
    refine CT.mono ?_
    rintro e w'' ⟨rfl, hb⟩
    exact ⟨_, rfl, rfl, hb⟩
  rintro _ rfl
  conv => arg 10; simp only [Act.put, List.setIfInBounds_toArray, List.set_cons_succ, List.set_cons_zero]
  refine Go.FreshS.wpF_readsG (by rfl) rfl rfl ?_ (fun w' hw' => ?_) ?_
  rotate_left
  · have hb' := hw'.world
    skip
    clear hw'
    go_simp
    try rfl
  conv => arg 10; simp only [Act.put, List.setIfInBounds_toArray, List.set_cons_succ, List.set_cons_zero]
  refine Go.FreshS.wpF_readsG (by rfl) rfl rfl ?_ (fun w' hw' => ?_) ?_
  rotate_left
  · have hb' := hw'.world
    skip
    clear hw'
    go_simp
    try rfl
  conv => arg 10; simp only [Act.put, List.setIfInBounds_toArray, List.set_cons_succ, List.set_cons_zero]
  refine Go.FreshS.wpF_readsG (by rfl) rfl rfl ?_ (fun w' hw' => ?_) ?_
  rotate_left
  · have hb' := hw'.world
    skip
    clear hw'
    go_simp
    try rfl
  conv => arg 10; simp only [Act.put, List.setIfInBounds_toArray, List.set_cons_succ, List.set_cons_zero]
  refine Go.FreshS.wpF_readsG (by rfl) rfl rfl ?_ (fun w' hw' => ?_) ?_
  rotate_left
  · have hb' := hw'.world
    skip
    clear hw'
    go_simp
    try rfl
  conv => arg 10; simp only [Act.put, List.setIfInBounds_toArray, List.set_cons_succ, List.set_cons_zero]
  refine Go.FreshS.wpF_readsG (by rfl) rfl rfl ?_ (fun w' hw' => ?_) ?_
  rotate_left
  · have hb' := hw'.world
    skip
    clear hw'
    go_simp
    try rfl
  conv => arg 10; simp only [Act.put, List.setIfInBounds_toArray, List.set_cons_succ, List.set_cons_zero]
  refine Go.FreshS.wpF_reads rfl rfl rfl ?_ (fun w' hw' => ?_) ?_
  rotate_left
  · have hb' := hw'.world
    skip
    clear hw'
    go_simp
    try rfl
  conv => arg 10; simp only [Act.put, List.setIfInBounds_toArray, List.set_cons_succ, List.set_cons_zero]
  refine Go.FreshS.wpF_nil (fun w32 hb hF => ?_)
  clear hF
  clear N22
  clear BX23
  have KG := Lib.hid (KG.out.trans (hb.mono KG.out.size))
  clear hb
  go_wp2_with fail
  go_ret
  exact ⟨rfl, KG.out⟩
set_option maxRecDepth 100000 in
set_option maxHeartbeats 16000000 in
theorem read_ns_c3 (x1 : NV) (p1 : Int) (s : ByteArray) (w : World) (htab : Tab w) (h1 : KN w x1 p1) (b1 : x1.n ≤ 200) (hsm : s.size ≤ 9223372036854775807) (hs : ¬ 1048576 < s.size) (hz : p1 < 0) (hd : Lib.nDigits p1.natAbs ≤ 200) (hc : codeT s.data.toList = 3) (hz0 : numT s.data.toList = 0) : Calls Tryz.prog 5 #[x1.v, .string s] w fun e w' => e = .returned (.bool true) ∧ Below w.heap.size w w' := by
  have HT := Lib.hid htab
  have KG := Lib.hid (Below.refl w.heap.size w)
  have N1 := Lib.hid h1
  have LZp1 := Lib.hid (show lenB p1.natAbs ≤ 200 by have := h1.n; omega)
  have HSM := Lib.hid hsm
  have HS := Lib.hid hs
  obtain ⟨tb, htb⟩ : ∃ t : ByteArray, t = ⟨(Lib.itoa p1).toArray⟩ := ⟨_, rfl⟩
  have HTB := Lib.hid htb
  have htl : tb.size = (Lib.itoa p1).length := by rw [htb]; exact tb_size _
  have htd : tb.data.toList = Lib.itoa p1 := by rw [htb]
  have hil := itoa_len_eq p1
  have hle := itoa_len (z := p1) (k := 200) LZp1.out
  rw [if_pos hz] at hil
  have HTM := Lib.hid (show tb.size ≤ 9223372036854775807 by omega)
  have HPZ := Lib.hid hz
  obtain ⟨dg, hdg⟩ : ∃ d : Int, d = (tb.size : Int) - 1 := ⟨_, rfl⟩
  have edg : IntKind.i64.wrap ((tb.size : Int) - 1) = dg := by rw [hdg]; exact IntWalk.i64_in _ (by omega)
  have gt : dg ≤ 200 := by omega
  have HCT := Lib.hid (show codeT tb.data.toList = 0 by rw [htd, codeT_itoa, if_neg (by omega)])
  have HZT := Lib.hid (show numT tb.data.toList = p1 by rw [htd]; exact numT_itoa hd)
  have HC := Lib.hid hc
  have HZ0 := Lib.hid hz0
  clear hs htb htl htd hz hd hil hle hdg hc hz0
  clear htab h1 hsm b1
  go_enter Tryz.func5, Tryz.ntmps5
  go_upto_region 1 with (fail)
  obtain ⟨v2, hV⟩ : ∃ V, V = w.alloc (.cells #[.bool x1.s, .slice x1.a x1.n x1.c] 24) := ⟨_, rfl⟩
  have hbV : Below w.heap.size w v2 := by rw [hV]; exact ((Below.refl _ _).alloc (Nat.le_refl _) _)
  have BX1 := Lib.hid (show Bxs v2 (w.heap.size) 24 [.bool x1.s, .slice x1.a x1.n x1.c] by have h := Bxs.new (w) 24 [.bool x1.s, .slice x1.a x1.n x1.c]; rw [hV]; exact h)
  rw [show w.alloc (.cells #[.bool x1.s, .slice x1.a x1.n x1.c] 24) = v2 from hV.symm]
  have KG := Lib.hid (KG.out.trans (hbV.mono KG.out.size))
  clear hV hbV
  go_wp2_with fail
  have CT := Lib.hid (alive_true v2 (HT.out.on KG.out))
  with_reducible refine CT.out.mono ?_
  rintro e w3 ⟨rfl, hb⟩
  clear CT
  have BX1 := Lib.hid (BX1.out.below hb BX1.out.lt)
  have KG := Lib.hid (KG.out.trans (hb.mono KG.out.size))
  clear hb
  have cBX10 := BX1.out.cell (i := 0) rfl
  have cBX11 := BX1.out.cell (i := 1) rfl
  have cBX1f := BX1.out.fz
  have cBX1l := BX1.out.lt
  go_wp2_with fail
  clear cBX10 cBX11 cBX1f cBX1l
  obtain ⟨v5, hV⟩ : ∃ V, V = w3.alloc (.cells #[.bool x1.s, .slice x1.a x1.n x1.c] 24) := ⟨_, rfl⟩
  have hbV : Below w3.heap.size w3 v5 := by rw [hV]; exact ((Below.refl _ _).alloc (Nat.le_refl _) _)
  have BX4 := Lib.hid (show Bxs v5 (w3.heap.size) 24 [.bool x1.s, .slice x1.a x1.n x1.c] by have h := Bxs.new (w3) 24 [.bool x1.s, .slice x1.a x1.n x1.c]; rw [hV]; exact h)
  rw [show w3.alloc (.cells #[.bool x1.s, .slice x1.a x1.n x1.c] 24) = v5 from hV.symm]
  have BX1 := Lib.hid (BX1.out.below hbV BX1.out.lt)
  have KG := Lib.hid (KG.out.trans (hbV.mono KG.out.size))
  clear hV hbV
  have cBX10 := BX1.out.cell (i := 0) rfl
  have cBX11 := BX1.out.cell (i := 1) rfl
  have cBX1f := BX1.out.fz
  have cBX1l := BX1.out.lt
  have CT := Lib.hid (great1N (M := 200) BX4.out)
  rw [show ((200 : Nat) : Int) = 200 from rfl, show decide (200 < x1.n) = false from decide_eq_false (by have g0 : x1.n ≤ 200 := ((N1.out.below KG.out).len LZp1.out (by decide)); omega)] at CT
  with_reducible refine CT.out.mono ?_
  rintro e w6 ⟨rfl, hb⟩
  clear CT
  clear cBX10 cBX11 cBX1f cBX1l
  have BX1 := Lib.hid (BX1.out.below hb BX1.out.lt)
  clear BX4
  have KG := Lib.hid (KG.out.trans (hb.mono KG.out.size))
  clear hb
  go_wp2_with fail
  obtain ⟨v8, hV⟩ : ∃ V, V = w6.alloc (.cells #[.int .i64 s.size] 3) := ⟨_, rfl⟩
  have hbV : Below w6.heap.size w6 v8 := by rw [hV]; exact ((Below.refl _ _).alloc (Nat.le_refl _) _)
  have BX7 := Lib.hid (show Bxs v8 (w6.heap.size) 3 [.int .i64 s.size] by have h := Bxs.new (w6) 3 [.int .i64 s.size]; rw [hV]; exact h)
  rw [show w6.alloc (.cells #[.int .i64 s.size] 3) = v8 from hV.symm]
  have BX1 := Lib.hid (BX1.out.below hbV BX1.out.lt)
  have KG := Lib.hid (KG.out.trans (hbV.mono KG.out.size))
  clear hV hbV
  have CT := Lib.hid (beyond1 BX7.out HSM.out)
  rw [show decide (1048576 < s.size) = false from decide_eq_false HS.out] at CT
  with_reducible refine CT.out.mono ?_
  rintro e w9 ⟨rfl, hb⟩
  clear CT
  have BX1 := Lib.hid (BX1.out.below hb BX1.out.lt)
  clear BX7
  have KG := Lib.hid (KG.out.trans (hb.mono KG.out.size))
  clear hb
  have cBX10 := BX1.out.cell (i := 0) rfl
  have cBX11 := BX1.out.cell (i := 1) rfl
  have cBX1f := BX1.out.fz
  have cBX1l := BX1.out.lt
  go_wp2_with fail
  have CT := Lib.hid (textN (N1.out.below KG.out).any ((N1.out.below KG.out).len LZp1.out (by decide)) (HT.out.on KG.out))
  rw [show (⟨(Lib.itoa p1).toArray⟩ : ByteArray) = tb from HTB.out.symm] at CT
  with_reducible refine CT.out.mono ?_
  rintro e w10 ⟨rfl, hb⟩
  clear CT
  clear cBX10 cBX11 cBX1f cBX1l
  have BX1 := Lib.hid (BX1.out.below hb BX1.out.lt)
  have KG := Lib.hid (KG.out.trans (hb.mono KG.out.size))
  clear hb
  go_wp2_with fail
  have CT := Lib.hid (parse_k w10 HTM.out HZT.out HCT.out)
  with_reducible refine CT.out.mono ?_
  rintro e w11 ⟨x12, rfl, hN13, hb⟩
  have N13 := Lib.hid hN13
  clear hN13
  clear CT
  have BX1 := Lib.hid (BX1.out.below hb BX1.out.lt)
  have KG := Lib.hid (KG.out.trans (hb.mono KG.out.size))
  clear hb
  go_upto_region 5 with (fail)
  obtain ⟨v15, hV⟩ : ∃ V, V = w11.alloc (.cells #[.bool x12.s, .slice x12.a x12.n x12.c] 24) := ⟨_, rfl⟩
  have hbV : Below w11.heap.size w11 v15 := by rw [hV]; exact ((Below.refl _ _).alloc (Nat.le_refl _) _)
  have BX14 := Lib.hid (show Bxs v15 (w11.heap.size) 24 [.bool x12.s, .slice x12.a x12.n x12.c] by have h := Bxs.new (w11) 24 [.bool x12.s, .slice x12.a x12.n x12.c]; rw [hV]; exact h)
  rw [show w11.alloc (.cells #[.bool x12.s, .slice x12.a x12.n x12.c] 24) = v15 from hV.symm]
  have N13 := Lib.hid (N13.out.below hbV)
  have BX1 := Lib.hid (BX1.out.below hbV BX1.out.lt)
  have KG := Lib.hid (KG.out.trans (hbV.mono KG.out.size))
  clear hV hbV
  have cBX10 := BX1.out.cell (i := 0) rfl
  have cBX11 := BX1.out.cell (i := 1) rfl
  have cBX1f := BX1.out.fz
  have cBX1l := BX1.out.lt
  go_wp2_with fail
  have CT := Lib.hid (signN (N1.out.below KG.out).any ((N1.out.below KG.out).len LZp1.out (by decide)))
  rw [show cmpZ p1 0 = (-1) from cmpZ_lt HPZ.out] at CT
  with_reducible refine CT.out.mono ?_
  rintro e w16 ⟨rfl, hb⟩
  clear CT
  clear cBX10 cBX11 cBX1f cBX1l
  have N13 := Lib.hid (N13.out.below hb)
  have BX1 := Lib.hid (BX1.out.below hb BX1.out.lt)
  have BX14 := Lib.hid (BX14.out.below hb BX14.out.lt)
  have KG := Lib.hid (KG.out.trans (hb.mono KG.out.size))
  clear hb
  have cBX10 := BX1.out.cell (i := 0) rfl
  have cBX11 := BX1.out.cell (i := 1) rfl
  have cBX1f := BX1.out.fz
  have cBX1l := BX1.out.lt
  go_wp2_with fail
  have CT := Lib.hid (checkN (N1.out.below KG.out) ((N1.out.below KG.out).len LZp1.out (by decide)))
  with_reducible refine CT.out.mono ?_
  rintro e w17 ⟨rfl, hb⟩
  clear CT
  clear cBX10 cBX11 cBX1f cBX1l
  have N13 := Lib.hid (N13.out.below hb)
  have BX1 := Lib.hid (BX1.out.below hb BX1.out.lt)
  have BX14 := Lib.hid (BX14.out.below hb BX14.out.lt)
  have KG := Lib.hid (KG.out.trans (hb.mono KG.out.size))
  clear hb
  have cBX140 := BX14.out.cell (i := 0) rfl
  have cBX141 := BX14.out.cell (i := 1) rfl
  have cBX14f := BX14.out.fz
  have cBX14l := BX14.out.lt
  have cBX10 := BX1.out.cell (i := 0) rfl
  have cBX11 := BX1.out.cell (i := 1) rfl
  have cBX1f := BX1.out.fz
  have cBX1l := BX1.out.lt
  go_wp2_with fail
  have CT := Lib.hid (sameTN N13.out.k (N13.out.k.len LZp1.out (by decide)) (N1.out.below KG.out) ((N1.out.below KG.out).len LZp1.out (by decide)) (rfl))
  with_reducible refine CT.out.mono ?_
  rintro e w18 ⟨rfl, hb⟩
  clear CT
  clear cBX140 cBX141 cBX14f cBX14l
  clear cBX10 cBX11 cBX1f cBX1l
  clear N13
  have BX1 := Lib.hid (BX1.out.below hb BX1.out.lt)
  clear BX14
  have KG := Lib.hid (KG.out.trans (hb.mono KG.out.size))
  clear hb
  have cBX10 := BX1.out.cell (i := 0) rfl
  have cBX11 := BX1.out.cell (i := 1) rfl
  have cBX1f := BX1.out.fz
  have cBX1l := BX1.out.lt
  go_wp2_with fail
  have CT := Lib.hid (checkN (N1.out.below KG.out) ((N1.out.below KG.out).len LZp1.out (by decide)))
  with_reducible refine CT.out.mono ?_
  rintro e w19 ⟨rfl, hb⟩
  clear CT
  clear cBX10 cBX11 cBX1f cBX1l
  clear BX1
  have KG := Lib.hid (KG.out.trans (hb.mono KG.out.size))
  clear hb
  go_wp2_with fail
  have CT := Lib.hid (parse_0 w19 HSM.out HZ0.out HC.out)
  with_reducible refine CT.out.mono ?_
  rintro e w20 ⟨x21, rfl, hb⟩
  clear CT
  have KG := Lib.hid (KG.out.trans (hb.mono KG.out.size))
  clear hb
  go_upto_region 11 with (fail)
  obtain ⟨v23, hV⟩ : ∃ V, V = w20.alloc (.cells #[.bool false, .slice x21.1 0 x21.2] 24) := ⟨_, rfl⟩
  have hbV : Below w20.heap.size w20 v23 := by rw [hV]; exact ((Below.refl _ _).alloc (Nat.le_refl _) _)
  have BX22 := Lib.hid (show Bxs v23 (w20.heap.size) 24 [.bool false, .slice x21.1 0 x21.2] by have h := Bxs.new (w20) 24 [.bool false, .slice x21.1 0 x21.2]; rw [hV]; exact h)
  rw [show w20.alloc (.cells #[.bool false, .slice x21.1 0 x21.2] 24) = v23 from hV.symm]
  have KG := Lib.hid (KG.out.trans (hbV.mono KG.out.size))
  clear hV hbV
  have cBX220 := BX22.out.cell (i := 0) rfl
  have cBX221 := BX22.out.cell (i := 1) rfl
  have cBX22f := BX22.out.fz
  have cBX22l := BX22.out.lt
  go_wp2_with fail
  go_ret
  exact ⟨rfl, KG.out⟩
set_option maxRecDepth 100000 in
set_option maxHeartbeats 16000000 in
theorem read_ns_c4 (x1 : NV) (p1 : Int) (s : ByteArray) (w : World) (htab : Tab w) (h1 : KN w x1 p1) (b1 : x1.n ≤ 200) (hsm : s.size ≤ 9223372036854775807) (hs : ¬ 1048576 < s.size) (hz : p1 < 0) (hd : Lib.nDigits p1.natAbs ≤ 200) (hc : codeT s.data.toList = 4) (hz0 : numT s.data.toList = 0) : Calls Tryz.prog 5 #[x1.v, .string s] w fun e w' => e = .returned (.bool true) ∧ Below w.heap.size w w' := by
  have HT := Lib.hid htab
  have KG := Lib.hid (Below.refl w.heap.size w)
  have N1 := Lib.hid h1
  have LZp1 := Lib.hid (show lenB p1.natAbs ≤ 200 by have := h1.n; omega)
  have HSM := Lib.hid hsm
  have HS := Lib.hid hs
  obtain ⟨tb, htb⟩ : ∃ t : ByteArray, t = ⟨(Lib.itoa p1).toArray⟩ := ⟨_, rfl⟩
  have HTB := Lib.hid htb
  have htl : tb.size = (Lib.itoa p1).length := by rw [htb]; exact tb_size _
  have htd : tb.data.toList = Lib.itoa p1 := by rw [htb]
  have hil := itoa_len_eq p1
  have hle := itoa_len (z := p1) (k := 200) LZp1.out
  rw [if_pos hz] at hil
  have HTM := Lib.hid (show tb.size ≤ 9223372036854775807 by omega)
  have HPZ := Lib.hid hz
  obtain ⟨dg, hdg⟩ : ∃ d : Int, d = (tb.size : Int) - 1 := ⟨_, rfl⟩
  have edg : IntKind.i64.wrap ((tb.size : Int) - 1) = dg := by rw [hdg]; exact IntWalk.i64_in _ (by omega)
  have gt : dg ≤ 200 := by omega
  have HCT := Lib.hid (show codeT tb.data.toList = 0 by rw [htd, codeT_itoa, if_neg (by omega)])
  have HZT := Lib.hid (show numT tb.data.toList = p1 by rw [htd]; exact numT_itoa hd)
  have HC := Lib.hid hc
  have HZ0 := Lib.hid hz0
  clear hs htb htl htd hz hd hil hle hdg hc hz0
  clear htab h1 hsm b1
  go_enter Tryz.func5, Tryz.ntmps5
  go_upto_region 1 with (fail)
  obtain ⟨v2, hV⟩ : ∃ V, V = w.alloc (.cells #[.bool x1.s, .slice x1.a x1.n x1.c] 24) := ⟨_, rfl⟩
  have hbV : Below w.heap.size w v2 := by rw [hV]; exact ((Below.refl _ _).alloc (Nat.le_refl _) _)
  have BX1 := Lib.hid (show Bxs v2 (w.heap.size) 24 [.bool x1.s, .slice x1.a x1.n x1.c] by have h := Bxs.new (w) 24 [.bool x1.s, .slice x1.a x1.n x1.c]; rw [hV]; exact h)
  rw [show w.alloc (.cells #[.bool x1.s, .slice x1.a x1.n x1.c] 24) = v2 from hV.symm]
  have KG := Lib.hid (KG.out.trans (hbV.mono KG.out.size))
  clear hV hbV
  go_wp2_with fail
  have CT := Lib.hid (alive_true v2 (HT.out.on KG.out))
  with_reducible refine CT.out.mono ?_
  rintro e w3 ⟨rfl, hb⟩
  clear CT
  have BX1 := Lib.hid (BX1.out.below hb BX1.out.lt)
  have KG := Lib.hid (KG.out.trans (hb.mono KG.out.size))
  clear hb
  have cBX10 := BX1.out.cell (i := 0) rfl
  have cBX11 := BX1.out.cell (i := 1) rfl
  have cBX1f := BX1.out.fz
  have cBX1l := BX1.out.lt
  go_wp2_with fail
  clear cBX10 cBX11 cBX1f cBX1l
  obtain ⟨v5, hV⟩ : ∃ V, V = w3.alloc (.cells #[.bool x1.s, .slice x1.a x1.n x1.c] 24) := ⟨_, rfl⟩
  have hbV : Below w3.heap.size w3 v5 := by rw [hV]; exact ((Below.refl _ _).alloc (Nat.le_refl _) _)
  have BX4 := Lib.hid (show Bxs v5 (w3.heap.size) 24 [.bool x1.s, .slice x1.a x1.n x1.c] by have h := Bxs.new (w3) 24 [.bool x1.s, .slice x1.a x1.n x1.c]; rw [hV]; exact h)
  rw [show w3.alloc (.cells #[.bool x1.s, .slice x1.a x1.n x1.c] 24) = v5 from hV.symm]
  have BX1 := Lib.hid (BX1.out.below hbV BX1.out.lt)
  have KG := Lib.hid (KG.out.trans (hbV.mono KG.out.size))
  clear hV hbV
  have cBX10 := BX1.out.cell (i := 0) rfl
  have cBX11 := BX1.out.cell (i := 1) rfl
  have cBX1f := BX1.out.fz
  have cBX1l := BX1.out.lt
  have CT := Lib.hid (great1N (M := 200) BX4.out)
  rw [show ((200 : Nat) : Int) = 200 from rfl, show decide (200 < x1.n) = false from decide_eq_false (by have g0 : x1.n ≤ 200 := ((N1.out.below KG.out).len LZp1.out (by decide)); omega)] at CT
  with_reducible refine CT.out.mono ?_
  rintro e w6 ⟨rfl, hb⟩
  clear CT
  clear cBX10 cBX11 cBX1f cBX1l
  have BX1 := Lib.hid (BX1.out.below hb BX1.out.lt)
  clear BX4
  have KG := Lib.hid (KG.out.trans (hb.mono KG.out.size))
  clear hb
  go_wp2_with fail
  obtain ⟨v8, hV⟩ : ∃ V, V = w6.alloc (.cells #[.int .i64 s.size] 3) := ⟨_, rfl⟩
  have hbV : Below w6.heap.size w6 v8 := by rw [hV]; exact ((Below.refl _ _).alloc (Nat.le_refl _) _)
  have BX7 := Lib.hid (show Bxs v8 (w6.heap.size) 3 [.int .i64 s.size] by have h := Bxs.new (w6) 3 [.int .i64 s.size]; rw [hV]; exact h)
  rw [show w6.alloc (.cells #[.int .i64 s.size] 3) = v8 from hV.symm]
  have BX1 := Lib.hid (BX1.out.below hbV BX1.out.lt)
  have KG := Lib.hid (KG.out.trans (hbV.mono KG.out.size))
  clear hV hbV
  have CT := Lib.hid (beyond1 BX7.out HSM.out)
  rw [show decide (1048576 < s.size) = false from decide_eq_false HS.out] at CT
  with_reducible refine CT.out.mono ?_
  rintro e w9 ⟨rfl, hb⟩
  clear CT
  have BX1 := Lib.hid (BX1.out.below hb BX1.out.lt)
  clear BX7
  have KG := Lib.hid (KG.out.trans (hb.mono KG.out.size))
  clear hb
  have cBX10 := BX1.out.cell (i := 0) rfl
  have cBX11 := BX1.out.cell (i := 1) rfl
  have cBX1f := BX1.out.fz
  have cBX1l := BX1.out.lt
  go_wp2_with fail
  have CT := Lib.hid (textN (N1.out.below KG.out).any ((N1.out.below KG.out).len LZp1.out (by decide)) (HT.out.on KG.out))
  rw [show (⟨(Lib.itoa p1).toArray⟩ : ByteArray) = tb from HTB.out.symm] at CT
  with_reducible refine CT.out.mono ?_
  rintro e w10 ⟨rfl, hb⟩
  clear CT
  clear cBX10 cBX11 cBX1f cBX1l
  have BX1 := Lib.hid (BX1.out.below hb BX1.out.lt)
  have KG := Lib.hid (KG.out.trans (hb.mono KG.out.size))
  clear hb
  go_wp2_with fail
  have CT := Lib.hid (parse_k w10 HTM.out HZT.out HCT.out)
  with_reducible refine CT.out.mono ?_
  rintro e w11 ⟨x12, rfl, hN13, hb⟩
  have N13 := Lib.hid hN13
  clear hN13
  clear CT
  have BX1 := Lib.hid (BX1.out.below hb BX1.out.lt)
  have KG := Lib.hid (KG.out.trans (hb.mono KG.out.size))
  clear hb
  go_upto_region 5 with (fail)
  obtain ⟨v15, hV⟩ : ∃ V, V = w11.alloc (.cells #[.bool x12.s, .slice x12.a x12.n x12.c] 24) := ⟨_, rfl⟩
  have hbV : Below w11.heap.size w11 v15 := by rw [hV]; exact ((Below.refl _ _).alloc (Nat.le_refl _) _)
  have BX14 := Lib.hid (show Bxs v15 (w11.heap.size) 24 [.bool x12.s, .slice x12.a x12.n x12.c] by have h := Bxs.new (w11) 24 [.bool x12.s, .slice x12.a x12.n x12.c]; rw [hV]; exact h)
  rw [show w11.alloc (.cells #[.bool x12.s, .slice x12.a x12.n x12.c] 24) = v15 from hV.symm]
  have N13 := Lib.hid (N13.out.below hbV)
  have BX1 := Lib.hid (BX1.out.below hbV BX1.out.lt)
  have KG := Lib.hid (KG.out.trans (hbV.mono KG.out.size))
  clear hV hbV
  have cBX10 := BX1.out.cell (i := 0) rfl
  have cBX11 := BX1.out.cell (i := 1) rfl
  have cBX1f := BX1.out.fz
  have cBX1l := BX1.out.lt
  go_wp2_with fail
  have CT := Lib.hid (signN (N1.out.below KG.out).any ((N1.out.below KG.out).len LZp1.out (by decide)))
  rw [show cmpZ p1 0 = (-1) from cmpZ_lt HPZ.out] at CT
  with_reducible refine CT.out.mono ?_
  rintro e w16 ⟨rfl, hb⟩
  clear CT
  clear cBX10 cBX11 cBX1f cBX1l
  have N13 := Lib.hid (N13.out.below hb)
  have BX1 := Lib.hid (BX1.out.below hb BX1.out.lt)
  have BX14 := Lib.hid (BX14.out.below hb BX14.out.lt)
  have KG := Lib.hid (KG.out.trans (hb.mono KG.out.size))
  clear hb
  have cBX10 := BX1.out.cell (i := 0) rfl
  have cBX11 := BX1.out.cell (i := 1) rfl
  have cBX1f := BX1.out.fz
  have cBX1l := BX1.out.lt
  go_wp2_with fail
  have CT := Lib.hid (checkN (N1.out.below KG.out) ((N1.out.below KG.out).len LZp1.out (by decide)))
  with_reducible refine CT.out.mono ?_
  rintro e w17 ⟨rfl, hb⟩
  clear CT
  clear cBX10 cBX11 cBX1f cBX1l
  have N13 := Lib.hid (N13.out.below hb)
  have BX1 := Lib.hid (BX1.out.below hb BX1.out.lt)
  have BX14 := Lib.hid (BX14.out.below hb BX14.out.lt)
  have KG := Lib.hid (KG.out.trans (hb.mono KG.out.size))
  clear hb
  have cBX140 := BX14.out.cell (i := 0) rfl
  have cBX141 := BX14.out.cell (i := 1) rfl
  have cBX14f := BX14.out.fz
  have cBX14l := BX14.out.lt
  have cBX10 := BX1.out.cell (i := 0) rfl
  have cBX11 := BX1.out.cell (i := 1) rfl
  have cBX1f := BX1.out.fz
  have cBX1l := BX1.out.lt
  go_wp2_with fail
  have CT := Lib.hid (sameTN N13.out.k (N13.out.k.len LZp1.out (by decide)) (N1.out.below KG.out) ((N1.out.below KG.out).len LZp1.out (by decide)) (rfl))
  with_reducible refine CT.out.mono ?_
  rintro e w18 ⟨rfl, hb⟩
  clear CT
  clear cBX140 cBX141 cBX14f cBX14l
  clear cBX10 cBX11 cBX1f cBX1l
  clear N13
  have BX1 := Lib.hid (BX1.out.below hb BX1.out.lt)
  clear BX14
  have KG := Lib.hid (KG.out.trans (hb.mono KG.out.size))
  clear hb
  have cBX10 := BX1.out.cell (i := 0) rfl
  have cBX11 := BX1.out.cell (i := 1) rfl
  have cBX1f := BX1.out.fz
  have cBX1l := BX1.out.lt
  go_wp2_with fail
  have CT := Lib.hid (checkN (N1.out.below KG.out) ((N1.out.below KG.out).len LZp1.out (by decide)))
  with_reducible refine CT.out.mono ?_
  rintro e w19 ⟨rfl, hb⟩
  clear CT
  clear cBX10 cBX11 cBX1f cBX1l
  clear BX1
  have KG := Lib.hid (KG.out.trans (hb.mono KG.out.size))
  clear hb
  go_wp2_with fail
  have CT := Lib.hid (parse_0 w19 HSM.out HZ0.out HC.out)
  with_reducible refine CT.out.mono ?_
  rintro e w20 ⟨x21, rfl, hb⟩
  clear CT
  have KG := Lib.hid (KG.out.trans (hb.mono KG.out.size))
  clear hb
  go_upto_region 11 with (fail)
  obtain ⟨v23, hV⟩ : ∃ V, V = w20.alloc (.cells #[.bool false, .slice x21.1 0 x21.2] 24) := ⟨_, rfl⟩
  have hbV : Below w20.heap.size w20 v23 := by rw [hV]; exact ((Below.refl _ _).alloc (Nat.le_refl _) _)
  have BX22 := Lib.hid (show Bxs v23 (w20.heap.size) 24 [.bool false, .slice x21.1 0 x21.2] by have h := Bxs.new (w20) 24 [.bool false, .slice x21.1 0 x21.2]; rw [hV]; exact h)
  rw [show w20.alloc (.cells #[.bool false, .slice x21.1 0 x21.2] 24) = v23 from hV.symm]
  have KG := Lib.hid (KG.out.trans (hbV.mono KG.out.size))
  clear hV hbV
  have cBX220 := BX22.out.cell (i := 0) rfl
  have cBX221 := BX22.out.cell (i := 1) rfl
  have cBX22f := BX22.out.fz
  have cBX22l := BX22.out.lt
  go_wp2_with fail
  go_ret
  exact ⟨rfl, KG.out⟩
set_option maxRecDepth 100000 in
set_option maxHeartbeats 16000000 in
theorem read_nl_p (x1 : NV) (p1 : Int) (s : ByteArray) (w : World) (htab : Tab w) (h1 : KN w x1 p1) (b1 : x1.n ≤ 200) (hsm : s.size ≤ 9223372036854775807) (hs : ¬ 1048576 < s.size) (hz : p1 < 0) (hd : 200 < Lib.nDigits p1.natAbs) (hc : codeT s.data.toList = 0) (hsg2 : 0 < numT s.data.toList) : Calls Tryz.prog 5 #[x1.v, .string s] w fun e w' => e = .returned (.bool true) ∧ Below w.heap.size w w' := by
  have HT := Lib.hid htab
  have KG := Lib.hid (Below.refl w.heap.size w)
  have N1 := Lib.hid h1
  have LZp1 := Lib.hid (show lenB p1.natAbs ≤ 200 by have := h1.n; omega)
  have HSM := Lib.hid hsm
  have HS := Lib.hid hs
  obtain ⟨tb, htb⟩ : ∃ t : ByteArray, t = ⟨(Lib.itoa p1).toArray⟩ := ⟨_, rfl⟩
  have HTB := Lib.hid htb
  have htl : tb.size = (Lib.itoa p1).length := by rw [htb]; exact tb_size _
  have htd : tb.data.toList = Lib.itoa p1 := by rw [htb]
  have hil := itoa_len_eq p1
  have hle := itoa_len (z := p1) (k := 200) LZp1.out
  rw [if_pos hz] at hil
  have HTM := Lib.hid (show tb.size ≤ 9223372036854775807 by omega)
  have HPZ := Lib.hid hz
  obtain ⟨dg, hdg⟩ : ∃ d : Int, d = (tb.size : Int) - 1 := ⟨_, rfl⟩
  have edg : IntKind.i64.wrap ((tb.size : Int) - 1) = dg := by rw [hdg]; exact IntWalk.i64_in _ (by omega)
  have gt : ¬ (dg ≤ 200) := by omega
  have gt2 : dg > 200 := by omega
  have HCT := Lib.hid (show codeT tb.data.toList = 3 by rw [htd, codeT_itoa, if_pos hd])
  obtain ⟨zt, hzt⟩ : ∃ z, z = numT tb.data.toList := ⟨_, rfl⟩
  have HZT := Lib.hid hzt.symm
  have LZzt := Lib.hid (show lenB zt.natAbs ≤ 23 by rw [hzt]; exact numT_len _)
  have HC := Lib.hid hc
  have hy := hyph_pos hc hsg2
  obtain ⟨zs, hzs⟩ : ∃ z, z = numT s.data.toList := ⟨_, rfl⟩
  have HZS := Lib.hid hzs
  have LZzs := Lib.hid (show lenB zs.natAbs ≤ 23 by rw [hzs]; exact numT_len _)
  have HBK := Lib.hid (show (⟨(Lib.itoa zs).toArray⟩ : ByteArray) = s by rw [hzs]; exact itoa_back hc)
  obtain ⟨hs2, hhs⟩ : ∃ t : ByteArray, t = ⟨#[45]⟩ ++ s := ⟨_, rfl⟩
  have hhd : hs2.data.toList = 45 :: s.data.toList := by rw [hhs]; exact hyph_data s
  have ehs : (⟨#[45]⟩ : ByteArray) ++ s = hs2 := hhs.symm
  have l1 : ¬ (9223372036854775807 < 1 + s.size) := by have := HS.out; omega
  have HHM := Lib.hid (show hs2.size ≤ 9223372036854775807 by rw [hhs, ByteArray.size_append]; have : (ByteArray.mk #[45]).size = 1 := rfl; omega)
  obtain ⟨zh, hzh⟩ : ∃ z, z = numT hs2.data.toList := ⟨_, rfl⟩
  have HZH := Lib.hid hzh.symm
  have LZzh := Lib.hid (show lenB zh.natAbs ≤ 23 by rw [hzh]; exact numT_len _)
  have HHC := Lib.hid (show codeT hs2.data.toList = 0 by rw [hhd]; exact hy.1)
  have EZH := Lib.hid (show zh = -zs by rw [hzh, hhd, hzs]; exact hy.2)
  have HP2 := Lib.hid (show 0 < zs by rw [hzs]; exact hsg2)
  clear hs htb htl htd hz hd hil hle hdg hzt hc hsg2 hzs hhs hhd hzh hy
  clear htab h1 hsm b1
  obtain ⟨z31, hz31⟩ : ∃ z : Int, z = -zs := ⟨_, rfl⟩
  have Hz31 := Lib.hid hz31
  have LZz31 := Lib.hid (show lenB z31.natAbs ≤ 23 by rw [hz31]; exact lenZ_neg LZzs.out)
  clear hz31
  go_enter Tryz.func5, Tryz.ntmps5
  go_upto_region 1 with (fail)
  obtain ⟨v2, hV⟩ : ∃ V, V = w.alloc (.cells #[.bool x1.s, .slice x1.a x1.n x1.c] 24) := ⟨_, rfl⟩
  have hbV : Below w.heap.size w v2 := by rw [hV]; exact ((Below.refl _ _).alloc (Nat.le_refl _) _)
  have BX1 := Lib.hid (show Bxs v2 (w.heap.size) 24 [.bool x1.s, .slice x1.a x1.n x1.c] by have h := Bxs.new (w) 24 [.bool x1.s, .slice x1.a x1.n x1.c]; rw [hV]; exact h)
  rw [show w.alloc (.cells #[.bool x1.s, .slice x1.a x1.n x1.c] 24) = v2 from hV.symm]
  have KG := Lib.hid (KG.out.trans (hbV.mono KG.out.size))
  clear hV hbV
  go_wp2_with fail
  have CT := Lib.hid (alive_true v2 (HT.out.on KG.out))
  with_reducible refine CT.out.mono ?_
  rintro e w3 ⟨rfl, hb⟩
  clear CT
  have BX1 := Lib.hid (BX1.out.below hb BX1.out.lt)
  have KG := Lib.hid (KG.out.trans (hb.mono KG.out.size))
  clear hb
  have cBX10 := BX1.out.cell (i := 0) rfl
  have cBX11 := BX1.out.cell (i := 1) rfl
  have cBX1f := BX1.out.fz
  have cBX1l := BX1.out.lt
  go_wp2_with fail
  clear cBX10 cBX11 cBX1f cBX1l
  obtain ⟨v5, hV⟩ : ∃ V, V = w3.alloc (.cells #[.bool x1.s, .slice x1.a x1.n x1.c] 24) := ⟨_, rfl⟩
  have hbV : Below w3.heap.size w3 v5 := by rw [hV]; exact ((Below.refl _ _).alloc (Nat.le_refl _) _)
  have BX4 := Lib.hid (show Bxs v5 (w3.heap.size) 24 [.bool x1.s, .slice x1.a x1.n x1.c] by have h := Bxs.new (w3) 24 [.bool x1.s, .slice x1.a x1.n x1.c]; rw [hV]; exact h)
  rw [show w3.alloc (.cells #[.bool x1.s, .slice x1.a x1.n x1.c] 24) = v5 from hV.symm]
  have BX1 := Lib.hid (BX1.out.below hbV BX1.out.lt)
  have KG := Lib.hid (KG.out.trans (hbV.mono KG.out.size))
  clear hV hbV
  have cBX10 := BX1.out.cell (i := 0) rfl
  have cBX11 := BX1.out.cell (i := 1) rfl
  have cBX1f := BX1.out.fz
  have cBX1l := BX1.out.lt
  have CT := Lib.hid (great1N (M := 200) BX4.out)
  rw [show ((200 : Nat) : Int) = 200 from rfl, show decide (200 < x1.n) = false from decide_eq_false (by have g0 : x1.n ≤ 200 := ((N1.out.below KG.out).len LZp1.out (by decide)); omega)] at CT
  with_reducible refine CT.out.mono ?_
  rintro e w6 ⟨rfl, hb⟩
  clear CT
  clear cBX10 cBX11 cBX1f cBX1l
  have BX1 := Lib.hid (BX1.out.below hb BX1.out.lt)
  clear BX4
  have KG := Lib.hid (KG.out.trans (hb.mono KG.out.size))
  clear hb
  go_wp2_with fail
  obtain ⟨v8, hV⟩ : ∃ V, V = w6.alloc (.cells #[.int .i64 s.size] 3) := ⟨_, rfl⟩
  have hbV : Below w6.heap.size w6 v8 := by rw [hV]; exact ((Below.refl _ _).alloc (Nat.le_refl _) _)
  have BX7 := Lib.hid (show Bxs v8 (w6.heap.size) 3 [.int .i64 s.size] by have h := Bxs.new (w6) 3 [.int .i64 s.size]; rw [hV]; exact h)
  rw [show w6.alloc (.cells #[.int .i64 s.size] 3) = v8 from hV.symm]
  have BX1 := Lib.hid (BX1.out.below hbV BX1.out.lt)
  have KG := Lib.hid (KG.out.trans (hbV.mono KG.out.size))
  clear hV hbV
  have CT := Lib.hid (beyond1 BX7.out HSM.out)
  rw [show decide (1048576 < s.size) = false from decide_eq_false HS.out] at CT
  with_reducible refine CT.out.mono ?_
  rintro e w9 ⟨rfl, hb⟩
  clear CT
  have BX1 := Lib.hid (BX1.out.below hb BX1.out.lt)
  clear BX7
  have KG := Lib.hid (KG.out.trans (hb.mono KG.out.size))
  clear hb
  have cBX10 := BX1.out.cell (i := 0) rfl
  have cBX11 := BX1.out.cell (i := 1) rfl
  have cBX1f := BX1.out.fz
  have cBX1l := BX1.out.lt
  go_wp2_with fail
  have CT := Lib.hid (textN (N1.out.below KG.out).any ((N1.out.below KG.out).len LZp1.out (by decide)) (HT.out.on KG.out))
  rw [show (⟨(Lib.itoa p1).toArray⟩ : ByteArray) = tb from HTB.out.symm] at CT
  with_reducible refine CT.out.mono ?_
  rintro e w10 ⟨rfl, hb⟩
  clear CT
  clear cBX10 cBX11 cBX1f cBX1l
  have BX1 := Lib.hid (BX1.out.below hb BX1.out.lt)
  have KG := Lib.hid (KG.out.trans (hb.mono KG.out.size))
  clear hb
  go_wp2_with fail
  have CT := Lib.hid (parse_k w10 HTM.out HZT.out HCT.out)
  with_reducible refine CT.out.mono ?_
  rintro e w11 ⟨x12, rfl, hN13, hb⟩
  have N13 := Lib.hid hN13
  clear hN13
  clear CT
  have BX1 := Lib.hid (BX1.out.below hb BX1.out.lt)
  have KG := Lib.hid (KG.out.trans (hb.mono KG.out.size))
  clear hb
  clear N13
  go_upto_region 5 with (fail)
  obtain ⟨v15, hV⟩ : ∃ V, V = w11.alloc (.cells #[.bool x12.s, .slice x12.a x12.n x12.c] 24) := ⟨_, rfl⟩
  have hbV : Below w11.heap.size w11 v15 := by rw [hV]; exact ((Below.refl _ _).alloc (Nat.le_refl _) _)
  have BX14 := Lib.hid (show Bxs v15 (w11.heap.size) 24 [.bool x12.s, .slice x12.a x12.n x12.c] by have h := Bxs.new (w11) 24 [.bool x12.s, .slice x12.a x12.n x12.c]; rw [hV]; exact h)
  rw [show w11.alloc (.cells #[.bool x12.s, .slice x12.a x12.n x12.c] 24) = v15 from hV.symm]
  have BX1 := Lib.hid (BX1.out.below hbV BX1.out.lt)
  have KG := Lib.hid (KG.out.trans (hbV.mono KG.out.size))
  clear hV hbV
  clear BX14
  have cBX10 := BX1.out.cell (i := 0) rfl
  have cBX11 := BX1.out.cell (i := 1) rfl
  have cBX1f := BX1.out.fz
  have cBX1l := BX1.out.lt
  go_wp2_with fail
  have CT := Lib.hid (signN (N1.out.below KG.out).any ((N1.out.below KG.out).len LZp1.out (by decide)))
  rw [show cmpZ p1 0 = (-1) from cmpZ_lt HPZ.out] at CT
  with_reducible refine CT.out.mono ?_
  rintro e w16 ⟨rfl, hb⟩
  clear CT
  clear cBX10 cBX11 cBX1f cBX1l
  have BX1 := Lib.hid (BX1.out.below hb BX1.out.lt)
  have KG := Lib.hid (KG.out.trans (hb.mono KG.out.size))
  clear hb
  have cBX10 := BX1.out.cell (i := 0) rfl
  have cBX11 := BX1.out.cell (i := 1) rfl
  have cBX1f := BX1.out.fz
  have cBX1l := BX1.out.lt
  go_wp2_with fail
  have CT := Lib.hid (checkN (N1.out.below KG.out) ((N1.out.below KG.out).len LZp1.out (by decide)))
  with_reducible refine CT.out.mono ?_
  rintro e w17 ⟨rfl, hb⟩
  clear CT
  clear cBX10 cBX11 cBX1f cBX1l
  have BX1 := Lib.hid (BX1.out.below hb BX1.out.lt)
  have KG := Lib.hid (KG.out.trans (hb.mono KG.out.size))
  clear hb
  have cBX10 := BX1.out.cell (i := 0) rfl
  have cBX11 := BX1.out.cell (i := 1) rfl
  have cBX1f := BX1.out.fz
  have cBX1l := BX1.out.lt
  go_wp2_with fail
  have CT := Lib.hid (checkN (N1.out.below KG.out) ((N1.out.below KG.out).len LZp1.out (by decide)))
  with_reducible refine CT.out.mono ?_
  rintro e w18 ⟨rfl, hb⟩
  clear CT
  clear cBX10 cBX11 cBX1f cBX1l
  clear BX1
  have KG := Lib.hid (KG.out.trans (hb.mono KG.out.size))
  clear hb
  go_wp2_with fail
  have CT := Lib.hid (parse_k w18 HSM.out HZS.out.symm HC.out)
  with_reducible refine CT.out.mono ?_
  rintro e w19 ⟨x20, rfl, hN21, hb⟩
  have N21 := Lib.hid hN21
  clear hN21
  clear CT
  have KG := Lib.hid (KG.out.trans (hb.mono KG.out.size))
  clear hb
  go_upto_region 11 with (fail)
  obtain ⟨v23, hV⟩ : ∃ V, V = w19.alloc (.cells #[.bool x20.s, .slice x20.a x20.n x20.c] 24) := ⟨_, rfl⟩
  have hbV : Below w19.heap.size w19 v23 := by rw [hV]; exact ((Below.refl _ _).alloc (Nat.le_refl _) _)
  have BX22 := Lib.hid (show Bxs v23 (w19.heap.size) 24 [.bool x20.s, .slice x20.a x20.n x20.c] by have h := Bxs.new (w19) 24 [.bool x20.s, .slice x20.a x20.n x20.c]; rw [hV]; exact h)
  rw [show w19.alloc (.cells #[.bool x20.s, .slice x20.a x20.n x20.c] 24) = v23 from hV.symm]
  have N21 := Lib.hid (N21.out.below hbV)
  have KG := Lib.hid (KG.out.trans (hbV.mono KG.out.size))
  clear hV hbV
  go_wp2_with fail
  have CT := Lib.hid (parse_k v23 HHM.out HZH.out HHC.out)
  with_reducible refine CT.out.mono ?_
  rintro e w24 ⟨x25, rfl, hN26, hb⟩
  have N26 := Lib.hid hN26
  clear hN26
  clear CT
  have N21 := Lib.hid (N21.out.below hb)
  have BX22 := Lib.hid (BX22.out.below hb BX22.out.lt)
  have KG := Lib.hid (KG.out.trans (hb.mono KG.out.size))
  clear hb
  go_upto_region 14 with (fail)
  obtain ⟨v28, hV⟩ : ∃ V, V = w24.alloc (.cells #[.bool x25.s, .slice x25.a x25.n x25.c] 24) := ⟨_, rfl⟩
  have hbV : Below w24.heap.size w24 v28 := by rw [hV]; exact ((Below.refl _ _).alloc (Nat.le_refl _) _)
  have BX27 := Lib.hid (show Bxs v28 (w24.heap.size) 24 [.bool x25.s, .slice x25.a x25.n x25.c] by have h := Bxs.new (w24) 24 [.bool x25.s, .slice x25.a x25.n x25.c]; rw [hV]; exact h)
  rw [show w24.alloc (.cells #[.bool x25.s, .slice x25.a x25.n x25.c] 24) = v28 from hV.symm]
  have N21 := Lib.hid (N21.out.below hbV)
  have N26 := Lib.hid (N26.out.below hbV)
  have BX22 := Lib.hid (BX22.out.below hbV BX22.out.lt)
  have KG := Lib.hid (KG.out.trans (hbV.mono KG.out.size))
  clear hV hbV
  have cBX220 := BX22.out.cell (i := 0) rfl
  have cBX221 := BX22.out.cell (i := 1) rfl
  have cBX22f := BX22.out.fz
  have cBX22l := BX22.out.lt
  go_wp2_with fail
  have CT := Lib.hid (checkN N21.out.k (N21.out.k.len LZzs.out (by decide)))
  with_reducible refine CT.out.mono ?_
  rintro e w29 ⟨rfl, hb⟩
  clear CT
  clear cBX220 cBX221 cBX22f cBX22l
  have N21 := Lib.hid (N21.out.below hb)
  have N26 := Lib.hid (N26.out.below hb)
  have BX22 := Lib.hid (BX22.out.below hb BX22.out.lt)
  have BX27 := Lib.hid (BX27.out.below hb BX27.out.lt)
  have KG := Lib.hid (KG.out.trans (hb.mono KG.out.size))
  clear hb
  have cBX220 := BX22.out.cell (i := 0) rfl
  have cBX221 := BX22.out.cell (i := 1) rfl
  have cBX22f := BX22.out.fz
  have cBX22l := BX22.out.lt
  go_wp2_with fail
  have CT := Lib.hid (textN N21.out.k.any (N21.out.k.len LZzs.out (by decide)) (HT.out.on KG.out))
  rw [show (⟨(Lib.itoa zs).toArray⟩ : ByteArray) = s from HBK.out] at CT
  with_reducible refine CT.out.mono ?_
  rintro e w30 ⟨rfl, hb⟩
  clear CT
  clear cBX220 cBX221 cBX22f cBX22l
  have N21 := Lib.hid (N21.out.below hb)
  have N26 := Lib.hid (N26.out.below hb)
  have BX22 := Lib.hid (BX22.out.below hb BX22.out.lt)
  have BX27 := Lib.hid (BX27.out.below hb BX27.out.lt)
  have KG := Lib.hid (KG.out.trans (hb.mono KG.out.size))
  clear hb
  go_upto_region 16 with (fail)
  refine Go.FreshS.wp_region_fresh 22 [] (Go.FreshS.spOf [(1, Go.FreshS.Sp.know (.int .i64 1)), (10, Go.FreshS.Sp.made (fun x : NV => x.v) (fun x w' => DN w' w30.heap.size x z31) NV.blk), (11, Go.FreshS.Sp.know (.bool true))])
    (fun w' => Below w30.heap.size w30 w') (by kernel_rfl) (by kernel_rfl) (by kernel_rfl)
    (Go.FreshS.spOf_cons (Go.FreshS.Sp.know_keeps _ _) (Go.FreshS.spOf_cons (Go.FreshS.Sp.made_keeps _ (fun _ _ _ h _ hk => h.kept hk) (Go.FreshS.notTaken (by kernel_rfl))) (Go.FreshS.spOf_cons (Go.FreshS.Sp.know_keeps _ _) (Go.FreshS.spOf_nil)))) (fun _ _ h hb => h.trans (hb.mono h.size)) ((Below.refl _ _).drew) ?_
  simp only [List.append_eq, List.cons_append, List.nil_append, List.take_succ_cons, List.take_zero, List.drop_succ_cons, List.drop_zero]
  refine Go.FreshS.wpF_reads rfl rfl rfl ?_ (fun w' hw' => ?_) ?_
  rotate_left
  · have hb' := hw'.world
    have hs0 := (BX22.out.below hb' BX22.out.lt).cell (i := 0) rfl
    have hs1 := (BX22.out.below hb' BX22.out.lt).cell (i := 1) rfl
    have hsf := (BX22.out.below hb' BX22.out.lt).fz
    have hsl := (BX22.out.below hb' BX22.out.lt).lt
    clear hw'
    go_simp
    try rfl
  conv => arg 10; simp only [Act.put, List.setIfInBounds_toArray, List.set_cons_succ, List.set_cons_zero]
  refine Go.FreshS.wpF_spec rfl rfl rfl (fun w' hw' => ?_) ?_
  · have hb' := hw'.world
    refine Go.FreshS.gives_of (Go.FreshS.PK (.int .i64 1)) ?_ (fun _ _ h => h.post)
    go_simp
    have CT := signN (N21.out.below hb').k.any ((N21.out.below hb').k.len LZzs.out (by decide))
    rw [show cmpZ zs 0 = 1 from cmpZ_gt HP2.out] at CT
    refine CT.mono ?_
    rintro e w'' ⟨rfl, hb⟩
    exact ⟨_, rfl, rfl, hb⟩
  rintro _ rfl
  conv => arg 10; simp only [Act.put, List.setIfInBounds_toArray, List.set_cons_succ, List.set_cons_zero]
  refine Go.FreshS.wpF_reads rfl rfl rfl ?_ (fun w' hw' => ?_) ?_
  rotate_left
  · have hb' := hw'.world
    skip
    clear hw'
    go_simp
    try rfl
  conv => arg 10; simp only [Act.put, List.setIfInBounds_toArray, List.set_cons_succ, List.set_cons_zero]
  refine Go.FreshS.wpF_reads rfl rfl rfl ?_ (fun w' hw' => ?_) ?_
  rotate_left
  · have hb' := hw'.world
    skip
    clear hw'
    go_simp
    try rfl
  conv => arg 10; simp only [Act.put, List.setIfInBounds_toArray, List.set_cons_succ, List.set_cons_zero]
  refine Go.FreshS.wpF_readsG (by rfl) rfl rfl ?_ (fun w' hw' => ?_) ?_
  rotate_left
  · have hb' := hw'.world
    skip
    clear hw'
    go_simp
    try rfl
  conv => arg 10; simp only [Act.put, List.setIfInBounds_toArray, List.set_cons_succ, List.set_cons_zero]
  refine Go.FreshS.wpF_readsG (by rfl) rfl rfl ?_ (fun w' hw' => ?_) ?_
  rotate_left
  · have hb' := hw'.world
    skip
    clear hw'
    go_simp
    try rfl
  conv => arg 10; simp only [Act.put, List.setIfInBounds_toArray, List.set_cons_succ, List.set_cons_zero]
  refine Go.FreshS.wpF_reads rfl rfl rfl ?_ (fun w' hw' => ?_) ?_
  rotate_left
  · have hb' := hw'.world
    skip
    clear hw'
    go_simp
    try rfl
  conv => arg 10; simp only [Act.put, List.setIfInBounds_toArray, List.set_cons_succ, List.set_cons_zero]
  refine Go.FreshS.wpF_reads rfl rfl rfl ?_ (fun w' hw' => ?_) ?_
  rotate_left
  · have hb' := hw'.world
    skip
    clear hw'
    go_simp
    try rfl
  conv => arg 10; simp only [Act.put, List.setIfInBounds_toArray, List.set_cons_succ, List.set_cons_zero]
  refine Go.FreshS.wpF_readsG (by rfl) rfl rfl ?_ (fun w' hw' => ?_) ?_
  rotate_left
  · have hb' := hw'.world
    have hs0 := (BX27.out.below hb' BX27.out.lt).cell (i := 0) rfl
    have hs1 := (BX27.out.below hb' BX27.out.lt).cell (i := 1) rfl
    have hsf := (BX27.out.below hb' BX27.out.lt).fz
    have hsl := (BX27.out.below hb' BX27.out.lt).lt
    clear hw'
    go_simp
    try rfl
  conv => arg 10; simp only [Act.put, List.setIfInBounds_toArray, List.set_cons_succ, List.set_cons_zero]
  refine Go.FreshS.wpF_readsG (by rfl) rfl rfl ?_ (fun w' hw' => ?_) ?_
  rotate_left
  · have hb' := hw'.world
    have hs0 := (BX22.out.below hb' BX22.out.lt).cell (i := 0) rfl
    have hs1 := (BX22.out.below hb' BX22.out.lt).cell (i := 1) rfl
    have hsf := (BX22.out.below hb' BX22.out.lt).fz
    have hsl := (BX22.out.below hb' BX22.out.lt).lt
    clear hw'
    go_simp
    try rfl
  conv => arg 10; simp only [Act.put, List.setIfInBounds_toArray, List.set_cons_succ, List.set_cons_zero]
  refine Go.FreshS.wpF_gspec (by rfl) rfl rfl (fun w' hw' => ?_) ?_
  · have hb' := hw'.world
    refine Go.FreshS.gives_of (Go.FreshS.PM (fun x : NV => x.v) (fun x w' => DN w' w30.heap.size x z31) NV.blk w'.heap.size) ?_ (fun _ _ h => h.post @NV.inj)
    go_simp
    have CT := negN (N21.out.below hb').k.any ((N21.out.below hb').k.len LZzs.out (by decide))
    rw [show -zs = z31 from Hz31.out.symm] at CT
    refine CT.mono ?_
    rintro e w'' ⟨za, rfl, ho, hb⟩
    exact ⟨_, rfl, ⟨za, rfl, ho.mono hb'.size, ho.blks⟩, hb⟩
  rintro _ ⟨y10, rfl⟩
  conv => arg 10; simp only [Act.put, List.setIfInBounds_toArray, List.set_cons_succ, List.set_cons_zero]
  refine Go.FreshS.wpF_gspec (by rfl) rfl rfl (fun w' hw' => ?_) ?_
  · have hb' := hw'.world
    refine Go.FreshS.gives_of (Go.FreshS.PK (.bool true)) ?_ (fun _ _ h => h.post)
    go_simp
    have f10 := Go.FreshS.made_of (val := fun x : NV => x.v) (Φ := fun x w' => DN w' w30.heap.size x z31) @NV.inj (hw'.fact 10 (by kernel_rfl))
    have CT := sameTN (N26.out.below hb').k ((N26.out.below hb').k.len LZzh.out (by decide)) f10.k (f10.k.len LZz31.out (by decide)) (by have h := EZH.out; simp only [Hz31.out]; exact h)
    refine CT.mono ?_
    rintro e w'' ⟨rfl, hb⟩
    exact ⟨_, rfl, rfl, hb⟩
  rintro _ rfl
  conv => arg 10; simp only [Act.put, List.setIfInBounds_toArray, List.set_cons_succ, List.set_cons_zero]
  refine Go.FreshS.wpF_reads rfl rfl rfl ?_ (fun w' hw' => ?_) ?_
  rotate_left
  · have hb' := hw'.world
    skip
    clear hw'
    go_simp
    try rfl
  conv => arg 10; simp only [Act.put, List.setIfInBounds_toArray, List.set_cons_succ, List.set_cons_zero]
  refine Go.FreshS.wpF_reads rfl rfl rfl ?_ (fun w' hw' => ?_) ?_
  rotate_left
  · have hb' := hw'.world
    skip
    clear hw'
    go_simp
    try rfl
  conv => arg 10; simp only [Act.put, List.setIfInBounds_toArray, List.set_cons_succ, List.set_cons_zero]
  refine Go.FreshS.wpF_skip (by rfl) rfl ?_
  conv => arg 10; simp only [Act.put, List.setIfInBounds_toArray, List.set_cons_succ, List.set_cons_zero]
  refine Go.FreshS.wpF_skip (by rfl) rfl ?_
  conv => arg 10; simp only [Act.put, List.setIfInBounds_toArray, List.set_cons_succ, List.set_cons_zero]
  refine Go.FreshS.wpF_skip (by rfl) rfl ?_
  conv => arg 10; simp only [Act.put, List.setIfInBounds_toArray, List.set_cons_succ, List.set_cons_zero]
  refine Go.FreshS.wpF_skip (by rfl) rfl ?_
  conv => arg 10; simp only [Act.put, List.setIfInBounds_toArray, List.set_cons_succ, List.set_cons_zero]
  refine Go.FreshS.wpF_skip (by rfl) rfl ?_
  conv => arg 10; simp only [Act.put, List.setIfInBounds_toArray, List.set_cons_succ, List.set_cons_zero]
  refine Go.FreshS.wpF_skip (by rfl) rfl ?_
  conv => arg 10; simp only [Act.put, List.setIfInBounds_toArray, List.set_cons_succ, List.set_cons_zero]
  refine Go.FreshS.wpF_skip (by rfl) rfl ?_
  conv => arg 10; simp only [Act.put, List.setIfInBounds_toArray, List.set_cons_succ, List.set_cons_zero]
  refine Go.FreshS.wpF_reads rfl rfl rfl ?_ (fun w' hw' => ?_) ?_
  rotate_left
  · have hb' := hw'.world
    skip
    clear hw'
    go_simp
    try rfl
  conv => arg 10; simp only [Act.put, List.setIfInBounds_toArray, List.set_cons_succ, List.set_cons_zero]
  refine Go.FreshS.wpF_nil (fun w32 hb hF => ?_)
  clear hF
  clear N21
  clear N26
  clear BX22
  clear BX27
  have KG := Lib.hid (KG.out.trans (hb.mono KG.out.size))
  clear hb
  go_wp2_with fail
  go_ret
  exact ⟨rfl, KG.out⟩
set_option maxRecDepth 100000 in
set_option maxHeartbeats 16000000 in
theorem read_nl_n (x1 : NV) (p1 : Int) (s : ByteArray) (w : World) (htab : Tab w) (h1 : KN w x1 p1) (b1 : x1.n ≤ 200) (hsm : s.size ≤ 9223372036854775807) (hs : ¬ 1048576 < s.size) (hz : p1 < 0) (hd : 200 < Lib.nDigits p1.natAbs) (hc : codeT s.data.toList = 0) (hsg2 : numT s.data.toList ≤ 0) : Calls Tryz.prog 5 #[x1.v, .string s] w fun e w' => e = .returned (.bool true) ∧ Below w.heap.size w w' := by
  have HT := Lib.hid htab
  have KG := Lib.hid (Below.refl w.heap.size w)
  have N1 := Lib.hid h1
  have LZp1 := Lib.hid (show lenB p1.natAbs ≤ 200 by have := h1.n; omega)
  have HSM := Lib.hid hsm
  have HS := Lib.hid hs
  obtain ⟨tb, htb⟩ : ∃ t : ByteArray, t = ⟨(Lib.itoa p1).toArray⟩ := ⟨_, rfl⟩
  have HTB := Lib.hid htb
  have htl : tb.size = (Lib.itoa p1).length := by rw [htb]; exact tb_size _
  have htd : tb.data.toList = Lib.itoa p1 := by rw [htb]
  have hil := itoa_len_eq p1
  have hle := itoa_len (z := p1) (k := 200) LZp1.out
  rw [if_pos hz] at hil
  have HTM := Lib.hid (show tb.size ≤ 9223372036854775807 by omega)
  have HPZ := Lib.hid hz
  obtain ⟨dg, hdg⟩ : ∃ d : Int, d = (tb.size : Int) - 1 := ⟨_, rfl⟩
  have edg : IntKind.i64.wrap ((tb.size : Int) - 1) = dg := by rw [hdg]; exact IntWalk.i64_in _ (by omega)
  have gt : ¬ (dg ≤ 200) := by omega
  have gt2 : dg > 200 := by omega
  have HCT := Lib.hid (show codeT tb.data.toList = 3 by rw [htd, codeT_itoa, if_pos hd])
  obtain ⟨zt, hzt⟩ : ∃ z, z = numT tb.data.toList := ⟨_, rfl⟩
  have HZT := Lib.hid hzt.symm
  have LZzt := Lib.hid (show lenB zt.natAbs ≤ 23 by rw [hzt]; exact numT_len _)
  have HC := Lib.hid hc
  have hy := hyph_not hc hsg2
  obtain ⟨zs, hzs⟩ : ∃ z, z = numT s.data.toList := ⟨_, rfl⟩
  have HZS := Lib.hid hzs
  have LZzs := Lib.hid (show lenB zs.natAbs ≤ 23 by rw [hzs]; exact numT_len _)
  have HBK := Lib.hid (show (⟨(Lib.itoa zs).toArray⟩ : ByteArray) = s by rw [hzs]; exact itoa_back hc)
  obtain ⟨hs2, hhs⟩ : ∃ t : ByteArray, t = ⟨#[45]⟩ ++ s := ⟨_, rfl⟩
  have hhd : hs2.data.toList = 45 :: s.data.toList := by rw [hhs]; exact hyph_data s
  have ehs : (⟨#[45]⟩ : ByteArray) ++ s = hs2 := hhs.symm
  have l1 : ¬ (9223372036854775807 < 1 + s.size) := by have := HS.out; omega
  have HHM := Lib.hid (show hs2.size ≤ 9223372036854775807 by rw [hhs, ByteArray.size_append]; have : (ByteArray.mk #[45]).size = 1 := rfl; omega)
  obtain ⟨zh, hzh⟩ : ∃ z, z = numT hs2.data.toList := ⟨_, rfl⟩
  have HZH := Lib.hid hzh.symm
  have LZzh := Lib.hid (show lenB zh.natAbs ≤ 23 by rw [hzh]; exact numT_len _)
  have HHC := Lib.hid (show codeT hs2.data.toList = 4 by rw [hhd]; exact hy)
  obtain ⟨s2, hs2e⟩ : ∃ c, c = cmpZ zs 0 := ⟨_, rfl⟩
  have HS2 := Lib.hid hs2e.symm
  have gs2z : s2 ≤ 0 := by rw [hs2e]; have h9 : zs ≤ 0 := (by rw [hzs]; exact hsg2); unfold cmpZ; split; (exact (by decide)); rw [if_neg (by omega)]; exact Int.le_refl 0
  have gs2 : decide (0 < s2) = false := decide_eq_false (by omega)
  have gs3 : decide (s2 ≤ 0) = true := decide_eq_true gs2z
  clear gs2z
  clear hs htb htl htd hz hd hil hle hdg hzt hc hsg2 hzs hhs hhd hzh hy hs2e
  clear htab h1 hsm b1
  go_enter Tryz.func5, Tryz.ntmps5
  go_upto_region 1 with (fail)
  obtain ⟨v2, hV⟩ : ∃ V, V = w.alloc (.cells #[.bool x1.s, .slice x1.a x1.n x1.c] 24) := ⟨_, rfl⟩
  have hbV : Below w.heap.size w v2 := by rw [hV]; exact ((Below.refl _ _).alloc (Nat.le_refl _) _)
  have BX1 := Lib.hid (show Bxs v2 (w.heap.size) 24 [.bool x1.s, .slice x1.a x1.n x1.c] by have h := Bxs.new (w) 24 [.bool x1.s, .slice x1.a x1.n x1.c]; rw [hV]; exact h)
  rw [show w.alloc (.cells #[.bool x1.s, .slice x1.a x1.n x1.c] 24) = v2 from hV.symm]
  have KG := Lib.hid (KG.out.trans (hbV.mono KG.out.size))
  clear hV hbV
  go_wp2_with fail
  have CT := Lib.hid (alive_true v2 (HT.out.on KG.out))
  with_reducible refine CT.out.mono ?_
  rintro e w3 ⟨rfl, hb⟩
  clear CT
  have BX1 := Lib.hid (BX1.out.below hb BX1.out.lt)
  have KG := Lib.hid (KG.out.trans (hb.mono KG.out.size))
  clear hb
  have cBX10 := BX1.out.cell (i := 0) rfl
  have cBX11 := BX1.out.cell (i := 1) rfl
  have cBX1f := BX1.out.fz
  have cBX1l := BX1.out.lt
  go_wp2_with fail
  clear cBX10 cBX11 cBX1f cBX1l
  obtain ⟨v5, hV⟩ : ∃ V, V = w3.alloc (.cells #[.bool x1.s, .slice x1.a x1.n x1.c] 24) := ⟨_, rfl⟩
  have hbV : Below w3.heap.size w3 v5 := by rw [hV]; exact ((Below.refl _ _).alloc (Nat.le_refl _) _)
  have BX4 := Lib.hid (show Bxs v5 (w3.heap.size) 24 [.bool x1.s, .slice x1.a x1.n x1.c] by have h := Bxs.new (w3) 24 [.bool x1.s, .slice x1.a x1.n x1.c]; rw [hV]; exact h)
  rw [show w3.alloc (.cells #[.bool x1.s, .slice x1.a x1.n x1.c] 24) = v5 from hV.symm]
  have BX1 := Lib.hid (BX1.out.below hbV BX1.out.lt)
  have KG := Lib.hid (KG.out.trans (hbV.mono KG.out.size))
  clear hV hbV
  have cBX10 := BX1.out.cell (i := 0) rfl
  have cBX11 := BX1.out.cell (i := 1) rfl
  have cBX1f := BX1.out.fz
  have cBX1l := BX1.out.lt
  have CT := Lib.hid (great1N (M := 200) BX4.out)
  rw [show ((200 : Nat) : Int) = 200 from rfl, show decide (200 < x1.n) = false from decide_eq_false (by have g0 : x1.n ≤ 200 := ((N1.out.below KG.out).len LZp1.out (by decide)); omega)] at CT
  with_reducible refine CT.out.mono ?_
  rintro e w6 ⟨rfl, hb⟩
  clear CT
  clear cBX10 cBX11 cBX1f cBX1l
  have BX1 := Lib.hid (BX1.out.below hb BX1.out.lt)
  clear BX4
  have KG := Lib.hid (KG.out.trans (hb.mono KG.out.size))
  clear hb
  go_wp2_with fail
  obtain ⟨v8, hV⟩ : ∃ V, V = w6.alloc (.cells #[.int .i64 s.size] 3) := ⟨_, rfl⟩
  have hbV : Below w6.heap.size w6 v8 := by rw [hV]; exact ((Below.refl _ _).alloc (Nat.le_refl _) _)
  have BX7 := Lib.hid (show Bxs v8 (w6.heap.size) 3 [.int .i64 s.size] by have h := Bxs.new (w6) 3 [.int .i64 s.size]; rw [hV]; exact h)
  rw [show w6.alloc (.cells #[.int .i64 s.size] 3) = v8 from hV.symm]
  have BX1 := Lib.hid (BX1.out.below hbV BX1.out.lt)
  have KG := Lib.hid (KG.out.trans (hbV.mono KG.out.size))
  clear hV hbV
  have CT := Lib.hid (beyond1 BX7.out HSM.out)
  rw [show decide (1048576 < s.size) = false from decide_eq_false HS.out] at CT
  with_reducible refine CT.out.mono ?_
  rintro e w9 ⟨rfl, hb⟩
  clear CT
  have BX1 := Lib.hid (BX1.out.below hb BX1.out.lt)
  clear BX7
  have KG := Lib.hid (KG.out.trans (hb.mono KG.out.size))
  clear hb
  have cBX10 := BX1.out.cell (i := 0) rfl
  have cBX11 := BX1.out.cell (i := 1) rfl
  have cBX1f := BX1.out.fz
  have cBX1l := BX1.out.lt
  go_wp2_with fail
  have CT := Lib.hid (textN (N1.out.below KG.out).any ((N1.out.below KG.out).len LZp1.out (by decide)) (HT.out.on KG.out))
  rw [show (⟨(Lib.itoa p1).toArray⟩ : ByteArray) = tb from HTB.out.symm] at CT
  with_reducible refine CT.out.mono ?_
  rintro e w10 ⟨rfl, hb⟩
  clear CT
  clear cBX10 cBX11 cBX1f cBX1l
  have BX1 := Lib.hid (BX1.out.below hb BX1.out.lt)
  have KG := Lib.hid (KG.out.trans (hb.mono KG.out.size))
  clear hb
  go_wp2_with fail
  have CT := Lib.hid (parse_k w10 HTM.out HZT.out HCT.out)
  with_reducible refine CT.out.mono ?_
  rintro e w11 ⟨x12, rfl, hN13, hb⟩
  have N13 := Lib.hid hN13
  clear hN13
  clear CT
  have BX1 := Lib.hid (BX1.out.below hb BX1.out.lt)
  have KG := Lib.hid (KG.out.trans (hb.mono KG.out.size))
  clear hb
  clear N13
  go_upto_region 5 with (fail)
  obtain ⟨v15, hV⟩ : ∃ V, V = w11.alloc (.cells #[.bool x12.s, .slice x12.a x12.n x12.c] 24) := ⟨_, rfl⟩
  have hbV : Below w11.heap.size w11 v15 := by rw [hV]; exact ((Below.refl _ _).alloc (Nat.le_refl _) _)
  have BX14 := Lib.hid (show Bxs v15 (w11.heap.size) 24 [.bool x12.s, .slice x12.a x12.n x12.c] by have h := Bxs.new (w11) 24 [.bool x12.s, .slice x12.a x12.n x12.c]; rw [hV]; exact h)
  rw [show w11.alloc (.cells #[.bool x12.s, .slice x12.a x12.n x12.c] 24) = v15 from hV.symm]
  have BX1 := Lib.hid (BX1.out.below hbV BX1.out.lt)
  have KG := Lib.hid (KG.out.trans (hbV.mono KG.out.size))
  clear hV hbV
  clear BX14
  have cBX10 := BX1.out.cell (i := 0) rfl
  have cBX11 := BX1.out.cell (i := 1) rfl
  have cBX1f := BX1.out.fz
  have cBX1l := BX1.out.lt
  go_wp2_with fail
  have CT := Lib.hid (signN (N1.out.below KG.out).any ((N1.out.below KG.out).len LZp1.out (by decide)))
  rw [show cmpZ p1 0 = (-1) from cmpZ_lt HPZ.out] at CT
  with_reducible refine CT.out.mono ?_
  rintro e w16 ⟨rfl, hb⟩
  clear CT
  clear cBX10 cBX11 cBX1f cBX1l
  have BX1 := Lib.hid (BX1.out.below hb BX1.out.lt)
  have KG := Lib.hid (KG.out.trans (hb.mono KG.out.size))
  clear hb
  have cBX10 := BX1.out.cell (i := 0) rfl
  have cBX11 := BX1.out.cell (i := 1) rfl
  have cBX1f := BX1.out.fz
  have cBX1l := BX1.out.lt
  go_wp2_with fail
  have CT := Lib.hid (checkN (N1.out.below KG.out) ((N1.out.below KG.out).len LZp1.out (by decide)))
  with_reducible refine CT.out.mono ?_
  rintro e w17 ⟨rfl, hb⟩
  clear CT
  clear cBX10 cBX11 cBX1f cBX1l
  have BX1 := Lib.hid (BX1.out.below hb BX1.out.lt)
  have KG := Lib.hid (KG.out.trans (hb.mono KG.out.size))
  clear hb
  have cBX10 := BX1.out.cell (i := 0) rfl
  have cBX11 := BX1.out.cell (i := 1) rfl
  have cBX1f := BX1.out.fz
  have cBX1l := BX1.out.lt
  go_wp2_with fail
  have CT := Lib.hid (checkN (N1.out.below KG.out) ((N1.out.below KG.out).len LZp1.out (by decide)))
  with_reducible refine CT.out.mono ?_
  rintro e w18 ⟨rfl, hb⟩
  clear CT
  clear cBX10 cBX11 cBX1f cBX1l
  clear BX1
  have KG := Lib.hid (KG.out.trans (hb.mono KG.out.size))
  clear hb
  go_wp2_with fail
  have CT := Lib.hid (parse_k w18 HSM.out HZS.out.symm HC.out)
  with_reducible refine CT.out.mono ?_
  rintro e w19 ⟨x20, rfl, hN21, hb⟩
  have N21 := Lib.hid hN21
  clear hN21
  clear CT
  have KG := Lib.hid (KG.out.trans (hb.mono KG.out.size))
  clear hb
  go_upto_region 11 with (fail)
  obtain ⟨v23, hV⟩ : ∃ V, V = w19.alloc (.cells #[.bool x20.s, .slice x20.a x20.n x20.c] 24) := ⟨_, rfl⟩
  have hbV : Below w19.heap.size w19 v23 := by rw [hV]; exact ((Below.refl _ _).alloc (Nat.le_refl _) _)
  have BX22 := Lib.hid (show Bxs v23 (w19.heap.size) 24 [.bool x20.s, .slice x20.a x20.n x20.c] by have h := Bxs.new (w19) 24 [.bool x20.s, .slice x20.a x20.n x20.c]; rw [hV]; exact h)
  rw [show w19.alloc (.cells #[.bool x20.s, .slice x20.a x20.n x20.c] 24) = v23 from hV.symm]
  have N21 := Lib.hid (N21.out.below hbV)
  have KG := Lib.hid (KG.out.trans (hbV.mono KG.out.size))
  clear hV hbV
  go_wp2_with fail
  have CT := Lib.hid (parse_k v23 HHM.out HZH.out HHC.out)
  with_reducible refine CT.out.mono ?_
  rintro e w24 ⟨x25, rfl, hN26, hb⟩
  have N26 := Lib.hid hN26
  clear hN26
  clear CT
  have N21 := Lib.hid (N21.out.below hb)
  have BX22 := Lib.hid (BX22.out.below hb BX22.out.lt)
  have KG := Lib.hid (KG.out.trans (hb.mono KG.out.size))
  clear hb
  clear N26
  go_upto_region 14 with (fail)
  obtain ⟨v28, hV⟩ : ∃ V, V = w24.alloc (.cells #[.bool x25.s, .slice x25.a x25.n x25.c] 24) := ⟨_, rfl⟩
  have hbV : Below w24.heap.size w24 v28 := by rw [hV]; exact ((Below.refl _ _).alloc (Nat.le_refl _) _)
  have BX27 := Lib.hid (show Bxs v28 (w24.heap.size) 24 [.bool x25.s, .slice x25.a x25.n x25.c] by have h := Bxs.new (w24) 24 [.bool x25.s, .slice x25.a x25.n x25.c]; rw [hV]; exact h)
  rw [show w24.alloc (.cells #[.bool x25.s, .slice x25.a x25.n x25.c] 24) = v28 from hV.symm]
  have N21 := Lib.hid (N21.out.below hbV)
  have BX22 := Lib.hid (BX22.out.below hbV BX22.out.lt)
  have KG := Lib.hid (KG.out.trans (hbV.mono KG.out.size))
  clear hV hbV
  clear BX27
  have cBX220 := BX22.out.cell (i := 0) rfl
  have cBX221 := BX22.out.cell (i := 1) rfl
  have cBX22f := BX22.out.fz
  have cBX22l := BX22.out.lt
  go_wp2_with fail
  have CT := Lib.hid (checkN N21.out.k (N21.out.k.len LZzs.out (by decide)))
  with_reducible refine CT.out.mono ?_
  rintro e w29 ⟨rfl, hb⟩
  clear CT
  clear cBX220 cBX221 cBX22f cBX22l
  have N21 := Lib.hid (N21.out.below hb)
  have BX22 := Lib.hid (BX22.out.below hb BX22.out.lt)
  have KG := Lib.hid (KG.out.trans (hb.mono KG.out.size))
  clear hb
  have cBX220 := BX22.out.cell (i := 0) rfl
  have cBX221 := BX22.out.cell (i := 1) rfl
  have cBX22f := BX22.out.fz
  have cBX22l := BX22.out.lt
  go_wp2_with fail
  have CT := Lib.hid (textN N21.out.k.any (N21.out.k.len LZzs.out (by decide)) (HT.out.on KG.out))
  rw [show (⟨(Lib.itoa zs).toArray⟩ : ByteArray) = s from HBK.out] at CT
  with_reducible refine CT.out.mono ?_
  rintro e w30 ⟨rfl, hb⟩
  clear CT
  clear cBX220 cBX221 cBX22f cBX22l
  have N21 := Lib.hid (N21.out.below hb)
  have BX22 := Lib.hid (BX22.out.below hb BX22.out.lt)
  have KG := Lib.hid (KG.out.trans (hb.mono KG.out.size))
  clear hb
  go_upto_region 16 with (fail)
  refine Go.FreshS.wp_region_fresh 22 [] (Go.FreshS.spOf [(1, Go.FreshS.Sp.know (.int .i64 s2)), (15, Go.FreshS.Sp.know (.int .i64 s2))])
    (fun w' => Below w30.heap.size w30 w') (by kernel_rfl) (by kernel_rfl) (by kernel_rfl)
    (Go.FreshS.spOf_cons (Go.FreshS.Sp.know_keeps _ _) (Go.FreshS.spOf_cons (Go.FreshS.Sp.know_keeps _ _) (Go.FreshS.spOf_nil))) (fun _ _ h hb => h.trans (hb.mono h.size)) ((Below.refl _ _).drew) ?_
  simp only [List.append_eq, List.cons_append, List.nil_append, List.take_succ_cons, List.take_zero, List.drop_succ_cons, List.drop_zero]
  refine Go.FreshS.wpF_reads rfl rfl rfl ?_ (fun w' hw' => ?_) ?_
  rotate_left
  · have hb' := hw'.world
    have hs0 := (BX22.out.below hb' BX22.out.lt).cell (i := 0) rfl
    have hs1 := (BX22.out.below hb' BX22.out.lt).cell (i := 1) rfl
    have hsf := (BX22.out.below hb' BX22.out.lt).fz
    have hsl := (BX22.out.below hb' BX22.out.lt).lt
    clear hw'
    go_simp
    try rfl
  conv => arg 10; simp only [Act.put, List.setIfInBounds_toArray, List.set_cons_succ, List.set_cons_zero]
  refine Go.FreshS.wpF_spec rfl rfl rfl (fun w' hw' => ?_) ?_
  · have hb' := hw'.world
    refine Go.FreshS.gives_of (Go.FreshS.PK (.int .i64 s2)) ?_ (fun _ _ h => h.post)
    go_simp
    have CT := signN (N21.out.below hb').k.any ((N21.out.below hb').k.len LZzs.out (by decide))
    rw [show cmpZ zs 0 = s2 from HS2.out] at CT
    refine CT.mono ?_
    rintro e w'' ⟨rfl, hb⟩
    exact ⟨_, rfl, rfl, hb⟩
  rintro _ rfl
  conv => arg 10; simp only [Act.put, List.setIfInBounds_toArray, List.set_cons_succ, List.set_cons_zero]
  refine Go.FreshS.wpF_reads rfl rfl rfl ?_ (fun w' hw' => ?_) ?_
  rotate_left
  · have hb' := hw'.world
    skip
    clear hw'
    go_simp
    try rfl
  conv => arg 10; simp only [Act.put, List.setIfInBounds_toArray, List.set_cons_succ, List.set_cons_zero]
  refine Go.FreshS.wpF_reads rfl rfl rfl ?_ (fun w' hw' => ?_) ?_
  rotate_left
  · have hb' := hw'.world
    skip
    clear hw'
    go_simp
    try rfl
  conv => arg 10; simp only [Act.put, List.setIfInBounds_toArray, List.set_cons_succ, List.set_cons_zero]
  refine Go.FreshS.wpF_skip (by rfl) rfl ?_
  conv => arg 10; simp only [Act.put, List.setIfInBounds_toArray, List.set_cons_succ, List.set_cons_zero]
  refine Go.FreshS.wpF_skip (by rfl) rfl ?_
  conv => arg 10; simp only [Act.put, List.setIfInBounds_toArray, List.set_cons_succ, List.set_cons_zero]
  refine Go.FreshS.wpF_reads rfl rfl rfl ?_ (fun w' hw' => ?_) ?_
  rotate_left
  · have hb' := hw'.world
    skip
    clear hw'
    go_simp
    try rfl
  conv => arg 10; simp only [Act.put, List.setIfInBounds_toArray, List.set_cons_succ, List.set_cons_zero]
  refine Go.FreshS.wpF_reads rfl rfl rfl ?_ (fun w' hw' => ?_) ?_
  rotate_left
  · have hb' := hw'.world
    skip
    clear hw'
    go_simp
    try rfl
  conv => arg 10; simp only [Act.put, List.setIfInBounds_toArray, List.set_cons_succ, List.set_cons_zero]
  refine Go.FreshS.wpF_skip (by rfl) rfl ?_
  conv => arg 10; simp only [Act.put, List.setIfInBounds_toArray, List.set_cons_succ, List.set_cons_zero]
  refine Go.FreshS.wpF_skip (by rfl) rfl ?_
  conv => arg 10; simp only [Act.put, List.setIfInBounds_toArray, List.set_cons_succ, List.set_cons_zero]
  refine Go.FreshS.wpF_skip (by rfl) rfl ?_
  conv => arg 10; simp only [Act.put, List.setIfInBounds_toArray, List.set_cons_succ, List.set_cons_zero]
  refine Go.FreshS.wpF_skip (by rfl) rfl ?_
  conv => arg 10; simp only [Act.put, List.setIfInBounds_toArray, List.set_cons_succ, List.set_cons_zero]
  refine Go.FreshS.wpF_reads rfl rfl rfl ?_ (fun w' hw' => ?_) ?_
  rotate_left
  · have hb' := hw'.world
    skip
    clear hw'
    go_simp
    try rfl
  conv => arg 10; simp only [Act.put, List.setIfInBounds_toArray, List.set_cons_succ, List.set_cons_zero]
  refine Go.FreshS.wpF_reads rfl rfl rfl ?_ (fun w' hw' => ?_) ?_
  rotate_left
  · have hb' := hw'.world
    skip
    clear hw'
    go_simp
    try rfl
  conv => arg 10; simp only [Act.put, List.setIfInBounds_toArray, List.set_cons_succ, List.set_cons_zero]
  refine Go.FreshS.wpF_readsG (by rfl) rfl rfl ?_ (fun w' hw' => ?_) ?_
  rotate_left
  · have hb' := hw'.world
    have hs0 := (BX22.out.below hb' BX22.out.lt).cell (i := 0) rfl
    have hs1 := (BX22.out.below hb' BX22.out.lt).cell (i := 1) rfl
    have hsf := (BX22.out.below hb' BX22.out.lt).fz
    have hsl := (BX22.out.below hb' BX22.out.lt).lt
    clear hw'
    go_simp
    try rfl
  conv => arg 10; simp only [Act.put, List.setIfInBounds_toArray, List.set_cons_succ, List.set_cons_zero]
  refine Go.FreshS.wpF_gspec (by rfl) rfl rfl (fun w' hw' => ?_) ?_
  · have hb' := hw'.world
    refine Go.FreshS.gives_of (Go.FreshS.PK (.int .i64 s2)) ?_ (fun _ _ h => h.post)
    go_simp
    have CT := signN (N21.out.below hb').k.any ((N21.out.below hb').k.len LZzs.out (by decide))
    rw [show cmpZ zs 0 = s2 from HS2.out] at CT
    refine CT.mono ?_
    rintro e w'' ⟨rfl, hb⟩
    exact ⟨_, rfl, rfl, hb⟩
  rintro _ rfl
  conv => arg 10; simp only [Act.put, List.setIfInBounds_toArray, List.set_cons_succ, List.set_cons_zero]
  refine Go.FreshS.wpF_readsG (by rfl) rfl rfl ?_ (fun w' hw' => ?_) ?_
  rotate_left
  · have hb' := hw'.world
    skip
    clear hw'
    go_simp
    try rfl
  conv => arg 10; simp only [Act.put, List.setIfInBounds_toArray, List.set_cons_succ, List.set_cons_zero]
  refine Go.FreshS.wpF_readsG (by rfl) rfl rfl ?_ (fun w' hw' => ?_) ?_
  rotate_left
  · have hb' := hw'.world
    skip
    clear hw'
    go_simp
    try rfl
  conv => arg 10; simp only [Act.put, List.setIfInBounds_toArray, List.set_cons_succ, List.set_cons_zero]
  refine Go.FreshS.wpF_readsG (by rfl) rfl rfl ?_ (fun w' hw' => ?_) ?_
  rotate_left
  · have hb' := hw'.world
    skip
    clear hw'
    go_simp
    try rfl
  conv => arg 10; simp only [Act.put, List.setIfInBounds_toArray, List.set_cons_succ, List.set_cons_zero]
  refine Go.FreshS.wpF_readsG (by rfl) rfl rfl ?_ (fun w' hw' => ?_) ?_
  rotate_left
  · have hb' := hw'.world
    skip
    clear hw'
    go_simp
    try rfl
  conv => arg 10; simp only [Act.put, List.setIfInBounds_toArray, List.set_cons_succ, List.set_cons_zero]
  refine Go.FreshS.wpF_readsG (by rfl) rfl rfl ?_ (fun w' hw' => ?_) ?_
  rotate_left
  · have hb' := hw'.world
    skip
    clear hw'
    go_simp
    try rfl
  conv => arg 10; simp only [Act.put, List.setIfInBounds_toArray, List.set_cons_succ, List.set_cons_zero]
  refine Go.FreshS.wpF_reads rfl rfl rfl ?_ (fun w' hw' => ?_) ?_
  rotate_left
  · have hb' := hw'.world
    skip
    clear hw'
    go_simp
    try rfl
  conv => arg 10; simp only [Act.put, List.setIfInBounds_toArray, List.set_cons_succ, List.set_cons_zero]
  refine Go.FreshS.wpF_nil (fun w31 hb hF => ?_)
  clear hF
  clear N21
  clear BX22
  have KG := Lib.hid (KG.out.trans (hb.mono KG.out.size))
  clear hb
  go_wp2_with fail
  go_ret
  exact ⟨rfl, KG.out⟩
set_option maxRecDepth 100000 in
set_option maxHeartbeats 16000000 in
theorem read_nl_c3 (x1 : NV) (p1 : Int) (s : ByteArray) (w : World) (htab : Tab w) (h1 : KN w x1 p1) (b1 : x1.n ≤ 200) (hsm : s.size ≤ 9223372036854775807) (hs : ¬ 1048576 < s.size) (hz : p1 < 0) (hd : 200 < Lib.nDigits p1.natAbs) (hc : codeT s.data.toList = 3) (hz0 : numT s.data.toList = 0) : Calls Tryz.prog 5 #[x1.v, .string s] w fun e w' => e = .returned (.bool true) ∧ Below w.heap.size w w' := by
  have HT := Lib.hid htab
  have KG := Lib.hid (Below.refl w.heap.size w)
  have N1 := Lib.hid h1
  have LZp1 := Lib.hid (show lenB p1.natAbs ≤ 200 by have := h1.n; omega)
  have HSM := Lib.hid hsm
  have HS := Lib.hid hs
  obtain ⟨tb, htb⟩ : ∃ t : ByteArray, t = ⟨(Lib.itoa p1).toArray⟩ := ⟨_, rfl⟩
  have HTB := Lib.hid htb
  have htl : tb.size = (Lib.itoa p1).length := by rw [htb]; exact tb_size _
  have htd : tb.data.toList = Lib.itoa p1 := by rw [htb]
  have hil := itoa_len_eq p1
  have hle := itoa_len (z := p1) (k := 200) LZp1.out
  rw [if_pos hz] at hil
  have HTM := Lib.hid (show tb.size ≤ 9223372036854775807 by omega)
  have HPZ := Lib.hid hz
  obtain ⟨dg, hdg⟩ : ∃ d : Int, d = (tb.size : Int) - 1 := ⟨_, rfl⟩
  have edg : IntKind.i64.wrap ((tb.size : Int) - 1) = dg := by rw [hdg]; exact IntWalk.i64_in _ (by omega)
  have gt : ¬ (dg ≤ 200) := by omega
  have gt2 : dg > 200 := by omega
  have HCT := Lib.hid (show codeT tb.data.toList = 3 by rw [htd, codeT_itoa, if_pos hd])
  obtain ⟨zt, hzt⟩ : ∃ z, z = numT tb.data.toList := ⟨_, rfl⟩
  have HZT := Lib.hid hzt.symm
  have LZzt := Lib.hid (show lenB zt.natAbs ≤ 23 by rw [hzt]; exact numT_len _)
  have HC := Lib.hid hc
  have HZ0 := Lib.hid hz0
  clear hs htb htl htd hz hd hil hle hdg hzt hc hz0
  clear htab h1 hsm b1
  go_enter Tryz.func5, Tryz.ntmps5
  go_upto_region 1 with (fail)
  obtain ⟨v2, hV⟩ : ∃ V, V = w.alloc (.cells #[.bool x1.s, .slice x1.a x1.n x1.c] 24) := ⟨_, rfl⟩
  have hbV : Below w.heap.size w v2 := by rw [hV]; exact ((Below.refl _ _).alloc (Nat.le_refl _) _)
  have BX1 := Lib.hid (show Bxs v2 (w.heap.size) 24 [.bool x1.s, .slice x1.a x1.n x1.c] by have h := Bxs.new (w) 24 [.bool x1.s, .slice x1.a x1.n x1.c]; rw [hV]; exact h)
  rw [show w.alloc (.cells #[.bool x1.s, .slice x1.a x1.n x1.c] 24) = v2 from hV.symm]
  have KG := Lib.hid (KG.out.trans (hbV.mono KG.out.size))
  clear hV hbV
  go_wp2_with fail
  have CT := Lib.hid (alive_true v2 (HT.out.on KG.out))
  with_reducible refine CT.out.mono ?_
  rintro e w3 ⟨rfl, hb⟩
  clear CT
  have BX1 := Lib.hid (BX1.out.below hb BX1.out.lt)
  have KG := Lib.hid (KG.out.trans (hb.mono KG.out.size))
  clear hb
  have cBX10 := BX1.out.cell (i := 0) rfl
  have cBX11 := BX1.out.cell (i := 1) rfl
  have cBX1f := BX1.out.fz
  have cBX1l := BX1.out.lt
  go_wp2_with fail
  clear cBX10 cBX11 cBX1f cBX1l
  obtain ⟨v5, hV⟩ : ∃ V, V = w3.alloc (.cells #[.bool x1.s, .slice x1.a x1.n x1.c] 24) := ⟨_, rfl⟩
  have hbV : Below w3.heap.size w3 v5 := by rw [hV]; exact ((Below.refl _ _).alloc (Nat.le_refl _) _)
  have BX4 := Lib.hid (show Bxs v5 (w3.heap.size) 24 [.bool x1.s, .slice x1.a x1.n x1.c] by have h := Bxs.new (w3) 24 [.bool x1.s, .slice x1.a x1.n x1.c]; rw [hV]; exact h)
  rw [show w3.alloc (.cells #[.bool x1.s, .slice x1.a x1.n x1.c] 24) = v5 from hV.symm]
  have BX1 := Lib.hid (BX1.out.below hbV BX1.out.lt)
  have KG := Lib.hid (KG.out.trans (hbV.mono KG.out.size))
  clear hV hbV
  have cBX10 := BX1.out.cell (i := 0) rfl
  have cBX11 := BX1.out.cell (i := 1) rfl
  have cBX1f := BX1.out.fz
  have cBX1l := BX1.out.lt
  have CT := Lib.hid (great1N (M := 200) BX4.out)
  rw [show ((200 : Nat) : Int) = 200 from rfl, show decide (200 < x1.n) = false from decide_eq_false (by have g0 : x1.n ≤ 200 := ((N1.out.below KG.out).len LZp1.out (by decide)); omega)] at CT
  with_reducible refine CT.out.mono ?_
  rintro e w6 ⟨rfl, hb⟩
  clear CT
  clear cBX10 cBX11 cBX1f cBX1l
  have BX1 := Lib.hid (BX1.out.below hb BX1.out.lt)
  clear BX4
  have KG := Lib.hid (KG.out.trans (hb.mono KG.out.size))
  clear hb
  go_wp2_with fail
  obtain ⟨v8, hV⟩ : ∃ V, V = w6.alloc (.cells #[.int .i64 s.size] 3) := ⟨_, rfl⟩
  have hbV : Below w6.heap.size w6 v8 := by rw [hV]; exact ((Below.refl _ _).alloc (Nat.le_refl _) _)
  have BX7 := Lib.hid (show Bxs v8 (w6.heap.size) 3 [.int .i64 s.size] by have h := Bxs.new (w6) 3 [.int .i64 s.size]; rw [hV]; exact h)
  rw [show w6.alloc (.cells #[.int .i64 s.size] 3) = v8 from hV.symm]
  have BX1 := Lib.hid (BX1.out.below hbV BX1.out.lt)
  have KG := Lib.hid (KG.out.trans (hbV.mono KG.out.size))
  clear hV hbV
  have CT := Lib.hid (beyond1 BX7.out HSM.out)
  rw [show decide (1048576 < s.size) = false from decide_eq_false HS.out] at CT
  with_reducible refine CT.out.mono ?_
  rintro e w9 ⟨rfl, hb⟩
  clear CT
  have BX1 := Lib.hid (BX1.out.below hb BX1.out.lt)
  clear BX7
  have KG := Lib.hid (KG.out.trans (hb.mono KG.out.size))
  clear hb
  have cBX10 := BX1.out.cell (i := 0) rfl
  have cBX11 := BX1.out.cell (i := 1) rfl
  have cBX1f := BX1.out.fz
  have cBX1l := BX1.out.lt
  go_wp2_with fail
  have CT := Lib.hid (textN (N1.out.below KG.out).any ((N1.out.below KG.out).len LZp1.out (by decide)) (HT.out.on KG.out))
  rw [show (⟨(Lib.itoa p1).toArray⟩ : ByteArray) = tb from HTB.out.symm] at CT
  with_reducible refine CT.out.mono ?_
  rintro e w10 ⟨rfl, hb⟩
  clear CT
  clear cBX10 cBX11 cBX1f cBX1l
  have BX1 := Lib.hid (BX1.out.below hb BX1.out.lt)
  have KG := Lib.hid (KG.out.trans (hb.mono KG.out.size))
  clear hb
  go_wp2_with fail
  have CT := Lib.hid (parse_k w10 HTM.out HZT.out HCT.out)
  with_reducible refine CT.out.mono ?_
  rintro e w11 ⟨x12, rfl, hN13, hb⟩
  have N13 := Lib.hid hN13
  clear hN13
  clear CT
  have BX1 := Lib.hid (BX1.out.below hb BX1.out.lt)
  have KG := Lib.hid (KG.out.trans (hb.mono KG.out.size))
  clear hb
  clear N13
  go_upto_region 5 with (fail)
  obtain ⟨v15, hV⟩ : ∃ V, V = w11.alloc (.cells #[.bool x12.s, .slice x12.a x12.n x12.c] 24) := ⟨_, rfl⟩
  have hbV : Below w11.heap.size w11 v15 := by rw [hV]; exact ((Below.refl _ _).alloc (Nat.le_refl _) _)
  have BX14 := Lib.hid (show Bxs v15 (w11.heap.size) 24 [.bool x12.s, .slice x12.a x12.n x12.c] by have h := Bxs.new (w11) 24 [.bool x12.s, .slice x12.a x12.n x12.c]; rw [hV]; exact h)
  rw [show w11.alloc (.cells #[.bool x12.s, .slice x12.a x12.n x12.c] 24) = v15 from hV.symm]
  have BX1 := Lib.hid (BX1.out.below hbV BX1.out.lt)
  have KG := Lib.hid (KG.out.trans (hbV.mono KG.out.size))
  clear hV hbV
  clear BX14
  have cBX10 := BX1.out.cell (i := 0) rfl
  have cBX11 := BX1.out.cell (i := 1) rfl
  have cBX1f := BX1.out.fz
  have cBX1l := BX1.out.lt
  go_wp2_with fail
  have CT := Lib.hid (signN (N1.out.below KG.out).any ((N1.out.below KG.out).len LZp1.out (by decide)))
  rw [show cmpZ p1 0 = (-1) from cmpZ_lt HPZ.out] at CT
  with_reducible refine CT.out.mono ?_
  rintro e w16 ⟨rfl, hb⟩
  clear CT
  clear cBX10 cBX11 cBX1f cBX1l
  have BX1 := Lib.hid (BX1.out.below hb BX1.out.lt)
  have KG := Lib.hid (KG.out.trans (hb.mono KG.out.size))
  clear hb
  have cBX10 := BX1.out.cell (i := 0) rfl
  have cBX11 := BX1.out.cell (i := 1) rfl
  have cBX1f := BX1.out.fz
  have cBX1l := BX1.out.lt
  go_wp2_with fail
  have CT := Lib.hid (checkN (N1.out.below KG.out) ((N1.out.below KG.out).len LZp1.out (by decide)))
  with_reducible refine CT.out.mono ?_
  rintro e w17 ⟨rfl, hb⟩
  clear CT
  clear cBX10 cBX11 cBX1f cBX1l
  have BX1 := Lib.hid (BX1.out.below hb BX1.out.lt)
  have KG := Lib.hid (KG.out.trans (hb.mono KG.out.size))
  clear hb
  have cBX10 := BX1.out.cell (i := 0) rfl
  have cBX11 := BX1.out.cell (i := 1) rfl
  have cBX1f := BX1.out.fz
  have cBX1l := BX1.out.lt
  go_wp2_with fail
  have CT := Lib.hid (checkN (N1.out.below KG.out) ((N1.out.below KG.out).len LZp1.out (by decide)))
  with_reducible refine CT.out.mono ?_
  rintro e w18 ⟨rfl, hb⟩
  clear CT
  clear cBX10 cBX11 cBX1f cBX1l
  clear BX1
  have KG := Lib.hid (KG.out.trans (hb.mono KG.out.size))
  clear hb
  go_wp2_with fail
  have CT := Lib.hid (parse_0 w18 HSM.out HZ0.out HC.out)
  with_reducible refine CT.out.mono ?_
  rintro e w19 ⟨x20, rfl, hb⟩
  clear CT
  have KG := Lib.hid (KG.out.trans (hb.mono KG.out.size))
  clear hb
  go_upto_region 11 with (fail)
  obtain ⟨v22, hV⟩ : ∃ V, V = w19.alloc (.cells #[.bool false, .slice x20.1 0 x20.2] 24) := ⟨_, rfl⟩
  have hbV : Below w19.heap.size w19 v22 := by rw [hV]; exact ((Below.refl _ _).alloc (Nat.le_refl _) _)
  have BX21 := Lib.hid (show Bxs v22 (w19.heap.size) 24 [.bool false, .slice x20.1 0 x20.2] by have h := Bxs.new (w19) 24 [.bool false, .slice x20.1 0 x20.2]; rw [hV]; exact h)
  rw [show w19.alloc (.cells #[.bool false, .slice x20.1 0 x20.2] 24) = v22 from hV.symm]
  have KG := Lib.hid (KG.out.trans (hbV.mono KG.out.size))
  clear hV hbV
  have cBX210 := BX21.out.cell (i := 0) rfl
  have cBX211 := BX21.out.cell (i := 1) rfl
  have cBX21f := BX21.out.fz
  have cBX21l := BX21.out.lt
  go_wp2_with fail
  go_ret
  exact ⟨rfl, KG.out⟩
set_option maxRecDepth 100000 in
set_option maxHeartbeats 16000000 in
theorem read_nl_c4 (x1 : NV) (p1 : Int) (s : ByteArray) (w : World) (htab : Tab w) (h1 : KN w x1 p1) (b1 : x1.n ≤ 200) (hsm : s.size ≤ 9223372036854775807) (hs : ¬ 1048576 < s.size) (hz : p1 < 0) (hd : 200 < Lib.nDigits p1.natAbs) (hc : codeT s.data.toList = 4) (hz0 : numT s.data.toList = 0) : Calls Tryz.prog 5 #[x1.v, .string s] w fun e w' => e = .returned (.bool true) ∧ Below w.heap.size w w' := by
  have HT := Lib.hid htab
  have KG := Lib.hid (Below.refl w.heap.size w)
  have N1 := Lib.hid h1
  have LZp1 := Lib.hid (show lenB p1.natAbs ≤ 200 by have := h1.n; omega)
  have HSM := Lib.hid hsm
  have HS := Lib.hid hs
  obtain ⟨tb, htb⟩ : ∃ t : ByteArray, t = ⟨(Lib.itoa p1).toArray⟩ := ⟨_, rfl⟩
  have HTB := Lib.hid htb
  have htl : tb.size = (Lib.itoa p1).length := by rw [htb]; exact tb_size _
  have htd : tb.data.toList = Lib.itoa p1 := by rw [htb]
  have hil := itoa_len_eq p1
  have hle := itoa_len (z := p1) (k := 200) LZp1.out
  rw [if_pos hz] at hil
  have HTM := Lib.hid (show tb.size ≤ 9223372036854775807 by omega)
  have HPZ := Lib.hid hz
  obtain ⟨dg, hdg⟩ : ∃ d : Int, d = (tb.size : Int) - 1 := ⟨_, rfl⟩
  have edg : IntKind.i64.wrap ((tb.size : Int) - 1) = dg := by rw [hdg]; exact IntWalk.i64_in _ (by omega)
  have gt : ¬ (dg ≤ 200) := by omega
  have gt2 : dg > 200 := by omega
  have HCT := Lib.hid (show codeT tb.data.toList = 3 by rw [htd, codeT_itoa, if_pos hd])
  obtain ⟨zt, hzt⟩ : ∃ z, z = numT tb.data.toList := ⟨_, rfl⟩
  have HZT := Lib.hid hzt.symm
  have LZzt := Lib.hid (show lenB zt.natAbs ≤ 23 by rw [hzt]; exact numT_len _)
  have HC := Lib.hid hc
  have HZ0 := Lib.hid hz0
  clear hs htb htl htd hz hd hil hle hdg hzt hc hz0
  clear htab h1 hsm b1
  go_enter Tryz.func5, Tryz.ntmps5
  go_upto_region 1 with (fail)
  obtain ⟨v2, hV⟩ : ∃ V, V = w.alloc (.cells #[.bool x1.s, .slice x1.a x1.n x1.c] 24) := ⟨_, rfl⟩
  have hbV : Below w.heap.size w v2 := by rw [hV]; exact ((Below.refl _ _).alloc (Nat.le_refl _) _)
  have BX1 := Lib.hid (show Bxs v2 (w.heap.size) 24 [.bool x1.s, .slice x1.a x1.n x1.c] by have h := Bxs.new (w) 24 [.bool x1.s, .slice x1.a x1.n x1.c]; rw [hV]; exact h)
  rw [show w.alloc (.cells #[.bool x1.s, .slice x1.a x1.n x1.c] 24) = v2 from hV.symm]
  have KG := Lib.hid (KG.out.trans (hbV.mono KG.out.size))
  clear hV hbV
  go_wp2_with fail
  have CT := Lib.hid (alive_true v2 (HT.out.on KG.out))
  with_reducible refine CT.out.mono ?_
  rintro e w3 ⟨rfl, hb⟩
  clear CT
  have BX1 := Lib.hid (BX1.out.below hb BX1.out.lt)
  have KG := Lib.hid (KG.out.trans (hb.mono KG.out.size))
  clear hb
  have cBX10 := BX1.out.cell (i := 0) rfl
  have cBX11 := BX1.out.cell (i := 1) rfl
  have cBX1f := BX1.out.fz
  have cBX1l := BX1.out.lt
  go_wp2_with fail
  clear cBX10 cBX11 cBX1f cBX1l
  obtain ⟨v5, hV⟩ : ∃ V, V = w3.alloc (.cells #[.bool x1.s, .slice x1.a x1.n x1.c] 24) := ⟨_, rfl⟩
  have hbV : Below w3.heap.size w3 v5 := by rw [hV]; exact ((Below.refl _ _).alloc (Nat.le_refl _) _)
  have BX4 := Lib.hid (show Bxs v5 (w3.heap.size) 24 [.bool x1.s, .slice x1.a x1.n x1.c] by have h := Bxs.new (w3) 24 [.bool x1.s, .slice x1.a x1.n x1.c]; rw [hV]; exact h)
  rw [show w3.alloc (.cells #[.bool x1.s, .slice x1.a x1.n x1.c] 24) = v5 from hV.symm]
  have BX1 := Lib.hid (BX1.out.below hbV BX1.out.lt)
  have KG := Lib.hid (KG.out.trans (hbV.mono KG.out.size))
  clear hV hbV
  have cBX10 := BX1.out.cell (i := 0) rfl
  have cBX11 := BX1.out.cell (i := 1) rfl
  have cBX1f := BX1.out.fz
  have cBX1l := BX1.out.lt
  have CT := Lib.hid (great1N (M := 200) BX4.out)
  rw [show ((200 : Nat) : Int) = 200 from rfl, show decide (200 < x1.n) = false from decide_eq_false (by have g0 : x1.n ≤ 200 := ((N1.out.below KG.out).len LZp1.out (by decide)); omega)] at CT
  with_reducible refine CT.out.mono ?_
  rintro e w6 ⟨rfl, hb⟩
  clear CT
  clear cBX10 cBX11 cBX1f cBX1l
  have BX1 := Lib.hid (BX1.out.below hb BX1.out.lt)
  clear BX4
  have KG := Lib.hid (KG.out.trans (hb.mono KG.out.size))
  clear hb
  go_wp2_with fail
  obtain ⟨v8, hV⟩ : ∃ V, V = w6.alloc (.cells #[.int .i64 s.size] 3) := ⟨_, rfl⟩
  have hbV : Below w6.heap.size w6 v8 := by rw [hV]; exact ((Below.refl _ _).alloc (Nat.le_refl _) _)
  have BX7 := Lib.hid (show Bxs v8 (w6.heap.size) 3 [.int .i64 s.size] by have h := Bxs.new (w6) 3 [.int .i64 s.size]; rw [hV]; exact h)
  rw [show w6.alloc (.cells #[.int .i64 s.size] 3) = v8 from hV.symm]
  have BX1 := Lib.hid (BX1.out.below hbV BX1.out.lt)
  have KG := Lib.hid (KG.out.trans (hbV.mono KG.out.size))
  clear hV hbV
  have CT := Lib.hid (beyond1 BX7.out HSM.out)
  rw [show decide (1048576 < s.size) = false from decide_eq_false HS.out] at CT
  with_reducible refine CT.out.mono ?_
  rintro e w9 ⟨rfl, hb⟩
  clear CT
  have BX1 := Lib.hid (BX1.out.below hb BX1.out.lt)
  clear BX7
  have KG := Lib.hid (KG.out.trans (hb.mono KG.out.size))
  clear hb
  have cBX10 := BX1.out.cell (i := 0) rfl
  have cBX11 := BX1.out.cell (i := 1) rfl
  have cBX1f := BX1.out.fz
  have cBX1l := BX1.out.lt
  go_wp2_with fail
  have CT := Lib.hid (textN (N1.out.below KG.out).any ((N1.out.below KG.out).len LZp1.out (by decide)) (HT.out.on KG.out))
  rw [show (⟨(Lib.itoa p1).toArray⟩ : ByteArray) = tb from HTB.out.symm] at CT
  with_reducible refine CT.out.mono ?_
  rintro e w10 ⟨rfl, hb⟩
  clear CT
  clear cBX10 cBX11 cBX1f cBX1l
  have BX1 := Lib.hid (BX1.out.below hb BX1.out.lt)
  have KG := Lib.hid (KG.out.trans (hb.mono KG.out.size))
  clear hb
  go_wp2_with fail
  have CT := Lib.hid (parse_k w10 HTM.out HZT.out HCT.out)
  with_reducible refine CT.out.mono ?_
  rintro e w11 ⟨x12, rfl, hN13, hb⟩
  have N13 := Lib.hid hN13
  clear hN13
  clear CT
  have BX1 := Lib.hid (BX1.out.below hb BX1.out.lt)
  have KG := Lib.hid (KG.out.trans (hb.mono KG.out.size))
  clear hb
  clear N13
  go_upto_region 5 with (fail)
  obtain ⟨v15, hV⟩ : ∃ V, V = w11.alloc (.cells #[.bool x12.s, .slice x12.a x12.n x12.c] 24) := ⟨_, rfl⟩
  have hbV : Below w11.heap.size w11 v15 := by rw [hV]; exact ((Below.refl _ _).alloc (Nat.le_refl _) _)
  have BX14 := Lib.hid (show Bxs v15 (w11.heap.size) 24 [.bool x12.s, .slice x12.a x12.n x12.c] by have h := Bxs.new (w11) 24 [.bool x12.s, .slice x12.a x12.n x12.c]; rw [hV]; exact h)
  rw [show w11.alloc (.cells #[.bool x12.s, .slice x12.a x12.n x12.c] 24) = v15 from hV.symm]
  have BX1 := Lib.hid (BX1.out.below hbV BX1.out.lt)
  have KG := Lib.hid (KG.out.trans (hbV.mono KG.out.size))
  clear hV hbV
  clear BX14
  have cBX10 := BX1.out.cell (i := 0) rfl
  have cBX11 := BX1.out.cell (i := 1) rfl
  have cBX1f := BX1.out.fz
  have cBX1l := BX1.out.lt
  go_wp2_with fail
  have CT := Lib.hid (signN (N1.out.below KG.out).any ((N1.out.below KG.out).len LZp1.out (by decide)))
  rw [show cmpZ p1 0 = (-1) from cmpZ_lt HPZ.out] at CT
  with_reducible refine CT.out.mono ?_
  rintro e w16 ⟨rfl, hb⟩
  clear CT
  clear cBX10 cBX11 cBX1f cBX1l
  have BX1 := Lib.hid (BX1.out.below hb BX1.out.lt)
  have KG := Lib.hid (KG.out.trans (hb.mono KG.out.size))
  clear hb
  have cBX10 := BX1.out.cell (i := 0) rfl
  have cBX11 := BX1.out.cell (i := 1) rfl
  have cBX1f := BX1.out.fz
  have cBX1l := BX1.out.lt
  go_wp2_with fail
  have CT := Lib.hid (checkN (N1.out.below KG.out) ((N1.out.below KG.out).len LZp1.out (by decide)))
  with_reducible refine CT.out.mono ?_
  rintro e w17 ⟨rfl, hb⟩
  clear CT
  clear cBX10 cBX11 cBX1f cBX1l
  have BX1 := Lib.hid (BX1.out.below hb BX1.out.lt)
  have KG := Lib.hid (KG.out.trans (hb.mono KG.out.size))
  clear hb
  have cBX10 := BX1.out.cell (i := 0) rfl
  have cBX11 := BX1.out.cell (i := 1) rfl
  have cBX1f := BX1.out.fz
  have cBX1l := BX1.out.lt
  go_wp2_with fail
  have CT := Lib.hid (checkN (N1.out.below KG.out) ((N1.out.below KG.out).len LZp1.out (by decide)))
  with_reducible refine CT.out.mono ?_
  rintro e w18 ⟨rfl, hb⟩
  clear CT
  clear cBX10 cBX11 cBX1f cBX1l
  clear BX1
  have KG := Lib.hid (KG.out.trans (hb.mono KG.out.size))
  clear hb
  go_wp2_with fail
  have CT := Lib.hid (parse_0 w18 HSM.out HZ0.out HC.out)
  with_reducible refine CT.out.mono ?_
  rintro e w19 ⟨x20, rfl, hb⟩
  clear CT
  have KG := Lib.hid (KG.out.trans (hb.mono KG.out.size))
  clear hb
  go_upto_region 11 with (fail)
  obtain ⟨v22, hV⟩ : ∃ V, V = w19.alloc (.cells #[.bool false, .slice x20.1 0 x20.2] 24) := ⟨_, rfl⟩
  have hbV : Below w19.heap.size w19 v22 := by rw [hV]; exact ((Below.refl _ _).alloc (Nat.le_refl _) _)
  have BX21 := Lib.hid (show Bxs v22 (w19.heap.size) 24 [.bool false, .slice x20.1 0 x20.2] by have h := Bxs.new (w19) 24 [.bool false, .slice x20.1 0 x20.2]; rw [hV]; exact h)
  rw [show w19.alloc (.cells #[.bool false, .slice x20.1 0 x20.2] 24) = v22 from hV.symm]
  have KG := Lib.hid (KG.out.trans (hbV.mono KG.out.size))
  clear hV hbV
  have cBX210 := BX21.out.cell (i := 0) rfl
  have cBX211 := BX21.out.cell (i := 1) rfl
  have cBX21f := BX21.out.fz
  have cBX21l := BX21.out.lt
  go_wp2_with fail
  go_ret
  exact ⟨rfl, KG.out⟩
theorem limbsRead_law (s1 : Bool) (a1 : Option Addr) (n1 c1 : Nat) (o1 : Nat → Int) (t : ByteArray) (w : World) (htab : Tab w) (h1 : Rd w a1 n1 o1) (hc1 : n1 ≤ c1) (ht : t.size ≤ 9223372036854775807) :
    Calls Tryz.prog 5 #[numV s1 a1 n1 c1, .string t] w fun e w' => e = .returned (.bool true) ∧ Below w.heap.size w w' := by
  by_cases hg : 200 < n1
  · exact read_great ⟨s1, a1, n1, c1⟩ _ t w htab (AN.raw h1 hc1) ht hg
  have b1 : n1 ≤ 200 := by omega
  by_cases hs : 1048576 < t.size
  · exact read_long ⟨s1, a1, n1, c1⟩ _ t w htab (AN.raw h1 hc1) b1 ht hs
  by_cases k1 : okN s1 n1 o1
  · by_cases hz : valN s1 n1 o1 < 0
    · by_cases hd : Lib.nDigits (valN s1 n1 o1).natAbs ≤ 200
      · rcases codeT_cases t.data.toList with hc | ⟨hc, hz0⟩ | ⟨hc, hz0⟩
        · by_cases hp : 0 < numT t.data.toList
          · exact read_ns_p ⟨s1, a1, n1, c1⟩ _ t w htab (KN.raw h1 hc1 k1) b1 ht hs hz hd hc hp
          · exact read_ns_n ⟨s1, a1, n1, c1⟩ _ t w htab (KN.raw h1 hc1 k1) b1 ht hs hz hd hc (by omega)
        · exact read_ns_c3 ⟨s1, a1, n1, c1⟩ _ t w htab (KN.raw h1 hc1 k1) b1 ht hs hz hd hc hz0
        · exact read_ns_c4 ⟨s1, a1, n1, c1⟩ _ t w htab (KN.raw h1 hc1 k1) b1 ht hs hz hd hc hz0
      · rcases codeT_cases t.data.toList with hc | ⟨hc, hz0⟩ | ⟨hc, hz0⟩
        · by_cases hp : 0 < numT t.data.toList
          · exact read_nl_p ⟨s1, a1, n1, c1⟩ _ t w htab (KN.raw h1 hc1 k1) b1 ht hs hz (by omega) hc hp
          · exact read_nl_n ⟨s1, a1, n1, c1⟩ _ t w htab (KN.raw h1 hc1 k1) b1 ht hs hz (by omega) hc (by omega)
        · exact read_nl_c3 ⟨s1, a1, n1, c1⟩ _ t w htab (KN.raw h1 hc1 k1) b1 ht hs hz (by omega) hc hz0
        · exact read_nl_c4 ⟨s1, a1, n1, c1⟩ _ t w htab (KN.raw h1 hc1 k1) b1 ht hs hz (by omega) hc hz0
    · by_cases hd : Lib.nDigits (valN s1 n1 o1).natAbs ≤ 200
      · rcases codeT_cases t.data.toList with hc | ⟨hc, hz0⟩ | ⟨hc, hz0⟩
        · by_cases hp : 0 < numT t.data.toList
          · exact read_ps_p ⟨s1, a1, n1, c1⟩ _ t w htab (KN.raw h1 hc1 k1) b1 ht hs hz hd hc hp
          · exact read_ps_n ⟨s1, a1, n1, c1⟩ _ t w htab (KN.raw h1 hc1 k1) b1 ht hs hz hd hc (by omega)
        · exact read_ps_c3 ⟨s1, a1, n1, c1⟩ _ t w htab (KN.raw h1 hc1 k1) b1 ht hs hz hd hc hz0
        · exact read_ps_c4 ⟨s1, a1, n1, c1⟩ _ t w htab (KN.raw h1 hc1 k1) b1 ht hs hz hd hc hz0
      · rcases codeT_cases t.data.toList with hc | ⟨hc, hz0⟩ | ⟨hc, hz0⟩
        · by_cases hp : 0 < numT t.data.toList
          · exact read_pl_p ⟨s1, a1, n1, c1⟩ _ t w htab (KN.raw h1 hc1 k1) b1 ht hs hz (by omega) hc hp
          · exact read_pl_n ⟨s1, a1, n1, c1⟩ _ t w htab (KN.raw h1 hc1 k1) b1 ht hs hz (by omega) hc (by omega)
        · exact read_pl_c3 ⟨s1, a1, n1, c1⟩ _ t w htab (KN.raw h1 hc1 k1) b1 ht hs hz (by omega) hc hz0
        · exact read_pl_c4 ⟨s1, a1, n1, c1⟩ _ t w htab (KN.raw h1 hc1 k1) b1 ht hs hz (by omega) hc hz0
  · rcases codeT_cases t.data.toList with hc | ⟨hc, hz0⟩ | ⟨hc, hz0⟩
    · by_cases hp : 0 < numT t.data.toList
      · exact read_bad_p ⟨s1, a1, n1, c1⟩ 0 t w htab (XN.raw h1 hc1 k1) b1 ht hs  hc hp
      · exact read_bad_n ⟨s1, a1, n1, c1⟩ 0 t w htab (XN.raw h1 hc1 k1) b1 ht hs  hc (by omega)
    · exact read_bad_c3 ⟨s1, a1, n1, c1⟩ 0 t w htab (XN.raw h1 hc1 k1) b1 ht hs  hc hz0
    · exact read_bad_c4 ⟨s1, a1, n1, c1⟩ 0 t w htab (XN.raw h1 hc1 k1) b1 ht hs  hc hz0
open Go.ChangeShapes Go.WideShapes Go.ChangeAt
namespace LimbsReadC
theorem own : ownKnob Tryz.prog.godebug = none := by kernel_rfl
theorem laidOut : laidOutB Tryz.prog = true := by kernel_rfl
theorem tab_of_laid (W : World) (hL : laidMet Tryz.prog Rows.limbsReadRow.laid W) : Tab W :=
  Lib.tabIs_of_head (g := 2) (by kernel_rfl) (by kernel_rfl) (t := 232) (n := 20) (e := 69) Tryz.underlying232 Tryz.underlying69 (by kernel_rfl) (by kernel_rfl) hL.tail.tail
noncomputable def laidWorld (os : Os) : World := World.laidAll Tryz.prog os Rows.limbsReadRow.laid
noncomputable def witArgs : Array Value := #[numV false none 0 0, .string ⟨#[]⟩]
theorem laid_met (os : Os) : laidMet Tryz.prog Rows.limbsReadRow.laid ((laidWorld os).forCall (fun _ _ => 0) ⟨#[], witArgs, []⟩).memory :=
  laidMet_laidAll _ (by kernel_rfl) (by kernel_rfl)
theorem reads (os : Os) {H : Type} (enc : TypeId × Value → H) : ∃ places, DataW.whole enc Tryz.prog ((laidWorld os).forCall (fun _ _ => 0) ⟨#[], witArgs, []⟩).memory Tryz.f5.params.toList Rows.limbsReadSpec.vars false witArgs.toList 8 = some ([.agg [.lit (.bool false), .nil], .lit (.string [])], [], places) :=
  ⟨[], by kernel_rfl⟩
set_option maxRecDepth 100000 in
theorem lifted (os : Os) (started : os.Started) (H : Type) (enc : TypeId × Value → H) (F : Stop.Interp) :
    ReturnsInHanded {} Tryz.checked os 5 .any ((OpenSpec.ofChange Rows.limbsReadSpec).preRow enc Tryz.prog Tryz.f5 Rows.limbsReadRow.domain false Rows.limbsReadRow.laid) (((OpenSpec.ofChange Rows.limbsReadSpec).at F).post enc Tryz.prog Tryz.f5 false true false false) := by
  obtain ⟨places, hx⟩ := reads os enc
  refine returnsInHanded_of_row (C := Tryz.checked) (s := OpenSpec.ofChange Rows.limbsReadSpec) own started (by kernel_rfl) Tryz.func5
    (witness_row_atRef (enc := enc) (C := Tryz.checked) false (laidWorld os) witArgs (World.laidAll_os _ _ _) (by kernel_rfl) (by kernel_rfl) (by kernel_rfl)
      (OpenSpec.preRow_of_cond 8 hx (by kernel_rfl) (fun k hk => by cases hk) (by kernel_rfl) (laid_met os))) ?_
  intro W base args ds gs before hval0 hW _ _ _ hL _ _
  rw [MakeChecks.laidMetH_plain _ _ _ (by kernel_rfl)] at hL
  have htab : Tab W := tab_of_laid W hL
  have hval : ∀ (j : Nat) t v, Tryz.f5.params[j]? = some t → args[j]? = some v → Value.okWide Tryz.prog W .any base t v := hval0
  have hW' := hW
  obtain ⟨p, q, hA0, hV, rfl, hfz, hnd⟩ := hW
  have hA : DataW.TrodAll enc Tryz.prog W 0 (fun _ => true) true Tryz.f5.params.toList args.toList ds p := hA0
  rw [Tryz.params5] at hA hval
  obtain ⟨v0, v1, d0, d1, p0, p1, rfl, rfl, rfl, h0, h1⟩ := trodAll_two hA
  obtain ⟨rfl, rfl⟩ := trodVars_none hV
  obtain ⟨s1, a1, n1, c1, o1, rfl, r1, l1⟩ := open_num (hval 0 24 v0 rfl rfl) h0
  obtain ⟨t1, rfl, -, -, wt1⟩ := Go.ChangeMaps.open_string Tryz.underlying9 (hval 1 9 v1 rfl rfl) h1
  refine (limbsRead_law s1 a1 n1 c1 o1 t1 W htab r1 l1 wt1).mono fun e W' ⟨he, hg⟩ => ?_
  subst he
  exact ⟨_, rfl, LawPost.law_post laidOut (by kernel_rfl) (by kernel_rfl) Tryz.underlying4 hW' rfl rfl hg⟩
theorem said : Rows.LimbsReadSaid :=
  OpenClaim.holds_of_cond 5 Tryz.f5 rfl rfl rfl rfl rfl rfl rfl ⟨rfl, rfl, rfl, rfl, rfl⟩ rfl rfl rfl rfl rfl (by kernel_rfl) Tryz.func5 (by kernel_rfl)
    (of_decide_eq_true (by kernel_rfl)) (by unfold Func.isWrapper; first | (rw [if_pos (by decide +kernel)]; kernel_rfl) | (rw [if_neg (by decide +kernel)]; exact ⟨rfl, rfl⟩))
    (fun os started H enc _ F => by rw [OpenClaim.pre_eq_preRow]; exact lifted os started H enc F)
theorem plain (f : FuncId) (fn : Func) (hf : Tryz.pinned.checked.prog.funcNamed "reckoner/reckonerlaw01.LimbsRead" = some f) (hfn : Tryz.pinned.checked.prog.funcs[f]? = some fn) :
    true = Tryz.pinned.checked.prog.looks [] ∧ ∀ (j : Nat) t, fn.params[j]? = some t → Tryz.pinned.checked.prog.wantsStandIn t = false := by
  obtain rfl : f = 5 := Option.some.inj ((show Tryz.prog.funcNamed "reckoner/reckonerlaw01.LimbsRead" = some 5 by kernel_rfl).symm.trans hf) |>.symm
  obtain rfl : fn = Tryz.f5 := (Option.some.inj (Tryz.func5.symm.trans hfn)).symm
  refine ⟨by kernel_rfl, fun j t ht => ?_⟩
  rw [Tryz.params5] at ht
  have hm : t = 24 ∨ t = 9 := by simpa using Array.mem_of_getElem? ht
  rcases hm with rfl | rfl
  · exact (show Tryz.prog.wantsStandIn 24 = false by kernel_rfl)
  · exact (show Tryz.prog.wantsStandIn 9 = false by kernel_rfl)
theorem card : Rows.LimbsReadCardSaid :=
  Claim7.holds_tied_plain_at .later [] _ _ _ _ said (fun _ h => by cases h) (by kernel_rfl) (fun _ h => by cases h) limbsRead_row_tie rfl ⟨rfl, rfl⟩ (by kernel_rfl) rfl plain (by kernel_rfl)
#print axioms card
end LimbsReadC
end Go.Proofs.YtefjjhfahebmeaaGreatDoor.Limb
