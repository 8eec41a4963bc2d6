/-
  The law LimbsTexts: whatever it is handed, it returns true, and what it was handed reads behind the call as it read before; the card ties the listed tables to the program's text.
-/
import Derived.Test.YtefjjhfahebmeaaGreatDoorRtF
import Derived.Test.YtefjjhfahebmeaaGreatDoorCards
import Derived.Test.YtefjjhfahebmeaaGreatDoorTie
import Derived.ChangeMaps5
import Derived.Lay
import Derived.MakeChecks
import Derived.Stop.LaidErr
import Derived.Deep.DeepWitnessRowRef
import Derived.WalkKit
import Derived.ProofKit
import Derived.OpenShut
import Derived.Deep.DeepHandedRow
import Derived.Lib.LaidTab
set_option linter.unusedSimpArgs false
set_option linter.unusedVariables false
namespace Go.Proofs.YtefjjhfahebmeaaGreatDoor.Limb
open Go.RowKit Go.Sort
theorem rparse_k (w : World) {s : ByteArray} {z c : Int} (hs : s.size ≤ 9223372036854775806) (hz : numT s.data.toList = z) (hc : codeT s.data.toList = c) : Calls Tryz.prog 12 #[.string s] w (RNE w z c) := by
  subst hz; subst hc
  exact rparseL s.data.toList w (by rw [Array.length_toList]; exact hs)
theorem bookNum_any (B k : Nat) (v : Value) (xs : List Value) (s : Bool) (a : Option Addr) (n c : Nat) (w : World) (hk : k ≤ 999) (hB : Book.Bk w B B k v xs) (hbase : B ≤ w.heap.size) :
    Calls Tryz.prog 21 #[.pointer (some ⟨B, 0, none⟩), .agg #[.bool s, .slice a n c]] w fun e w' => (∃ u, e = .returned u) ∧ ∃ v', Book.Bk w' B B (k + 1) v' (xs ++ Book.held a n c k) ∧ Below B w w' :=
  (Book.num_any B B k v xs s a n c w (by omega) hB hbase).mono fun _ _ h => kept_nxt h hB hbase
set_option maxRecDepth 100000 in
set_option maxHeartbeats 16000000 in
theorem ltexts_great (x1 : NV) (o1 : Nat → Int) (s : ByteArray) (n : Int) (w : World) (htab : Tab w) (hr1 : Rd w x1.a x1.n o1) (l1 : x1.n ≤ x1.c) (hsm : s.size ≤ 9223372036854775807) (hn1 : -9223372036854775808 ≤ n) (hn2 : n ≤ 9223372036854775807) (hg : 200 < x1.n) : Calls Tryz.prog 3 #[x1.v, .string s, .int .i64 n] w fun e w' => e = .returned (.bool true) ∧ Below w.heap.size w w' := by
  have HT := Lib.hid htab
  have KG := Lib.hid (Below.refl w.heap.size w)
  have HR1 := Lib.hid hr1
  have HSM := Lib.hid hsm
  have HN1 := Lib.hid hn1
  have HN2 := Lib.hid hn2
  have N1 := Lib.hid (AN.raw (s := x1.s) hr1 l1)
  have HG := Lib.hid hg
  clear hg
  clear htab hr1 l1 hsm hn1 hn2
  go_enter Tryz.func3, Tryz.ntmps3
  go_upto_region 1 with (fail)
  obtain ⟨v2, hV⟩ : ∃ V, V = w.alloc (.cells #[.bool x1.s, .slice x1.a x1.n x1.c] 24) := ⟨_, rfl⟩
  have hbV : Below w.heap.size w v2 := by rw [hV]; exact ((Below.refl _ _).alloc (Nat.le_refl _) _)
  have BX1 := Lib.hid (show Bxs v2 (w.heap.size) 24 [.bool x1.s, .slice x1.a x1.n x1.c] by have h := Bxs.new (w) 24 [.bool x1.s, .slice x1.a x1.n x1.c]; rw [hV]; exact h)
  rw [show w.alloc (.cells #[.bool x1.s, .slice x1.a x1.n x1.c] 24) = v2 from hV.symm]
  have KG := Lib.hid (KG.out.trans (hbV.mono KG.out.size))
  clear hV hbV
  have cBX10 := BX1.out.cell (i := 0) rfl
  have cBX11 := BX1.out.cell (i := 1) rfl
  have cBX1f := BX1.out.fz
  have cBX1l := BX1.out.lt
  go_wp2_with fail
  clear cBX10 cBX11 cBX1f cBX1l
  obtain ⟨v4, hV⟩ : ∃ V, V = v2.alloc (.cells #[.bool x1.s, .slice x1.a x1.n x1.c] 24) := ⟨_, rfl⟩
  have hbV : Below v2.heap.size v2 v4 := by rw [hV]; exact ((Below.refl _ _).alloc (Nat.le_refl _) _)
  have BX3 := Lib.hid (show Bxs v4 (v2.heap.size) 24 [.bool x1.s, .slice x1.a x1.n x1.c] by have h := Bxs.new (v2) 24 [.bool x1.s, .slice x1.a x1.n x1.c]; rw [hV]; exact h)
  rw [show v2.alloc (.cells #[.bool x1.s, .slice x1.a x1.n x1.c] 24) = v4 from hV.symm]
  have BX1 := Lib.hid (BX1.out.below hbV BX1.out.lt)
  have KG := Lib.hid (KG.out.trans (hbV.mono KG.out.size))
  clear hV hbV
  have cBX10 := BX1.out.cell (i := 0) rfl
  have cBX11 := BX1.out.cell (i := 1) rfl
  have cBX1f := BX1.out.fz
  have cBX1l := BX1.out.lt
  have CT := Lib.hid (great1N (M := 200) BX3.out)
  rw [show ((200 : Nat) : Int) = 200 from rfl, show decide (200 < x1.n) = true from decide_eq_true HG.out] at CT
  with_reducible refine CT.out.mono ?_
  rintro e w5 ⟨rfl, hb⟩
  clear CT
  clear cBX10 cBX11 cBX1f cBX1l
  clear BX1
  clear BX3
  have KG := Lib.hid (KG.out.trans (hb.mono KG.out.size))
  clear hb
  go_wp2_with fail
  go_ret
  exact ⟨rfl, KG.out⟩
set_option maxRecDepth 100000 in
set_option maxHeartbeats 16000000 in
theorem ltexts_long (x1 : NV) (o1 : Nat → Int) (s : ByteArray) (n : Int) (w : World) (htab : Tab w) (hr1 : Rd w x1.a x1.n o1) (l1 : x1.n ≤ x1.c) (b1 : x1.n ≤ 200) (hsm : s.size ≤ 9223372036854775807) (hn1 : -9223372036854775808 ≤ n) (hn2 : n ≤ 9223372036854775807) (hs : 1048576 < s.size) : Calls Tryz.prog 3 #[x1.v, .string s, .int .i64 n] w fun e w' => e = .returned (.bool true) ∧ Below w.heap.size w w' := by
  have HT := Lib.hid htab
  have KG := Lib.hid (Below.refl w.heap.size w)
  have HR1 := Lib.hid hr1
  have HSM := Lib.hid hsm
  have HN1 := Lib.hid hn1
  have HN2 := Lib.hid hn2
  have N1 := Lib.hid (AN.raw (s := x1.s) hr1 l1)
  have Bx1 := Lib.hid b1
  have HS := Lib.hid hs
  clear hs
  clear htab hr1 l1 hsm hn1 hn2 b1
  go_enter Tryz.func3, Tryz.ntmps3
  go_upto_region 1 with (fail)
  obtain ⟨v2, hV⟩ : ∃ V, V = w.alloc (.cells #[.bool x1.s, .slice x1.a x1.n x1.c] 24) := ⟨_, rfl⟩
  have hbV : Below w.heap.size w v2 := by rw [hV]; exact ((Below.refl _ _).alloc (Nat.le_refl _) _)
  have BX1 := Lib.hid (show Bxs v2 (w.heap.size) 24 [.bool x1.s, .slice x1.a x1.n x1.c] by have h := Bxs.new (w) 24 [.bool x1.s, .slice x1.a x1.n x1.c]; rw [hV]; exact h)
  rw [show w.alloc (.cells #[.bool x1.s, .slice x1.a x1.n x1.c] 24) = v2 from hV.symm]
  have KG := Lib.hid (KG.out.trans (hbV.mono KG.out.size))
  clear hV hbV
  have cBX10 := BX1.out.cell (i := 0) rfl
  have cBX11 := BX1.out.cell (i := 1) rfl
  have cBX1f := BX1.out.fz
  have cBX1l := BX1.out.lt
  go_wp2_with fail
  clear cBX10 cBX11 cBX1f cBX1l
  obtain ⟨v4, hV⟩ : ∃ V, V = v2.alloc (.cells #[.bool x1.s, .slice x1.a x1.n x1.c] 24) := ⟨_, rfl⟩
  have hbV : Below v2.heap.size v2 v4 := by rw [hV]; exact ((Below.refl _ _).alloc (Nat.le_refl _) _)
  have BX3 := Lib.hid (show Bxs v4 (v2.heap.size) 24 [.bool x1.s, .slice x1.a x1.n x1.c] by have h := Bxs.new (v2) 24 [.bool x1.s, .slice x1.a x1.n x1.c]; rw [hV]; exact h)
  rw [show v2.alloc (.cells #[.bool x1.s, .slice x1.a x1.n x1.c] 24) = v4 from hV.symm]
  have BX1 := Lib.hid (BX1.out.below hbV BX1.out.lt)
  have KG := Lib.hid (KG.out.trans (hbV.mono KG.out.size))
  clear hV hbV
  have cBX10 := BX1.out.cell (i := 0) rfl
  have cBX11 := BX1.out.cell (i := 1) rfl
  have cBX1f := BX1.out.fz
  have cBX1l := BX1.out.lt
  have CT := Lib.hid (great1N (M := 200) BX3.out)
  rw [show ((200 : Nat) : Int) = 200 from rfl, show decide (200 < x1.n) = false from decide_eq_false (by have g0 : x1.n ≤ 200 := Bx1.out; omega)] at CT
  with_reducible refine CT.out.mono ?_
  rintro e w5 ⟨rfl, hb⟩
  clear CT
  clear cBX10 cBX11 cBX1f cBX1l
  clear BX1
  clear BX3
  have KG := Lib.hid (KG.out.trans (hb.mono KG.out.size))
  clear hb
  go_wp2_with fail
  obtain ⟨v7, hV⟩ : ∃ V, V = w5.alloc (.cells #[.int .i64 s.size] 3) := ⟨_, rfl⟩
  have hbV : Below w5.heap.size w5 v7 := by rw [hV]; exact ((Below.refl _ _).alloc (Nat.le_refl _) _)
  have BX6 := Lib.hid (show Bxs v7 (w5.heap.size) 3 [.int .i64 s.size] by have h := Bxs.new (w5) 3 [.int .i64 s.size]; rw [hV]; exact h)
  rw [show w5.alloc (.cells #[.int .i64 s.size] 3) = v7 from hV.symm]
  have KG := Lib.hid (KG.out.trans (hbV.mono KG.out.size))
  clear hV hbV
  have CT := Lib.hid (beyond1 BX6.out HSM.out)
  rw [show decide (1048576 < s.size) = true from decide_eq_true HS.out] at CT
  with_reducible refine CT.out.mono ?_
  rintro e w8 ⟨rfl, hb⟩
  clear CT
  clear BX6
  have KG := Lib.hid (KG.out.trans (hb.mono KG.out.size))
  clear hb
  go_wp2_with fail
  go_ret
  exact ⟨rfl, KG.out⟩
set_option maxRecDepth 100000 in
set_option maxHeartbeats 16000000 in
theorem ltexts_ok (x1 : NV) (o1 : Nat → Int) (s : ByteArray) (n : Int) (w : World) (htab : Tab w) (hr1 : Rd w x1.a x1.n o1) (l1 : x1.n ≤ x1.c) (b1 : x1.n ≤ 200) (hsm : s.size ≤ 9223372036854775807) (hn1 : -9223372036854775808 ≤ n) (hn2 : n ≤ 9223372036854775807) (hk : okN x1.s x1.n o1) (hs : ¬ 1048576 < s.size) : Calls Tryz.prog 3 #[x1.v, .string s, .int .i64 n] w fun e w' => e = .returned (.bool true) ∧ Below w.heap.size w w' := by
  have HT := Lib.hid htab
  have KG := Lib.hid (Below.refl w.heap.size w)
  have HR1 := Lib.hid hr1
  have HSM := Lib.hid hsm
  have HN1 := Lib.hid hn1
  have HN2 := Lib.hid hn2
  have Bx1 := Lib.hid b1
  have HOK := Lib.hid hk
  obtain ⟨p1, hp1⟩ : ∃ q, q = valN x1.s x1.n o1 := ⟨_, rfl⟩
  have HP1 := Lib.hid hp1
  have N1 := Lib.hid (show KN w x1 p1 by rw [hp1]; exact KN.raw hr1 l1 hk)
  have LZp1 := Lib.hid (show lenB p1.natAbs ≤ 200 by have := N1.out.n; omega)
  obtain ⟨vb, hvb⟩ : ∃ v, v = bkV p1 := ⟨_, rfl⟩
  obtain ⟨eb, heb⟩ : ∃ v, v = bkE p1 := ⟨_, rfl⟩
  have HVB := Lib.hid hvb.symm
  have HEB := Lib.hid heb.symm
  clear hp1 hvb heb
  obtain ⟨TA, hTA⟩ : ∃ t : ByteArray, t = ⟨(Lib.itoa p1).toArray⟩ := ⟨_, rfl⟩
  have HTA := Lib.hid hTA.symm
  clear hTA
  obtain ⟨zs, hzs⟩ : ∃ z, z = numT s.data.toList := ⟨_, rfl⟩
  obtain ⟨cs, hcs⟩ : ∃ z, z = codeT s.data.toList := ⟨_, rfl⟩
  have HZS := Lib.hid hzs
  have HCS := Lib.hid hcs
  have LZzs := Lib.hid (show lenB zs.natAbs ≤ 23 by rw [hzs]; exact numT_len _)
  have LZn := Lib.hid (show lenB n.natAbs ≤ 3 from len1 hn1 hn2)
  have HSM6 := Lib.hid (show s.size ≤ 9223372036854775806 by omega)
  clear hzs hcs
  have HS := Lib.hid hs
  clear hs
  clear htab hr1 l1 hsm hn1 hn2 b1 hk
  go_enter Tryz.func3, Tryz.ntmps3
  go_upto_region 1 with (fail)
  obtain ⟨v2, hV⟩ : ∃ V, V = w.alloc (.cells #[.bool x1.s, .slice x1.a x1.n x1.c] 24) := ⟨_, rfl⟩
  have hbV : Below w.heap.size w v2 := by rw [hV]; exact ((Below.refl _ _).alloc (Nat.le_refl _) _)
  have BX1 := Lib.hid (show Bxs v2 (w.heap.size) 24 [.bool x1.s, .slice x1.a x1.n x1.c] by have h := Bxs.new (w) 24 [.bool x1.s, .slice x1.a x1.n x1.c]; rw [hV]; exact h)
  rw [show w.alloc (.cells #[.bool x1.s, .slice x1.a x1.n x1.c] 24) = v2 from hV.symm]
  have KG := Lib.hid (KG.out.trans (hbV.mono KG.out.size))
  clear hV hbV
  have cBX10 := BX1.out.cell (i := 0) rfl
  have cBX11 := BX1.out.cell (i := 1) rfl
  have cBX1f := BX1.out.fz
  have cBX1l := BX1.out.lt
  go_wp2_with fail
  clear cBX10 cBX11 cBX1f cBX1l
  obtain ⟨v4, hV⟩ : ∃ V, V = v2.alloc (.cells #[.bool x1.s, .slice x1.a x1.n x1.c] 24) := ⟨_, rfl⟩
  have hbV : Below v2.heap.size v2 v4 := by rw [hV]; exact ((Below.refl _ _).alloc (Nat.le_refl _) _)
  have BX3 := Lib.hid (show Bxs v4 (v2.heap.size) 24 [.bool x1.s, .slice x1.a x1.n x1.c] by have h := Bxs.new (v2) 24 [.bool x1.s, .slice x1.a x1.n x1.c]; rw [hV]; exact h)
  rw [show v2.alloc (.cells #[.bool x1.s, .slice x1.a x1.n x1.c] 24) = v4 from hV.symm]
  have BX1 := Lib.hid (BX1.out.below hbV BX1.out.lt)
  have KG := Lib.hid (KG.out.trans (hbV.mono KG.out.size))
  clear hV hbV
  have cBX10 := BX1.out.cell (i := 0) rfl
  have cBX11 := BX1.out.cell (i := 1) rfl
  have cBX1f := BX1.out.fz
  have cBX1l := BX1.out.lt
  have CT := Lib.hid (great1N (M := 200) BX3.out)
  rw [show ((200 : Nat) : Int) = 200 from rfl, show decide (200 < x1.n) = false from decide_eq_false (by have g0 : x1.n ≤ 200 := ((N1.out.below KG.out).len LZp1.out (by decide)); omega)] at CT
  with_reducible refine CT.out.mono ?_
  rintro e w5 ⟨rfl, hb⟩
  clear CT
  clear cBX10 cBX11 cBX1f cBX1l
  have BX1 := Lib.hid (BX1.out.below hb BX1.out.lt)
  clear BX3
  have KG := Lib.hid (KG.out.trans (hb.mono KG.out.size))
  clear hb
  go_wp2_with fail
  obtain ⟨v7, hV⟩ : ∃ V, V = w5.alloc (.cells #[.int .i64 s.size] 3) := ⟨_, rfl⟩
  have hbV : Below w5.heap.size w5 v7 := by rw [hV]; exact ((Below.refl _ _).alloc (Nat.le_refl _) _)
  have BX6 := Lib.hid (show Bxs v7 (w5.heap.size) 3 [.int .i64 s.size] by have h := Bxs.new (w5) 3 [.int .i64 s.size]; rw [hV]; exact h)
  rw [show w5.alloc (.cells #[.int .i64 s.size] 3) = v7 from hV.symm]
  have BX1 := Lib.hid (BX1.out.below hbV BX1.out.lt)
  have KG := Lib.hid (KG.out.trans (hbV.mono KG.out.size))
  clear hV hbV
  have CT := Lib.hid (beyond1 BX6.out HSM.out)
  rw [show decide (1048576 < s.size) = false from decide_eq_false HS.out] at CT
  with_reducible refine CT.out.mono ?_
  rintro e w8 ⟨rfl, hb⟩
  clear CT
  have BX1 := Lib.hid (BX1.out.below hb BX1.out.lt)
  clear BX6
  have KG := Lib.hid (KG.out.trans (hb.mono KG.out.size))
  clear hb
  have cBX10 := BX1.out.cell (i := 0) rfl
  have cBX11 := BX1.out.cell (i := 1) rfl
  have cBX1f := BX1.out.fz
  have cBX1l := BX1.out.lt
  go_wp2_with fail
  have HA := Lib.hid (OwnAll.nil w8.heap.size w8)
  have HLS := Lib.hid (Nat.le_refl w8.heap.size)
  have HLO := Lib.hid (show w.heap.size ≤ w8.heap.size from KG.out.size)
  with_reducible refine (twinNum_any x1.s x1.a x1.n x1.c o1 w8 (HR1.out.below KG.out) (by have := Bx1.out; omega)).mono ?_
  rintro e w9 ⟨g1, rfl, hO1, hb⟩
  have ho1 : Own 54 w9 w8.heap.size (some ⟨g1, 0, none⟩) x1.n (x1.n + 1) o1 := (hO1.less (by omega)).congr fun i hi => (if_pos hi)
  have HT1 := Lib.hid hO1
  have NX := Lib.hid (KN.raw (s := x1.s) ho1.rd ho1.le HOK.out)
  rw [← HP1.out] at NX
  clear cBX10 cBX11 cBX1f cBX1l
  have hA1 := HA.out.more HLS.out hb (x := ⟨0, x1.s, some ⟨g1, 0, none⟩, x1.n, x1.n + 1, o1⟩) ho1
  have HA := Lib.hid hA1
  clear hA1
  simp only [List.nil_append, List.cons_append] at HA
  have HLS := Lib.hid (Nat.le_trans HLS.out hb.size)
  have BX1 := Lib.hid (BX1.out.below hb BX1.out.lt)
  have KG := Lib.hid (KG.out.trans (hb.mono KG.out.size))
  clear hb ho1 hO1
  go_upto_region 4 with (fail)
  obtain ⟨v11, hV⟩ : ∃ V, V = w9.alloc (.cells #[.bool x1.s, .slice (some ⟨g1, 0, none⟩) x1.n (x1.n + 1)] 24) := ⟨_, rfl⟩
  have hbV : Below w9.heap.size w9 v11 := by rw [hV]; exact ((Below.refl _ _).alloc (Nat.le_refl _) _)
  have BX10 := Lib.hid (show Bxs v11 (w9.heap.size) 24 [.bool x1.s, .slice (some ⟨g1, 0, none⟩) x1.n (x1.n + 1)] by have h := Bxs.new (w9) 24 [.bool x1.s, .slice (some ⟨g1, 0, none⟩) x1.n (x1.n + 1)]; rw [hV]; exact h)
  rw [show w9.alloc (.cells #[.bool x1.s, .slice (some ⟨g1, 0, none⟩) x1.n (x1.n + 1)] 24) = v11 from hV.symm]
  have HA := Lib.hid (HA.out.below hbV)
  have HLS := Lib.hid (Nat.le_trans HLS.out hbV.size)
  have HT1 := Lib.hid (HT1.out.below hbV)
  have NX := Lib.hid (NX.out.below hbV)
  have BX1 := Lib.hid (BX1.out.below hbV BX1.out.lt)
  have KG := Lib.hid (KG.out.trans (hbV.mono KG.out.size))
  clear hV hbV
  have cBX100 := BX10.out.cell (i := 0) rfl
  have cBX101 := BX10.out.cell (i := 1) rfl
  have cBX10f := BX10.out.fz
  have cBX10l := BX10.out.lt
  go_wp2_with fail
  have CT := Lib.hid (backNV NX.out (NX.out.len LZp1.out (by decide)))
  rw [show bkV p1 = vb from HVB.out, show bkE p1 = eb from HEB.out] at CT
  with_reducible refine CT.out.mono ?_
  rintro e w12 ⟨rfl, hb⟩
  clear CT
  clear cBX100 cBX101 cBX10f cBX10l
  have HA := Lib.hid (HA.out.below hb)
  have HLS := Lib.hid (Nat.le_trans HLS.out hb.size)
  have HT1 := Lib.hid (HT1.out.below hb)
  have NX := Lib.hid (NX.out.below hb)
  have BX1 := Lib.hid (BX1.out.below hb BX1.out.lt)
  have BX10 := Lib.hid (BX10.out.below hb BX10.out.lt)
  have KG := Lib.hid (KG.out.trans (hb.mono KG.out.size))
  clear hb
  have cBX10 := BX1.out.cell (i := 0) rfl
  have cBX11 := BX1.out.cell (i := 1) rfl
  have cBX1f := BX1.out.fz
  have cBX1l := BX1.out.lt
  go_wp2_with fail
  have CT := Lib.hid (rbackN (N1.out.below KG.out) ((N1.out.below KG.out).len LZp1.out (by decide)))
  rw [show bkV p1 = vb from HVB.out, show bkE p1 = eb from HEB.out] at CT
  with_reducible refine CT.out.mono ?_
  rintro e w13 ⟨rfl, hb⟩
  clear CT
  clear cBX10 cBX11 cBX1f cBX1l
  have HA := Lib.hid (HA.out.below hb)
  have HLS := Lib.hid (Nat.le_trans HLS.out hb.size)
  have HT1 := Lib.hid (HT1.out.below hb)
  have NX := Lib.hid (NX.out.below hb)
  have BX1 := Lib.hid (BX1.out.below hb BX1.out.lt)
  have BX10 := Lib.hid (BX10.out.below hb BX10.out.lt)
  have KG := Lib.hid (KG.out.trans (hb.mono KG.out.size))
  clear hb
  go_wp2_with fail
  have CT := Lib.hid (parse_k w13 HSM.out HZS.out.symm HCS.out.symm)
  with_reducible refine CT.out.mono ?_
  rintro e w14 ⟨x15, rfl, hN16, hb⟩
  have N16 := Lib.hid hN16
  clear hN16
  clear CT
  have hA1 := HA.out.more HLS.out hb (x := ⟨0, x15.s, x15.a, x15.n, x15.c, dgi zs.natAbs⟩) N16.out.own
  have HA := Lib.hid hA1
  clear hA1
  simp only [List.nil_append, List.cons_append] at HA
  have HLS := Lib.hid (Nat.le_trans HLS.out hb.size)
  have HT1 := Lib.hid (HT1.out.below hb)
  have NX := Lib.hid (NX.out.below hb)
  have BX1 := Lib.hid (BX1.out.below hb BX1.out.lt)
  have BX10 := Lib.hid (BX10.out.below hb BX10.out.lt)
  have KG := Lib.hid (KG.out.trans (hb.mono KG.out.size))
  clear hb
  go_upto_region 7 with (fail)
  obtain ⟨v18, hV⟩ : ∃ V, V = w14.alloc (.cells #[.bool x15.s, .slice x15.a x15.n x15.c] 24) := ⟨_, rfl⟩
  have hbV : Below w14.heap.size w14 v18 := by rw [hV]; exact ((Below.refl _ _).alloc (Nat.le_refl _) _)
  have BX17 := Lib.hid (show Bxs v18 (w14.heap.size) 24 [.bool x15.s, .slice x15.a x15.n x15.c] by have h := Bxs.new (w14) 24 [.bool x15.s, .slice x15.a x15.n x15.c]; rw [hV]; exact h)
  rw [show w14.alloc (.cells #[.bool x15.s, .slice x15.a x15.n x15.c] 24) = v18 from hV.symm]
  have HA := Lib.hid (HA.out.below hbV)
  have HLS := Lib.hid (Nat.le_trans HLS.out hbV.size)
  have HT1 := Lib.hid (HT1.out.below hbV)
  have NX := Lib.hid (NX.out.below hbV)
  have N16 := Lib.hid (N16.out.below hbV)
  have BX1 := Lib.hid (BX1.out.below hbV BX1.out.lt)
  have BX10 := Lib.hid (BX10.out.below hbV BX10.out.lt)
  have KG := Lib.hid (KG.out.trans (hbV.mono KG.out.size))
  clear hV hbV
  go_wp2_with fail
  have CT := Lib.hid (rparse_k v18 HSM6.out HZS.out.symm HCS.out.symm)
  with_reducible refine CT.out.mono ?_
  rintro e w19 ⟨x20, rfl, hN21, hb⟩
  have N21 := Lib.hid hN21
  clear hN21
  clear CT
  have HA := Lib.hid (HA.out.below hb)
  have HLS := Lib.hid (Nat.le_trans HLS.out hb.size)
  have HT1 := Lib.hid (HT1.out.below hb)
  have NX := Lib.hid (NX.out.below hb)
  have N16 := Lib.hid (N16.out.below hb)
  have BX1 := Lib.hid (BX1.out.below hb BX1.out.lt)
  have BX10 := Lib.hid (BX10.out.below hb BX10.out.lt)
  have BX17 := Lib.hid (BX17.out.below hb BX17.out.lt)
  have KG := Lib.hid (KG.out.trans (hb.mono KG.out.size))
  clear hb
  go_upto_region 8 with (fail)
  obtain ⟨v23, hV⟩ : ∃ V, V = w19.alloc (.cells #[.bool x20.s, .slice x20.a x20.n x20.c] 24) := ⟨_, rfl⟩
  have hbV : Below w19.heap.size w19 v23 := by rw [hV]; exact ((Below.refl _ _).alloc (Nat.le_refl _) _)
  have BX22 := Lib.hid (show Bxs v23 (w19.heap.size) 24 [.bool x20.s, .slice x20.a x20.n x20.c] by have h := Bxs.new (w19) 24 [.bool x20.s, .slice x20.a x20.n x20.c]; rw [hV]; exact h)
  rw [show w19.alloc (.cells #[.bool x20.s, .slice x20.a x20.n x20.c] 24) = v23 from hV.symm]
  have HA := Lib.hid (HA.out.below hbV)
  have HLS := Lib.hid (Nat.le_trans HLS.out hbV.size)
  have HT1 := Lib.hid (HT1.out.below hbV)
  have NX := Lib.hid (NX.out.below hbV)
  have N16 := Lib.hid (N16.out.below hbV)
  have N21 := Lib.hid (N21.out.below hbV)
  have BX1 := Lib.hid (BX1.out.below hbV BX1.out.lt)
  have BX10 := Lib.hid (BX10.out.below hbV BX10.out.lt)
  have BX17 := Lib.hid (BX17.out.below hbV BX17.out.lt)
  have KG := Lib.hid (KG.out.trans (hbV.mono KG.out.size))
  clear hV hbV
  go_wp2_with fail
  have CT := Lib.hid (ofN n v23 HN1.out HN2.out)
  with_reducible refine CT.out.mono ?_
  rintro e w24 ⟨x25, rfl, hN26, hb⟩
  have N26 := Lib.hid hN26
  clear hN26
  clear CT
  have hA1 := HA.out.more HLS.out hb (x := ⟨0, x25.s, x25.a, x25.n, x25.c, dgi n.natAbs⟩) N26.out.own
  have HA := Lib.hid hA1
  clear hA1
  simp only [List.nil_append, List.cons_append] at HA
  have HLS := Lib.hid (Nat.le_trans HLS.out hb.size)
  have HT1 := Lib.hid (HT1.out.below hb)
  have NX := Lib.hid (NX.out.below hb)
  have N16 := Lib.hid (N16.out.below hb)
  have N21 := Lib.hid (N21.out.below hb)
  have BX1 := Lib.hid (BX1.out.below hb BX1.out.lt)
  have BX10 := Lib.hid (BX10.out.below hb BX10.out.lt)
  have BX17 := Lib.hid (BX17.out.below hb BX17.out.lt)
  have BX22 := Lib.hid (BX22.out.below hb BX22.out.lt)
  have KG := Lib.hid (KG.out.trans (hb.mono KG.out.size))
  clear hb
  go_upto_region 9 with (fail)
  obtain ⟨v28, hV⟩ : ∃ V, V = w24.alloc (.cells #[.bool x25.s, .slice x25.a x25.n x25.c] 24) := ⟨_, rfl⟩
  have hbV : Below w24.heap.size w24 v28 := by rw [hV]; exact ((Below.refl _ _).alloc (Nat.le_refl _) _)
  have BX27 := Lib.hid (show Bxs v28 (w24.heap.size) 24 [.bool x25.s, .slice x25.a x25.n x25.c] by have h := Bxs.new (w24) 24 [.bool x25.s, .slice x25.a x25.n x25.c]; rw [hV]; exact h)
  rw [show w24.alloc (.cells #[.bool x25.s, .slice x25.a x25.n x25.c] 24) = v28 from hV.symm]
  have HA := Lib.hid (HA.out.below hbV)
  have HLS := Lib.hid (Nat.le_trans HLS.out hbV.size)
  have HT1 := Lib.hid (HT1.out.below hbV)
  have NX := Lib.hid (NX.out.below hbV)
  have N16 := Lib.hid (N16.out.below hbV)
  have N21 := Lib.hid (N21.out.below hbV)
  have N26 := Lib.hid (N26.out.below hbV)
  have BX1 := Lib.hid (BX1.out.below hbV BX1.out.lt)
  have BX10 := Lib.hid (BX10.out.below hbV BX10.out.lt)
  have BX17 := Lib.hid (BX17.out.below hbV BX17.out.lt)
  have BX22 := Lib.hid (BX22.out.below hbV BX22.out.lt)
  have KG := Lib.hid (KG.out.trans (hbV.mono KG.out.size))
  clear hV hbV
  go_upto_region 9 with (fail)
  refine Go.FreshS.wp_region_fresh 45 [] (Go.FreshS.spOf [(1, Go.FreshS.Sp.know (.bool true)), (3, Go.FreshS.Sp.know (.bool true)), (17, Go.FreshS.Sp.know (.string TA)), (19, Go.FreshS.Sp.know (.string TA)), (25, Go.FreshS.Sp.know (.bool true)), (36, Go.FreshS.Sp.made (fun x : NV => x.v) (fun x w' => DN w' v28.heap.size x n) NV.blk), (37, Go.FreshS.Sp.know (.bool true)), (43, Go.FreshS.Sp.know (.bool true))])
    (fun w' => Below v28.heap.size v28 w') (by kernel_rfl) (by kernel_rfl) (by kernel_rfl)
    (Go.FreshS.spOf_cons (Go.FreshS.Sp.know_keeps _ _) (Go.FreshS.spOf_cons (Go.FreshS.Sp.know_keeps _ _) (Go.FreshS.spOf_cons (Go.FreshS.Sp.know_keeps _ _) (Go.FreshS.spOf_cons (Go.FreshS.Sp.know_keeps _ _) (Go.FreshS.spOf_cons (Go.FreshS.Sp.know_keeps _ _) (Go.FreshS.spOf_cons (Go.FreshS.Sp.made_keeps _ (fun _ _ _ h _ hk => h.kept hk) (Go.FreshS.notTaken (by kernel_rfl))) (Go.FreshS.spOf_cons (Go.FreshS.Sp.know_keeps _ _) (Go.FreshS.spOf_cons (Go.FreshS.Sp.know_keeps _ _) (Go.FreshS.spOf_nil))))))))) (fun _ _ h hb => h.trans (hb.mono h.size)) ((Below.refl _ _).drew) ?_
  simp only [List.append_eq, List.cons_append, List.nil_append, List.take_succ_cons, List.take_zero, List.drop_succ_cons, List.drop_zero]
  refine Go.FreshS.wpF_reads rfl rfl rfl ?_ (fun w' hw' => ?_) ?_
  rotate_left
  · have hb' := hw'.world
    have hs0 := (BX10.out.below hb' BX10.out.lt).cell (i := 0) rfl
    have hs1 := (BX10.out.below hb' BX10.out.lt).cell (i := 1) rfl
    have hsf := (BX10.out.below hb' BX10.out.lt).fz
    have hsl := (BX10.out.below hb' BX10.out.lt).lt
    clear hw'
    go_simp
    try rfl
  conv => arg 10; simp only [Act.put, List.setIfInBounds_toArray, List.set_cons_succ, List.set_cons_zero]
  refine Go.FreshS.wpF_spec rfl rfl rfl (fun w' hw' => ?_) ?_
  · have hb' := hw'.world
    refine Go.FreshS.gives_of (Go.FreshS.PK (.bool true)) ?_ (fun _ _ h => h.post)
    go_simp
    have CT := checkN (NX.out.below hb') ((NX.out.below hb').len LZp1.out (by decide))
    refine CT.mono ?_
    rintro e w'' ⟨rfl, hb⟩
    exact ⟨_, rfl, rfl, hb⟩
  rintro _ rfl
  conv => arg 10; simp only [Act.put, List.setIfInBounds_toArray, List.set_cons_succ, List.set_cons_zero]
  refine Go.FreshS.wpF_reads rfl rfl rfl ?_ (fun w' hw' => ?_) ?_
  rotate_left
  · have hb' := hw'.world
    have hs0 := (BX1.out.below hb' BX1.out.lt).cell (i := 0) rfl
    have hs1 := (BX1.out.below hb' BX1.out.lt).cell (i := 1) rfl
    have hsf := (BX1.out.below hb' BX1.out.lt).fz
    have hsl := (BX1.out.below hb' BX1.out.lt).lt
    clear hw'
    go_simp
    try rfl
  conv => arg 10; simp only [Act.put, List.setIfInBounds_toArray, List.set_cons_succ, List.set_cons_zero]
  refine Go.FreshS.wpF_spec rfl rfl rfl (fun w' hw' => ?_) ?_
  · have hb' := hw'.world
    refine Go.FreshS.gives_of (Go.FreshS.PK (.bool true)) ?_ (fun _ _ h => h.post)
    go_simp
    have CT := rcheckN (N1.out.below (KG.out.trans (hb'.mono KG.out.size))) ((N1.out.below (KG.out.trans (hb'.mono KG.out.size))).len LZp1.out (by decide))
    refine CT.mono ?_
    rintro e w'' ⟨rfl, hb⟩
    exact ⟨_, rfl, rfl, hb⟩
  rintro _ rfl
  conv => arg 10; simp only [Act.put, List.setIfInBounds_toArray, List.set_cons_succ, List.set_cons_zero]
  refine Go.FreshS.wpF_reads rfl rfl rfl ?_ (fun w' hw' => ?_) ?_
  rotate_left
  · have hb' := hw'.world
    skip
    clear hw'
    go_simp
    try rfl
  conv => arg 10; simp only [Act.put, List.setIfInBounds_toArray, List.set_cons_succ, List.set_cons_zero]
  refine Go.FreshS.wpF_reads rfl rfl rfl ?_ (fun w' hw' => ?_) ?_
  rotate_left
  · have hb' := hw'.world
    skip
    clear hw'
    go_simp
    try rfl
  conv => arg 10; simp only [Act.put, List.setIfInBounds_toArray, List.set_cons_succ, List.set_cons_zero]
  refine Go.FreshS.wpF_readsG (by rfl) rfl rfl ?_ (fun w' hw' => ?_) ?_
  rotate_left
  · have hb' := hw'.world
    skip
    clear hw'
    go_simp
    try rfl
  conv => arg 10; simp only [Act.put, List.setIfInBounds_toArray, List.set_cons_succ, List.set_cons_zero]
  refine Go.FreshS.wpF_readsG (by rfl) rfl rfl ?_ (fun w' hw' => ?_) ?_
  rotate_left
  · have hb' := hw'.world
    skip
    clear hw'
    go_simp
    try rfl
  conv => arg 10; simp only [Act.put, List.setIfInBounds_toArray, List.set_cons_succ, List.set_cons_zero]
  refine Go.FreshS.wpF_readsG (by rfl) rfl rfl ?_ (fun w' hw' => ?_) ?_
  rotate_left
  · have hb' := hw'.world
    skip
    clear hw'
    go_simp
    try rfl
  conv => arg 10; simp only [Act.put, List.setIfInBounds_toArray, List.set_cons_succ, List.set_cons_zero]
  refine Go.FreshS.wpF_reads rfl rfl rfl ?_ (fun w' hw' => ?_) ?_
  rotate_left
  · have hb' := hw'.world
    skip
    clear hw'
    go_simp
    try rfl
  conv => arg 10; simp only [Act.put, List.setIfInBounds_toArray, List.set_cons_succ, List.set_cons_zero]
  refine Go.FreshS.wpF_reads rfl rfl rfl ?_ (fun w' hw' => ?_) ?_
  rotate_left
  · have hb' := hw'.world
    skip
    clear hw'
    go_simp
    try rfl
  conv => arg 10; simp only [Act.put, List.setIfInBounds_toArray, List.set_cons_succ, List.set_cons_zero]
  refine Go.FreshS.wpF_readsG (by rfl) rfl rfl ?_ (fun w' hw' => ?_) ?_
  rotate_left
  · have hb' := hw'.world
    skip
    clear hw'
    go_simp
    try rfl
  conv => arg 10; simp only [Act.put, List.setIfInBounds_toArray, List.set_cons_succ, List.set_cons_zero]
  refine Go.FreshS.wpF_readsG (by rfl) rfl rfl ?_ (fun w' hw' => ?_) ?_
  rotate_left
  · have hb' := hw'.world
    skip
    clear hw'
    go_simp
    try rfl
  conv => arg 10; simp only [Act.put, List.setIfInBounds_toArray, List.set_cons_succ, List.set_cons_zero]
  refine Go.FreshS.wpF_readsG (by rfl) rfl rfl ?_ (fun w' hw' => ?_) ?_
  rotate_left
  · have hb' := hw'.world
    skip
    clear hw'
    go_simp
    try rfl
  conv => arg 10; simp only [Act.put, List.setIfInBounds_toArray, List.set_cons_succ, List.set_cons_zero]
  refine Go.FreshS.wpF_reads rfl rfl rfl ?_ (fun w' hw' => ?_) ?_
  rotate_left
  · have hb' := hw'.world
    skip
    clear hw'
    go_simp
    try rfl
  conv => arg 10; simp only [Act.put, List.setIfInBounds_toArray, List.set_cons_succ, List.set_cons_zero]
  refine Go.FreshS.wpF_reads rfl rfl rfl ?_ (fun w' hw' => ?_) ?_
  rotate_left
  · have hb' := hw'.world
    skip
    clear hw'
    go_simp
    try rfl
  conv => arg 10; simp only [Act.put, List.setIfInBounds_toArray, List.set_cons_succ, List.set_cons_zero]
  refine Go.FreshS.wpF_readsG (by rfl) rfl rfl ?_ (fun w' hw' => ?_) ?_
  rotate_left
  · have hb' := hw'.world
    have hs0 := (BX10.out.below hb' BX10.out.lt).cell (i := 0) rfl
    have hs1 := (BX10.out.below hb' BX10.out.lt).cell (i := 1) rfl
    have hsf := (BX10.out.below hb' BX10.out.lt).fz
    have hsl := (BX10.out.below hb' BX10.out.lt).lt
    clear hw'
    go_simp
    try rfl
  conv => arg 10; simp only [Act.put, List.setIfInBounds_toArray, List.set_cons_succ, List.set_cons_zero]
  refine Go.FreshS.wpF_gspec (by rfl) rfl rfl (fun w' hw' => ?_) ?_
  · have hb' := hw'.world
    refine Go.FreshS.gives_of (Go.FreshS.PK (.string TA)) ?_ (fun _ _ h => h.post)
    go_simp
    have CT := textN (NX.out.below hb').any ((NX.out.below hb').len LZp1.out (by decide)) (HT.out.on (KG.out.trans (hb'.mono KG.out.size)))
    rw [show (⟨(Lib.itoa p1).toArray⟩ : ByteArray) = TA from HTA.out] at CT
    refine CT.mono ?_
    rintro e w'' ⟨rfl, hb⟩
    exact ⟨_, rfl, rfl, hb⟩
  rintro _ rfl
  conv => arg 10; simp only [Act.put, List.setIfInBounds_toArray, List.set_cons_succ, List.set_cons_zero]
  refine Go.FreshS.wpF_readsG (by rfl) rfl rfl ?_ (fun w' hw' => ?_) ?_
  rotate_left
  · have hb' := hw'.world
    have hs0 := (BX1.out.below hb' BX1.out.lt).cell (i := 0) rfl
    have hs1 := (BX1.out.below hb' BX1.out.lt).cell (i := 1) rfl
    have hsf := (BX1.out.below hb' BX1.out.lt).fz
    have hsl := (BX1.out.below hb' BX1.out.lt).lt
    clear hw'
    go_simp
    try rfl
  conv => arg 10; simp only [Act.put, List.setIfInBounds_toArray, List.set_cons_succ, List.set_cons_zero]
  refine Go.FreshS.wpF_gspec (by rfl) rfl rfl (fun w' hw' => ?_) ?_
  · have hb' := hw'.world
    refine Go.FreshS.gives_of (Go.FreshS.PK (.string TA)) ?_ (fun _ _ h => h.post)
    go_simp
    have CT := rtextN (N1.out.below (KG.out.trans (hb'.mono KG.out.size))).any ((N1.out.below (KG.out.trans (hb'.mono KG.out.size))).len LZp1.out (by decide))
    rw [show (⟨(Lib.itoa p1).toArray⟩ : ByteArray) = TA from HTA.out] at CT
    refine CT.mono ?_
    rintro e w'' ⟨rfl, hb⟩
    exact ⟨_, rfl, rfl, hb⟩
  rintro _ rfl
  conv => arg 10; simp only [Act.put, List.setIfInBounds_toArray, List.set_cons_succ, List.set_cons_zero]
  refine Go.FreshS.wpF_readsG (by rfl) rfl rfl ?_ (fun w' hw' => ?_) ?_
  rotate_left
  · have hb' := hw'.world
    skip
    clear hw'
    go_simp
    try rfl
  conv => arg 10; simp only [Act.put, List.setIfInBounds_toArray, List.set_cons_succ, List.set_cons_zero]
  refine Go.FreshS.wpF_reads rfl rfl rfl ?_ (fun w' hw' => ?_) ?_
  rotate_left
  · have hb' := hw'.world
    skip
    clear hw'
    go_simp
    try rfl
  conv => arg 10; simp only [Act.put, List.setIfInBounds_toArray, List.set_cons_succ, List.set_cons_zero]
  refine Go.FreshS.wpF_reads rfl rfl rfl ?_ (fun w' hw' => ?_) ?_
  rotate_left
  · have hb' := hw'.world
    skip
    clear hw'
    go_simp
    try rfl
  conv => arg 10; simp only [Act.put, List.setIfInBounds_toArray, List.set_cons_succ, List.set_cons_zero]
  refine Go.FreshS.wpF_readsG (by rfl) rfl rfl ?_ (fun w' hw' => ?_) ?_
  rotate_left
  · have hb' := hw'.world
    have hs0 := (BX17.out.below hb' BX17.out.lt).cell (i := 0) rfl
    have hs1 := (BX17.out.below hb' BX17.out.lt).cell (i := 1) rfl
    have hsf := (BX17.out.below hb' BX17.out.lt).fz
    have hsl := (BX17.out.below hb' BX17.out.lt).lt
    clear hw'
    go_simp
    try rfl
  conv => arg 10; simp only [Act.put, List.setIfInBounds_toArray, List.set_cons_succ, List.set_cons_zero]
  refine Go.FreshS.wpF_readsG (by rfl) rfl rfl ?_ (fun w' hw' => ?_) ?_
  rotate_left
  · have hb' := hw'.world
    have hs0 := (BX22.out.below hb' BX22.out.lt).cell (i := 0) rfl
    have hs1 := (BX22.out.below hb' BX22.out.lt).cell (i := 1) rfl
    have hsf := (BX22.out.below hb' BX22.out.lt).fz
    have hsl := (BX22.out.below hb' BX22.out.lt).lt
    clear hw'
    go_simp
    try rfl
  conv => arg 10; simp only [Act.put, List.setIfInBounds_toArray, List.set_cons_succ, List.set_cons_zero]
  refine Go.FreshS.wpF_gspec (by rfl) rfl rfl (fun w' hw' => ?_) ?_
  · have hb' := hw'.world
    refine Go.FreshS.gives_of (Go.FreshS.PK (.bool true)) ?_ (fun _ _ h => h.post)
    go_simp
    have CT := sameTN (N16.out.below hb').k ((N16.out.below hb').k.len LZzs.out (by decide)) (N21.out.below hb').k ((N21.out.below hb').k.len LZzs.out (by decide)) (rfl)
    refine CT.mono ?_
    rintro e w'' ⟨rfl, hb⟩
    exact ⟨_, rfl, rfl, hb⟩
  rintro _ rfl
  conv => arg 10; simp only [Act.put, List.setIfInBounds_toArray, List.set_cons_succ, List.set_cons_zero]
  refine Go.FreshS.wpF_readsG (by rfl) rfl rfl ?_ (fun w' hw' => ?_) ?_
  rotate_left
  · have hb' := hw'.world
    skip
    clear hw'
    go_simp
    try rfl
  conv => arg 10; simp only [Act.put, List.setIfInBounds_toArray, List.set_cons_succ, List.set_cons_zero]
  refine Go.FreshS.wpF_reads rfl rfl rfl ?_ (fun w' hw' => ?_) ?_
  rotate_left
  · have hb' := hw'.world
    skip
    clear hw'
    go_simp
    try rfl
  conv => arg 10; simp only [Act.put, List.setIfInBounds_toArray, List.set_cons_succ, List.set_cons_zero]
  refine Go.FreshS.wpF_reads rfl rfl rfl ?_ (fun w' hw' => ?_) ?_
  rotate_left
  · have hb' := hw'.world
    skip
    clear hw'
    go_simp
    try rfl
  conv => arg 10; simp only [Act.put, List.setIfInBounds_toArray, List.set_cons_succ, List.set_cons_zero]
  refine Go.FreshS.wpF_readsG (by rfl) rfl rfl ?_ (fun w' hw' => ?_) ?_
  rotate_left
  · have hb' := hw'.world
    skip
    clear hw'
    go_simp
    try rfl
  conv => arg 10; simp only [Act.put, List.setIfInBounds_toArray, List.set_cons_succ, List.set_cons_zero]
  refine Go.FreshS.wpF_readsG (by rfl) rfl rfl ?_ (fun w' hw' => ?_) ?_
  rotate_left
  · have hb' := hw'.world
    skip
    clear hw'
    go_simp
    try rfl
  conv => arg 10; simp only [Act.put, List.setIfInBounds_toArray, List.set_cons_succ, List.set_cons_zero]
  refine Go.FreshS.wpF_readsG (by rfl) rfl rfl ?_ (fun w' hw' => ?_) ?_
  rotate_left
  · have hb' := hw'.world
    skip
    clear hw'
    go_simp
    try rfl
  conv => arg 10; simp only [Act.put, List.setIfInBounds_toArray, List.set_cons_succ, List.set_cons_zero]
  refine Go.FreshS.wpF_reads rfl rfl rfl ?_ (fun w' hw' => ?_) ?_
  rotate_left
  · have hb' := hw'.world
    skip
    clear hw'
    go_simp
    try rfl
  conv => arg 10; simp only [Act.put, List.setIfInBounds_toArray, List.set_cons_succ, List.set_cons_zero]
  refine Go.FreshS.wpF_reads rfl rfl rfl ?_ (fun w' hw' => ?_) ?_
  rotate_left
  · have hb' := hw'.world
    skip
    clear hw'
    go_simp
    try rfl
  conv => arg 10; simp only [Act.put, List.setIfInBounds_toArray, List.set_cons_succ, List.set_cons_zero]
  refine Go.FreshS.wpF_readsG (by rfl) rfl rfl ?_ (fun w' hw' => ?_) ?_
  rotate_left
  · have hb' := hw'.world
    have hs0 := (BX27.out.below hb' BX27.out.lt).cell (i := 0) rfl
    have hs1 := (BX27.out.below hb' BX27.out.lt).cell (i := 1) rfl
    have hsf := (BX27.out.below hb' BX27.out.lt).fz
    have hsl := (BX27.out.below hb' BX27.out.lt).lt
    clear hw'
    go_simp
    try rfl
  conv => arg 10; simp only [Act.put, List.setIfInBounds_toArray, List.set_cons_succ, List.set_cons_zero]
  refine Go.FreshS.wpF_readsG (by rfl) rfl rfl ?_ (fun w' hw' => ?_) ?_
  rotate_left
  · have hb' := hw'.world
    skip
    clear hw'
    go_simp
    try rfl
  conv => arg 10; simp only [Act.put, List.setIfInBounds_toArray, List.set_cons_succ, List.set_cons_zero]
  refine Go.FreshS.wpF_gspec (by rfl) rfl rfl (fun w' hw' => ?_) ?_
  · have hb' := hw'.world
    refine Go.FreshS.gives_of (Go.FreshS.PM (fun x : NV => x.v) (fun x w' => DN w' v28.heap.size x n) NV.blk w'.heap.size) ?_ (fun _ _ h => h.post @NV.inj)
    go_simp
    have CT := rofN n w' HN1.out HN2.out
    refine CT.mono ?_
    rintro e w'' ⟨za, rfl, ho, hb⟩
    exact ⟨_, rfl, ⟨za, rfl, ho.mono hb'.size, ho.blks⟩, hb⟩
  rintro _ ⟨y36, rfl⟩
  conv => arg 10; simp only [Act.put, List.setIfInBounds_toArray, List.set_cons_succ, List.set_cons_zero]
  refine Go.FreshS.wpF_gspec (by rfl) rfl rfl (fun w' hw' => ?_) ?_
  · have hb' := hw'.world
    refine Go.FreshS.gives_of (Go.FreshS.PK (.bool true)) ?_ (fun _ _ h => h.post)
    go_simp
    have f36 := Go.FreshS.made_of (val := fun x : NV => x.v) (Φ := fun x w' => DN w' v28.heap.size x n) @NV.inj (hw'.fact 36 (by kernel_rfl))
    have CT := sameTN (N26.out.below hb').k ((N26.out.below hb').k.len LZn.out (by decide)) f36.k (f36.k.len LZn.out (by decide)) (rfl)
    refine CT.mono ?_
    rintro e w'' ⟨rfl, hb⟩
    exact ⟨_, rfl, rfl, hb⟩
  rintro _ rfl
  conv => arg 10; simp only [Act.put, List.setIfInBounds_toArray, List.set_cons_succ, List.set_cons_zero]
  refine Go.FreshS.wpF_readsG (by rfl) rfl rfl ?_ (fun w' hw' => ?_) ?_
  rotate_left
  · have hb' := hw'.world
    skip
    clear hw'
    go_simp
    try rfl
  conv => arg 10; simp only [Act.put, List.setIfInBounds_toArray, List.set_cons_succ, List.set_cons_zero]
  refine Go.FreshS.wpF_reads rfl rfl rfl ?_ (fun w' hw' => ?_) ?_
  rotate_left
  · have hb' := hw'.world
    skip
    clear hw'
    go_simp
    try rfl
  conv => arg 10; simp only [Act.put, List.setIfInBounds_toArray, List.set_cons_succ, List.set_cons_zero]
  refine Go.FreshS.wpF_reads rfl rfl rfl ?_ (fun w' hw' => ?_) ?_
  rotate_left
  · have hb' := hw'.world
    skip
    clear hw'
    go_simp
    try rfl
  conv => arg 10; simp only [Act.put, List.setIfInBounds_toArray, List.set_cons_succ, List.set_cons_zero]
  refine Go.FreshS.wpF_readsG (by rfl) rfl rfl ?_ (fun w' hw' => ?_) ?_
  rotate_left
  · have hb' := hw'.world
    have hs0 := (BX10.out.below hb' BX10.out.lt).cell (i := 0) rfl
    have hs1 := (BX10.out.below hb' BX10.out.lt).cell (i := 1) rfl
    have hsf := (BX10.out.below hb' BX10.out.lt).fz
    have hsl := (BX10.out.below hb' BX10.out.lt).lt
    clear hw'
    go_simp
    try rfl
  conv => arg 10; simp only [Act.put, List.setIfInBounds_toArray, List.set_cons_succ, List.set_cons_zero]
  refine Go.FreshS.wpF_readsG (by rfl) rfl rfl ?_ (fun w' hw' => ?_) ?_
  rotate_left
  · have hb' := hw'.world
    have hs0 := (BX1.out.below hb' BX1.out.lt).cell (i := 0) rfl
    have hs1 := (BX1.out.below hb' BX1.out.lt).cell (i := 1) rfl
    have hsf := (BX1.out.below hb' BX1.out.lt).fz
    have hsl := (BX1.out.below hb' BX1.out.lt).lt
    clear hw'
    go_simp
    try rfl
  conv => arg 10; simp only [Act.put, List.setIfInBounds_toArray, List.set_cons_succ, List.set_cons_zero]
  refine Go.FreshS.wpF_gspec (by rfl) rfl rfl (fun w' hw' => ?_) ?_
  · have hb' := hw'.world
    refine Go.FreshS.gives_of (Go.FreshS.PK (.bool true)) ?_ (fun _ _ h => h.post)
    go_simp
    have CT := leftNum_any x1.s g1 x1.a x1.n x1.c o1 w' (HT1.out.below hb').rd (HR1.out.below (KG.out.trans (hb'.mono KG.out.size))) (by have := Bx1.out; omega)
    refine CT.mono ?_
    rintro e w'' ⟨rfl, hb⟩
    exact ⟨_, rfl, rfl, hb⟩
  rintro _ rfl
  conv => arg 10; simp only [Act.put, List.setIfInBounds_toArray, List.set_cons_succ, List.set_cons_zero]
  refine Go.FreshS.wpF_readsG (by rfl) rfl rfl ?_ (fun w' hw' => ?_) ?_
  rotate_left
  · have hb' := hw'.world
    skip
    clear hw'
    go_simp
    try rfl
  conv => arg 10; simp only [Act.put, List.setIfInBounds_toArray, List.set_cons_succ, List.set_cons_zero]
  refine Go.FreshS.wpF_nil (fun w29 hb hF => ?_)
  clear hF
  have HA := Lib.hid (HA.out.below hb)
  have HLS := Lib.hid (Nat.le_trans HLS.out hb.size)
  clear HT1
  clear NX
  have N16 := Lib.hid (N16.out.below hb)
  clear N21
  have N26 := Lib.hid (N26.out.below hb)
  clear BX1
  have BX10 := Lib.hid (BX10.out.below hb BX10.out.lt)
  have BX17 := Lib.hid (BX17.out.below hb BX17.out.lt)
  clear BX22
  have BX27 := Lib.hid (BX27.out.below hb BX27.out.lt)
  have KG := Lib.hid (KG.out.trans (hb.mono KG.out.size))
  clear hb
  have Hx15 := Lib.hid (show x15.n ≤ 900000 from N16.out.k.len LZzs.out (by decide))
  have Hx25 := Lib.hid (show x25.n ≤ 900000 from N26.out.k.len LZn.out (by decide))
  go_upto_region 11 with (fail)
  go_upto_region 12 with (fail)
  obtain ⟨W, hW⟩ : ∃ W, W = w29.alloc (.cells #[.int .i64 0, .slice none 0 0, .slice none 0 0, .slice none 0 0, .slice none 0 0, .slice none 0 0, .slice none 0 0, .slice none 0 0, .slice none 0 0, .slice none 0 0, .slice none 0 0, .slice none 0 0, .slice none 0 0] 50) := ⟨_, rfl⟩
  have HK := Lib.hid (book_nw w29)
  have HW := Lib.hid (show Below w29.heap.size w29 (w29.alloc (.cells #[.int .i64 0, .slice none 0 0, .slice none 0 0, .slice none 0 0, .slice none 0 0, .slice none 0 0, .slice none 0 0, .slice none 0 0, .slice none 0 0, .slice none 0 0, .slice none 0 0, .slice none 0 0, .slice none 0 0] 50)) from (Below.refl _ _).alloc (Nat.le_refl _) _)
  rw [← hW] at HK HW
  rw [show w29.alloc (.cells #[.int .i64 0, .slice none 0 0, .slice none 0 0, .slice none 0 0, .slice none 0 0, .slice none 0 0, .slice none 0 0, .slice none 0 0, .slice none 0 0, .slice none 0 0, .slice none 0 0, .slice none 0 0, .slice none 0 0] 50) = W from hW.symm]
  clear hW
  obtain ⟨B, hB⟩ : ∃ B, B = w29.heap.size := ⟨_, rfl⟩
  rw [← hB] at HK HW
  rw [← hB]
  have HBe := Lib.hid hB
  clear hB
  have hbz : B ≤ W.heap.size := Nat.le_trans (by rw [HBe.out]; exact Nat.le_refl _) HW.out.size
  have hBX := BX10.out.below (by rw [← HBe.out]; exact HW.out) BX10.out.lt
  have y0 := hBX.cell (i := 0) rfl
  have y1 := hBX.cell (i := 1) rfl
  have y4 := hBX.fz
  have y5 := hBX.lt
  have NM := Lib.hid (bookNum_any B 0 _ _ x1.s (some ⟨g1, 0, none⟩) x1.n (x1.n + 1) W (by omega) HK.out hbz)
  clear hBX
  go_wp2_with fail
  with_reducible refine NM.out.mono ?_
  rintro e W' hk
  obtain ⟨⟨u, rfl⟩, v', hk1, hk2⟩ := hk
  have HK := Lib.hid hk1
  have HW := Lib.hid (HW.out.trans hk2)
  clear hk1 hk2 NM y0 y1 y4 y5 hbz
  obtain ⟨W, rfl⟩ : ∃ W, W = W' := ⟨_, rfl⟩
  have hbz : B ≤ W.heap.size := Nat.le_trans (by rw [HBe.out]; exact Nat.le_refl _) HW.out.size
  have hBX := BX17.out.below (by rw [← HBe.out]; exact HW.out) BX17.out.lt
  have y0 := hBX.cell (i := 0) rfl
  have y1 := hBX.cell (i := 1) rfl
  have y4 := hBX.fz
  have y5 := hBX.lt
  have NM := Lib.hid (bookNum_any B 1 _ _ x15.s x15.a x15.n x15.c W (by omega) HK.out hbz)
  clear hBX
  go_wp2_with fail
  with_reducible refine NM.out.mono ?_
  rintro e W' hk
  obtain ⟨⟨u, rfl⟩, v', hk1, hk2⟩ := hk
  have HK := Lib.hid hk1
  have HW := Lib.hid (HW.out.trans hk2)
  clear hk1 hk2 NM y0 y1 y4 y5 hbz
  obtain ⟨W, rfl⟩ : ∃ W, W = W' := ⟨_, rfl⟩
  have hbz : B ≤ W.heap.size := Nat.le_trans (by rw [HBe.out]; exact Nat.le_refl _) HW.out.size
  have hBX := BX27.out.below (by rw [← HBe.out]; exact HW.out) BX27.out.lt
  have y0 := hBX.cell (i := 0) rfl
  have y1 := hBX.cell (i := 1) rfl
  have y4 := hBX.fz
  have y5 := hBX.lt
  have NM := Lib.hid (bookNum_any B 2 _ _ x25.s x25.a x25.n x25.c W (by omega) HK.out hbz)
  clear hBX
  go_wp2_with fail
  with_reducible refine NM.out.mono ?_
  rintro e W' hk
  obtain ⟨⟨u, rfl⟩, v', hk1, hk2⟩ := hk
  have HK := Lib.hid hk1
  have HW := Lib.hid (HW.out.trans hk2)
  clear hk1 hk2 NM y0 y1 y4 y5 hbz
  obtain ⟨W, rfl⟩ : ∃ W, W = W' := ⟨_, rfl⟩
  have AP := Lib.hid (apart_own (w0 := w) HA.out HBe.out.symm HW.out HK.out rfl (Nat.zero_lt_succ 2) (show 3 ≤ 1000 by omega) (by
    intro x hx
    simp only [List.mem_cons, List.mem_nil_iff, or_false] at hx
    have h1 := Bx1.out
    have h2 := Hx15.out
    have h3 := Hx25.out
    rcases hx with rfl | rfl | rfl <;> dsimp only <;> omega) HLO.out (by rw [HBe.out]; exact HLS.out) (KG.out.trans (HW.out.mono (by rw [HBe.out]; exact KG.out.size))) (Nat.le_trans (Nat.le_trans KG.out.size (by rw [← HBe.out]; exact Nat.le_refl _)) (Nat.le_trans (by rw [HBe.out]; exact Nat.le_refl _) HW.out.size)))
  go_wp2_with fail
  with_reducible refine AP.out.mono ?_
  rintro e W' ⟨rfl, hb⟩
  have HF := Lib.hid hb
  clear hb AP
  go_wp2_with fail
  go_ret
  exact ⟨rfl, HF.out⟩
set_option maxRecDepth 100000 in
set_option maxHeartbeats 16000000 in
theorem ltexts_bad (x1 : NV) (o1 : Nat → Int) (s : ByteArray) (n : Int) (w : World) (htab : Tab w) (hr1 : Rd w x1.a x1.n o1) (l1 : x1.n ≤ x1.c) (b1 : x1.n ≤ 200) (hsm : s.size ≤ 9223372036854775807) (hn1 : -9223372036854775808 ≤ n) (hn2 : n ≤ 9223372036854775807) (hk : ¬ okN x1.s x1.n o1) (hs : ¬ 1048576 < s.size) : Calls Tryz.prog 3 #[x1.v, .string s, .int .i64 n] w fun e w' => e = .returned (.bool true) ∧ Below w.heap.size w w' := by
  have HT := Lib.hid htab
  have KG := Lib.hid (Below.refl w.heap.size w)
  have HR1 := Lib.hid hr1
  have HSM := Lib.hid hsm
  have HN1 := Lib.hid hn1
  have HN2 := Lib.hid hn2
  have Bx1 := Lib.hid b1
  have HOK := Lib.hid hk
  have N1 := Lib.hid (XN.raw (s := x1.s) hr1 l1 hk)
  have LZ0 := Lib.hid (show lenB (0 : Int).natAbs ≤ 0 from Nat.le_of_eq lenB_zero)
  obtain ⟨TA, hTA⟩ : ∃ t : ByteArray, t = ⟨(Lib.itoa 0).toArray⟩ := ⟨_, rfl⟩
  have HTA := Lib.hid hTA.symm
  clear hTA
  obtain ⟨zs, hzs⟩ : ∃ z, z = numT s.data.toList := ⟨_, rfl⟩
  obtain ⟨cs, hcs⟩ : ∃ z, z = codeT s.data.toList := ⟨_, rfl⟩
  have HZS := Lib.hid hzs
  have HCS := Lib.hid hcs
  have LZzs := Lib.hid (show lenB zs.natAbs ≤ 23 by rw [hzs]; exact numT_len _)
  have LZn := Lib.hid (show lenB n.natAbs ≤ 3 from len1 hn1 hn2)
  have HSM6 := Lib.hid (show s.size ≤ 9223372036854775806 by omega)
  clear hzs hcs
  have HS := Lib.hid hs
  clear hs
  clear htab hr1 l1 hsm hn1 hn2 b1 hk
  go_enter Tryz.func3, Tryz.ntmps3
  go_upto_region 1 with (fail)
  obtain ⟨v2, hV⟩ : ∃ V, V = w.alloc (.cells #[.bool x1.s, .slice x1.a x1.n x1.c] 24) := ⟨_, rfl⟩
  have hbV : Below w.heap.size w v2 := by rw [hV]; exact ((Below.refl _ _).alloc (Nat.le_refl _) _)
  have BX1 := Lib.hid (show Bxs v2 (w.heap.size) 24 [.bool x1.s, .slice x1.a x1.n x1.c] by have h := Bxs.new (w) 24 [.bool x1.s, .slice x1.a x1.n x1.c]; rw [hV]; exact h)
  rw [show w.alloc (.cells #[.bool x1.s, .slice x1.a x1.n x1.c] 24) = v2 from hV.symm]
  have KG := Lib.hid (KG.out.trans (hbV.mono KG.out.size))
  clear hV hbV
  have cBX10 := BX1.out.cell (i := 0) rfl
  have cBX11 := BX1.out.cell (i := 1) rfl
  have cBX1f := BX1.out.fz
  have cBX1l := BX1.out.lt
  go_wp2_with fail
  clear cBX10 cBX11 cBX1f cBX1l
  obtain ⟨v4, hV⟩ : ∃ V, V = v2.alloc (.cells #[.bool x1.s, .slice x1.a x1.n x1.c] 24) := ⟨_, rfl⟩
  have hbV : Below v2.heap.size v2 v4 := by rw [hV]; exact ((Below.refl _ _).alloc (Nat.le_refl _) _)
  have BX3 := Lib.hid (show Bxs v4 (v2.heap.size) 24 [.bool x1.s, .slice x1.a x1.n x1.c] by have h := Bxs.new (v2) 24 [.bool x1.s, .slice x1.a x1.n x1.c]; rw [hV]; exact h)
  rw [show v2.alloc (.cells #[.bool x1.s, .slice x1.a x1.n x1.c] 24) = v4 from hV.symm]
  have BX1 := Lib.hid (BX1.out.below hbV BX1.out.lt)
  have KG := Lib.hid (KG.out.trans (hbV.mono KG.out.size))
  clear hV hbV
  have cBX10 := BX1.out.cell (i := 0) rfl
  have cBX11 := BX1.out.cell (i := 1) rfl
  have cBX1f := BX1.out.fz
  have cBX1l := BX1.out.lt
  have CT := Lib.hid (great1N (M := 200) BX3.out)
  rw [show ((200 : Nat) : Int) = 200 from rfl, show decide (200 < x1.n) = false from decide_eq_false (by have g0 : x1.n ≤ 200 := Bx1.out; omega)] at CT
  with_reducible refine CT.out.mono ?_
  rintro e w5 ⟨rfl, hb⟩
  clear CT
  clear cBX10 cBX11 cBX1f cBX1l
  have BX1 := Lib.hid (BX1.out.below hb BX1.out.lt)
  clear BX3
  have KG := Lib.hid (KG.out.trans (hb.mono KG.out.size))
  clear hb
  go_wp2_with fail
  obtain ⟨v7, hV⟩ : ∃ V, V = w5.alloc (.cells #[.int .i64 s.size] 3) := ⟨_, rfl⟩
  have hbV : Below w5.heap.size w5 v7 := by rw [hV]; exact ((Below.refl _ _).alloc (Nat.le_refl _) _)
  have BX6 := Lib.hid (show Bxs v7 (w5.heap.size) 3 [.int .i64 s.size] by have h := Bxs.new (w5) 3 [.int .i64 s.size]; rw [hV]; exact h)
  rw [show w5.alloc (.cells #[.int .i64 s.size] 3) = v7 from hV.symm]
  have BX1 := Lib.hid (BX1.out.below hbV BX1.out.lt)
  have KG := Lib.hid (KG.out.trans (hbV.mono KG.out.size))
  clear hV hbV
  have CT := Lib.hid (beyond1 BX6.out HSM.out)
  rw [show decide (1048576 < s.size) = false from decide_eq_false HS.out] at CT
  with_reducible refine CT.out.mono ?_
  rintro e w8 ⟨rfl, hb⟩
  clear CT
  have BX1 := Lib.hid (BX1.out.below hb BX1.out.lt)
  clear BX6
  have KG := Lib.hid (KG.out.trans (hb.mono KG.out.size))
  clear hb
  have cBX10 := BX1.out.cell (i := 0) rfl
  have cBX11 := BX1.out.cell (i := 1) rfl
  have cBX1f := BX1.out.fz
  have cBX1l := BX1.out.lt
  go_wp2_with fail
  have HA := Lib.hid (OwnAll.nil w8.heap.size w8)
  have HLS := Lib.hid (Nat.le_refl w8.heap.size)
  have HLO := Lib.hid (show w.heap.size ≤ w8.heap.size from KG.out.size)
  with_reducible refine (twinNum_any x1.s x1.a x1.n x1.c o1 w8 (HR1.out.below KG.out) (by have := Bx1.out; omega)).mono ?_
  rintro e w9 ⟨g1, rfl, hO1, hb⟩
  have ho1 : Own 54 w9 w8.heap.size (some ⟨g1, 0, none⟩) x1.n (x1.n + 1) o1 := (hO1.less (by omega)).congr fun i hi => (if_pos hi)
  have HT1 := Lib.hid hO1
  have NX := Lib.hid (XN.raw (s := x1.s) ho1.rd ho1.le HOK.out)
  clear cBX10 cBX11 cBX1f cBX1l
  have hA1 := HA.out.more HLS.out hb (x := ⟨0, x1.s, some ⟨g1, 0, none⟩, x1.n, x1.n + 1, o1⟩) ho1
  have HA := Lib.hid hA1
  clear hA1
  simp only [List.nil_append, List.cons_append] at HA
  have HLS := Lib.hid (Nat.le_trans HLS.out hb.size)
  have BX1 := Lib.hid (BX1.out.below hb BX1.out.lt)
  have KG := Lib.hid (KG.out.trans (hb.mono KG.out.size))
  clear hb ho1 hO1
  go_upto_region 4 with (fail)
  obtain ⟨v11, hV⟩ : ∃ V, V = w9.alloc (.cells #[.bool x1.s, .slice (some ⟨g1, 0, none⟩) x1.n (x1.n + 1)] 24) := ⟨_, rfl⟩
  have hbV : Below w9.heap.size w9 v11 := by rw [hV]; exact ((Below.refl _ _).alloc (Nat.le_refl _) _)
  have BX10 := Lib.hid (show Bxs v11 (w9.heap.size) 24 [.bool x1.s, .slice (some ⟨g1, 0, none⟩) x1.n (x1.n + 1)] by have h := Bxs.new (w9) 24 [.bool x1.s, .slice (some ⟨g1, 0, none⟩) x1.n (x1.n + 1)]; rw [hV]; exact h)
  rw [show w9.alloc (.cells #[.bool x1.s, .slice (some ⟨g1, 0, none⟩) x1.n (x1.n + 1)] 24) = v11 from hV.symm]
  have HA := Lib.hid (HA.out.below hbV)
  have HLS := Lib.hid (Nat.le_trans HLS.out hbV.size)
  have HT1 := Lib.hid (HT1.out.below hbV)
  have NX := Lib.hid (NX.out.below hbV)
  have BX1 := Lib.hid (BX1.out.below hbV BX1.out.lt)
  have KG := Lib.hid (KG.out.trans (hbV.mono KG.out.size))
  clear hV hbV
  have cBX100 := BX10.out.cell (i := 0) rfl
  have cBX101 := BX10.out.cell (i := 1) rfl
  have cBX10f := BX10.out.fz
  have cBX10l := BX10.out.lt
  go_wp2_with fail
  have CT := Lib.hid (backBN NX.out (show x1.n ≤ 10000000 from Nat.le_trans Bx1.out (by decide)))
  with_reducible refine CT.out.mono ?_
  rintro e w12 ⟨rfl, hb⟩
  clear CT
  clear cBX100 cBX101 cBX10f cBX10l
  have HA := Lib.hid (HA.out.below hb)
  have HLS := Lib.hid (Nat.le_trans HLS.out hb.size)
  have HT1 := Lib.hid (HT1.out.below hb)
  have NX := Lib.hid (NX.out.below hb)
  have BX1 := Lib.hid (BX1.out.below hb BX1.out.lt)
  have BX10 := Lib.hid (BX10.out.below hb BX10.out.lt)
  have KG := Lib.hid (KG.out.trans (hb.mono KG.out.size))
  clear hb
  have cBX10 := BX1.out.cell (i := 0) rfl
  have cBX11 := BX1.out.cell (i := 1) rfl
  have cBX1f := BX1.out.fz
  have cBX1l := BX1.out.lt
  go_wp2_with fail
  have CT := Lib.hid (rback_xN (N1.out.below KG.out) (show x1.n ≤ 10000000 from Nat.le_trans Bx1.out (by decide)))
  with_reducible refine CT.out.mono ?_
  rintro e w13 ⟨rfl, hb⟩
  clear CT
  clear cBX10 cBX11 cBX1f cBX1l
  have HA := Lib.hid (HA.out.below hb)
  have HLS := Lib.hid (Nat.le_trans HLS.out hb.size)
  have HT1 := Lib.hid (HT1.out.below hb)
  have NX := Lib.hid (NX.out.below hb)
  have BX1 := Lib.hid (BX1.out.below hb BX1.out.lt)
  have BX10 := Lib.hid (BX10.out.below hb BX10.out.lt)
  have KG := Lib.hid (KG.out.trans (hb.mono KG.out.size))
  clear hb
  go_wp2_with fail
  have CT := Lib.hid (parse_k w13 HSM.out HZS.out.symm HCS.out.symm)
  with_reducible refine CT.out.mono ?_
  rintro e w14 ⟨x15, rfl, hN16, hb⟩
  have N16 := Lib.hid hN16
  clear hN16
  clear CT
  have hA1 := HA.out.more HLS.out hb (x := ⟨0, x15.s, x15.a, x15.n, x15.c, dgi zs.natAbs⟩) N16.out.own
  have HA := Lib.hid hA1
  clear hA1
  simp only [List.nil_append, List.cons_append] at HA
  have HLS := Lib.hid (Nat.le_trans HLS.out hb.size)
  have HT1 := Lib.hid (HT1.out.below hb)
  have NX := Lib.hid (NX.out.below hb)
  have BX1 := Lib.hid (BX1.out.below hb BX1.out.lt)
  have BX10 := Lib.hid (BX10.out.below hb BX10.out.lt)
  have KG := Lib.hid (KG.out.trans (hb.mono KG.out.size))
  clear hb
  go_upto_region 7 with (fail)
  obtain ⟨v18, hV⟩ : ∃ V, V = w14.alloc (.cells #[.bool x15.s, .slice x15.a x15.n x15.c] 24) := ⟨_, rfl⟩
  have hbV : Below w14.heap.size w14 v18 := by rw [hV]; exact ((Below.refl _ _).alloc (Nat.le_refl _) _)
  have BX17 := Lib.hid (show Bxs v18 (w14.heap.size) 24 [.bool x15.s, .slice x15.a x15.n x15.c] by have h := Bxs.new (w14) 24 [.bool x15.s, .slice x15.a x15.n x15.c]; rw [hV]; exact h)
  rw [show w14.alloc (.cells #[.bool x15.s, .slice x15.a x15.n x15.c] 24) = v18 from hV.symm]
  have HA := Lib.hid (HA.out.below hbV)
  have HLS := Lib.hid (Nat.le_trans HLS.out hbV.size)
  have HT1 := Lib.hid (HT1.out.below hbV)
  have NX := Lib.hid (NX.out.below hbV)
  have N16 := Lib.hid (N16.out.below hbV)
  have BX1 := Lib.hid (BX1.out.below hbV BX1.out.lt)
  have BX10 := Lib.hid (BX10.out.below hbV BX10.out.lt)
  have KG := Lib.hid (KG.out.trans (hbV.mono KG.out.size))
  clear hV hbV
  go_wp2_with fail
  have CT := Lib.hid (rparse_k v18 HSM6.out HZS.out.symm HCS.out.symm)
  with_reducible refine CT.out.mono ?_
  rintro e w19 ⟨x20, rfl, hN21, hb⟩
  have N21 := Lib.hid hN21
  clear hN21
  clear CT
  have HA := Lib.hid (HA.out.below hb)
  have HLS := Lib.hid (Nat.le_trans HLS.out hb.size)
  have HT1 := Lib.hid (HT1.out.below hb)
  have NX := Lib.hid (NX.out.below hb)
  have N16 := Lib.hid (N16.out.below hb)
  have BX1 := Lib.hid (BX1.out.below hb BX1.out.lt)
  have BX10 := Lib.hid (BX10.out.below hb BX10.out.lt)
  have BX17 := Lib.hid (BX17.out.below hb BX17.out.lt)
  have KG := Lib.hid (KG.out.trans (hb.mono KG.out.size))
  clear hb
  go_upto_region 8 with (fail)
  obtain ⟨v23, hV⟩ : ∃ V, V = w19.alloc (.cells #[.bool x20.s, .slice x20.a x20.n x20.c] 24) := ⟨_, rfl⟩
  have hbV : Below w19.heap.size w19 v23 := by rw [hV]; exact ((Below.refl _ _).alloc (Nat.le_refl _) _)
  have BX22 := Lib.hid (show Bxs v23 (w19.heap.size) 24 [.bool x20.s, .slice x20.a x20.n x20.c] by have h := Bxs.new (w19) 24 [.bool x20.s, .slice x20.a x20.n x20.c]; rw [hV]; exact h)
  rw [show w19.alloc (.cells #[.bool x20.s, .slice x20.a x20.n x20.c] 24) = v23 from hV.symm]
  have HA := Lib.hid (HA.out.below hbV)
  have HLS := Lib.hid (Nat.le_trans HLS.out hbV.size)
  have HT1 := Lib.hid (HT1.out.below hbV)
  have NX := Lib.hid (NX.out.below hbV)
  have N16 := Lib.hid (N16.out.below hbV)
  have N21 := Lib.hid (N21.out.below hbV)
  have BX1 := Lib.hid (BX1.out.below hbV BX1.out.lt)
  have BX10 := Lib.hid (BX10.out.below hbV BX10.out.lt)
  have BX17 := Lib.hid (BX17.out.below hbV BX17.out.lt)
  have KG := Lib.hid (KG.out.trans (hbV.mono KG.out.size))
  clear hV hbV
  go_wp2_with fail
  have CT := Lib.hid (ofN n v23 HN1.out HN2.out)
  with_reducible refine CT.out.mono ?_
  rintro e w24 ⟨x25, rfl, hN26, hb⟩
  have N26 := Lib.hid hN26
  clear hN26
  clear CT
  have hA1 := HA.out.more HLS.out hb (x := ⟨0, x25.s, x25.a, x25.n, x25.c, dgi n.natAbs⟩) N26.out.own
  have HA := Lib.hid hA1
  clear hA1
  simp only [List.nil_append, List.cons_append] at HA
  have HLS := Lib.hid (Nat.le_trans HLS.out hb.size)
  have HT1 := Lib.hid (HT1.out.below hb)
  have NX := Lib.hid (NX.out.below hb)
  have N16 := Lib.hid (N16.out.below hb)
  have N21 := Lib.hid (N21.out.below hb)
  have BX1 := Lib.hid (BX1.out.below hb BX1.out.lt)
  have BX10 := Lib.hid (BX10.out.below hb BX10.out.lt)
  have BX17 := Lib.hid (BX17.out.below hb BX17.out.lt)
  have BX22 := Lib.hid (BX22.out.below hb BX22.out.lt)
  have KG := Lib.hid (KG.out.trans (hb.mono KG.out.size))
  clear hb
  go_upto_region 9 with (fail)
  obtain ⟨v28, hV⟩ : ∃ V, V = w24.alloc (.cells #[.bool x25.s, .slice x25.a x25.n x25.c] 24) := ⟨_, rfl⟩
  have hbV : Below w24.heap.size w24 v28 := by rw [hV]; exact ((Below.refl _ _).alloc (Nat.le_refl _) _)
  have BX27 := Lib.hid (show Bxs v28 (w24.heap.size) 24 [.bool x25.s, .slice x25.a x25.n x25.c] by have h := Bxs.new (w24) 24 [.bool x25.s, .slice x25.a x25.n x25.c]; rw [hV]; exact h)
  rw [show w24.alloc (.cells #[.bool x25.s, .slice x25.a x25.n x25.c] 24) = v28 from hV.symm]
  have HA := Lib.hid (HA.out.below hbV)
  have HLS := Lib.hid (Nat.le_trans HLS.out hbV.size)
  have HT1 := Lib.hid (HT1.out.below hbV)
  have NX := Lib.hid (NX.out.below hbV)
  have N16 := Lib.hid (N16.out.below hbV)
  have N21 := Lib.hid (N21.out.below hbV)
  have N26 := Lib.hid (N26.out.below hbV)
  have BX1 := Lib.hid (BX1.out.below hbV BX1.out.lt)
  have BX10 := Lib.hid (BX10.out.below hbV BX10.out.lt)
  have BX17 := Lib.hid (BX17.out.below hbV BX17.out.lt)
  have BX22 := Lib.hid (BX22.out.below hbV BX22.out.lt)
  have KG := Lib.hid (KG.out.trans (hbV.mono KG.out.size))
  clear hV hbV
  go_upto_region 9 with (fail)
  refine Go.FreshS.wp_region_fresh 45 [] (Go.FreshS.spOf [(1, Go.FreshS.Sp.know (.bool false)), (3, Go.FreshS.Sp.know (.bool false)), (17, Go.FreshS.Sp.know (.string TA)), (19, Go.FreshS.Sp.know (.string TA)), (25, Go.FreshS.Sp.know (.bool true)), (36, Go.FreshS.Sp.made (fun x : NV => x.v) (fun x w' => DN w' v28.heap.size x n) NV.blk), (37, Go.FreshS.Sp.know (.bool true)), (43, Go.FreshS.Sp.know (.bool true))])
    (fun w' => Below v28.heap.size v28 w') (by kernel_rfl) (by kernel_rfl) (by kernel_rfl)
    (Go.FreshS.spOf_cons (Go.FreshS.Sp.know_keeps _ _) (Go.FreshS.spOf_cons (Go.FreshS.Sp.know_keeps _ _) (Go.FreshS.spOf_cons (Go.FreshS.Sp.know_keeps _ _) (Go.FreshS.spOf_cons (Go.FreshS.Sp.know_keeps _ _) (Go.FreshS.spOf_cons (Go.FreshS.Sp.know_keeps _ _) (Go.FreshS.spOf_cons (Go.FreshS.Sp.made_keeps _ (fun _ _ _ h _ hk => h.kept hk) (Go.FreshS.notTaken (by kernel_rfl))) (Go.FreshS.spOf_cons (Go.FreshS.Sp.know_keeps _ _) (Go.FreshS.spOf_cons (Go.FreshS.Sp.know_keeps _ _) (Go.FreshS.spOf_nil))))))))) (fun _ _ h hb => h.trans (hb.mono h.size)) ((Below.refl _ _).drew) ?_
  simp only [List.append_eq, List.cons_append, List.nil_append, List.take_succ_cons, List.take_zero, List.drop_succ_cons, List.drop_zero]
  refine Go.FreshS.wpF_reads rfl rfl rfl ?_ (fun w' hw' => ?_) ?_
  rotate_left
  · have hb' := hw'.world
    have hs0 := (BX10.out.below hb' BX10.out.lt).cell (i := 0) rfl
    have hs1 := (BX10.out.below hb' BX10.out.lt).cell (i := 1) rfl
    have hsf := (BX10.out.below hb' BX10.out.lt).fz
    have hsl := (BX10.out.below hb' BX10.out.lt).lt
    clear hw'
    go_simp
    try rfl
  conv => arg 10; simp only [Act.put, List.setIfInBounds_toArray, List.set_cons_succ, List.set_cons_zero]
  refine Go.FreshS.wpF_spec rfl rfl rfl (fun w' hw' => ?_) ?_
  · have hb' := hw'.world
    refine Go.FreshS.gives_of (Go.FreshS.PK (.bool false)) ?_ (fun _ _ h => h.post)
    go_simp
    have CT := checkBN (NX.out.below hb') (show x1.n ≤ 10000000 from Nat.le_trans Bx1.out (by decide))
    refine CT.mono ?_
    rintro e w'' ⟨rfl, hb⟩
    exact ⟨_, rfl, rfl, hb⟩
  rintro _ rfl
  conv => arg 10; simp only [Act.put, List.setIfInBounds_toArray, List.set_cons_succ, List.set_cons_zero]
  refine Go.FreshS.wpF_reads rfl rfl rfl ?_ (fun w' hw' => ?_) ?_
  rotate_left
  · have hb' := hw'.world
    have hs0 := (BX1.out.below hb' BX1.out.lt).cell (i := 0) rfl
    have hs1 := (BX1.out.below hb' BX1.out.lt).cell (i := 1) rfl
    have hsf := (BX1.out.below hb' BX1.out.lt).fz
    have hsl := (BX1.out.below hb' BX1.out.lt).lt
    clear hw'
    go_simp
    try rfl
  conv => arg 10; simp only [Act.put, List.setIfInBounds_toArray, List.set_cons_succ, List.set_cons_zero]
  refine Go.FreshS.wpF_spec rfl rfl rfl (fun w' hw' => ?_) ?_
  · have hb' := hw'.world
    refine Go.FreshS.gives_of (Go.FreshS.PK (.bool false)) ?_ (fun _ _ h => h.post)
    go_simp
    have CT := rcheckBN (N1.out.below (KG.out.trans (hb'.mono KG.out.size))) (show x1.n ≤ 10000000 from Nat.le_trans Bx1.out (by decide))
    refine CT.mono ?_
    rintro e w'' ⟨rfl, hb⟩
    exact ⟨_, rfl, rfl, hb⟩
  rintro _ rfl
  conv => arg 10; simp only [Act.put, List.setIfInBounds_toArray, List.set_cons_succ, List.set_cons_zero]
  refine Go.FreshS.wpF_reads rfl rfl rfl ?_ (fun w' hw' => ?_) ?_
  rotate_left
  · have hb' := hw'.world
    skip
    clear hw'
    go_simp
    try rfl
  conv => arg 10; simp only [Act.put, List.setIfInBounds_toArray, List.set_cons_succ, List.set_cons_zero]
  refine Go.FreshS.wpF_reads rfl rfl rfl ?_ (fun w' hw' => ?_) ?_
  rotate_left
  · have hb' := hw'.world
    skip
    clear hw'
    go_simp
    try rfl
  conv => arg 10; simp only [Act.put, List.setIfInBounds_toArray, List.set_cons_succ, List.set_cons_zero]
  refine Go.FreshS.wpF_readsG (by rfl) rfl rfl ?_ (fun w' hw' => ?_) ?_
  rotate_left
  · have hb' := hw'.world
    skip
    clear hw'
    go_simp
    try rfl
  conv => arg 10; simp only [Act.put, List.setIfInBounds_toArray, List.set_cons_succ, List.set_cons_zero]
  refine Go.FreshS.wpF_readsG (by rfl) rfl rfl ?_ (fun w' hw' => ?_) ?_
  rotate_left
  · have hb' := hw'.world
    skip
    clear hw'
    go_simp
    try rfl
  conv => arg 10; simp only [Act.put, List.setIfInBounds_toArray, List.set_cons_succ, List.set_cons_zero]
  refine Go.FreshS.wpF_readsG (by rfl) rfl rfl ?_ (fun w' hw' => ?_) ?_
  rotate_left
  · have hb' := hw'.world
    skip
    clear hw'
    go_simp
    try rfl
  conv => arg 10; simp only [Act.put, List.setIfInBounds_toArray, List.set_cons_succ, List.set_cons_zero]
  refine Go.FreshS.wpF_reads rfl rfl rfl ?_ (fun w' hw' => ?_) ?_
  rotate_left
  · have hb' := hw'.world
    skip
    clear hw'
    go_simp
    try rfl
  conv => arg 10; simp only [Act.put, List.setIfInBounds_toArray, List.set_cons_succ, List.set_cons_zero]
  refine Go.FreshS.wpF_reads rfl rfl rfl ?_ (fun w' hw' => ?_) ?_
  rotate_left
  · have hb' := hw'.world
    skip
    clear hw'
    go_simp
    try rfl
  conv => arg 10; simp only [Act.put, List.setIfInBounds_toArray, List.set_cons_succ, List.set_cons_zero]
  refine Go.FreshS.wpF_readsG (by rfl) rfl rfl ?_ (fun w' hw' => ?_) ?_
  rotate_left
  · have hb' := hw'.world
    skip
    clear hw'
    go_simp
    try rfl
  conv => arg 10; simp only [Act.put, List.setIfInBounds_toArray, List.set_cons_succ, List.set_cons_zero]
  refine Go.FreshS.wpF_readsG (by rfl) rfl rfl ?_ (fun w' hw' => ?_) ?_
  rotate_left
  · have hb' := hw'.world
    skip
    clear hw'
    go_simp
    try rfl
  conv => arg 10; simp only [Act.put, List.setIfInBounds_toArray, List.set_cons_succ, List.set_cons_zero]
  refine Go.FreshS.wpF_readsG (by rfl) rfl rfl ?_ (fun w' hw' => ?_) ?_
  rotate_left
  · have hb' := hw'.world
    skip
    clear hw'
    go_simp
    try rfl
  conv => arg 10; simp only [Act.put, List.setIfInBounds_toArray, List.set_cons_succ, List.set_cons_zero]
  refine Go.FreshS.wpF_reads rfl rfl rfl ?_ (fun w' hw' => ?_) ?_
  rotate_left
  · have hb' := hw'.world
    skip
    clear hw'
    go_simp
    try rfl
  conv => arg 10; simp only [Act.put, List.setIfInBounds_toArray, List.set_cons_succ, List.set_cons_zero]
  refine Go.FreshS.wpF_reads rfl rfl rfl ?_ (fun w' hw' => ?_) ?_
  rotate_left
  · have hb' := hw'.world
    skip
    clear hw'
    go_simp
    try rfl
  conv => arg 10; simp only [Act.put, List.setIfInBounds_toArray, List.set_cons_succ, List.set_cons_zero]
  refine Go.FreshS.wpF_readsG (by rfl) rfl rfl ?_ (fun w' hw' => ?_) ?_
  rotate_left
  · have hb' := hw'.world
    have hs0 := (BX10.out.below hb' BX10.out.lt).cell (i := 0) rfl
    have hs1 := (BX10.out.below hb' BX10.out.lt).cell (i := 1) rfl
    have hsf := (BX10.out.below hb' BX10.out.lt).fz
    have hsl := (BX10.out.below hb' BX10.out.lt).lt
    clear hw'
    go_simp
    try rfl
  conv => arg 10; simp only [Act.put, List.setIfInBounds_toArray, List.set_cons_succ, List.set_cons_zero]
  refine Go.FreshS.wpF_gspec (by rfl) rfl rfl (fun w' hw' => ?_) ?_
  · have hb' := hw'.world
    refine Go.FreshS.gives_of (Go.FreshS.PK (.string TA)) ?_ (fun _ _ h => h.post)
    go_simp
    have CT := textN (NX.out.below hb').any (show x1.n ≤ 10000000 from Nat.le_trans Bx1.out (by decide)) (HT.out.on (KG.out.trans (hb'.mono KG.out.size)))
    rw [show (⟨(Lib.itoa (0 : Int)).toArray⟩ : ByteArray) = TA from HTA.out] at CT
    refine CT.mono ?_
    rintro e w'' ⟨rfl, hb⟩
    exact ⟨_, rfl, rfl, hb⟩
  rintro _ rfl
  conv => arg 10; simp only [Act.put, List.setIfInBounds_toArray, List.set_cons_succ, List.set_cons_zero]
  refine Go.FreshS.wpF_readsG (by rfl) rfl rfl ?_ (fun w' hw' => ?_) ?_
  rotate_left
  · have hb' := hw'.world
    have hs0 := (BX1.out.below hb' BX1.out.lt).cell (i := 0) rfl
    have hs1 := (BX1.out.below hb' BX1.out.lt).cell (i := 1) rfl
    have hsf := (BX1.out.below hb' BX1.out.lt).fz
    have hsl := (BX1.out.below hb' BX1.out.lt).lt
    clear hw'
    go_simp
    try rfl
  conv => arg 10; simp only [Act.put, List.setIfInBounds_toArray, List.set_cons_succ, List.set_cons_zero]
  refine Go.FreshS.wpF_gspec (by rfl) rfl rfl (fun w' hw' => ?_) ?_
  · have hb' := hw'.world
    refine Go.FreshS.gives_of (Go.FreshS.PK (.string TA)) ?_ (fun _ _ h => h.post)
    go_simp
    have CT := rtextN (N1.out.below (KG.out.trans (hb'.mono KG.out.size))).any (show x1.n ≤ 10000000 from Nat.le_trans Bx1.out (by decide))
    rw [show (⟨(Lib.itoa (0 : Int)).toArray⟩ : ByteArray) = TA from HTA.out] at CT
    refine CT.mono ?_
    rintro e w'' ⟨rfl, hb⟩
    exact ⟨_, rfl, rfl, hb⟩
  rintro _ rfl
  conv => arg 10; simp only [Act.put, List.setIfInBounds_toArray, List.set_cons_succ, List.set_cons_zero]
  refine Go.FreshS.wpF_readsG (by rfl) rfl rfl ?_ (fun w' hw' => ?_) ?_
  rotate_left
  · have hb' := hw'.world
    skip
    clear hw'
    go_simp
    try rfl
  conv => arg 10; simp only [Act.put, List.setIfInBounds_toArray, List.set_cons_succ, List.set_cons_zero]
  refine Go.FreshS.wpF_reads rfl rfl rfl ?_ (fun w' hw' => ?_) ?_
  rotate_left
  · have hb' := hw'.world
    skip
    clear hw'
    go_simp
    try rfl
  conv => arg 10; simp only [Act.put, List.setIfInBounds_toArray, List.set_cons_succ, List.set_cons_zero]
  refine Go.FreshS.wpF_reads rfl rfl rfl ?_ (fun w' hw' => ?_) ?_
  rotate_left
  · have hb' := hw'.world
    skip
    clear hw'
    go_simp
    try rfl
  conv => arg 10; simp only [Act.put, List.setIfInBounds_toArray, List.set_cons_succ, List.set_cons_zero]
  refine Go.FreshS.wpF_readsG (by rfl) rfl rfl ?_ (fun w' hw' => ?_) ?_
  rotate_left
  · have hb' := hw'.world
    have hs0 := (BX17.out.below hb' BX17.out.lt).cell (i := 0) rfl
    have hs1 := (BX17.out.below hb' BX17.out.lt).cell (i := 1) rfl
    have hsf := (BX17.out.below hb' BX17.out.lt).fz
    have hsl := (BX17.out.below hb' BX17.out.lt).lt
    clear hw'
    go_simp
    try rfl
  conv => arg 10; simp only [Act.put, List.setIfInBounds_toArray, List.set_cons_succ, List.set_cons_zero]
  refine Go.FreshS.wpF_readsG (by rfl) rfl rfl ?_ (fun w' hw' => ?_) ?_
  rotate_left
  · have hb' := hw'.world
    have hs0 := (BX22.out.below hb' BX22.out.lt).cell (i := 0) rfl
    have hs1 := (BX22.out.below hb' BX22.out.lt).cell (i := 1) rfl
    have hsf := (BX22.out.below hb' BX22.out.lt).fz
    have hsl := (BX22.out.below hb' BX22.out.lt).lt
    clear hw'
    go_simp
    try rfl
  conv => arg 10; simp only [Act.put, List.setIfInBounds_toArray, List.set_cons_succ, List.set_cons_zero]
  refine Go.FreshS.wpF_gspec (by rfl) rfl rfl (fun w' hw' => ?_) ?_
  · have hb' := hw'.world
    refine Go.FreshS.gives_of (Go.FreshS.PK (.bool true)) ?_ (fun _ _ h => h.post)
    go_simp
    have CT := sameTN (N16.out.below hb').k ((N16.out.below hb').k.len LZzs.out (by decide)) (N21.out.below hb').k ((N21.out.below hb').k.len LZzs.out (by decide)) (rfl)
    refine CT.mono ?_
    rintro e w'' ⟨rfl, hb⟩
    exact ⟨_, rfl, rfl, hb⟩
  rintro _ rfl
  conv => arg 10; simp only [Act.put, List.setIfInBounds_toArray, List.set_cons_succ, List.set_cons_zero]
  refine Go.FreshS.wpF_readsG (by rfl) rfl rfl ?_ (fun w' hw' => ?_) ?_
  rotate_left
  · have hb' := hw'.world
    skip
    clear hw'
    go_simp
    try rfl
  conv => arg 10; simp only [Act.put, List.setIfInBounds_toArray, List.set_cons_succ, List.set_cons_zero]
  refine Go.FreshS.wpF_reads rfl rfl rfl ?_ (fun w' hw' => ?_) ?_
  rotate_left
  · have hb' := hw'.world
    skip
    clear hw'
    go_simp
    try rfl
  conv => arg 10; simp only [Act.put, List.setIfInBounds_toArray, List.set_cons_succ, List.set_cons_zero]
  refine Go.FreshS.wpF_reads rfl rfl rfl ?_ (fun w' hw' => ?_) ?_
  rotate_left
  · have hb' := hw'.world
    skip
    clear hw'
    go_simp
    try rfl
  conv => arg 10; simp only [Act.put, List.setIfInBounds_toArray, List.set_cons_succ, List.set_cons_zero]
  refine Go.FreshS.wpF_readsG (by rfl) rfl rfl ?_ (fun w' hw' => ?_) ?_
  rotate_left
  · have hb' := hw'.world
    skip
    clear hw'
    go_simp
    try rfl
  conv => arg 10; simp only [Act.put, List.setIfInBounds_toArray, List.set_cons_succ, List.set_cons_zero]
  refine Go.FreshS.wpF_readsG (by rfl) rfl rfl ?_ (fun w' hw' => ?_) ?_
  rotate_left
  · have hb' := hw'.world
    skip
    clear hw'
    go_simp
    try rfl
  conv => arg 10; simp only [Act.put, List.setIfInBounds_toArray, List.set_cons_succ, List.set_cons_zero]
  refine Go.FreshS.wpF_readsG (by rfl) rfl rfl ?_ (fun w' hw' => ?_) ?_
  rotate_left
  · have hb' := hw'.world
    skip
    clear hw'
    go_simp
    try rfl
  conv => arg 10; simp only [Act.put, List.setIfInBounds_toArray, List.set_cons_succ, List.set_cons_zero]
  refine Go.FreshS.wpF_reads rfl rfl rfl ?_ (fun w' hw' => ?_) ?_
  rotate_left
  · have hb' := hw'.world
    skip
    clear hw'
    go_simp
    try rfl
  conv => arg 10; simp only [Act.put, List.setIfInBounds_toArray, List.set_cons_succ, List.set_cons_zero]
  refine Go.FreshS.wpF_reads rfl rfl rfl ?_ (fun w' hw' => ?_) ?_
  rotate_left
  · have hb' := hw'.world
    skip
    clear hw'
    go_simp
    try rfl
  conv => arg 10; simp only [Act.put, List.setIfInBounds_toArray, List.set_cons_succ, List.set_cons_zero]
  refine Go.FreshS.wpF_readsG (by rfl) rfl rfl ?_ (fun w' hw' => ?_) ?_
  rotate_left
  · have hb' := hw'.world
    have hs0 := (BX27.out.below hb' BX27.out.lt).cell (i := 0) rfl
    have hs1 := (BX27.out.below hb' BX27.out.lt).cell (i := 1) rfl
    have hsf := (BX27.out.below hb' BX27.out.lt).fz
    have hsl := (BX27.out.below hb' BX27.out.lt).lt
    clear hw'
    go_simp
    try rfl
  conv => arg 10; simp only [Act.put, List.setIfInBounds_toArray, List.set_cons_succ, List.set_cons_zero]
  refine Go.FreshS.wpF_readsG (by rfl) rfl rfl ?_ (fun w' hw' => ?_) ?_
  rotate_left
  · have hb' := hw'.world
    skip
    clear hw'
    go_simp
    try rfl
  conv => arg 10; simp only [Act.put, List.setIfInBounds_toArray, List.set_cons_succ, List.set_cons_zero]
  refine Go.FreshS.wpF_gspec (by rfl) rfl rfl (fun w' hw' => ?_) ?_
  · have hb' := hw'.world
    refine Go.FreshS.gives_of (Go.FreshS.PM (fun x : NV => x.v) (fun x w' => DN w' v28.heap.size x n) NV.blk w'.heap.size) ?_ (fun _ _ h => h.post @NV.inj)
    go_simp
    have CT := rofN n w' HN1.out HN2.out
    refine CT.mono ?_
    rintro e w'' ⟨za, rfl, ho, hb⟩
    exact ⟨_, rfl, ⟨za, rfl, ho.mono hb'.size, ho.blks⟩, hb⟩
  rintro _ ⟨y36, rfl⟩
  conv => arg 10; simp only [Act.put, List.setIfInBounds_toArray, List.set_cons_succ, List.set_cons_zero]
  refine Go.FreshS.wpF_gspec (by rfl) rfl rfl (fun w' hw' => ?_) ?_
  · have hb' := hw'.world
    refine Go.FreshS.gives_of (Go.FreshS.PK (.bool true)) ?_ (fun _ _ h => h.post)
    go_simp
    have f36 := Go.FreshS.made_of (val := fun x : NV => x.v) (Φ := fun x w' => DN w' v28.heap.size x n) @NV.inj (hw'.fact 36 (by kernel_rfl))
    have CT := sameTN (N26.out.below hb').k ((N26.out.below hb').k.len LZn.out (by decide)) f36.k (f36.k.len LZn.out (by decide)) (rfl)
    refine CT.mono ?_
    rintro e w'' ⟨rfl, hb⟩
    exact ⟨_, rfl, rfl, hb⟩
  rintro _ rfl
  conv => arg 10; simp only [Act.put, List.setIfInBounds_toArray, List.set_cons_succ, List.set_cons_zero]
  refine Go.FreshS.wpF_readsG (by rfl) rfl rfl ?_ (fun w' hw' => ?_) ?_
  rotate_left
  · have hb' := hw'.world
    skip
    clear hw'
    go_simp
    try rfl
  conv => arg 10; simp only [Act.put, List.setIfInBounds_toArray, List.set_cons_succ, List.set_cons_zero]
  refine Go.FreshS.wpF_reads rfl rfl rfl ?_ (fun w' hw' => ?_) ?_
  rotate_left
  · have hb' := hw'.world
    skip
    clear hw'
    go_simp
    try rfl
  conv => arg 10; simp only [Act.put, List.setIfInBounds_toArray, List.set_cons_succ, List.set_cons_zero]
  refine Go.FreshS.wpF_reads rfl rfl rfl ?_ (fun w' hw' => ?_) ?_
  rotate_left
  · have hb' := hw'.world
    skip
    clear hw'
    go_simp
    try rfl
  conv => arg 10; simp only [Act.put, List.setIfInBounds_toArray, List.set_cons_succ, List.set_cons_zero]
  refine Go.FreshS.wpF_readsG (by rfl) rfl rfl ?_ (fun w' hw' => ?_) ?_
  rotate_left
  · have hb' := hw'.world
    have hs0 := (BX10.out.below hb' BX10.out.lt).cell (i := 0) rfl
    have hs1 := (BX10.out.below hb' BX10.out.lt).cell (i := 1) rfl
    have hsf := (BX10.out.below hb' BX10.out.lt).fz
    have hsl := (BX10.out.below hb' BX10.out.lt).lt
    clear hw'
    go_simp
    try rfl
  conv => arg 10; simp only [Act.put, List.setIfInBounds_toArray, List.set_cons_succ, List.set_cons_zero]
  refine Go.FreshS.wpF_readsG (by rfl) rfl rfl ?_ (fun w' hw' => ?_) ?_
  rotate_left
  · have hb' := hw'.world
    have hs0 := (BX1.out.below hb' BX1.out.lt).cell (i := 0) rfl
    have hs1 := (BX1.out.below hb' BX1.out.lt).cell (i := 1) rfl
    have hsf := (BX1.out.below hb' BX1.out.lt).fz
    have hsl := (BX1.out.below hb' BX1.out.lt).lt
    clear hw'
    go_simp
    try rfl
  conv => arg 10; simp only [Act.put, List.setIfInBounds_toArray, List.set_cons_succ, List.set_cons_zero]
  refine Go.FreshS.wpF_gspec (by rfl) rfl rfl (fun w' hw' => ?_) ?_
  · have hb' := hw'.world
    refine Go.FreshS.gives_of (Go.FreshS.PK (.bool true)) ?_ (fun _ _ h => h.post)
    go_simp
    have CT := leftNum_any x1.s g1 x1.a x1.n x1.c o1 w' (HT1.out.below hb').rd (HR1.out.below (KG.out.trans (hb'.mono KG.out.size))) (by have := Bx1.out; omega)
    refine CT.mono ?_
    rintro e w'' ⟨rfl, hb⟩
    exact ⟨_, rfl, rfl, hb⟩
  rintro _ rfl
  conv => arg 10; simp only [Act.put, List.setIfInBounds_toArray, List.set_cons_succ, List.set_cons_zero]
  refine Go.FreshS.wpF_readsG (by rfl) rfl rfl ?_ (fun w' hw' => ?_) ?_
  rotate_left
  · have hb' := hw'.world
    skip
    clear hw'
    go_simp
    try rfl
  conv => arg 10; simp only [Act.put, List.setIfInBounds_toArray, List.set_cons_succ, List.set_cons_zero]
  refine Go.FreshS.wpF_nil (fun w29 hb hF => ?_)
  clear hF
  have HA := Lib.hid (HA.out.below hb)
  have HLS := Lib.hid (Nat.le_trans HLS.out hb.size)
  clear HT1
  clear NX
  have N16 := Lib.hid (N16.out.below hb)
  clear N21
  have N26 := Lib.hid (N26.out.below hb)
  clear BX1
  have BX10 := Lib.hid (BX10.out.below hb BX10.out.lt)
  have BX17 := Lib.hid (BX17.out.below hb BX17.out.lt)
  clear BX22
  have BX27 := Lib.hid (BX27.out.below hb BX27.out.lt)
  have KG := Lib.hid (KG.out.trans (hb.mono KG.out.size))
  clear hb
  have Hx15 := Lib.hid (show x15.n ≤ 900000 from N16.out.k.len LZzs.out (by decide))
  have Hx25 := Lib.hid (show x25.n ≤ 900000 from N26.out.k.len LZn.out (by decide))
  go_upto_region 11 with (fail)
  go_upto_region 12 with (fail)
  obtain ⟨W, hW⟩ : ∃ W, W = w29.alloc (.cells #[.int .i64 0, .slice none 0 0, .slice none 0 0, .slice none 0 0, .slice none 0 0, .slice none 0 0, .slice none 0 0, .slice none 0 0, .slice none 0 0, .slice none 0 0, .slice none 0 0, .slice none 0 0, .slice none 0 0] 50) := ⟨_, rfl⟩
  have HK := Lib.hid (book_nw w29)
  have HW := Lib.hid (show Below w29.heap.size w29 (w29.alloc (.cells #[.int .i64 0, .slice none 0 0, .slice none 0 0, .slice none 0 0, .slice none 0 0, .slice none 0 0, .slice none 0 0, .slice none 0 0, .slice none 0 0, .slice none 0 0, .slice none 0 0, .slice none 0 0, .slice none 0 0] 50)) from (Below.refl _ _).alloc (Nat.le_refl _) _)
  rw [← hW] at HK HW
  rw [show w29.alloc (.cells #[.int .i64 0, .slice none 0 0, .slice none 0 0, .slice none 0 0, .slice none 0 0, .slice none 0 0, .slice none 0 0, .slice none 0 0, .slice none 0 0, .slice none 0 0, .slice none 0 0, .slice none 0 0, .slice none 0 0] 50) = W from hW.symm]
  clear hW
  obtain ⟨B, hB⟩ : ∃ B, B = w29.heap.size := ⟨_, rfl⟩
  rw [← hB] at HK HW
  rw [← hB]
  have HBe := Lib.hid hB
  clear hB
  have hbz : B ≤ W.heap.size := Nat.le_trans (by rw [HBe.out]; exact Nat.le_refl _) HW.out.size
  have hBX := BX10.out.below (by rw [← HBe.out]; exact HW.out) BX10.out.lt
  have y0 := hBX.cell (i := 0) rfl
  have y1 := hBX.cell (i := 1) rfl
  have y4 := hBX.fz
  have y5 := hBX.lt
  have NM := Lib.hid (bookNum_any B 0 _ _ x1.s (some ⟨g1, 0, none⟩) x1.n (x1.n + 1) W (by omega) HK.out hbz)
  clear hBX
  go_wp2_with fail
  with_reducible refine NM.out.mono ?_
  rintro e W' hk
  obtain ⟨⟨u, rfl⟩, v', hk1, hk2⟩ := hk
  have HK := Lib.hid hk1
  have HW := Lib.hid (HW.out.trans hk2)
  clear hk1 hk2 NM y0 y1 y4 y5 hbz
  obtain ⟨W, rfl⟩ : ∃ W, W = W' := ⟨_, rfl⟩
  have hbz : B ≤ W.heap.size := Nat.le_trans (by rw [HBe.out]; exact Nat.le_refl _) HW.out.size
  have hBX := BX17.out.below (by rw [← HBe.out]; exact HW.out) BX17.out.lt
  have y0 := hBX.cell (i := 0) rfl
  have y1 := hBX.cell (i := 1) rfl
  have y4 := hBX.fz
  have y5 := hBX.lt
  have NM := Lib.hid (bookNum_any B 1 _ _ x15.s x15.a x15.n x15.c W (by omega) HK.out hbz)
  clear hBX
  go_wp2_with fail
  with_reducible refine NM.out.mono ?_
  rintro e W' hk
  obtain ⟨⟨u, rfl⟩, v', hk1, hk2⟩ := hk
  have HK := Lib.hid hk1
  have HW := Lib.hid (HW.out.trans hk2)
  clear hk1 hk2 NM y0 y1 y4 y5 hbz
  obtain ⟨W, rfl⟩ : ∃ W, W = W' := ⟨_, rfl⟩
  have hbz : B ≤ W.heap.size := Nat.le_trans (by rw [HBe.out]; exact Nat.le_refl _) HW.out.size
  have hBX := BX27.out.below (by rw [← HBe.out]; exact HW.out) BX27.out.lt
  have y0 := hBX.cell (i := 0) rfl
  have y1 := hBX.cell (i := 1) rfl
  have y4 := hBX.fz
  have y5 := hBX.lt
  have NM := Lib.hid (bookNum_any B 2 _ _ x25.s x25.a x25.n x25.c W (by omega) HK.out hbz)
  clear hBX
  go_wp2_with fail
  with_reducible refine NM.out.mono ?_
  rintro e W' hk
  obtain ⟨⟨u, rfl⟩, v', hk1, hk2⟩ := hk
  have HK := Lib.hid hk1
  have HW := Lib.hid (HW.out.trans hk2)
  clear hk1 hk2 NM y0 y1 y4 y5 hbz
  obtain ⟨W, rfl⟩ : ∃ W, W = W' := ⟨_, rfl⟩
  have AP := Lib.hid (apart_own (w0 := w) HA.out HBe.out.symm HW.out HK.out rfl (Nat.zero_lt_succ 2) (show 3 ≤ 1000 by omega) (by
    intro x hx
    simp only [List.mem_cons, List.mem_nil_iff, or_false] at hx
    have h1 := Bx1.out
    have h2 := Hx15.out
    have h3 := Hx25.out
    rcases hx with rfl | rfl | rfl <;> dsimp only <;> omega) HLO.out (by rw [HBe.out]; exact HLS.out) (KG.out.trans (HW.out.mono (by rw [HBe.out]; exact KG.out.size))) (Nat.le_trans (Nat.le_trans KG.out.size (by rw [← HBe.out]; exact Nat.le_refl _)) (Nat.le_trans (by rw [HBe.out]; exact Nat.le_refl _) HW.out.size)))
  go_wp2_with fail
  with_reducible refine AP.out.mono ?_
  rintro e W' ⟨rfl, hb⟩
  have HF := Lib.hid hb
  clear hb AP
  go_wp2_with fail
  go_ret
  exact ⟨rfl, HF.out⟩
theorem limbsTexts_law (s1 : Bool) (a1 : Option Addr) (n1 c1 : Nat) (o1 : Nat → Int) (t : ByteArray) (m : Int) (w : World) (htab : Tab w) (h1 : Rd w a1 n1 o1) (hc1 : n1 ≤ c1) (ht : t.size ≤ 9223372036854775807) (hm1 : -9223372036854775808 ≤ m) (hm2 : m ≤ 9223372036854775807) :
    Calls Tryz.prog 3 #[numV s1 a1 n1 c1, .string t, .int .i64 m] w fun e w' => e = .returned (.bool true) ∧ Below w.heap.size w w' := by
  by_cases hg : 200 < n1
  · exact ltexts_great ⟨s1, a1, n1, c1⟩ o1 t m w htab h1 hc1 ht hm1 hm2 hg
  have b1 : n1 ≤ 200 := by omega
  by_cases hs : 1048576 < t.size
  · exact ltexts_long ⟨s1, a1, n1, c1⟩ o1 t m w htab h1 hc1 b1 ht hm1 hm2 hs
  by_cases k1 : okN s1 n1 o1
  · exact ltexts_ok ⟨s1, a1, n1, c1⟩ o1 t m w htab h1 hc1 b1 ht hm1 hm2 k1 hs
  · exact ltexts_bad ⟨s1, a1, n1, c1⟩ o1 t m w htab h1 hc1 b1 ht hm1 hm2 k1 hs
open Go.ChangeShapes Go.WideShapes Go.ChangeAt
namespace LimbsTextsC
theorem own : ownKnob Tryz.prog.godebug = none := by kernel_rfl
theorem laidOut : laidOutB Tryz.prog = true := by kernel_rfl
theorem tab_of_laid (W : World) (hL : laidMet Tryz.prog Rows.limbsTextsRow.laid W) : Tab W :=
  Lib.tabIs_of_head (g := 2) (by kernel_rfl) (by kernel_rfl) (t := 232) (n := 20) (e := 69) Tryz.underlying232 Tryz.underlying69 (by kernel_rfl) (by kernel_rfl) hL.tail.tail
noncomputable def laidWorld (os : Os) : World := World.laidAll Tryz.prog os Rows.limbsTextsRow.laid
noncomputable def witArgs : Array Value := #[numV false none 0 0, .string ⟨#[]⟩, .int .i64 0]
theorem laid_met (os : Os) : laidMet Tryz.prog Rows.limbsTextsRow.laid ((laidWorld os).forCall (fun _ _ => 0) ⟨#[], witArgs, []⟩).memory :=
  laidMet_laidAll _ (by kernel_rfl) (by kernel_rfl)
theorem reads (os : Os) {H : Type} (enc : TypeId × Value → H) : ∃ places, DataW.whole enc Tryz.prog ((laidWorld os).forCall (fun _ _ => 0) ⟨#[], witArgs, []⟩).memory Tryz.f3.params.toList Rows.limbsTextsSpec.vars false witArgs.toList 8 = some ([.agg [.lit (.bool false), .nil], .lit (.string []), .lit (.int .i64 0)], [], places) :=
  ⟨[], by kernel_rfl⟩
set_option maxRecDepth 100000 in
theorem lifted (os : Os) (started : os.Started) (H : Type) (enc : TypeId × Value → H) (F : Stop.Interp) :
    ReturnsInHanded {} Tryz.checked os 3 .any ((OpenSpec.ofChange Rows.limbsTextsSpec).preRow enc Tryz.prog Tryz.f3 Rows.limbsTextsRow.domain false Rows.limbsTextsRow.laid) (((OpenSpec.ofChange Rows.limbsTextsSpec).at F).post enc Tryz.prog Tryz.f3 false true false false) := by
  obtain ⟨places, hx⟩ := reads os enc
  refine returnsInHanded_of_row (C := Tryz.checked) (s := OpenSpec.ofChange Rows.limbsTextsSpec) own started (by kernel_rfl) Tryz.func3
    (witness_row_atRef (enc := enc) (C := Tryz.checked) false (laidWorld os) witArgs (World.laidAll_os _ _ _) (by kernel_rfl) (by kernel_rfl) (by kernel_rfl)
      (OpenSpec.preRow_of_cond 8 hx (by kernel_rfl) (fun k hk => by cases hk) (by kernel_rfl) (laid_met os))) ?_
  intro W base args ds gs before hval0 hW _ _ _ hL _ _
  rw [MakeChecks.laidMetH_plain _ _ _ (by kernel_rfl)] at hL
  have htab : Tab W := tab_of_laid W hL
  have hval : ∀ (j : Nat) t v, Tryz.f3.params[j]? = some t → args[j]? = some v → Value.okWide Tryz.prog W .any base t v := hval0
  have hW' := hW
  obtain ⟨p, q, hA0, hV, rfl, hfz, hnd⟩ := hW
  have hA : DataW.TrodAll enc Tryz.prog W 0 (fun _ => true) true Tryz.f3.params.toList args.toList ds p := hA0
  rw [Tryz.params3] at hA hval
  obtain ⟨v0, v1, v2, d0, d1, d2, p0, p1, p2, rfl, rfl, rfl, h0, h1, h2⟩ := trodAll_three hA
  obtain ⟨rfl, rfl⟩ := trodVars_none hV
  obtain ⟨s1, a1, n1, c1, o1, rfl, r1, l1⟩ := open_num (hval 0 24 v0 rfl rfl) h0
  obtain ⟨t1, rfl, -, -, wt1⟩ := Go.ChangeMaps.open_string Tryz.underlying9 (hval 1 9 v1 rfl rfl) h1
  obtain ⟨z2, rfl, -, -, wz2⟩ := open_int Tryz.underlying2 (hval 2 2 v2 rfl rfl) h2
  refine (limbsTexts_law s1 a1 n1 c1 o1 t1 z2 W htab r1 l1 wt1 (bounds_i64 wz2).1 (bounds_i64 wz2).2).mono fun e W' ⟨he, hg⟩ => ?_
  subst he
  exact ⟨_, rfl, LawPost.law_post laidOut (by kernel_rfl) (by kernel_rfl) Tryz.underlying4 hW' rfl rfl hg⟩
theorem said : Rows.LimbsTextsSaid :=
  OpenClaim.holds_of_cond 3 Tryz.f3 rfl rfl rfl rfl rfl rfl rfl ⟨rfl, rfl, rfl, rfl, rfl⟩ rfl rfl rfl rfl rfl (by kernel_rfl) Tryz.func3 (by kernel_rfl)
    (of_decide_eq_true (by kernel_rfl)) (by unfold Func.isWrapper; first | (rw [if_pos (by decide +kernel)]; kernel_rfl) | (rw [if_neg (by decide +kernel)]; exact ⟨rfl, rfl⟩))
    (fun os started H enc _ F => by rw [OpenClaim.pre_eq_preRow]; exact lifted os started H enc F)
theorem plain (f : FuncId) (fn : Func) (hf : Tryz.pinned.checked.prog.funcNamed "reckoner/reckonerlaw01.LimbsTexts" = some f) (hfn : Tryz.pinned.checked.prog.funcs[f]? = some fn) :
    true = Tryz.pinned.checked.prog.looks [] ∧ ∀ (j : Nat) t, fn.params[j]? = some t → Tryz.pinned.checked.prog.wantsStandIn t = false := by
  obtain rfl : f = 3 := Option.some.inj ((show Tryz.prog.funcNamed "reckoner/reckonerlaw01.LimbsTexts" = some 3 by kernel_rfl).symm.trans hf) |>.symm
  obtain rfl : fn = Tryz.f3 := (Option.some.inj (Tryz.func3.symm.trans hfn)).symm
  refine ⟨by kernel_rfl, fun j t ht => ?_⟩
  rw [Tryz.params3] at ht
  have hm : t = 24 ∨ t = 9 ∨ t = 2 := by simpa using Array.mem_of_getElem? ht
  rcases hm with rfl | rfl | rfl
  · exact (show Tryz.prog.wantsStandIn 24 = false by kernel_rfl)
  · exact (show Tryz.prog.wantsStandIn 9 = false by kernel_rfl)
  · exact (show Tryz.prog.wantsStandIn 2 = false by kernel_rfl)
theorem card : Rows.LimbsTextsCardSaid :=
  Claim7.holds_tied_plain_at .later [] _ _ _ _ said (fun _ h => by cases h) (by kernel_rfl) (fun _ h => by cases h) limbsTexts_row_tie rfl ⟨rfl, rfl⟩ (by kernel_rfl) rfl plain (by kernel_rfl)
#print axioms card
end LimbsTextsC
end Go.Proofs.YtefjjhfahebmeaaGreatDoor.Limb
