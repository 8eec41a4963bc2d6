/-
  The law LimbsOften: whatever it is handed, it returns true, and what it was handed reads behind the call as it read before; the card ties the listed tables to the program's text.
-/
import Derived.Test.YtkpajfjjhbbieaaGreatDoorPoH
import Derived.Test.YtkpajfjjhbbieaaGreatDoorCards
import Derived.Test.YtkpajfjjhbbieaaGreatDoorTie
import Derived.Lay
import Derived.MakeChecks
import Derived.Stop.LaidErr
import Derived.Deep.DeepWitnessRowRef
import Derived.WalkKit
import Derived.ProofKit
import Derived.OpenShut
import Derived.Deep.DeepHandedRow
import Derived.Lib.LaidTab
set_option linter.unusedSimpArgs false
set_option linter.unusedVariables false
namespace Go.Proofs.YtkpajfjjhbbieaaGreatDoor.Limb
open Go.RowKit Go.Sort

theorem cmp_amount {r y : Int} (h : y ≠ 0) (e : r < y.natAbs) : cmpZ r (y * cmpZ y 0) = -1 := by
  refine cmpZ_lt ?_
  rcases cmpZ_cases y with ⟨k, f⟩ | ⟨k, f⟩ | ⟨k, f⟩ <;> rw [f] <;> omega
set_option maxRecDepth 100000 in
set_option maxHeartbeats 16000000 in
theorem often_great (x1 x2 : NV) (p1 p2 : Int) (w : World) (htab : Tab w) (h1 : AN w x1 p1) (h2 : AN w x2 p2) (hg : 60 < x1.n ∨ 60 < x2.n) :
    Calls Tryz.prog 6 #[x1.v, x2.v] w fun e w' => e = .returned (.bool true) ∧ Below w.heap.size w w' := by
  have HT := Lib.hid htab
  have KG := Lib.hid (Below.refl w.heap.size w)
  have N1 := Lib.hid h1
  have N2 := Lib.hid h2
  have HG := Lib.hid hg
  clear hg
  clear htab h1 h2
  go_enter Tryz.func6, Tryz.ntmps6
  go_upto_region 1 with (fail)
  obtain ⟨v3, hV⟩ : ∃ V, V = (w.alloc (.cells #[.bool x1.s, .slice x1.a x1.n x1.c] 24)).alloc (.cells #[.bool x2.s, .slice x2.a x2.n x2.c] 24) := ⟨_, rfl⟩
  have hbV : Below w.heap.size w v3 := by rw [hV]; exact (((Below.refl _ _).alloc (Nat.le_refl _) _).alloc (by go_size) _)
  have BX1 := Lib.hid (show Bxs v3 (w.heap.size) 24 [.bool x1.s, .slice x1.a x1.n x1.c] by have h := (Bxs.new (w) 24 [.bool x1.s, .slice x1.a x1.n x1.c]).alloc (.cells #[.bool x2.s, .slice x2.a x2.n x2.c] 24); rw [hV]; exact h)
  have BX2 := Lib.hid (show Bxs v3 (w.heap.size + 1) 24 [.bool x2.s, .slice x2.a x2.n x2.c] by have h := Bxs.new (w.alloc (.cells #[.bool x1.s, .slice x1.a x1.n x1.c] 24)) 24 [.bool x2.s, .slice x2.a x2.n x2.c]; simp only [World.size_alloc] at h; rw [hV]; exact h)
  rw [show (w.alloc (.cells #[.bool x1.s, .slice x1.a x1.n x1.c] 24)).alloc (.cells #[.bool x2.s, .slice x2.a x2.n x2.c] 24) = v3 from hV.symm]
  have KG := Lib.hid (KG.out.trans (hbV.mono KG.out.size))
  clear hV hbV
  go_wp2_with fail
  have CT := Lib.hid (alive_true v3 (HT.out.on KG.out))
  with_reducible refine CT.out.mono ?_
  rintro e w4 ⟨rfl, hb⟩
  clear CT
  have BX1 := Lib.hid (BX1.out.below hb BX1.out.lt)
  have BX2 := Lib.hid (BX2.out.below hb BX2.out.lt)
  have KG := Lib.hid (KG.out.trans (hb.mono KG.out.size))
  clear hb
  have cBX10 := BX1.out.cell (i := 0) rfl
  have cBX11 := BX1.out.cell (i := 1) rfl
  have cBX1f := BX1.out.fz
  have cBX1l := BX1.out.lt
  have cBX20 := BX2.out.cell (i := 0) rfl
  have cBX21 := BX2.out.cell (i := 1) rfl
  have cBX2f := BX2.out.fz
  have cBX2l := BX2.out.lt
  go_wp2_with fail
  clear cBX10 cBX11 cBX1f cBX1l
  clear cBX20 cBX21 cBX2f cBX2l
  obtain ⟨v6, hV⟩ : ∃ V, V = w4.alloc (.cells #[.bool x1.s, .slice x1.a x1.n x1.c, .bool x2.s, .slice x2.a x2.n x2.c] 24) := ⟨_, rfl⟩
  have hbV : Below w4.heap.size w4 v6 := by rw [hV]; exact ((Below.refl _ _).alloc (Nat.le_refl _) _)
  have BX5 := Lib.hid (show Bxs v6 (w4.heap.size) 24 [.bool x1.s, .slice x1.a x1.n x1.c, .bool x2.s, .slice x2.a x2.n x2.c] by have h := Bxs.new (w4) 24 [.bool x1.s, .slice x1.a x1.n x1.c, .bool x2.s, .slice x2.a x2.n x2.c]; rw [hV]; exact h)
  rw [show w4.alloc (.cells #[.bool x1.s, .slice x1.a x1.n x1.c, .bool x2.s, .slice x2.a x2.n x2.c] 24) = v6 from hV.symm]
  have BX1 := Lib.hid (BX1.out.below hbV BX1.out.lt)
  have BX2 := Lib.hid (BX2.out.below hbV BX2.out.lt)
  have KG := Lib.hid (KG.out.trans (hbV.mono KG.out.size))
  clear hV hbV
  have cBX10 := BX1.out.cell (i := 0) rfl
  have cBX11 := BX1.out.cell (i := 1) rfl
  have cBX1f := BX1.out.fz
  have cBX1l := BX1.out.lt
  have cBX20 := BX2.out.cell (i := 0) rfl
  have cBX21 := BX2.out.cell (i := 1) rfl
  have cBX2f := BX2.out.fz
  have cBX2l := BX2.out.lt
  have CT := Lib.hid (great2N (M := 60) BX5.out)
  rw [show ((60 : Nat) : Int) = 60 from rfl, show decide (60 < x1.n ∨ 60 < x2.n) = true from decide_eq_true HG.out] at CT
  with_reducible refine CT.out.mono ?_
  rintro e w7 ⟨rfl, hb⟩
  clear CT
  clear cBX10 cBX11 cBX1f cBX1l
  clear cBX20 cBX21 cBX2f cBX2l
  clear BX1
  clear BX2
  clear BX5
  have KG := Lib.hid (KG.out.trans (hb.mono KG.out.size))
  clear hb
  go_wp2_with fail
  have CT := Lib.hid (alive_true w7 (HT.out.on KG.out))
  with_reducible refine CT.out.mono ?_
  rintro e w8 ⟨rfl, hb⟩
  clear CT
  have KG := Lib.hid (KG.out.trans (hb.mono KG.out.size))
  clear hb
  go_wp2_with fail
  go_ret
  exact ⟨rfl, KG.out⟩
set_option maxRecDepth 100000 in
set_option maxHeartbeats 16000000 in
theorem often_bad1 (x1 x2 : NV) (p2 : Int) (w : World) (htab : Tab w) (h1 : XN w x1) (b1 : x1.n ≤ 60) (h2 : AN w x2 p2) (b2 : x2.n ≤ 60) :
    Calls Tryz.prog 6 #[x1.v, x2.v] w fun e w' => e = .returned (.bool true) ∧ Below w.heap.size w w' := by
  have HT := Lib.hid htab
  have KG := Lib.hid (Below.refl w.heap.size w)
  have N1 := Lib.hid h1
  have N2 := Lib.hid h2
  have Bx1 := Lib.hid b1
  have Bx2 := Lib.hid b2
  clear b1 b2
  clear htab h1 h2
  go_enter Tryz.func6, Tryz.ntmps6
  go_upto_region 1 with (fail)
  obtain ⟨v3, hV⟩ : ∃ V, V = (w.alloc (.cells #[.bool x1.s, .slice x1.a x1.n x1.c] 24)).alloc (.cells #[.bool x2.s, .slice x2.a x2.n x2.c] 24) := ⟨_, rfl⟩
  have hbV : Below w.heap.size w v3 := by rw [hV]; exact (((Below.refl _ _).alloc (Nat.le_refl _) _).alloc (by go_size) _)
  have BX1 := Lib.hid (show Bxs v3 (w.heap.size) 24 [.bool x1.s, .slice x1.a x1.n x1.c] by have h := (Bxs.new (w) 24 [.bool x1.s, .slice x1.a x1.n x1.c]).alloc (.cells #[.bool x2.s, .slice x2.a x2.n x2.c] 24); rw [hV]; exact h)
  have BX2 := Lib.hid (show Bxs v3 (w.heap.size + 1) 24 [.bool x2.s, .slice x2.a x2.n x2.c] by have h := Bxs.new (w.alloc (.cells #[.bool x1.s, .slice x1.a x1.n x1.c] 24)) 24 [.bool x2.s, .slice x2.a x2.n x2.c]; simp only [World.size_alloc] at h; rw [hV]; exact h)
  rw [show (w.alloc (.cells #[.bool x1.s, .slice x1.a x1.n x1.c] 24)).alloc (.cells #[.bool x2.s, .slice x2.a x2.n x2.c] 24) = v3 from hV.symm]
  have KG := Lib.hid (KG.out.trans (hbV.mono KG.out.size))
  clear hV hbV
  go_wp2_with fail
  have CT := Lib.hid (alive_true v3 (HT.out.on KG.out))
  with_reducible refine CT.out.mono ?_
  rintro e w4 ⟨rfl, hb⟩
  clear CT
  have BX1 := Lib.hid (BX1.out.below hb BX1.out.lt)
  have BX2 := Lib.hid (BX2.out.below hb BX2.out.lt)
  have KG := Lib.hid (KG.out.trans (hb.mono KG.out.size))
  clear hb
  have cBX10 := BX1.out.cell (i := 0) rfl
  have cBX11 := BX1.out.cell (i := 1) rfl
  have cBX1f := BX1.out.fz
  have cBX1l := BX1.out.lt
  have cBX20 := BX2.out.cell (i := 0) rfl
  have cBX21 := BX2.out.cell (i := 1) rfl
  have cBX2f := BX2.out.fz
  have cBX2l := BX2.out.lt
  go_wp2_with fail
  clear cBX10 cBX11 cBX1f cBX1l
  clear cBX20 cBX21 cBX2f cBX2l
  obtain ⟨v6, hV⟩ : ∃ V, V = w4.alloc (.cells #[.bool x1.s, .slice x1.a x1.n x1.c, .bool x2.s, .slice x2.a x2.n x2.c] 24) := ⟨_, rfl⟩
  have hbV : Below w4.heap.size w4 v6 := by rw [hV]; exact ((Below.refl _ _).alloc (Nat.le_refl _) _)
  have BX5 := Lib.hid (show Bxs v6 (w4.heap.size) 24 [.bool x1.s, .slice x1.a x1.n x1.c, .bool x2.s, .slice x2.a x2.n x2.c] by have h := Bxs.new (w4) 24 [.bool x1.s, .slice x1.a x1.n x1.c, .bool x2.s, .slice x2.a x2.n x2.c]; rw [hV]; exact h)
  rw [show w4.alloc (.cells #[.bool x1.s, .slice x1.a x1.n x1.c, .bool x2.s, .slice x2.a x2.n x2.c] 24) = v6 from hV.symm]
  have BX1 := Lib.hid (BX1.out.below hbV BX1.out.lt)
  have BX2 := Lib.hid (BX2.out.below hbV BX2.out.lt)
  have KG := Lib.hid (KG.out.trans (hbV.mono KG.out.size))
  clear hV hbV
  have cBX10 := BX1.out.cell (i := 0) rfl
  have cBX11 := BX1.out.cell (i := 1) rfl
  have cBX1f := BX1.out.fz
  have cBX1l := BX1.out.lt
  have cBX20 := BX2.out.cell (i := 0) rfl
  have cBX21 := BX2.out.cell (i := 1) rfl
  have cBX2f := BX2.out.fz
  have cBX2l := BX2.out.lt
  have CT := Lib.hid (great2N (M := 60) BX5.out)
  rw [show ((60 : Nat) : Int) = 60 from rfl, show decide (60 < x1.n ∨ 60 < x2.n) = false from decide_eq_false (by have g0 : x1.n ≤ 60 := Bx1.out; have g1 : x2.n ≤ 60 := Bx2.out; omega)] at CT
  with_reducible refine CT.out.mono ?_
  rintro e w7 ⟨rfl, hb⟩
  clear CT
  clear cBX10 cBX11 cBX1f cBX1l
  clear cBX20 cBX21 cBX2f cBX2l
  have BX1 := Lib.hid (BX1.out.below hb BX1.out.lt)
  clear BX2
  clear BX5
  have KG := Lib.hid (KG.out.trans (hb.mono KG.out.size))
  clear hb
  have cBX10 := BX1.out.cell (i := 0) rfl
  have cBX11 := BX1.out.cell (i := 1) rfl
  have cBX1f := BX1.out.fz
  have cBX1l := BX1.out.lt
  go_wp2_with fail
  have CT := Lib.hid (checkBN (N1.out.below KG.out) (show x1.n ≤ 10000000 from Nat.le_trans Bx1.out (by decide)))
  with_reducible refine CT.out.mono ?_
  rintro e w8 ⟨rfl, hb⟩
  clear CT
  clear cBX10 cBX11 cBX1f cBX1l
  clear BX1
  have KG := Lib.hid (KG.out.trans (hb.mono KG.out.size))
  clear hb
  go_wp2_with fail
  have CT := Lib.hid (alive_true w8 (HT.out.on KG.out))
  with_reducible refine CT.out.mono ?_
  rintro e w9 ⟨rfl, hb⟩
  clear CT
  have KG := Lib.hid (KG.out.trans (hb.mono KG.out.size))
  clear hb
  go_wp2_with fail
  go_ret
  exact ⟨rfl, KG.out⟩
set_option maxRecDepth 100000 in
set_option maxHeartbeats 16000000 in
theorem often_bad2 (x1 x2 : NV) (p1 : Int) (w : World) (htab : Tab w) (h1 : KN w x1 p1) (b1 : x1.n ≤ 60) (h2 : XN w x2) (b2 : x2.n ≤ 60) :
    Calls Tryz.prog 6 #[x1.v, x2.v] w fun e w' => e = .returned (.bool true) ∧ Below w.heap.size w w' := by
  have HT := Lib.hid htab
  have KG := Lib.hid (Below.refl w.heap.size w)
  have N1 := Lib.hid h1
  have N2 := Lib.hid h2
  have LZp1 := Lib.hid (show lenB p1.natAbs ≤ 60 by have := N1.out.n; omega)
  have Bx1 := Lib.hid b1
  have Bx2 := Lib.hid b2
  clear b1 b2
  clear htab h1 h2
  go_enter Tryz.func6, Tryz.ntmps6
  go_upto_region 1 with (fail)
  obtain ⟨v3, hV⟩ : ∃ V, V = (w.alloc (.cells #[.bool x1.s, .slice x1.a x1.n x1.c] 24)).alloc (.cells #[.bool x2.s, .slice x2.a x2.n x2.c] 24) := ⟨_, rfl⟩
  have hbV : Below w.heap.size w v3 := by rw [hV]; exact (((Below.refl _ _).alloc (Nat.le_refl _) _).alloc (by go_size) _)
  have BX1 := Lib.hid (show Bxs v3 (w.heap.size) 24 [.bool x1.s, .slice x1.a x1.n x1.c] by have h := (Bxs.new (w) 24 [.bool x1.s, .slice x1.a x1.n x1.c]).alloc (.cells #[.bool x2.s, .slice x2.a x2.n x2.c] 24); rw [hV]; exact h)
  have BX2 := Lib.hid (show Bxs v3 (w.heap.size + 1) 24 [.bool x2.s, .slice x2.a x2.n x2.c] by have h := Bxs.new (w.alloc (.cells #[.bool x1.s, .slice x1.a x1.n x1.c] 24)) 24 [.bool x2.s, .slice x2.a x2.n x2.c]; simp only [World.size_alloc] at h; rw [hV]; exact h)
  rw [show (w.alloc (.cells #[.bool x1.s, .slice x1.a x1.n x1.c] 24)).alloc (.cells #[.bool x2.s, .slice x2.a x2.n x2.c] 24) = v3 from hV.symm]
  have KG := Lib.hid (KG.out.trans (hbV.mono KG.out.size))
  clear hV hbV
  go_wp2_with fail
  have CT := Lib.hid (alive_true v3 (HT.out.on KG.out))
  with_reducible refine CT.out.mono ?_
  rintro e w4 ⟨rfl, hb⟩
  clear CT
  have BX1 := Lib.hid (BX1.out.below hb BX1.out.lt)
  have BX2 := Lib.hid (BX2.out.below hb BX2.out.lt)
  have KG := Lib.hid (KG.out.trans (hb.mono KG.out.size))
  clear hb
  have cBX10 := BX1.out.cell (i := 0) rfl
  have cBX11 := BX1.out.cell (i := 1) rfl
  have cBX1f := BX1.out.fz
  have cBX1l := BX1.out.lt
  have cBX20 := BX2.out.cell (i := 0) rfl
  have cBX21 := BX2.out.cell (i := 1) rfl
  have cBX2f := BX2.out.fz
  have cBX2l := BX2.out.lt
  go_wp2_with fail
  clear cBX10 cBX11 cBX1f cBX1l
  clear cBX20 cBX21 cBX2f cBX2l
  obtain ⟨v6, hV⟩ : ∃ V, V = w4.alloc (.cells #[.bool x1.s, .slice x1.a x1.n x1.c, .bool x2.s, .slice x2.a x2.n x2.c] 24) := ⟨_, rfl⟩
  have hbV : Below w4.heap.size w4 v6 := by rw [hV]; exact ((Below.refl _ _).alloc (Nat.le_refl _) _)
  have BX5 := Lib.hid (show Bxs v6 (w4.heap.size) 24 [.bool x1.s, .slice x1.a x1.n x1.c, .bool x2.s, .slice x2.a x2.n x2.c] by have h := Bxs.new (w4) 24 [.bool x1.s, .slice x1.a x1.n x1.c, .bool x2.s, .slice x2.a x2.n x2.c]; rw [hV]; exact h)
  rw [show w4.alloc (.cells #[.bool x1.s, .slice x1.a x1.n x1.c, .bool x2.s, .slice x2.a x2.n x2.c] 24) = v6 from hV.symm]
  have BX1 := Lib.hid (BX1.out.below hbV BX1.out.lt)
  have BX2 := Lib.hid (BX2.out.below hbV BX2.out.lt)
  have KG := Lib.hid (KG.out.trans (hbV.mono KG.out.size))
  clear hV hbV
  have cBX10 := BX1.out.cell (i := 0) rfl
  have cBX11 := BX1.out.cell (i := 1) rfl
  have cBX1f := BX1.out.fz
  have cBX1l := BX1.out.lt
  have cBX20 := BX2.out.cell (i := 0) rfl
  have cBX21 := BX2.out.cell (i := 1) rfl
  have cBX2f := BX2.out.fz
  have cBX2l := BX2.out.lt
  have CT := Lib.hid (great2N (M := 60) BX5.out)
  rw [show ((60 : Nat) : Int) = 60 from rfl, show decide (60 < x1.n ∨ 60 < x2.n) = false from decide_eq_false (by have g0 : x1.n ≤ 60 := ((N1.out.below KG.out).len LZp1.out (by decide)); have g1 : x2.n ≤ 60 := Bx2.out; omega)] at CT
  with_reducible refine CT.out.mono ?_
  rintro e w7 ⟨rfl, hb⟩
  clear CT
  clear cBX10 cBX11 cBX1f cBX1l
  clear cBX20 cBX21 cBX2f cBX2l
  have BX1 := Lib.hid (BX1.out.below hb BX1.out.lt)
  have BX2 := Lib.hid (BX2.out.below hb BX2.out.lt)
  clear BX5
  have KG := Lib.hid (KG.out.trans (hb.mono KG.out.size))
  clear hb
  have cBX10 := BX1.out.cell (i := 0) rfl
  have cBX11 := BX1.out.cell (i := 1) rfl
  have cBX1f := BX1.out.fz
  have cBX1l := BX1.out.lt
  go_wp2_with fail
  have CT := Lib.hid (checkN (N1.out.below KG.out) ((N1.out.below KG.out).len LZp1.out (by decide)))
  with_reducible refine CT.out.mono ?_
  rintro e w8 ⟨rfl, hb⟩
  clear CT
  clear cBX10 cBX11 cBX1f cBX1l
  clear BX1
  have BX2 := Lib.hid (BX2.out.below hb BX2.out.lt)
  have KG := Lib.hid (KG.out.trans (hb.mono KG.out.size))
  clear hb
  have cBX20 := BX2.out.cell (i := 0) rfl
  have cBX21 := BX2.out.cell (i := 1) rfl
  have cBX2f := BX2.out.fz
  have cBX2l := BX2.out.lt
  go_wp2_with fail
  have CT := Lib.hid (checkBN (N2.out.below KG.out) (show x2.n ≤ 10000000 from Nat.le_trans Bx2.out (by decide)))
  with_reducible refine CT.out.mono ?_
  rintro e w9 ⟨rfl, hb⟩
  clear CT
  clear cBX20 cBX21 cBX2f cBX2l
  clear BX2
  have KG := Lib.hid (KG.out.trans (hb.mono KG.out.size))
  clear hb
  go_wp2_with fail
  have CT := Lib.hid (alive_true w9 (HT.out.on KG.out))
  with_reducible refine CT.out.mono ?_
  rintro e w10 ⟨rfl, hb⟩
  clear CT
  have KG := Lib.hid (KG.out.trans (hb.mono KG.out.size))
  clear hb
  go_wp2_with fail
  go_ret
  exact ⟨rfl, KG.out⟩
set_option maxRecDepth 100000 in
set_option maxHeartbeats 16000000 in
theorem often_zero (x1 x2 : NV) (p1 p2 : Int) (w : World) (htab : Tab w) (h1 : KN w x1 p1) (b1 : x1.n ≤ 60) (h2 : KN w x2 p2) (b2 : x2.n ≤ 60) (hz : p2 = 0) :
    Calls Tryz.prog 6 #[x1.v, x2.v] w fun e w' => e = .returned (.bool true) ∧ Below w.heap.size w w' := by
  have HT := Lib.hid htab
  have KG := Lib.hid (Below.refl w.heap.size w)
  have N1 := Lib.hid h1
  have N2 := Lib.hid h2
  have LZp1 := Lib.hid (show lenB p1.natAbs ≤ 60 by have := N1.out.n; omega)
  have LZp2 := Lib.hid (show lenB p2.natAbs ≤ 60 by have := N2.out.n; omega)
  clear b1 b2
  have LZ0 := Lib.hid (show lenB (0 : Int).natAbs ≤ 0 from Nat.le_of_eq lenB_zero)
  have HZ := Lib.hid hz
  clear hz
  clear htab h1 h2
  go_enter Tryz.func6, Tryz.ntmps6
  go_upto_region 1 with (fail)
  obtain ⟨v3, hV⟩ : ∃ V, V = (w.alloc (.cells #[.bool x1.s, .slice x1.a x1.n x1.c] 24)).alloc (.cells #[.bool x2.s, .slice x2.a x2.n x2.c] 24) := ⟨_, rfl⟩
  have hbV : Below w.heap.size w v3 := by rw [hV]; exact (((Below.refl _ _).alloc (Nat.le_refl _) _).alloc (by go_size) _)
  have BX1 := Lib.hid (show Bxs v3 (w.heap.size) 24 [.bool x1.s, .slice x1.a x1.n x1.c] by have h := (Bxs.new (w) 24 [.bool x1.s, .slice x1.a x1.n x1.c]).alloc (.cells #[.bool x2.s, .slice x2.a x2.n x2.c] 24); rw [hV]; exact h)
  have BX2 := Lib.hid (show Bxs v3 (w.heap.size + 1) 24 [.bool x2.s, .slice x2.a x2.n x2.c] by have h := Bxs.new (w.alloc (.cells #[.bool x1.s, .slice x1.a x1.n x1.c] 24)) 24 [.bool x2.s, .slice x2.a x2.n x2.c]; simp only [World.size_alloc] at h; rw [hV]; exact h)
  rw [show (w.alloc (.cells #[.bool x1.s, .slice x1.a x1.n x1.c] 24)).alloc (.cells #[.bool x2.s, .slice x2.a x2.n x2.c] 24) = v3 from hV.symm]
  have KG := Lib.hid (KG.out.trans (hbV.mono KG.out.size))
  clear hV hbV
  go_wp2_with fail
  have CT := Lib.hid (alive_true v3 (HT.out.on KG.out))
  with_reducible refine CT.out.mono ?_
  rintro e w4 ⟨rfl, hb⟩
  clear CT
  have BX1 := Lib.hid (BX1.out.below hb BX1.out.lt)
  have BX2 := Lib.hid (BX2.out.below hb BX2.out.lt)
  have KG := Lib.hid (KG.out.trans (hb.mono KG.out.size))
  clear hb
  have cBX10 := BX1.out.cell (i := 0) rfl
  have cBX11 := BX1.out.cell (i := 1) rfl
  have cBX1f := BX1.out.fz
  have cBX1l := BX1.out.lt
  have cBX20 := BX2.out.cell (i := 0) rfl
  have cBX21 := BX2.out.cell (i := 1) rfl
  have cBX2f := BX2.out.fz
  have cBX2l := BX2.out.lt
  go_wp2_with fail
  clear cBX10 cBX11 cBX1f cBX1l
  clear cBX20 cBX21 cBX2f cBX2l
  obtain ⟨v6, hV⟩ : ∃ V, V = w4.alloc (.cells #[.bool x1.s, .slice x1.a x1.n x1.c, .bool x2.s, .slice x2.a x2.n x2.c] 24) := ⟨_, rfl⟩
  have hbV : Below w4.heap.size w4 v6 := by rw [hV]; exact ((Below.refl _ _).alloc (Nat.le_refl _) _)
  have BX5 := Lib.hid (show Bxs v6 (w4.heap.size) 24 [.bool x1.s, .slice x1.a x1.n x1.c, .bool x2.s, .slice x2.a x2.n x2.c] by have h := Bxs.new (w4) 24 [.bool x1.s, .slice x1.a x1.n x1.c, .bool x2.s, .slice x2.a x2.n x2.c]; rw [hV]; exact h)
  rw [show w4.alloc (.cells #[.bool x1.s, .slice x1.a x1.n x1.c, .bool x2.s, .slice x2.a x2.n x2.c] 24) = v6 from hV.symm]
  have BX1 := Lib.hid (BX1.out.below hbV BX1.out.lt)
  have BX2 := Lib.hid (BX2.out.below hbV BX2.out.lt)
  have KG := Lib.hid (KG.out.trans (hbV.mono KG.out.size))
  clear hV hbV
  have cBX10 := BX1.out.cell (i := 0) rfl
  have cBX11 := BX1.out.cell (i := 1) rfl
  have cBX1f := BX1.out.fz
  have cBX1l := BX1.out.lt
  have cBX20 := BX2.out.cell (i := 0) rfl
  have cBX21 := BX2.out.cell (i := 1) rfl
  have cBX2f := BX2.out.fz
  have cBX2l := BX2.out.lt
  have CT := Lib.hid (great2N (M := 60) BX5.out)
  rw [show ((60 : Nat) : Int) = 60 from rfl, show decide (60 < x1.n ∨ 60 < x2.n) = false from decide_eq_false (by have g0 : x1.n ≤ 60 := ((N1.out.below KG.out).len LZp1.out (by decide)); have g1 : x2.n ≤ 60 := ((N2.out.below KG.out).len LZp2.out (by decide)); omega)] at CT
  with_reducible refine CT.out.mono ?_
  rintro e w7 ⟨rfl, hb⟩
  clear CT
  clear cBX10 cBX11 cBX1f cBX1l
  clear cBX20 cBX21 cBX2f cBX2l
  have BX1 := Lib.hid (BX1.out.below hb BX1.out.lt)
  have BX2 := Lib.hid (BX2.out.below hb BX2.out.lt)
  clear BX5
  have KG := Lib.hid (KG.out.trans (hb.mono KG.out.size))
  clear hb
  have cBX10 := BX1.out.cell (i := 0) rfl
  have cBX11 := BX1.out.cell (i := 1) rfl
  have cBX1f := BX1.out.fz
  have cBX1l := BX1.out.lt
  go_wp2_with fail
  have CT := Lib.hid (checkN (N1.out.below KG.out) ((N1.out.below KG.out).len LZp1.out (by decide)))
  with_reducible refine CT.out.mono ?_
  rintro e w8 ⟨rfl, hb⟩
  clear CT
  clear cBX10 cBX11 cBX1f cBX1l
  have BX1 := Lib.hid (BX1.out.below hb BX1.out.lt)
  have BX2 := Lib.hid (BX2.out.below hb BX2.out.lt)
  have KG := Lib.hid (KG.out.trans (hb.mono KG.out.size))
  clear hb
  have cBX20 := BX2.out.cell (i := 0) rfl
  have cBX21 := BX2.out.cell (i := 1) rfl
  have cBX2f := BX2.out.fz
  have cBX2l := BX2.out.lt
  go_wp2_with fail
  have CT := Lib.hid (checkN (N2.out.below KG.out) ((N2.out.below KG.out).len LZp2.out (by decide)))
  with_reducible refine CT.out.mono ?_
  rintro e w9 ⟨rfl, hb⟩
  clear CT
  clear cBX20 cBX21 cBX2f cBX2l
  have BX1 := Lib.hid (BX1.out.below hb BX1.out.lt)
  have BX2 := Lib.hid (BX2.out.below hb BX2.out.lt)
  have KG := Lib.hid (KG.out.trans (hb.mono KG.out.size))
  clear hb
  have cBX10 := BX1.out.cell (i := 0) rfl
  have cBX11 := BX1.out.cell (i := 1) rfl
  have cBX1f := BX1.out.fz
  have cBX1l := BX1.out.lt
  have cBX20 := BX2.out.cell (i := 0) rfl
  have cBX21 := BX2.out.cell (i := 1) rfl
  have cBX2f := BX2.out.fz
  have cBX2l := BX2.out.lt
  go_wp2_with fail
  have CT := Lib.hid (div0N (N1.out.below KG.out) ((N1.out.below KG.out).len LZp1.out (by decide)) (N2.out.below KG.out) ((N2.out.below KG.out).len LZp2.out (by decide)) HZ.out)
  with_reducible refine CT.out.mono ?_
  rintro e w10 ⟨x11, x12, rfl, hN13, hN14, hb⟩
  have N13 := Lib.hid hN13
  clear hN13
  have N14 := Lib.hid hN14
  clear hN14
  clear CT
  clear cBX10 cBX11 cBX1f cBX1l
  clear cBX20 cBX21 cBX2f cBX2l
  clear BX1
  have BX2 := Lib.hid (BX2.out.below hb BX2.out.lt)
  have KG := Lib.hid (KG.out.trans (hb.mono KG.out.size))
  clear hb
  go_upto_region 4 with (fail)
  obtain ⟨v17, hV⟩ : ∃ V, V = (w10.alloc (.cells #[.bool x11.s, .slice x11.a x11.n x11.c] 24)).alloc (.cells #[.bool x12.s, .slice x12.a x12.n x12.c] 24) := ⟨_, rfl⟩
  have hbV : Below w10.heap.size w10 v17 := by rw [hV]; exact (((Below.refl _ _).alloc (Nat.le_refl _) _).alloc (by go_size) _)
  have BX15 := Lib.hid (show Bxs v17 (w10.heap.size) 24 [.bool x11.s, .slice x11.a x11.n x11.c] by have h := (Bxs.new (w10) 24 [.bool x11.s, .slice x11.a x11.n x11.c]).alloc (.cells #[.bool x12.s, .slice x12.a x12.n x12.c] 24); rw [hV]; exact h)
  have BX16 := Lib.hid (show Bxs v17 (w10.heap.size + 1) 24 [.bool x12.s, .slice x12.a x12.n x12.c] by have h := Bxs.new (w10.alloc (.cells #[.bool x11.s, .slice x11.a x11.n x11.c] 24)) 24 [.bool x12.s, .slice x12.a x12.n x12.c]; simp only [World.size_alloc] at h; rw [hV]; exact h)
  rw [show (w10.alloc (.cells #[.bool x11.s, .slice x11.a x11.n x11.c] 24)).alloc (.cells #[.bool x12.s, .slice x12.a x12.n x12.c] 24) = v17 from hV.symm]
  have N13 := Lib.hid (N13.out.below hbV)
  have N14 := Lib.hid (N14.out.below hbV)
  have BX2 := Lib.hid (BX2.out.below hbV BX2.out.lt)
  have KG := Lib.hid (KG.out.trans (hbV.mono KG.out.size))
  clear hV hbV
  have cBX20 := BX2.out.cell (i := 0) rfl
  have cBX21 := BX2.out.cell (i := 1) rfl
  have cBX2f := BX2.out.fz
  have cBX2l := BX2.out.lt
  go_wp2_with fail
  have CT := Lib.hid (signN (N2.out.below KG.out).any ((N2.out.below KG.out).len LZp2.out (by decide)))
  rw [show cmpZ p2 0 = 0 from cmpZ_eq HZ.out] at CT
  with_reducible refine CT.out.mono ?_
  rintro e w18 ⟨rfl, hb⟩
  clear CT
  clear cBX20 cBX21 cBX2f cBX2l
  have N13 := Lib.hid (N13.out.below hb)
  have N14 := Lib.hid (N14.out.below hb)
  clear BX2
  have BX15 := Lib.hid (BX15.out.below hb BX15.out.lt)
  have BX16 := Lib.hid (BX16.out.below hb BX16.out.lt)
  have KG := Lib.hid (KG.out.trans (hb.mono KG.out.size))
  clear hb
  have hn5 := N13.out.k.z0n
  have hn6 := N14.out.k.z0n
  have cBX150 := BX15.out.cell (i := 0) rfl
  have cBX151 := BX15.out.cell (i := 1) rfl
  have cBX15f := BX15.out.fz
  have cBX15l := BX15.out.lt
  have cBX160 := BX16.out.cell (i := 0) rfl
  have cBX161 := BX16.out.cell (i := 1) rfl
  have cBX16f := BX16.out.fz
  have cBX16l := BX16.out.lt
  go_wp2_with fail
  go_ret
  exact ⟨rfl, KG.out⟩
set_option maxRecDepth 100000 in
set_option maxHeartbeats 16000000 in
theorem often_ok (x1 x2 : NV) (p1 p2 : Int) (w : World) (htab : Tab w) (h1 : KN w x1 p1) (b1 : x1.n ≤ 60) (h2 : KN w x2 p2) (b2 : x2.n ≤ 60) (hz : p2 ≠ 0) :
    Calls Tryz.prog 6 #[x1.v, x2.v] w fun e w' => e = .returned (.bool true) ∧ Below w.heap.size w w' := by
  have HT := Lib.hid htab
  have KG := Lib.hid (Below.refl w.heap.size w)
  have N1 := Lib.hid h1
  have N2 := Lib.hid h2
  have LZp1 := Lib.hid (show lenB p1.natAbs ≤ 60 by have := N1.out.n; omega)
  have LZp2 := Lib.hid (show lenB p2.natAbs ≤ 60 by have := N2.out.n; omega)
  clear b1 b2
  have LZ0 := Lib.hid (show lenB (0 : Int).natAbs ≤ 0 from Nat.le_of_eq lenB_zero)
  have HZ := Lib.hid hz
  clear hz
  clear htab h1 h2
  obtain ⟨sb, hsb⟩ : ∃ s, s = cmpZ p2 0 := ⟨_, rfl⟩
  have HSB := Lib.hid (show (-9223372036854775808 ≤ sb) ∧ sb ≤ 9223372036854775807 by rw [hsb]; have := cmpZ_range p2 0; omega)
  have HSN := Lib.hid (show (sb == 0) = false by rw [hsb, cmpZ_same]; exact decide_eq_false HZ.out)
  have LZsb := Lib.hid (show lenB sb.natAbs ≤ 3 from len1 HSB.out.1 HSB.out.2)
  have Hsb := Lib.hid hsb
  clear hsb
  obtain ⟨zs, hzs⟩ : ∃ z : Int, z = 0 := ⟨_, rfl⟩
  have LZzs := Lib.hid (show lenB zs.natAbs ≤ 3 by rw [hzs]; exact len1 (by decide) (by decide))
  have Hzs := Lib.hid hzs
  clear hzs
  obtain ⟨zq, hzq⟩ : ∃ z : Int, z = p1 / p2 := ⟨_, rfl⟩
  have Hzq := Lib.hid hzq
  have LZzq := Lib.hid (show lenB zq.natAbs ≤ 61 by rw [hzq]; exact len_ediv (Nat.le_trans LZp1.out (by decide) : lenB p1.natAbs ≤ 60) (by decide) (HZ.out))
  clear hzq
  obtain ⟨zr, hzr⟩ : ∃ z : Int, z = p1 % p2 := ⟨_, rfl⟩
  have Hzr := Lib.hid hzr
  have LZzr := Lib.hid (show lenB zr.natAbs ≤ 60 by rw [hzr]; exact len_emod (x := p1) LZp2.out (HZ.out))
  clear hzr
  obtain ⟨zam, hzam⟩ : ∃ z : Int, z = p2 * sb := ⟨_, rfl⟩
  have Hzam := Lib.hid hzam
  have LZzam := Lib.hid (show lenB zam.natAbs ≤ 63 by rw [hzam]; exact lenZ_mul LZp2.out LZsb.out)
  clear hzam
  obtain ⟨zm, hzm⟩ : ∃ z : Int, z = p1 * p2 := ⟨_, rfl⟩
  have Hzm := Lib.hid hzm
  have LZzm := Lib.hid (show lenB zm.natAbs ≤ 120 by rw [hzm]; exact lenZ_mul LZp1.out LZp2.out)
  clear hzm
  obtain ⟨zqb, hzqb⟩ : ∃ z : Int, z = zq * p2 := ⟨_, rfl⟩
  have Hzqb := Lib.hid hzqb
  have LZzqb := Lib.hid (show lenB zqb.natAbs ≤ 121 by rw [hzqb]; exact lenZ_mul LZzq.out LZp2.out)
  clear hzqb
  obtain ⟨sr, hsr⟩ : ∃ s, s = cmpZ zr 0 := ⟨_, rfl⟩
  have HSR := Lib.hid (show 0 ≤ sr by rw [hsr, Hzr.out]; have := Int.emod_nonneg p1 HZ.out; rcases cmpZ_cases (p1 % p2) with ⟨k, f⟩ | ⟨k, f⟩ | ⟨k, f⟩ <;> rw [f] <;> omega)
  have Hsr := Lib.hid hsr
  clear hsr
  have HAM := Lib.hid (show cmpZ zr zam = -1 by rw [Hzam.out, Hsb.out, Hzr.out]; exact cmp_amount HZ.out (Int.emod_lt p1 HZ.out))
  have HD1 := Lib.hid (show zm / p2 = p1 by rw [Hzm.out]; exact Int.mul_ediv_cancel p1 HZ.out)
  have HD2 := Lib.hid (show zm % p2 = zs by rw [Hzm.out, Hzs.out]; exact Int.mul_emod_left p1 p2)
  have HQR := Lib.hid (show zqb + zr = p1 by rw [Hzqb.out, Hzq.out, Hzr.out, Int.mul_comm]; exact Int.mul_ediv_add_emod p1 p2)
  go_enter Tryz.func6, Tryz.ntmps6
  go_upto_region 1 with (fail)
  obtain ⟨v3, hV⟩ : ∃ V, V = (w.alloc (.cells #[.bool x1.s, .slice x1.a x1.n x1.c] 24)).alloc (.cells #[.bool x2.s, .slice x2.a x2.n x2.c] 24) := ⟨_, rfl⟩
  have hbV : Below w.heap.size w v3 := by rw [hV]; exact (((Below.refl _ _).alloc (Nat.le_refl _) _).alloc (by go_size) _)
  have BX1 := Lib.hid (show Bxs v3 (w.heap.size) 24 [.bool x1.s, .slice x1.a x1.n x1.c] by have h := (Bxs.new (w) 24 [.bool x1.s, .slice x1.a x1.n x1.c]).alloc (.cells #[.bool x2.s, .slice x2.a x2.n x2.c] 24); rw [hV]; exact h)
  have BX2 := Lib.hid (show Bxs v3 (w.heap.size + 1) 24 [.bool x2.s, .slice x2.a x2.n x2.c] by have h := Bxs.new (w.alloc (.cells #[.bool x1.s, .slice x1.a x1.n x1.c] 24)) 24 [.bool x2.s, .slice x2.a x2.n x2.c]; simp only [World.size_alloc] at h; rw [hV]; exact h)
  rw [show (w.alloc (.cells #[.bool x1.s, .slice x1.a x1.n x1.c] 24)).alloc (.cells #[.bool x2.s, .slice x2.a x2.n x2.c] 24) = v3 from hV.symm]
  have KG := Lib.hid (KG.out.trans (hbV.mono KG.out.size))
  clear hV hbV
  go_wp2_with fail
  have CT := Lib.hid (alive_true v3 (HT.out.on KG.out))
  with_reducible refine CT.out.mono ?_
  rintro e w4 ⟨rfl, hb⟩
  clear CT
  have BX1 := Lib.hid (BX1.out.below hb BX1.out.lt)
  have BX2 := Lib.hid (BX2.out.below hb BX2.out.lt)
  have KG := Lib.hid (KG.out.trans (hb.mono KG.out.size))
  clear hb
  have cBX10 := BX1.out.cell (i := 0) rfl
  have cBX11 := BX1.out.cell (i := 1) rfl
  have cBX1f := BX1.out.fz
  have cBX1l := BX1.out.lt
  have cBX20 := BX2.out.cell (i := 0) rfl
  have cBX21 := BX2.out.cell (i := 1) rfl
  have cBX2f := BX2.out.fz
  have cBX2l := BX2.out.lt
  go_wp2_with fail
  clear cBX10 cBX11 cBX1f cBX1l
  clear cBX20 cBX21 cBX2f cBX2l
  obtain ⟨v6, hV⟩ : ∃ V, V = w4.alloc (.cells #[.bool x1.s, .slice x1.a x1.n x1.c, .bool x2.s, .slice x2.a x2.n x2.c] 24) := ⟨_, rfl⟩
  have hbV : Below w4.heap.size w4 v6 := by rw [hV]; exact ((Below.refl _ _).alloc (Nat.le_refl _) _)
  have BX5 := Lib.hid (show Bxs v6 (w4.heap.size) 24 [.bool x1.s, .slice x1.a x1.n x1.c, .bool x2.s, .slice x2.a x2.n x2.c] by have h := Bxs.new (w4) 24 [.bool x1.s, .slice x1.a x1.n x1.c, .bool x2.s, .slice x2.a x2.n x2.c]; rw [hV]; exact h)
  rw [show w4.alloc (.cells #[.bool x1.s, .slice x1.a x1.n x1.c, .bool x2.s, .slice x2.a x2.n x2.c] 24) = v6 from hV.symm]
  have BX1 := Lib.hid (BX1.out.below hbV BX1.out.lt)
  have BX2 := Lib.hid (BX2.out.below hbV BX2.out.lt)
  have KG := Lib.hid (KG.out.trans (hbV.mono KG.out.size))
  clear hV hbV
  have cBX10 := BX1.out.cell (i := 0) rfl
  have cBX11 := BX1.out.cell (i := 1) rfl
  have cBX1f := BX1.out.fz
  have cBX1l := BX1.out.lt
  have cBX20 := BX2.out.cell (i := 0) rfl
  have cBX21 := BX2.out.cell (i := 1) rfl
  have cBX2f := BX2.out.fz
  have cBX2l := BX2.out.lt
  have CT := Lib.hid (great2N (M := 60) BX5.out)
  rw [show ((60 : Nat) : Int) = 60 from rfl, show decide (60 < x1.n ∨ 60 < x2.n) = false from decide_eq_false (by have g0 : x1.n ≤ 60 := ((N1.out.below KG.out).len LZp1.out (by decide)); have g1 : x2.n ≤ 60 := ((N2.out.below KG.out).len LZp2.out (by decide)); omega)] at CT
  with_reducible refine CT.out.mono ?_
  rintro e w7 ⟨rfl, hb⟩
  clear CT
  clear cBX10 cBX11 cBX1f cBX1l
  clear cBX20 cBX21 cBX2f cBX2l
  have BX1 := Lib.hid (BX1.out.below hb BX1.out.lt)
  have BX2 := Lib.hid (BX2.out.below hb BX2.out.lt)
  clear BX5
  have KG := Lib.hid (KG.out.trans (hb.mono KG.out.size))
  clear hb
  have cBX10 := BX1.out.cell (i := 0) rfl
  have cBX11 := BX1.out.cell (i := 1) rfl
  have cBX1f := BX1.out.fz
  have cBX1l := BX1.out.lt
  go_wp2_with fail
  have CT := Lib.hid (checkN (N1.out.below KG.out) ((N1.out.below KG.out).len LZp1.out (by decide)))
  with_reducible refine CT.out.mono ?_
  rintro e w8 ⟨rfl, hb⟩
  clear CT
  clear cBX10 cBX11 cBX1f cBX1l
  have BX1 := Lib.hid (BX1.out.below hb BX1.out.lt)
  have BX2 := Lib.hid (BX2.out.below hb BX2.out.lt)
  have KG := Lib.hid (KG.out.trans (hb.mono KG.out.size))
  clear hb
  have cBX20 := BX2.out.cell (i := 0) rfl
  have cBX21 := BX2.out.cell (i := 1) rfl
  have cBX2f := BX2.out.fz
  have cBX2l := BX2.out.lt
  go_wp2_with fail
  have CT := Lib.hid (checkN (N2.out.below KG.out) ((N2.out.below KG.out).len LZp2.out (by decide)))
  with_reducible refine CT.out.mono ?_
  rintro e w9 ⟨rfl, hb⟩
  clear CT
  clear cBX20 cBX21 cBX2f cBX2l
  have BX1 := Lib.hid (BX1.out.below hb BX1.out.lt)
  have BX2 := Lib.hid (BX2.out.below hb BX2.out.lt)
  have KG := Lib.hid (KG.out.trans (hb.mono KG.out.size))
  clear hb
  have cBX10 := BX1.out.cell (i := 0) rfl
  have cBX11 := BX1.out.cell (i := 1) rfl
  have cBX1f := BX1.out.fz
  have cBX1l := BX1.out.lt
  have cBX20 := BX2.out.cell (i := 0) rfl
  have cBX21 := BX2.out.cell (i := 1) rfl
  have cBX2f := BX2.out.fz
  have cBX2l := BX2.out.lt
  go_wp2_with fail
  have CT := Lib.hid (divN (N1.out.below KG.out) ((N1.out.below KG.out).len LZp1.out (by decide)) (N2.out.below KG.out) ((N2.out.below KG.out).len LZp2.out (by decide)) (HZ.out))
  rw [show p1 / p2 = zq from Hzq.out.symm] at CT
  rw [show p1 % p2 = zr from Hzr.out.symm] at CT
  with_reducible refine CT.out.mono ?_
  rintro e w10 ⟨x11, x12, rfl, hN13, hN14, hb⟩
  have N13 := Lib.hid hN13
  clear hN13
  have N14 := Lib.hid hN14
  clear hN14
  clear CT
  clear cBX10 cBX11 cBX1f cBX1l
  clear cBX20 cBX21 cBX2f cBX2l
  have BX1 := Lib.hid (BX1.out.below hb BX1.out.lt)
  have BX2 := Lib.hid (BX2.out.below hb BX2.out.lt)
  have KG := Lib.hid (KG.out.trans (hb.mono KG.out.size))
  clear hb
  go_upto_region 4 with (fail)
  obtain ⟨v17, hV⟩ : ∃ V, V = (w10.alloc (.cells #[.bool x11.s, .slice x11.a x11.n x11.c] 24)).alloc (.cells #[.bool x12.s, .slice x12.a x12.n x12.c] 24) := ⟨_, rfl⟩
  have hbV : Below w10.heap.size w10 v17 := by rw [hV]; exact (((Below.refl _ _).alloc (Nat.le_refl _) _).alloc (by go_size) _)
  have BX15 := Lib.hid (show Bxs v17 (w10.heap.size) 24 [.bool x11.s, .slice x11.a x11.n x11.c] by have h := (Bxs.new (w10) 24 [.bool x11.s, .slice x11.a x11.n x11.c]).alloc (.cells #[.bool x12.s, .slice x12.a x12.n x12.c] 24); rw [hV]; exact h)
  have BX16 := Lib.hid (show Bxs v17 (w10.heap.size + 1) 24 [.bool x12.s, .slice x12.a x12.n x12.c] by have h := Bxs.new (w10.alloc (.cells #[.bool x11.s, .slice x11.a x11.n x11.c] 24)) 24 [.bool x12.s, .slice x12.a x12.n x12.c]; simp only [World.size_alloc] at h; rw [hV]; exact h)
  rw [show (w10.alloc (.cells #[.bool x11.s, .slice x11.a x11.n x11.c] 24)).alloc (.cells #[.bool x12.s, .slice x12.a x12.n x12.c] 24) = v17 from hV.symm]
  have N13 := Lib.hid (N13.out.below hbV)
  have N14 := Lib.hid (N14.out.below hbV)
  have BX1 := Lib.hid (BX1.out.below hbV BX1.out.lt)
  have BX2 := Lib.hid (BX2.out.below hbV BX2.out.lt)
  have KG := Lib.hid (KG.out.trans (hbV.mono KG.out.size))
  clear hV hbV
  have cBX20 := BX2.out.cell (i := 0) rfl
  have cBX21 := BX2.out.cell (i := 1) rfl
  have cBX2f := BX2.out.fz
  have cBX2l := BX2.out.lt
  go_wp2_with fail
  have CT := Lib.hid (signN (N2.out.below KG.out).any ((N2.out.below KG.out).len LZp2.out (by decide)))
  rw [show cmpZ p2 0 = sb from Hsb.out.symm] at CT
  with_reducible refine CT.out.mono ?_
  rintro e w18 ⟨rfl, hb⟩
  clear CT
  clear cBX20 cBX21 cBX2f cBX2l
  have N13 := Lib.hid (N13.out.below hb)
  have N14 := Lib.hid (N14.out.below hb)
  have BX1 := Lib.hid (BX1.out.below hb BX1.out.lt)
  have BX2 := Lib.hid (BX2.out.below hb BX2.out.lt)
  have BX15 := Lib.hid (BX15.out.below hb BX15.out.lt)
  have BX16 := Lib.hid (BX16.out.below hb BX16.out.lt)
  have KG := Lib.hid (KG.out.trans (hb.mono KG.out.size))
  clear hb
  have qs := HSN.out
  go_upto_region 6 with (fail)
  refine Go.FreshS.wp_region_fresh 6 [] (Go.FreshS.spOf [(2, Go.FreshS.Sp.know (.int .i64 sb)), (3, Go.FreshS.Sp.made (fun x : NV => x.v) (fun x w' => DN w' w18.heap.size x sb) NV.blk), (4, Go.FreshS.Sp.made (fun x : NV => x.v) (fun x w' => DN w' w18.heap.size x zam) NV.blk), (5, Go.FreshS.Sp.box 24 2 w18.heap.size)])
    (fun w' => Below w18.heap.size w18 w') (by kernel_rfl) (by kernel_rfl) (by kernel_rfl)
    (Go.FreshS.spOf_cons (Go.FreshS.Sp.know_keeps _ _) (Go.FreshS.spOf_cons (Go.FreshS.Sp.made_keeps _ (fun _ _ _ h _ hk => h.kept hk) (Go.FreshS.notTaken (by kernel_rfl))) (Go.FreshS.spOf_cons (Go.FreshS.Sp.made_keeps _ (fun _ _ _ h _ hk => h.kept hk) (Go.FreshS.notTaken (by kernel_rfl))) (Go.FreshS.spOf_cons (Go.FreshS.Sp.box_keeps _ _ _ _) (Go.FreshS.spOf_nil))))) (fun _ _ h hb => h.trans (hb.mono h.size)) ((Below.refl _ _).drew) ?_
  simp only [List.append_eq, List.cons_append, List.nil_append, List.take_succ_cons, List.take_zero, List.drop_succ_cons, List.drop_zero]
  refine Go.FreshS.wpF_reads rfl rfl rfl ?_ (fun w' hw' => ?_) ?_
  rotate_left
  · have hb' := hw'.world
    have hs0 := (BX2.out.below hb' BX2.out.lt).cell (i := 0) rfl
    have hs1 := (BX2.out.below hb' BX2.out.lt).cell (i := 1) rfl
    have hsf := (BX2.out.below hb' BX2.out.lt).fz
    have hsl := (BX2.out.below hb' BX2.out.lt).lt
    clear hw'
    go_simp
    try rfl
  conv => arg 10; simp only [Act.put, List.setIfInBounds_toArray, List.set_cons_succ, List.set_cons_zero]
  refine Go.FreshS.wpF_reads rfl rfl rfl ?_ (fun w' hw' => ?_) ?_
  rotate_left
  · have hb' := hw'.world
    have hs0 := (BX2.out.below hb' BX2.out.lt).cell (i := 0) rfl
    have hs1 := (BX2.out.below hb' BX2.out.lt).cell (i := 1) rfl
    have hsf := (BX2.out.below hb' BX2.out.lt).fz
    have hsl := (BX2.out.below hb' BX2.out.lt).lt
    clear hw'
    go_simp
    try rfl
  conv => arg 10; simp only [Act.put, List.setIfInBounds_toArray, List.set_cons_succ, List.set_cons_zero]
  refine Go.FreshS.wpF_spec rfl rfl rfl (fun w' hw' => ?_) ?_
  · have hb' := hw'.world
    refine Go.FreshS.gives_of (Go.FreshS.PK (.int .i64 sb)) ?_ (fun _ _ h => h.post)
    go_simp
    have CT := signN (N2.out.below (KG.out.trans (hb'.mono KG.out.size))).any ((N2.out.below (KG.out.trans (hb'.mono KG.out.size))).len LZp2.out (by decide))
    rw [show cmpZ p2 0 = sb from Hsb.out.symm] at CT
    refine CT.mono ?_
    rintro e w'' ⟨rfl, hb⟩
    exact ⟨_, rfl, rfl, hb⟩
  rintro _ rfl
  conv => arg 10; simp only [Act.put, List.setIfInBounds_toArray, List.set_cons_succ, List.set_cons_zero]
  refine Go.FreshS.wpF_spec rfl rfl rfl (fun w' hw' => ?_) ?_
  · have hb' := hw'.world
    refine Go.FreshS.gives_of (Go.FreshS.PM (fun x : NV => x.v) (fun x w' => DN w' w18.heap.size x sb) NV.blk w'.heap.size) ?_ (fun _ _ h => h.post @NV.inj)
    go_simp
    have CT := ofZ sb sb (rfl) w' HSB.out.1 HSB.out.2
    refine CT.mono ?_
    rintro e w'' ⟨za, rfl, ho, hb⟩
    exact ⟨_, rfl, ⟨za, rfl, ho.mono hb'.size, ho.blks⟩, hb⟩
  rintro _ ⟨y3, rfl⟩
  conv => arg 10; simp only [Act.put, List.setIfInBounds_toArray, List.set_cons_succ, List.set_cons_zero]
  refine Go.FreshS.wpF_spec rfl rfl rfl (fun w' hw' => ?_) ?_
  · have hb' := hw'.world
    refine Go.FreshS.gives_of (Go.FreshS.PM (fun x : NV => x.v) (fun x w' => DN w' w18.heap.size x zam) NV.blk w'.heap.size) ?_ (fun _ _ h => h.post @NV.inj)
    go_simp
    have f3 := Go.FreshS.made_of (val := fun x : NV => x.v) (Φ := fun x w' => DN w' w18.heap.size x sb) @NV.inj (hw'.fact 3 (by kernel_rfl))
    have CT := mulN (N2.out.below (KG.out.trans (hb'.mono KG.out.size))).any ((N2.out.below (KG.out.trans (hb'.mono KG.out.size))).len LZp2.out (by decide)) f3.k.any (f3.k.len LZsb.out (by decide))
    rw [show p2 * sb = zam from Hzam.out.symm] at CT
    refine CT.mono ?_
    rintro e w'' ⟨za, rfl, ho, hb⟩
    exact ⟨_, rfl, ⟨za, rfl, ho.mono hb'.size, ho.blks⟩, hb⟩
  rintro _ ⟨y4, rfl⟩
  conv => arg 10; simp only [Act.put, List.setIfInBounds_toArray, List.set_cons_succ, List.set_cons_zero]
  refine Go.FreshS.wpF_spec rfl rfl rfl (fun w' hw' => ?_) ?_
  · have hb' := hw'.world
    refine Go.FreshS.gives_of (Go.FreshS.PB 24 2 w18.heap.size w'.heap.size) ?_ (fun _ _ h => h.post)
    go_simp
    exact ⟨Go.FreshS.PB.new _ rfl hb'.size, (Below.refl _ _).alloc (Nat.le_refl _) _⟩
  rintro _ ⟨y5, rfl⟩
  conv => arg 10; simp only [Act.put, List.setIfInBounds_toArray, List.set_cons_succ, List.set_cons_zero]
  refine Go.FreshS.wpF_nil (fun w20 hb hF => ?_)
  have N21 := Lib.hid (show DN w20 w18.heap.size y4 zam from (Go.FreshS.made_of (val := fun x : NV => x.v) (Φ := fun x w' => DN w' w18.heap.size x zam) @NV.inj (hF.all 4)))
  have HX := Lib.hid (Go.FreshS.box_of (hF.all 5))
  have HBW := Lib.hid hb
  clear hF hb
  obtain ⟨c0, c1, hB⟩ := shp2 HX.out.1
  have HBB := Lib.hid hB
  clear hB
  have m0 := HBB.out.cell (i := 0) rfl
  have m1 := HBB.out.cell (i := 1) rfl
  have mf := HBB.out.fz
  have ml := HBB.out.lt
  go_upto_region 7 with (fail)
  obtain ⟨v22, hV⟩ : ∃ V, V = (w20.setCell ⟨y5, 0, none⟩ (.bool y4.s)).setCell ⟨y5, 1, none⟩ (.slice y4.a y4.n y4.c) := ⟨_, rfl⟩
  have hbV : Below w18.heap.size w18 v22 := by rw [hV]; exact ((HBW.out.setCell HX.out.2 _).setCell HX.out.2 _)
  have BX19 := Lib.hid (show Bxs v22 y5 24 [.bool y4.s, .slice y4.a y4.n y4.c] by rw [hV]; exact ((HBB.out.put 0 _).put 1 _))
  have N21 := Lib.hid (show DN v22 w18.heap.size y4 zam by rw [hV]; exact ((N21.out.setBxs HBB.out (by decide) 0 _).setBxs (HBB.out.put 0 _) (by decide) 1 _))
  rw [show (w20.setCell ⟨y5, 0, none⟩ (.bool y4.s)).setCell ⟨y5, 1, none⟩ (.slice y4.a y4.n y4.c) = v22 from hV.symm]
  clear m0 m1 mf ml HX HBW HBB
  have N13 := Lib.hid (N13.out.below hbV)
  have N14 := Lib.hid (N14.out.below hbV)
  have BX1 := Lib.hid (BX1.out.below hbV BX1.out.lt)
  have BX2 := Lib.hid (BX2.out.below hbV BX2.out.lt)
  have BX15 := Lib.hid (BX15.out.below hbV BX15.out.lt)
  have BX16 := Lib.hid (BX16.out.below hbV BX16.out.lt)
  have KG := Lib.hid (KG.out.trans (hbV.mono KG.out.size))
  clear hV hbV
  go_upto_region 7 with (fail)
  refine Go.FreshS.wp_region_fresh 13 [(11, 9), (12, 10)] (Go.FreshS.spOf [(2, Go.FreshS.Sp.made (fun x : NV => x.v) (fun x w' => DN w' v22.heap.size x zm) NV.blk), (4, Go.FreshS.Sp.made (NV2.v 0) (fun x w' => DN w' v22.heap.size x.p p1 ∧ DN w' v22.heap.size x.q zs) NV2.blk), (9, Go.FreshS.Sp.box 24 2 v22.heap.size), (10, Go.FreshS.Sp.box 24 2 v22.heap.size)])
    (fun w' => Below v22.heap.size v22 w') (by kernel_rfl) (by kernel_rfl) (by kernel_rfl)
    (Go.FreshS.spOf_cons (Go.FreshS.Sp.made_keeps _ (fun _ _ _ h _ hk => h.kept hk) (Go.FreshS.notTaken (by kernel_rfl))) (Go.FreshS.spOf_cons (Go.FreshS.Sp.made_keeps _ (fun _ _ _ h _ hk => ⟨h.1.kept fun b hb => hk b (Or.inl hb), h.2.kept fun b hb => hk b (Or.inr hb)⟩) (Go.FreshS.notTaken (by kernel_rfl))) (Go.FreshS.spOf_cons (Go.FreshS.Sp.box_keeps _ _ _ _) (Go.FreshS.spOf_cons (Go.FreshS.Sp.box_keeps _ _ _ _) (Go.FreshS.spOf_nil))))) (fun _ _ h hb => h.trans (hb.mono h.size)) ((Below.refl _ _).drew) ?_
  simp only [List.append_eq, List.cons_append, List.nil_append, List.take_succ_cons, List.take_zero, List.drop_succ_cons, List.drop_zero]
  refine Go.FreshS.wpF_reads rfl rfl rfl ?_ (fun w' hw' => ?_) ?_
  rotate_left
  · have hb' := hw'.world
    have hs0 := (BX1.out.below hb' BX1.out.lt).cell (i := 0) rfl
    have hs1 := (BX1.out.below hb' BX1.out.lt).cell (i := 1) rfl
    have hsf := (BX1.out.below hb' BX1.out.lt).fz
    have hsl := (BX1.out.below hb' BX1.out.lt).lt
    clear hw'
    go_simp
    try rfl
  conv => arg 10; simp only [Act.put, List.setIfInBounds_toArray, List.set_cons_succ, List.set_cons_zero]
  refine Go.FreshS.wpF_reads rfl rfl rfl ?_ (fun w' hw' => ?_) ?_
  rotate_left
  · have hb' := hw'.world
    have hs0 := (BX2.out.below hb' BX2.out.lt).cell (i := 0) rfl
    have hs1 := (BX2.out.below hb' BX2.out.lt).cell (i := 1) rfl
    have hsf := (BX2.out.below hb' BX2.out.lt).fz
    have hsl := (BX2.out.below hb' BX2.out.lt).lt
    clear hw'
    go_simp
    try rfl
  conv => arg 10; simp only [Act.put, List.setIfInBounds_toArray, List.set_cons_succ, List.set_cons_zero]
  refine Go.FreshS.wpF_spec rfl rfl rfl (fun w' hw' => ?_) ?_
  · have hb' := hw'.world
    refine Go.FreshS.gives_of (Go.FreshS.PM (fun x : NV => x.v) (fun x w' => DN w' v22.heap.size x zm) NV.blk w'.heap.size) ?_ (fun _ _ h => h.post @NV.inj)
    go_simp
    have CT := mulN (N1.out.below (KG.out.trans (hb'.mono KG.out.size))).any ((N1.out.below (KG.out.trans (hb'.mono KG.out.size))).len LZp1.out (by decide)) (N2.out.below (KG.out.trans (hb'.mono KG.out.size))).any ((N2.out.below (KG.out.trans (hb'.mono KG.out.size))).len LZp2.out (by decide))
    rw [show p1 * p2 = zm from Hzm.out.symm] at CT
    refine CT.mono ?_
    rintro e w'' ⟨za, rfl, ho, hb⟩
    exact ⟨_, rfl, ⟨za, rfl, ho.mono hb'.size, ho.blks⟩, hb⟩
  rintro _ ⟨y2, rfl⟩
  conv => arg 10; simp only [Act.put, List.setIfInBounds_toArray, List.set_cons_succ, List.set_cons_zero]
  refine Go.FreshS.wpF_reads rfl rfl rfl ?_ (fun w' hw' => ?_) ?_
  rotate_left
  · have hb' := hw'.world
    have hs0 := (BX2.out.below hb' BX2.out.lt).cell (i := 0) rfl
    have hs1 := (BX2.out.below hb' BX2.out.lt).cell (i := 1) rfl
    have hsf := (BX2.out.below hb' BX2.out.lt).fz
    have hsl := (BX2.out.below hb' BX2.out.lt).lt
    clear hw'
    go_simp
    try rfl
  conv => arg 10; simp only [Act.put, List.setIfInBounds_toArray, List.set_cons_succ, List.set_cons_zero]
  refine Go.FreshS.wpF_spec rfl rfl rfl (fun w' hw' => ?_) ?_
  · have hb' := hw'.world
    refine Go.FreshS.gives_of (Go.FreshS.PM (NV2.v 0) (fun x w' => DN w' v22.heap.size x.p p1 ∧ DN w' v22.heap.size x.q zs) NV2.blk w'.heap.size) ?_ (fun _ _ h => h.post (NV2.inj 0))
    go_simp
    have f2 := Go.FreshS.made_of (val := fun x : NV => x.v) (Φ := fun x w' => DN w' v22.heap.size x zm) @NV.inj (hw'.fact 2 (by kernel_rfl))
    have CT := divN f2.k (f2.k.len LZzm.out (by decide)) (N2.out.below (KG.out.trans (hb'.mono KG.out.size))) ((N2.out.below (KG.out.trans (hb'.mono KG.out.size))).len LZp2.out (by decide)) (HZ.out)
    rw [show zm / p2 = p1 from HD1.out] at CT
    rw [show zm % p2 = zs from HD2.out] at CT
    refine CT.mono ?_
    rintro e w'' ⟨za, zb, rfl, ho, ho', hb⟩
    exact ⟨_, rfl, ⟨⟨za, zb⟩, rfl, ⟨ho.mono hb'.size, ho'.mono hb'.size⟩, fun b hb => hb.elim (ho.blks b) (ho'.blks b)⟩, hb⟩
  rintro _ ⟨y4, rfl⟩
  conv => arg 10; simp only [Act.put, List.setIfInBounds_toArray, List.set_cons_succ, List.set_cons_zero]
  refine Go.FreshS.wpF_reads rfl rfl rfl ?_ (fun w' hw' => ?_) ?_
  rotate_left
  · have hb' := hw'.world
    skip
    clear hw'
    go_simp
    try rfl
  conv => arg 10; simp only [Act.put, List.setIfInBounds_toArray, List.set_cons_succ, List.set_cons_zero]
  refine Go.FreshS.wpF_reads rfl rfl rfl ?_ (fun w' hw' => ?_) ?_
  rotate_left
  · have hb' := hw'.world
    skip
    clear hw'
    go_simp
    try rfl
  conv => arg 10; simp only [Act.put, List.setIfInBounds_toArray, List.set_cons_succ, List.set_cons_zero]
  refine Go.FreshS.wpF_reads rfl rfl rfl ?_ (fun w' hw' => ?_) ?_
  rotate_left
  · have hb' := hw'.world
    skip
    clear hw'
    go_simp
    try rfl
  conv => arg 10; simp only [Act.put, List.setIfInBounds_toArray, List.set_cons_succ, List.set_cons_zero]
  refine Go.FreshS.wpF_reads rfl rfl rfl ?_ (fun w' hw' => ?_) ?_
  rotate_left
  · have hb' := hw'.world
    skip
    clear hw'
    go_simp
    try rfl
  conv => arg 10; simp only [Act.put, List.setIfInBounds_toArray, List.set_cons_succ, List.set_cons_zero]
  refine Go.FreshS.wpF_spec rfl rfl rfl (fun w' hw' => ?_) ?_
  · have hb' := hw'.world
    refine Go.FreshS.gives_of (Go.FreshS.PB 24 2 v22.heap.size w'.heap.size) ?_ (fun _ _ h => h.post)
    go_simp
    exact ⟨Go.FreshS.PB.new _ rfl hb'.size, (Below.refl _ _).alloc (Nat.le_refl _) _⟩
  rintro _ ⟨y9, rfl⟩
  conv => arg 10; simp only [Act.put, List.setIfInBounds_toArray, List.set_cons_succ, List.set_cons_zero]
  refine Go.FreshS.wpF_spec rfl rfl rfl (fun w' hw' => ?_) ?_
  · have hb' := hw'.world
    refine Go.FreshS.gives_of (Go.FreshS.PB 24 2 v22.heap.size w'.heap.size) ?_ (fun _ _ h => h.post)
    go_simp
    exact ⟨Go.FreshS.PB.new _ rfl hb'.size, (Below.refl _ _).alloc (Nat.le_refl _) _⟩
  rintro _ ⟨y10, rfl⟩
  conv => arg 10; simp only [Act.put, List.setIfInBounds_toArray, List.set_cons_succ, List.set_cons_zero]
  refine Go.FreshS.wpF_store rfl rfl 9 rfl rfl rfl rfl (fun _ => Iff.rfl) (fun w' hw' => ?_) ?_
  · have hb' := hw'.world
    have hX := Go.FreshS.box_of (hw'.fact 9 (by kernel_rfl))
    obtain ⟨c0, c1, hB⟩ := shp2 hX.1
    have m0 := hB.cell (i := 0) rfl
    have m1 := hB.cell (i := 1) rfl
    have mf := hB.fz
    have ml := hB.lt
    refine Go.FreshS.stores_of ?_ (store2 hb' hX.2 hB (.bool y4.p.s) (.slice y4.p.a y4.p.n y4.p.c))
    clear hw'
    go_simp
    try rfl
  conv => arg 10; simp only [Act.put, List.setIfInBounds_toArray, List.set_cons_succ, List.set_cons_zero]
  refine Go.FreshS.wpF_store rfl rfl 10 rfl rfl rfl rfl (fun _ => Iff.rfl) (fun w' hw' => ?_) ?_
  · have hb' := hw'.world
    have hX := Go.FreshS.box_of (hw'.fact 10 (by kernel_rfl))
    obtain ⟨c0, c1, hB⟩ := shp2 hX.1
    have m0 := hB.cell (i := 0) rfl
    have m1 := hB.cell (i := 1) rfl
    have mf := hB.fz
    have ml := hB.lt
    refine Go.FreshS.stores_of ?_ (store2 hb' hX.2 hB (.bool y4.q.s) (.slice y4.q.a y4.q.n y4.q.c))
    clear hw'
    go_simp
    try rfl
  conv => arg 10; simp only [Act.put, List.setIfInBounds_toArray, List.set_cons_succ, List.set_cons_zero]
  refine Go.FreshS.wpF_nil (fun w25 hb hF => ?_)
  have BX23 := Lib.hid (show Bxs w25 y9 24 [.bool y4.p.s, .slice y4.p.a y4.p.n y4.p.c] from stored_bxs (hF.all 11))
  have N26 := Lib.hid (show DN w25 v22.heap.size y4.p p1 from (Go.FreshS.made_of (val := NV2.v 0) (Φ := fun x w' => DN w' v22.heap.size x.p p1 ∧ DN w' v22.heap.size x.q zs) (NV2.inj 0) (hF.all 4)).1)
  have BX24 := Lib.hid (show Bxs w25 y10 24 [.bool y4.q.s, .slice y4.q.a y4.q.n y4.q.c] from stored_bxs (hF.all 12))
  have N27 := Lib.hid (show DN w25 v22.heap.size y4.q zs from (Go.FreshS.made_of (val := NV2.v 0) (Φ := fun x w' => DN w' v22.heap.size x.p p1 ∧ DN w' v22.heap.size x.q zs) (NV2.inj 0) (hF.all 4)).2)
  clear hF
  have N13 := Lib.hid (N13.out.below hb)
  have N14 := Lib.hid (N14.out.below hb)
  have N21 := Lib.hid (N21.out.below hb)
  have BX1 := Lib.hid (BX1.out.below hb BX1.out.lt)
  have BX2 := Lib.hid (BX2.out.below hb BX2.out.lt)
  have BX15 := Lib.hid (BX15.out.below hb BX15.out.lt)
  have BX16 := Lib.hid (BX16.out.below hb BX16.out.lt)
  have BX19 := Lib.hid (BX19.out.below hb BX19.out.lt)
  have KG := Lib.hid (KG.out.trans (hb.mono KG.out.size))
  clear hb
  go_upto_region 8 with (fail)
  refine Go.FreshS.wp_region_fresh 44 [] (Go.FreshS.spOf [(8, Go.FreshS.Sp.know (.bool true)), (12, Go.FreshS.Sp.know (.bool true)), (16, Go.FreshS.Sp.know (.int .i64 sr)), (22, Go.FreshS.Sp.know (.int .i64 (-1))), (28, Go.FreshS.Sp.made (fun x : NV => x.v) (fun x w' => DN w' w25.heap.size x zqb) NV.blk), (30, Go.FreshS.Sp.made (fun x : NV => x.v) (fun x w' => DN w' w25.heap.size x p1) NV.blk), (32, Go.FreshS.Sp.know (.bool true)), (37, Go.FreshS.Sp.know (.bool true)), (41, Go.FreshS.Sp.know (.int .i64 0))])
    (fun w' => Below w25.heap.size w25 w') (by kernel_rfl) (by kernel_rfl) (by kernel_rfl)
    (Go.FreshS.spOf_cons (Go.FreshS.Sp.know_keeps _ _) (Go.FreshS.spOf_cons (Go.FreshS.Sp.know_keeps _ _) (Go.FreshS.spOf_cons (Go.FreshS.Sp.know_keeps _ _) (Go.FreshS.spOf_cons (Go.FreshS.Sp.know_keeps _ _) (Go.FreshS.spOf_cons (Go.FreshS.Sp.made_keeps _ (fun _ _ _ h _ hk => h.kept hk) (Go.FreshS.notTaken (by kernel_rfl))) (Go.FreshS.spOf_cons (Go.FreshS.Sp.made_keeps _ (fun _ _ _ h _ hk => h.kept hk) (Go.FreshS.notTaken (by kernel_rfl))) (Go.FreshS.spOf_cons (Go.FreshS.Sp.know_keeps _ _) (Go.FreshS.spOf_cons (Go.FreshS.Sp.know_keeps _ _) (Go.FreshS.spOf_cons (Go.FreshS.Sp.know_keeps _ _) (Go.FreshS.spOf_nil)))))))))) (fun _ _ h hb => h.trans (hb.mono h.size)) ((Below.refl _ _).drew) ?_
  simp only [List.append_eq, List.cons_append, List.nil_append, List.take_succ_cons, List.take_zero, List.drop_succ_cons, List.drop_zero]
  refine Go.FreshS.wpF_reads rfl rfl rfl ?_ (fun w' hw' => ?_) ?_
  rotate_left
  · have hb' := hw'.world
    skip
    clear hw'
    go_simp
    try rfl
  conv => arg 10; simp only [Act.put, List.setIfInBounds_toArray, List.set_cons_succ, List.set_cons_zero]
  refine Go.FreshS.wpF_reads rfl rfl rfl ?_ (fun w' hw' => ?_) ?_
  rotate_left
  · have hb' := hw'.world
    skip
    clear hw'
    go_simp
    try rfl
  conv => arg 10; simp only [Act.put, List.setIfInBounds_toArray, List.set_cons_succ, List.set_cons_zero]
  refine Go.FreshS.wpF_reads rfl rfl rfl ?_ (fun w' hw' => ?_) ?_
  rotate_left
  · have hb' := hw'.world
    skip
    clear hw'
    go_simp
    try rfl
  conv => arg 10; simp only [Act.put, List.setIfInBounds_toArray, List.set_cons_succ, List.set_cons_zero]
  refine Go.FreshS.wpF_readsG (by rfl) rfl rfl ?_ (fun w' hw' => ?_) ?_
  rotate_left
  · have hb' := hw'.world
    skip
    clear hw'
    go_simp
    try rfl
  conv => arg 10; simp only [Act.put, List.setIfInBounds_toArray, List.set_cons_succ, List.set_cons_zero]
  refine Go.FreshS.wpF_readsG (by rfl) rfl rfl ?_ (fun w' hw' => ?_) ?_
  rotate_left
  · have hb' := hw'.world
    skip
    clear hw'
    go_simp
    try rfl
  conv => arg 10; simp only [Act.put, List.setIfInBounds_toArray, List.set_cons_succ, List.set_cons_zero]
  refine Go.FreshS.wpF_reads rfl rfl rfl ?_ (fun w' hw' => ?_) ?_
  rotate_left
  · have hb' := hw'.world
    skip
    clear hw'
    go_simp
    try rfl
  conv => arg 10; simp only [Act.put, List.setIfInBounds_toArray, List.set_cons_succ, List.set_cons_zero]
  refine Go.FreshS.wpF_reads rfl rfl rfl ?_ (fun w' hw' => ?_) ?_
  rotate_left
  · have hb' := hw'.world
    skip
    clear hw'
    go_simp
    try rfl
  conv => arg 10; simp only [Act.put, List.setIfInBounds_toArray, List.set_cons_succ, List.set_cons_zero]
  refine Go.FreshS.wpF_readsG (by rfl) rfl rfl ?_ (fun w' hw' => ?_) ?_
  rotate_left
  · have hb' := hw'.world
    have hs0 := (BX15.out.below hb' BX15.out.lt).cell (i := 0) rfl
    have hs1 := (BX15.out.below hb' BX15.out.lt).cell (i := 1) rfl
    have hsf := (BX15.out.below hb' BX15.out.lt).fz
    have hsl := (BX15.out.below hb' BX15.out.lt).lt
    clear hw'
    go_simp
    try rfl
  conv => arg 10; simp only [Act.put, List.setIfInBounds_toArray, List.set_cons_succ, List.set_cons_zero]
  refine Go.FreshS.wpF_gspec (by rfl) rfl rfl (fun w' hw' => ?_) ?_
  · have hb' := hw'.world
    refine Go.FreshS.gives_of (Go.FreshS.PK (.bool true)) ?_ (fun _ _ h => h.post)
    go_simp
    have CT := checkN (N13.out.below hb').k ((N13.out.below hb').k.len LZzq.out (by decide))
    refine CT.mono ?_
    rintro e w'' ⟨rfl, hb⟩
    exact ⟨_, rfl, rfl, hb⟩
  rintro _ rfl
  conv => arg 10; simp only [Act.put, List.setIfInBounds_toArray, List.set_cons_succ, List.set_cons_zero]
  refine Go.FreshS.wpF_reads rfl rfl rfl ?_ (fun w' hw' => ?_) ?_
  rotate_left
  · have hb' := hw'.world
    skip
    clear hw'
    go_simp
    try rfl
  conv => arg 10; simp only [Act.put, List.setIfInBounds_toArray, List.set_cons_succ, List.set_cons_zero]
  refine Go.FreshS.wpF_reads rfl rfl rfl ?_ (fun w' hw' => ?_) ?_
  rotate_left
  · have hb' := hw'.world
    skip
    clear hw'
    go_simp
    try rfl
  conv => arg 10; simp only [Act.put, List.setIfInBounds_toArray, List.set_cons_succ, List.set_cons_zero]
  refine Go.FreshS.wpF_readsG (by rfl) rfl rfl ?_ (fun w' hw' => ?_) ?_
  rotate_left
  · have hb' := hw'.world
    have hs0 := (BX16.out.below hb' BX16.out.lt).cell (i := 0) rfl
    have hs1 := (BX16.out.below hb' BX16.out.lt).cell (i := 1) rfl
    have hsf := (BX16.out.below hb' BX16.out.lt).fz
    have hsl := (BX16.out.below hb' BX16.out.lt).lt
    clear hw'
    go_simp
    try rfl
  conv => arg 10; simp only [Act.put, List.setIfInBounds_toArray, List.set_cons_succ, List.set_cons_zero]
  refine Go.FreshS.wpF_gspec (by rfl) rfl rfl (fun w' hw' => ?_) ?_
  · have hb' := hw'.world
    refine Go.FreshS.gives_of (Go.FreshS.PK (.bool true)) ?_ (fun _ _ h => h.post)
    go_simp
    have CT := checkN (N14.out.below hb').k ((N14.out.below hb').k.len LZzr.out (by decide))
    refine CT.mono ?_
    rintro e w'' ⟨rfl, hb⟩
    exact ⟨_, rfl, rfl, hb⟩
  rintro _ rfl
  conv => arg 10; simp only [Act.put, List.setIfInBounds_toArray, List.set_cons_succ, List.set_cons_zero]
  refine Go.FreshS.wpF_reads rfl rfl rfl ?_ (fun w' hw' => ?_) ?_
  rotate_left
  · have hb' := hw'.world
    skip
    clear hw'
    go_simp
    try rfl
  conv => arg 10; simp only [Act.put, List.setIfInBounds_toArray, List.set_cons_succ, List.set_cons_zero]
  refine Go.FreshS.wpF_reads rfl rfl rfl ?_ (fun w' hw' => ?_) ?_
  rotate_left
  · have hb' := hw'.world
    skip
    clear hw'
    go_simp
    try rfl
  conv => arg 10; simp only [Act.put, List.setIfInBounds_toArray, List.set_cons_succ, List.set_cons_zero]
  refine Go.FreshS.wpF_readsG (by rfl) rfl rfl ?_ (fun w' hw' => ?_) ?_
  rotate_left
  · have hb' := hw'.world
    have hs0 := (BX16.out.below hb' BX16.out.lt).cell (i := 0) rfl
    have hs1 := (BX16.out.below hb' BX16.out.lt).cell (i := 1) rfl
    have hsf := (BX16.out.below hb' BX16.out.lt).fz
    have hsl := (BX16.out.below hb' BX16.out.lt).lt
    clear hw'
    go_simp
    try rfl
  conv => arg 10; simp only [Act.put, List.setIfInBounds_toArray, List.set_cons_succ, List.set_cons_zero]
  refine Go.FreshS.wpF_gspec (by rfl) rfl rfl (fun w' hw' => ?_) ?_
  · have hb' := hw'.world
    refine Go.FreshS.gives_of (Go.FreshS.PK (.int .i64 sr)) ?_ (fun _ _ h => h.post)
    go_simp
    have CT := signN (N14.out.below hb').k.any ((N14.out.below hb').k.len LZzr.out (by decide))
    rw [show cmpZ zr 0 = sr from Hsr.out.symm] at CT
    refine CT.mono ?_
    rintro e w'' ⟨rfl, hb⟩
    exact ⟨_, rfl, rfl, hb⟩
  rintro _ rfl
  conv => arg 10; simp only [Act.put, List.setIfInBounds_toArray, List.set_cons_succ, List.set_cons_zero]
  refine Go.FreshS.wpF_readsG (by rfl) rfl rfl ?_ (fun w' hw' => ?_) ?_
  rotate_left
  · have hb' := hw'.world
    have hq := HSR.out
    clear hw'
    go_simp
    try rfl
  conv => arg 10; simp only [Act.put, List.setIfInBounds_toArray, List.set_cons_succ, List.set_cons_zero]
  refine Go.FreshS.wpF_reads rfl rfl rfl ?_ (fun w' hw' => ?_) ?_
  rotate_left
  · have hb' := hw'.world
    skip
    clear hw'
    go_simp
    try rfl
  conv => arg 10; simp only [Act.put, List.setIfInBounds_toArray, List.set_cons_succ, List.set_cons_zero]
  refine Go.FreshS.wpF_reads rfl rfl rfl ?_ (fun w' hw' => ?_) ?_
  rotate_left
  · have hb' := hw'.world
    skip
    clear hw'
    go_simp
    try rfl
  conv => arg 10; simp only [Act.put, List.setIfInBounds_toArray, List.set_cons_succ, List.set_cons_zero]
  refine Go.FreshS.wpF_readsG (by rfl) rfl rfl ?_ (fun w' hw' => ?_) ?_
  rotate_left
  · have hb' := hw'.world
    have hs0 := (BX16.out.below hb' BX16.out.lt).cell (i := 0) rfl
    have hs1 := (BX16.out.below hb' BX16.out.lt).cell (i := 1) rfl
    have hsf := (BX16.out.below hb' BX16.out.lt).fz
    have hsl := (BX16.out.below hb' BX16.out.lt).lt
    clear hw'
    go_simp
    try rfl
  conv => arg 10; simp only [Act.put, List.setIfInBounds_toArray, List.set_cons_succ, List.set_cons_zero]
  refine Go.FreshS.wpF_readsG (by rfl) rfl rfl ?_ (fun w' hw' => ?_) ?_
  rotate_left
  · have hb' := hw'.world
    have hs0 := (BX19.out.below hb' BX19.out.lt).cell (i := 0) rfl
    have hs1 := (BX19.out.below hb' BX19.out.lt).cell (i := 1) rfl
    have hsf := (BX19.out.below hb' BX19.out.lt).fz
    have hsl := (BX19.out.below hb' BX19.out.lt).lt
    clear hw'
    go_simp
    try rfl
  conv => arg 10; simp only [Act.put, List.setIfInBounds_toArray, List.set_cons_succ, List.set_cons_zero]
  refine Go.FreshS.wpF_gspec (by rfl) rfl rfl (fun w' hw' => ?_) ?_
  · have hb' := hw'.world
    refine Go.FreshS.gives_of (Go.FreshS.PK (.int .i64 (-1))) ?_ (fun _ _ h => h.post)
    go_simp
    have CT := cmpN (N14.out.below hb').k.any ((N14.out.below hb').k.len LZzr.out (by decide)) (N21.out.below hb').k.any ((N21.out.below hb').k.len LZzam.out (by decide))
    rw [show cmpZ zr zam = (-1) from HAM.out] at CT
    refine CT.mono ?_
    rintro e w'' ⟨rfl, hb⟩
    exact ⟨_, rfl, rfl, hb⟩
  rintro _ rfl
  conv => arg 10; simp only [Act.put, List.setIfInBounds_toArray, List.set_cons_succ, List.set_cons_zero]
  refine Go.FreshS.wpF_readsG (by rfl) rfl rfl ?_ (fun w' hw' => ?_) ?_
  rotate_left
  · have hb' := hw'.world
    skip
    clear hw'
    go_simp
    try rfl
  conv => arg 10; simp only [Act.put, List.setIfInBounds_toArray, List.set_cons_succ, List.set_cons_zero]
  refine Go.FreshS.wpF_reads rfl rfl rfl ?_ (fun w' hw' => ?_) ?_
  rotate_left
  · have hb' := hw'.world
    skip
    clear hw'
    go_simp
    try rfl
  conv => arg 10; simp only [Act.put, List.setIfInBounds_toArray, List.set_cons_succ, List.set_cons_zero]
  refine Go.FreshS.wpF_reads rfl rfl rfl ?_ (fun w' hw' => ?_) ?_
  rotate_left
  · have hb' := hw'.world
    skip
    clear hw'
    go_simp
    try rfl
  conv => arg 10; simp only [Act.put, List.setIfInBounds_toArray, List.set_cons_succ, List.set_cons_zero]
  refine Go.FreshS.wpF_readsG (by rfl) rfl rfl ?_ (fun w' hw' => ?_) ?_
  rotate_left
  · have hb' := hw'.world
    have hs0 := (BX15.out.below hb' BX15.out.lt).cell (i := 0) rfl
    have hs1 := (BX15.out.below hb' BX15.out.lt).cell (i := 1) rfl
    have hsf := (BX15.out.below hb' BX15.out.lt).fz
    have hsl := (BX15.out.below hb' BX15.out.lt).lt
    clear hw'
    go_simp
    try rfl
  conv => arg 10; simp only [Act.put, List.setIfInBounds_toArray, List.set_cons_succ, List.set_cons_zero]
  refine Go.FreshS.wpF_readsG (by rfl) rfl rfl ?_ (fun w' hw' => ?_) ?_
  rotate_left
  · have hb' := hw'.world
    have hs0 := (BX2.out.below hb' BX2.out.lt).cell (i := 0) rfl
    have hs1 := (BX2.out.below hb' BX2.out.lt).cell (i := 1) rfl
    have hsf := (BX2.out.below hb' BX2.out.lt).fz
    have hsl := (BX2.out.below hb' BX2.out.lt).lt
    clear hw'
    go_simp
    try rfl
  conv => arg 10; simp only [Act.put, List.setIfInBounds_toArray, List.set_cons_succ, List.set_cons_zero]
  refine Go.FreshS.wpF_gspec (by rfl) rfl rfl (fun w' hw' => ?_) ?_
  · have hb' := hw'.world
    refine Go.FreshS.gives_of (Go.FreshS.PM (fun x : NV => x.v) (fun x w' => DN w' w25.heap.size x zqb) NV.blk w'.heap.size) ?_ (fun _ _ h => h.post @NV.inj)
    go_simp
    have CT := mulN (N13.out.below hb').k.any ((N13.out.below hb').k.len LZzq.out (by decide)) (N2.out.below (KG.out.trans (hb'.mono KG.out.size))).any ((N2.out.below (KG.out.trans (hb'.mono KG.out.size))).len LZp2.out (by decide))
    rw [show zq * p2 = zqb from Hzqb.out.symm] at CT
    refine CT.mono ?_
    rintro e w'' ⟨za, rfl, ho, hb⟩
    exact ⟨_, rfl, ⟨za, rfl, ho.mono hb'.size, ho.blks⟩, hb⟩
  rintro _ ⟨y28, rfl⟩
  conv => arg 10; simp only [Act.put, List.setIfInBounds_toArray, List.set_cons_succ, List.set_cons_zero]
  refine Go.FreshS.wpF_readsG (by rfl) rfl rfl ?_ (fun w' hw' => ?_) ?_
  rotate_left
  · have hb' := hw'.world
    have hs0 := (BX16.out.below hb' BX16.out.lt).cell (i := 0) rfl
    have hs1 := (BX16.out.below hb' BX16.out.lt).cell (i := 1) rfl
    have hsf := (BX16.out.below hb' BX16.out.lt).fz
    have hsl := (BX16.out.below hb' BX16.out.lt).lt
    clear hw'
    go_simp
    try rfl
  conv => arg 10; simp only [Act.put, List.setIfInBounds_toArray, List.set_cons_succ, List.set_cons_zero]
  refine Go.FreshS.wpF_gspec (by rfl) rfl rfl (fun w' hw' => ?_) ?_
  · have hb' := hw'.world
    refine Go.FreshS.gives_of (Go.FreshS.PM (fun x : NV => x.v) (fun x w' => DN w' w25.heap.size x p1) NV.blk w'.heap.size) ?_ (fun _ _ h => h.post @NV.inj)
    go_simp
    have f28 := Go.FreshS.made_of (val := fun x : NV => x.v) (Φ := fun x w' => DN w' w25.heap.size x zqb) @NV.inj (hw'.fact 28 (by kernel_rfl))
    have CT := addN f28.k.any (f28.k.len LZzqb.out (by decide)) (N14.out.below hb').k.any ((N14.out.below hb').k.len LZzr.out (by decide))
    rw [show zqb + zr = p1 from HQR.out] at CT
    refine CT.mono ?_
    rintro e w'' ⟨za, rfl, ho, hb⟩
    exact ⟨_, rfl, ⟨za, rfl, ho.mono hb'.size, ho.blks⟩, hb⟩
  rintro _ ⟨y30, rfl⟩
  conv => arg 10; simp only [Act.put, List.setIfInBounds_toArray, List.set_cons_succ, List.set_cons_zero]
  refine Go.FreshS.wpF_readsG (by rfl) rfl rfl ?_ (fun w' hw' => ?_) ?_
  rotate_left
  · have hb' := hw'.world
    have hs0 := (BX1.out.below hb' BX1.out.lt).cell (i := 0) rfl
    have hs1 := (BX1.out.below hb' BX1.out.lt).cell (i := 1) rfl
    have hsf := (BX1.out.below hb' BX1.out.lt).fz
    have hsl := (BX1.out.below hb' BX1.out.lt).lt
    clear hw'
    go_simp
    try rfl
  conv => arg 10; simp only [Act.put, List.setIfInBounds_toArray, List.set_cons_succ, List.set_cons_zero]
  refine Go.FreshS.wpF_gspec (by rfl) rfl rfl (fun w' hw' => ?_) ?_
  · have hb' := hw'.world
    refine Go.FreshS.gives_of (Go.FreshS.PK (.bool true)) ?_ (fun _ _ h => h.post)
    go_simp
    have f30 := Go.FreshS.made_of (val := fun x : NV => x.v) (Φ := fun x w' => DN w' w25.heap.size x p1) @NV.inj (hw'.fact 30 (by kernel_rfl))
    have CT := sameTN f30.k (f30.k.len LZp1.out (by decide)) (N1.out.below (KG.out.trans (hb'.mono KG.out.size))) ((N1.out.below (KG.out.trans (hb'.mono KG.out.size))).len LZp1.out (by decide)) (rfl)
    refine CT.mono ?_
    rintro e w'' ⟨rfl, hb⟩
    exact ⟨_, rfl, rfl, hb⟩
  rintro _ rfl
  conv => arg 10; simp only [Act.put, List.setIfInBounds_toArray, List.set_cons_succ, List.set_cons_zero]
  refine Go.FreshS.wpF_reads rfl rfl rfl ?_ (fun w' hw' => ?_) ?_
  rotate_left
  · have hb' := hw'.world
    skip
    clear hw'
    go_simp
    try rfl
  conv => arg 10; simp only [Act.put, List.setIfInBounds_toArray, List.set_cons_succ, List.set_cons_zero]
  refine Go.FreshS.wpF_reads rfl rfl rfl ?_ (fun w' hw' => ?_) ?_
  rotate_left
  · have hb' := hw'.world
    skip
    clear hw'
    go_simp
    try rfl
  conv => arg 10; simp only [Act.put, List.setIfInBounds_toArray, List.set_cons_succ, List.set_cons_zero]
  refine Go.FreshS.wpF_readsG (by rfl) rfl rfl ?_ (fun w' hw' => ?_) ?_
  rotate_left
  · have hb' := hw'.world
    have hs0 := (BX23.out.below hb' BX23.out.lt).cell (i := 0) rfl
    have hs1 := (BX23.out.below hb' BX23.out.lt).cell (i := 1) rfl
    have hsf := (BX23.out.below hb' BX23.out.lt).fz
    have hsl := (BX23.out.below hb' BX23.out.lt).lt
    clear hw'
    go_simp
    try rfl
  conv => arg 10; simp only [Act.put, List.setIfInBounds_toArray, List.set_cons_succ, List.set_cons_zero]
  refine Go.FreshS.wpF_readsG (by rfl) rfl rfl ?_ (fun w' hw' => ?_) ?_
  rotate_left
  · have hb' := hw'.world
    have hs0 := (BX1.out.below hb' BX1.out.lt).cell (i := 0) rfl
    have hs1 := (BX1.out.below hb' BX1.out.lt).cell (i := 1) rfl
    have hsf := (BX1.out.below hb' BX1.out.lt).fz
    have hsl := (BX1.out.below hb' BX1.out.lt).lt
    clear hw'
    go_simp
    try rfl
  conv => arg 10; simp only [Act.put, List.setIfInBounds_toArray, List.set_cons_succ, List.set_cons_zero]
  refine Go.FreshS.wpF_gspec (by rfl) rfl rfl (fun w' hw' => ?_) ?_
  · have hb' := hw'.world
    refine Go.FreshS.gives_of (Go.FreshS.PK (.bool true)) ?_ (fun _ _ h => h.post)
    go_simp
    have CT := sameTN (N26.out.below hb').k ((N26.out.below hb').k.len LZp1.out (by decide)) (N1.out.below (KG.out.trans (hb'.mono KG.out.size))) ((N1.out.below (KG.out.trans (hb'.mono KG.out.size))).len LZp1.out (by decide)) (rfl)
    refine CT.mono ?_
    rintro e w'' ⟨rfl, hb⟩
    exact ⟨_, rfl, rfl, hb⟩
  rintro _ rfl
  conv => arg 10; simp only [Act.put, List.setIfInBounds_toArray, List.set_cons_succ, List.set_cons_zero]
  refine Go.FreshS.wpF_reads rfl rfl rfl ?_ (fun w' hw' => ?_) ?_
  rotate_left
  · have hb' := hw'.world
    skip
    clear hw'
    go_simp
    try rfl
  conv => arg 10; simp only [Act.put, List.setIfInBounds_toArray, List.set_cons_succ, List.set_cons_zero]
  refine Go.FreshS.wpF_reads rfl rfl rfl ?_ (fun w' hw' => ?_) ?_
  rotate_left
  · have hb' := hw'.world
    skip
    clear hw'
    go_simp
    try rfl
  conv => arg 10; simp only [Act.put, List.setIfInBounds_toArray, List.set_cons_succ, List.set_cons_zero]
  refine Go.FreshS.wpF_readsG (by rfl) rfl rfl ?_ (fun w' hw' => ?_) ?_
  rotate_left
  · have hb' := hw'.world
    have hs0 := (BX24.out.below hb' BX24.out.lt).cell (i := 0) rfl
    have hs1 := (BX24.out.below hb' BX24.out.lt).cell (i := 1) rfl
    have hsf := (BX24.out.below hb' BX24.out.lt).fz
    have hsl := (BX24.out.below hb' BX24.out.lt).lt
    clear hw'
    go_simp
    try rfl
  conv => arg 10; simp only [Act.put, List.setIfInBounds_toArray, List.set_cons_succ, List.set_cons_zero]
  refine Go.FreshS.wpF_gspec (by rfl) rfl rfl (fun w' hw' => ?_) ?_
  · have hb' := hw'.world
    refine Go.FreshS.gives_of (Go.FreshS.PK (.int .i64 0)) ?_ (fun _ _ h => h.post)
    go_simp
    have CT := signN (N27.out.below hb').k.any ((N27.out.below hb').k.len LZzs.out (by decide))
    rw [show cmpZ zs 0 = 0 from cmpZ_eq Hzs.out] at CT
    refine CT.mono ?_
    rintro e w'' ⟨rfl, hb⟩
    exact ⟨_, rfl, rfl, hb⟩
  rintro _ rfl
  conv => arg 10; simp only [Act.put, List.setIfInBounds_toArray, List.set_cons_succ, List.set_cons_zero]
  refine Go.FreshS.wpF_readsG (by rfl) rfl rfl ?_ (fun w' hw' => ?_) ?_
  rotate_left
  · have hb' := hw'.world
    skip
    clear hw'
    go_simp
    try rfl
  conv => arg 10; simp only [Act.put, List.setIfInBounds_toArray, List.set_cons_succ, List.set_cons_zero]
  refine Go.FreshS.wpF_reads rfl rfl rfl ?_ (fun w' hw' => ?_) ?_
  rotate_left
  · have hb' := hw'.world
    skip
    clear hw'
    go_simp
    try rfl
  conv => arg 10; simp only [Act.put, List.setIfInBounds_toArray, List.set_cons_succ, List.set_cons_zero]
  refine Go.FreshS.wpF_nil (fun w28 hb hF => ?_)
  clear hF
  clear N13
  clear N14
  clear N21
  clear N26
  clear N27
  clear BX1
  clear BX2
  clear BX15
  clear BX16
  clear BX19
  clear BX23
  clear BX24
  have KG := Lib.hid (KG.out.trans (hb.mono KG.out.size))
  clear hb
  go_wp2_with fail
  go_ret
  exact ⟨rfl, KG.out⟩
theorem limbsOften_law (s1 : Bool) (a1 : Option Addr) (n1 c1 : Nat) (o1 : Nat → Int) (s2 : Bool) (a2 : Option Addr) (n2 c2 : Nat) (o2 : Nat → Int) (w : World) (htab : Tab w)
    (h1 : Rd w a1 n1 o1) (hc1 : n1 ≤ c1) (h2 : Rd w a2 n2 o2) (hc2 : n2 ≤ c2) :
    Calls Tryz.prog 6 #[numV s1 a1 n1 c1, numV s2 a2 n2 c2] w fun e w' => e = .returned (.bool true) ∧ Below w.heap.size w w' := by
  by_cases hg : 60 < n1 ∨ 60 < n2
  · exact often_great ⟨s1, a1, n1, c1⟩ ⟨s2, a2, n2, c2⟩ _ _ w htab (AN.raw h1 hc1) (AN.raw h2 hc2) hg
  · have b1 : n1 ≤ 60 := by omega
    have b2 : n2 ≤ 60 := by omega
    by_cases k1 : okN s1 n1 o1
    · by_cases k2 : okN s2 n2 o2
      · by_cases hz : valN s2 n2 o2 = 0
        · exact often_zero ⟨s1, a1, n1, c1⟩ ⟨s2, a2, n2, c2⟩ _ _ w htab (KN.raw h1 hc1 k1) b1 (KN.raw h2 hc2 k2) b2 hz
        · exact often_ok ⟨s1, a1, n1, c1⟩ ⟨s2, a2, n2, c2⟩ _ _ w htab (KN.raw h1 hc1 k1) b1 (KN.raw h2 hc2 k2) b2 hz
      · exact often_bad2 ⟨s1, a1, n1, c1⟩ ⟨s2, a2, n2, c2⟩ _ w htab (KN.raw h1 hc1 k1) b1 (XN.raw h2 hc2 k2) b2
    · exact often_bad1 ⟨s1, a1, n1, c1⟩ ⟨s2, a2, n2, c2⟩ _ w htab (XN.raw h1 hc1 k1) b1 (AN.raw h2 hc2) b2
end Go.Proofs.YtkpajfjjhbbieaaGreatDoor.Limb
namespace Go.Proofs.YtkpajfjjhbbieaaGreatDoor.Limb
open Go.RowKit Go.Sort

/-! ### The row and the card -/
open Go.ChangeShapes Go.WideShapes Go.ChangeAt
namespace LimbsOftenC
theorem own : ownKnob Tryz.prog.godebug = none := by kernel_rfl
theorem laidOut : laidOutB Tryz.prog = true := by kernel_rfl

theorem tab_of_laid (W : World) (hL : laidMet Tryz.prog Rows.limbsOftenRow.laid W) : Tab W :=
  Lib.tabIs_of_head (g := 2) (by kernel_rfl) (by kernel_rfl) (t := 235) (n := 20) (e := 74) Tryz.underlying235 Tryz.underlying74 (by kernel_rfl) (by kernel_rfl) hL.tail.tail
/-- A WORLD FOR THE WITNESS: the settled one, the tables holding what their initialisers lay. -/
noncomputable def laidWorld (os : Os) : World := World.laidAll Tryz.prog os Rows.limbsOftenRow.laid
noncomputable def witArgs : Array Value := #[numV false none 0 0, numV false none 0 0]
theorem laid_met (os : Os) : laidMet Tryz.prog Rows.limbsOftenRow.laid ((laidWorld os).forCall (fun _ _ => 0) ⟨#[], witArgs, []⟩).memory :=
  laidMet_laidAll _ (by kernel_rfl) (by kernel_rfl)
theorem reads (os : Os) {H : Type} (enc : TypeId × Value → H) : ∃ places, DataW.whole enc Tryz.prog ((laidWorld os).forCall (fun _ _ => 0) ⟨#[], witArgs, []⟩).memory Tryz.f6.params.toList Rows.limbsOftenSpec.vars false witArgs.toList 8 = some ([.agg [.lit (.bool false), .nil], .agg [.lit (.bool false), .nil]], [], places) :=
  ⟨[], by kernel_rfl⟩

set_option maxRecDepth 100000 in
theorem lifted (os : Os) (started : os.Started) (H : Type) (enc : TypeId × Value → H) (F : Stop.Interp) :
    ReturnsInHanded {} Tryz.checked os 6 .any ((OpenSpec.ofChange Rows.limbsOftenSpec).preRow enc Tryz.prog Tryz.f6 Rows.limbsOftenRow.domain false Rows.limbsOftenRow.laid) (((OpenSpec.ofChange Rows.limbsOftenSpec).at F).post enc Tryz.prog Tryz.f6 false true false false) := by
  obtain ⟨places, hx⟩ := reads os enc
  refine returnsInHanded_of_row (C := Tryz.checked) (s := OpenSpec.ofChange Rows.limbsOftenSpec) own started (by kernel_rfl) Tryz.func6
    (witness_row_atRef (enc := enc) (C := Tryz.checked) false (laidWorld os) witArgs (World.laidAll_os _ _ _) (by kernel_rfl) (by kernel_rfl) (by kernel_rfl)
      (OpenSpec.preRow_of_cond 8 hx (by kernel_rfl) (fun k hk => by cases hk) (by kernel_rfl) (laid_met os))) ?_
  intro W base args ds gs before hval0 hW _ _ _ hL _ _
  rw [MakeChecks.laidMetH_plain _ _ _ (by kernel_rfl)] at hL
  have htab : Tab W := tab_of_laid W hL
  have hval : ∀ (j : Nat) t v, Tryz.f6.params[j]? = some t → args[j]? = some v → Value.okWide Tryz.prog W .any base t v := hval0
  have hW' := hW
  obtain ⟨p, q, hA0, hV, rfl, hfz, hnd⟩ := hW
  have hA : DataW.TrodAll enc Tryz.prog W 0 (fun _ => true) true Tryz.f6.params.toList args.toList ds p := hA0
  rw [Tryz.params6] at hA hval
  obtain ⟨v0, v1, d0, d1, p0, p1, rfl, rfl, rfl, h0, h1⟩ := trodAll_two hA
  obtain ⟨rfl, rfl⟩ := trodVars_none hV
  obtain ⟨s1, a1, n1, c1, o1, rfl, r1, l1⟩ := open_num (hval 0 24 v0 rfl rfl) h0
  obtain ⟨s2, a2, n2, c2, o2, rfl, r2, l2⟩ := open_num (hval 1 24 v1 rfl rfl) h1
  refine (limbsOften_law s1 a1 n1 c1 o1 s2 a2 n2 c2 o2 W htab r1 l1 r2 l2).mono fun e W' ⟨he, hg⟩ => ?_
  subst he
  exact ⟨_, rfl, LawPost.law_post laidOut (by kernel_rfl) (by kernel_rfl) Tryz.underlying4 hW' rfl rfl hg⟩

theorem said : Rows.LimbsOftenSaid :=
  OpenClaim.holds_of_cond 6 Tryz.f6 rfl rfl rfl rfl rfl rfl rfl ⟨rfl, rfl, rfl, rfl, rfl⟩ rfl rfl rfl rfl rfl (by kernel_rfl) Tryz.func6 (by kernel_rfl)
    (of_decide_eq_true (by kernel_rfl)) (by unfold Func.isWrapper; first | (rw [if_pos (by decide +kernel)]; kernel_rfl) | (rw [if_neg (by decide +kernel)]; exact ⟨rfl, rfl⟩))
    (fun os started H enc _ F => by rw [OpenClaim.pre_eq_preRow]; exact lifted os started H enc F)

/-- No parameter wants a stand-in; the program's own looks are off: what the card asks. -/
theorem plain (f : FuncId) (fn : Func) (hf : Tryz.pinned.checked.prog.funcNamed "reckoner/reckonerlaw01.LimbsOften" = some f) (hfn : Tryz.pinned.checked.prog.funcs[f]? = some fn) :
    true = Tryz.pinned.checked.prog.looks [] ∧ ∀ (j : Nat) t, fn.params[j]? = some t → Tryz.pinned.checked.prog.wantsStandIn t = false := by
  obtain rfl : f = 6 := Option.some.inj ((show Tryz.prog.funcNamed "reckoner/reckonerlaw01.LimbsOften" = some 6 by kernel_rfl).symm.trans hf) |>.symm
  obtain rfl : fn = Tryz.f6 := (Option.some.inj (Tryz.func6.symm.trans hfn)).symm
  refine ⟨by kernel_rfl, fun j t ht => ?_⟩
  rw [Tryz.params6] at ht
  obtain rfl : t = 24 := by simpa using Array.mem_of_getElem? ht
  exact (show Tryz.prog.wantsStandIn 24 = false by kernel_rfl)

/-- The card. -/
theorem card : Rows.LimbsOftenCardSaid :=
  Claim7.holds_tied_plain_at .later [] _ _ _ _ said (fun _ h => by cases h) (by kernel_rfl) (fun _ h => by cases h) limbsOften_row_tie rfl ⟨rfl, rfl⟩ (by kernel_rfl) rfl plain (by kernel_rfl)
#print axioms card
end LimbsOftenC
end Go.Proofs.YtkpajfjjhbbieaaGreatDoor.Limb
