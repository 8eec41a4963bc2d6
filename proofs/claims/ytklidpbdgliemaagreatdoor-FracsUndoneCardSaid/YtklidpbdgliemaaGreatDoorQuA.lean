/-
  What is added is taken off again; what is multiplied is divided again; a quotient is a product with 1 by the second one.
-/
import Derived.Test.YtklidpbdgliemaaGreatDoorQoI
set_option linter.unusedSimpArgs false
set_option linter.unusedVariables false
namespace Go.Proofs.YtklidpbdgliemaaGreatDoor.Limb
open Go.RowKit Go.Sort

set_option maxRecDepth 100000 in
set_option maxHeartbeats 8000000 in
theorem undone_great (x1 x2 : FV) (p1 p2 : Rat) (w : World) (htab : Tab w) (h1 : AF w x1 p1) (h2 : AF w x2 p2) (hg : (10 < x1.t.n ∨ 10 < x1.l.n) ∨ (10 < x2.t.n ∨ 10 < x2.l.n)) : Calls Tryz.prog 7 #[x1.v, x2.v] w fun e w' => e = .returned (.bool true) ∧ Below w.heap.size w w' := by
  have HT := Lib.hid htab
  have KG := Lib.hid (Below.refl w.heap.size w)
  have N1 := Lib.hid h1
  have N2 := Lib.hid h2
  have HG := Lib.hid hg
  clear hg
  clear htab h1 h2
  go_enter Tryz.func7, Tryz.ntmps7
  go_upto_region 1 with (fail)
  obtain ⟨v3, hV⟩ : ∃ V, V = (w.alloc (.cells #[.bool x1.t.s, .slice x1.t.a x1.t.n x1.t.c, .bool x1.l.s, .slice x1.l.a x1.l.n x1.l.c] 26)).alloc (.cells #[.bool x2.t.s, .slice x2.t.a x2.t.n x2.t.c, .bool x2.l.s, .slice x2.l.a x2.l.n x2.l.c] 26) := ⟨_, rfl⟩
  have hbV : Below w.heap.size w v3 := by rw [hV]; exact (((Below.refl _ _).alloc (Nat.le_refl _) _).alloc (by go_size) _)
  have BX1 := Lib.hid (show Bxs v3 (w.heap.size) 26 [.bool x1.t.s, .slice x1.t.a x1.t.n x1.t.c, .bool x1.l.s, .slice x1.l.a x1.l.n x1.l.c] by have h := (Bxs.new (w) 26 [.bool x1.t.s, .slice x1.t.a x1.t.n x1.t.c, .bool x1.l.s, .slice x1.l.a x1.l.n x1.l.c]).alloc (.cells #[.bool x2.t.s, .slice x2.t.a x2.t.n x2.t.c, .bool x2.l.s, .slice x2.l.a x2.l.n x2.l.c] 26); rw [hV]; exact h)
  have BX2 := Lib.hid (show Bxs v3 (w.heap.size + 1) 26 [.bool x2.t.s, .slice x2.t.a x2.t.n x2.t.c, .bool x2.l.s, .slice x2.l.a x2.l.n x2.l.c] by have h := Bxs.new (w.alloc (.cells #[.bool x1.t.s, .slice x1.t.a x1.t.n x1.t.c, .bool x1.l.s, .slice x1.l.a x1.l.n x1.l.c] 26)) 26 [.bool x2.t.s, .slice x2.t.a x2.t.n x2.t.c, .bool x2.l.s, .slice x2.l.a x2.l.n x2.l.c]; simp only [World.size_alloc] at h; rw [hV]; exact h)
  rw [show (w.alloc (.cells #[.bool x1.t.s, .slice x1.t.a x1.t.n x1.t.c, .bool x1.l.s, .slice x1.l.a x1.l.n x1.l.c] 26)).alloc (.cells #[.bool x2.t.s, .slice x2.t.a x2.t.n x2.t.c, .bool x2.l.s, .slice x2.l.a x2.l.n x2.l.c] 26) = v3 from hV.symm]
  have KG := Lib.hid (KG.out.trans (hbV.mono KG.out.size))
  clear hV hbV
  go_wp2_with fail
  have CT := Lib.hid (qalive v3 (HT.out.on KG.out))
  with_reducible refine CT.out.mono ?_
  rintro e w4 ⟨rfl, hb⟩
  clear CT
  have BX1 := Lib.hid (BX1.out.below hb BX1.out.lt)
  have BX2 := Lib.hid (BX2.out.below hb BX2.out.lt)
  have KG := Lib.hid (KG.out.trans (hb.mono KG.out.size))
  clear hb
  have cBX10 := BX1.out.cell (i := 0) rfl
  have cBX11 := BX1.out.cell (i := 1) rfl
  have cBX12 := BX1.out.cell (i := 2) rfl
  have cBX13 := BX1.out.cell (i := 3) rfl
  have cBX1f := BX1.out.fz
  have cBX1l := BX1.out.lt
  have cBX20 := BX2.out.cell (i := 0) rfl
  have cBX21 := BX2.out.cell (i := 1) rfl
  have cBX22 := BX2.out.cell (i := 2) rfl
  have cBX23 := BX2.out.cell (i := 3) rfl
  have cBX2f := BX2.out.fz
  have cBX2l := BX2.out.lt
  go_wp2_with fail
  clear cBX10 cBX11 cBX12 cBX13 cBX1f cBX1l
  clear cBX20 cBX21 cBX22 cBX23 cBX2f cBX2l
  obtain ⟨v6, hV⟩ : ∃ V, V = w4.alloc (.cells #[.bool x1.t.s, .slice x1.t.a x1.t.n x1.t.c, .bool x1.l.s, .slice x1.l.a x1.l.n x1.l.c, .bool x2.t.s, .slice x2.t.a x2.t.n x2.t.c, .bool x2.l.s, .slice x2.l.a x2.l.n x2.l.c] 26) := ⟨_, rfl⟩
  have hbV : Below w4.heap.size w4 v6 := by rw [hV]; exact ((Below.refl _ _).alloc (Nat.le_refl _) _)
  have BX5 := Lib.hid (show Bxs v6 (w4.heap.size) 26 [.bool x1.t.s, .slice x1.t.a x1.t.n x1.t.c, .bool x1.l.s, .slice x1.l.a x1.l.n x1.l.c, .bool x2.t.s, .slice x2.t.a x2.t.n x2.t.c, .bool x2.l.s, .slice x2.l.a x2.l.n x2.l.c] by have h := Bxs.new (w4) 26 [.bool x1.t.s, .slice x1.t.a x1.t.n x1.t.c, .bool x1.l.s, .slice x1.l.a x1.l.n x1.l.c, .bool x2.t.s, .slice x2.t.a x2.t.n x2.t.c, .bool x2.l.s, .slice x2.l.a x2.l.n x2.l.c]; rw [hV]; exact h)
  rw [show w4.alloc (.cells #[.bool x1.t.s, .slice x1.t.a x1.t.n x1.t.c, .bool x1.l.s, .slice x1.l.a x1.l.n x1.l.c, .bool x2.t.s, .slice x2.t.a x2.t.n x2.t.c, .bool x2.l.s, .slice x2.l.a x2.l.n x2.l.c] 26) = v6 from hV.symm]
  have BX1 := Lib.hid (BX1.out.below hbV BX1.out.lt)
  have BX2 := Lib.hid (BX2.out.below hbV BX2.out.lt)
  have KG := Lib.hid (KG.out.trans (hbV.mono KG.out.size))
  clear hV hbV
  have cBX10 := BX1.out.cell (i := 0) rfl
  have cBX11 := BX1.out.cell (i := 1) rfl
  have cBX12 := BX1.out.cell (i := 2) rfl
  have cBX13 := BX1.out.cell (i := 3) rfl
  have cBX1f := BX1.out.fz
  have cBX1l := BX1.out.lt
  have cBX20 := BX2.out.cell (i := 0) rfl
  have cBX21 := BX2.out.cell (i := 1) rfl
  have cBX22 := BX2.out.cell (i := 2) rfl
  have cBX23 := BX2.out.cell (i := 3) rfl
  have cBX2f := BX2.out.fz
  have cBX2l := BX2.out.lt
  have CT := Lib.hid (qgreat2 (M := 10) BX5.out)
  rw [show ((10 : Nat) : Int) = 10 from rfl, show decide ((10 < x1.t.n ∨ 10 < x1.l.n) ∨ (10 < x2.t.n ∨ 10 < x2.l.n)) = true from decide_eq_true HG.out] at CT
  with_reducible refine CT.out.mono ?_
  rintro e w7 ⟨rfl, hb⟩
  clear CT
  clear cBX10 cBX11 cBX12 cBX13 cBX1f cBX1l
  clear cBX20 cBX21 cBX22 cBX23 cBX2f cBX2l
  clear BX1
  clear BX2
  clear BX5
  have KG := Lib.hid (KG.out.trans (hb.mono KG.out.size))
  clear hb
  go_wp2_with fail
  have CT := Lib.hid (qalive w7 (HT.out.on KG.out))
  with_reducible refine CT.out.mono ?_
  rintro e w8 ⟨rfl, hb⟩
  clear CT
  have KG := Lib.hid (KG.out.trans (hb.mono KG.out.size))
  clear hb
  go_wp2_with fail
  go_ret
  exact ⟨rfl, KG.out⟩
set_option maxRecDepth 100000 in
set_option maxHeartbeats 8000000 in
theorem undone_bad1 (x1 x2 : FV) (p1 p2 : Rat) (w : World) (htab : Tab w) (h1 : BF w x1) (h2 : AF w x2 p2) (b1 : LF x1 10) (b2 : LF x2 10) : Calls Tryz.prog 7 #[x1.v, x2.v] w fun e w' => e = .returned (.bool true) ∧ Below w.heap.size w w' := by
  have HT := Lib.hid htab
  have KG := Lib.hid (Below.refl w.heap.size w)
  have N1 := Lib.hid h1
  have N2 := Lib.hid h2
  have Bx1 := Lib.hid b1
  have Bx2 := Lib.hid b2
  have LQp2 := Lib.hid (h2.len b2)
  clear htab h1 h2 b1 b2
  go_enter Tryz.func7, Tryz.ntmps7
  go_upto_region 1 with (fail)
  obtain ⟨v3, hV⟩ : ∃ V, V = (w.alloc (.cells #[.bool x1.t.s, .slice x1.t.a x1.t.n x1.t.c, .bool x1.l.s, .slice x1.l.a x1.l.n x1.l.c] 26)).alloc (.cells #[.bool x2.t.s, .slice x2.t.a x2.t.n x2.t.c, .bool x2.l.s, .slice x2.l.a x2.l.n x2.l.c] 26) := ⟨_, rfl⟩
  have hbV : Below w.heap.size w v3 := by rw [hV]; exact (((Below.refl _ _).alloc (Nat.le_refl _) _).alloc (by go_size) _)
  have BX1 := Lib.hid (show Bxs v3 (w.heap.size) 26 [.bool x1.t.s, .slice x1.t.a x1.t.n x1.t.c, .bool x1.l.s, .slice x1.l.a x1.l.n x1.l.c] by have h := (Bxs.new (w) 26 [.bool x1.t.s, .slice x1.t.a x1.t.n x1.t.c, .bool x1.l.s, .slice x1.l.a x1.l.n x1.l.c]).alloc (.cells #[.bool x2.t.s, .slice x2.t.a x2.t.n x2.t.c, .bool x2.l.s, .slice x2.l.a x2.l.n x2.l.c] 26); rw [hV]; exact h)
  have BX2 := Lib.hid (show Bxs v3 (w.heap.size + 1) 26 [.bool x2.t.s, .slice x2.t.a x2.t.n x2.t.c, .bool x2.l.s, .slice x2.l.a x2.l.n x2.l.c] by have h := Bxs.new (w.alloc (.cells #[.bool x1.t.s, .slice x1.t.a x1.t.n x1.t.c, .bool x1.l.s, .slice x1.l.a x1.l.n x1.l.c] 26)) 26 [.bool x2.t.s, .slice x2.t.a x2.t.n x2.t.c, .bool x2.l.s, .slice x2.l.a x2.l.n x2.l.c]; simp only [World.size_alloc] at h; rw [hV]; exact h)
  rw [show (w.alloc (.cells #[.bool x1.t.s, .slice x1.t.a x1.t.n x1.t.c, .bool x1.l.s, .slice x1.l.a x1.l.n x1.l.c] 26)).alloc (.cells #[.bool x2.t.s, .slice x2.t.a x2.t.n x2.t.c, .bool x2.l.s, .slice x2.l.a x2.l.n x2.l.c] 26) = v3 from hV.symm]
  have KG := Lib.hid (KG.out.trans (hbV.mono KG.out.size))
  clear hV hbV
  go_wp2_with fail
  have CT := Lib.hid (qalive v3 (HT.out.on KG.out))
  with_reducible refine CT.out.mono ?_
  rintro e w4 ⟨rfl, hb⟩
  clear CT
  have BX1 := Lib.hid (BX1.out.below hb BX1.out.lt)
  have BX2 := Lib.hid (BX2.out.below hb BX2.out.lt)
  have KG := Lib.hid (KG.out.trans (hb.mono KG.out.size))
  clear hb
  have cBX10 := BX1.out.cell (i := 0) rfl
  have cBX11 := BX1.out.cell (i := 1) rfl
  have cBX12 := BX1.out.cell (i := 2) rfl
  have cBX13 := BX1.out.cell (i := 3) rfl
  have cBX1f := BX1.out.fz
  have cBX1l := BX1.out.lt
  have cBX20 := BX2.out.cell (i := 0) rfl
  have cBX21 := BX2.out.cell (i := 1) rfl
  have cBX22 := BX2.out.cell (i := 2) rfl
  have cBX23 := BX2.out.cell (i := 3) rfl
  have cBX2f := BX2.out.fz
  have cBX2l := BX2.out.lt
  go_wp2_with fail
  clear cBX10 cBX11 cBX12 cBX13 cBX1f cBX1l
  clear cBX20 cBX21 cBX22 cBX23 cBX2f cBX2l
  obtain ⟨v6, hV⟩ : ∃ V, V = w4.alloc (.cells #[.bool x1.t.s, .slice x1.t.a x1.t.n x1.t.c, .bool x1.l.s, .slice x1.l.a x1.l.n x1.l.c, .bool x2.t.s, .slice x2.t.a x2.t.n x2.t.c, .bool x2.l.s, .slice x2.l.a x2.l.n x2.l.c] 26) := ⟨_, rfl⟩
  have hbV : Below w4.heap.size w4 v6 := by rw [hV]; exact ((Below.refl _ _).alloc (Nat.le_refl _) _)
  have BX5 := Lib.hid (show Bxs v6 (w4.heap.size) 26 [.bool x1.t.s, .slice x1.t.a x1.t.n x1.t.c, .bool x1.l.s, .slice x1.l.a x1.l.n x1.l.c, .bool x2.t.s, .slice x2.t.a x2.t.n x2.t.c, .bool x2.l.s, .slice x2.l.a x2.l.n x2.l.c] by have h := Bxs.new (w4) 26 [.bool x1.t.s, .slice x1.t.a x1.t.n x1.t.c, .bool x1.l.s, .slice x1.l.a x1.l.n x1.l.c, .bool x2.t.s, .slice x2.t.a x2.t.n x2.t.c, .bool x2.l.s, .slice x2.l.a x2.l.n x2.l.c]; rw [hV]; exact h)
  rw [show w4.alloc (.cells #[.bool x1.t.s, .slice x1.t.a x1.t.n x1.t.c, .bool x1.l.s, .slice x1.l.a x1.l.n x1.l.c, .bool x2.t.s, .slice x2.t.a x2.t.n x2.t.c, .bool x2.l.s, .slice x2.l.a x2.l.n x2.l.c] 26) = v6 from hV.symm]
  have BX1 := Lib.hid (BX1.out.below hbV BX1.out.lt)
  have BX2 := Lib.hid (BX2.out.below hbV BX2.out.lt)
  have KG := Lib.hid (KG.out.trans (hbV.mono KG.out.size))
  clear hV hbV
  have cBX10 := BX1.out.cell (i := 0) rfl
  have cBX11 := BX1.out.cell (i := 1) rfl
  have cBX12 := BX1.out.cell (i := 2) rfl
  have cBX13 := BX1.out.cell (i := 3) rfl
  have cBX1f := BX1.out.fz
  have cBX1l := BX1.out.lt
  have cBX20 := BX2.out.cell (i := 0) rfl
  have cBX21 := BX2.out.cell (i := 1) rfl
  have cBX22 := BX2.out.cell (i := 2) rfl
  have cBX23 := BX2.out.cell (i := 3) rfl
  have cBX2f := BX2.out.fz
  have cBX2l := BX2.out.lt
  have CT := Lib.hid (qgreat2 (M := 10) BX5.out)
  rw [show ((10 : Nat) : Int) = 10 from rfl, show decide ((10 < x1.t.n ∨ 10 < x1.l.n) ∨ (10 < x2.t.n ∨ 10 < x2.l.n)) = false from decide_eq_false (by have g0 := Bx1.out; have g1 := Bx2.out; omega)] at CT
  with_reducible refine CT.out.mono ?_
  rintro e w7 ⟨rfl, hb⟩
  clear CT
  clear cBX10 cBX11 cBX12 cBX13 cBX1f cBX1l
  clear cBX20 cBX21 cBX22 cBX23 cBX2f cBX2l
  have BX1 := Lib.hid (BX1.out.below hb BX1.out.lt)
  clear BX2
  clear BX5
  have KG := Lib.hid (KG.out.trans (hb.mono KG.out.size))
  clear hb
  have cBX10 := BX1.out.cell (i := 0) rfl
  have cBX11 := BX1.out.cell (i := 1) rfl
  have cBX12 := BX1.out.cell (i := 2) rfl
  have cBX13 := BX1.out.cell (i := 3) rfl
  have cBX1f := BX1.out.fz
  have cBX1l := BX1.out.lt
  go_wp2_with fail
  have CT := Lib.hid (qcheckB (N1.out.below KG.out) (LF.up Bx1.out (by decide : _ ≤ 900000)))
  with_reducible refine CT.out.mono ?_
  rintro e w8 ⟨rfl, hb⟩
  clear CT
  clear cBX10 cBX11 cBX12 cBX13 cBX1f cBX1l
  clear BX1
  have KG := Lib.hid (KG.out.trans (hb.mono KG.out.size))
  clear hb
  go_wp2_with fail
  have CT := Lib.hid (qalive w8 (HT.out.on KG.out))
  with_reducible refine CT.out.mono ?_
  rintro e w9 ⟨rfl, hb⟩
  clear CT
  have KG := Lib.hid (KG.out.trans (hb.mono KG.out.size))
  clear hb
  go_wp2_with fail
  go_ret
  exact ⟨rfl, KG.out⟩
set_option maxRecDepth 100000 in
set_option maxHeartbeats 8000000 in
theorem undone_bad2 (x1 x2 : FV) (p1 p2 : Rat) (w : World) (htab : Tab w) (h1 : KF w x1 p1) (h2 : BF w x2) (b1 : LF x1 10) (b2 : LF x2 10) : Calls Tryz.prog 7 #[x1.v, x2.v] w fun e w' => e = .returned (.bool true) ∧ Below w.heap.size w w' := by
  have HT := Lib.hid htab
  have KG := Lib.hid (Below.refl w.heap.size w)
  have N1 := Lib.hid h1
  have N2 := Lib.hid h2
  have LQp1 := Lib.hid (h1.lq b1)
  have Bx2 := Lib.hid b2
  clear htab h1 h2 b1 b2
  go_enter Tryz.func7, Tryz.ntmps7
  go_upto_region 1 with (fail)
  obtain ⟨v3, hV⟩ : ∃ V, V = (w.alloc (.cells #[.bool x1.t.s, .slice x1.t.a x1.t.n x1.t.c, .bool x1.l.s, .slice x1.l.a x1.l.n x1.l.c] 26)).alloc (.cells #[.bool x2.t.s, .slice x2.t.a x2.t.n x2.t.c, .bool x2.l.s, .slice x2.l.a x2.l.n x2.l.c] 26) := ⟨_, rfl⟩
  have hbV : Below w.heap.size w v3 := by rw [hV]; exact (((Below.refl _ _).alloc (Nat.le_refl _) _).alloc (by go_size) _)
  have BX1 := Lib.hid (show Bxs v3 (w.heap.size) 26 [.bool x1.t.s, .slice x1.t.a x1.t.n x1.t.c, .bool x1.l.s, .slice x1.l.a x1.l.n x1.l.c] by have h := (Bxs.new (w) 26 [.bool x1.t.s, .slice x1.t.a x1.t.n x1.t.c, .bool x1.l.s, .slice x1.l.a x1.l.n x1.l.c]).alloc (.cells #[.bool x2.t.s, .slice x2.t.a x2.t.n x2.t.c, .bool x2.l.s, .slice x2.l.a x2.l.n x2.l.c] 26); rw [hV]; exact h)
  have BX2 := Lib.hid (show Bxs v3 (w.heap.size + 1) 26 [.bool x2.t.s, .slice x2.t.a x2.t.n x2.t.c, .bool x2.l.s, .slice x2.l.a x2.l.n x2.l.c] by have h := Bxs.new (w.alloc (.cells #[.bool x1.t.s, .slice x1.t.a x1.t.n x1.t.c, .bool x1.l.s, .slice x1.l.a x1.l.n x1.l.c] 26)) 26 [.bool x2.t.s, .slice x2.t.a x2.t.n x2.t.c, .bool x2.l.s, .slice x2.l.a x2.l.n x2.l.c]; simp only [World.size_alloc] at h; rw [hV]; exact h)
  rw [show (w.alloc (.cells #[.bool x1.t.s, .slice x1.t.a x1.t.n x1.t.c, .bool x1.l.s, .slice x1.l.a x1.l.n x1.l.c] 26)).alloc (.cells #[.bool x2.t.s, .slice x2.t.a x2.t.n x2.t.c, .bool x2.l.s, .slice x2.l.a x2.l.n x2.l.c] 26) = v3 from hV.symm]
  have KG := Lib.hid (KG.out.trans (hbV.mono KG.out.size))
  clear hV hbV
  go_wp2_with fail
  have CT := Lib.hid (qalive v3 (HT.out.on KG.out))
  with_reducible refine CT.out.mono ?_
  rintro e w4 ⟨rfl, hb⟩
  clear CT
  have BX1 := Lib.hid (BX1.out.below hb BX1.out.lt)
  have BX2 := Lib.hid (BX2.out.below hb BX2.out.lt)
  have KG := Lib.hid (KG.out.trans (hb.mono KG.out.size))
  clear hb
  have cBX10 := BX1.out.cell (i := 0) rfl
  have cBX11 := BX1.out.cell (i := 1) rfl
  have cBX12 := BX1.out.cell (i := 2) rfl
  have cBX13 := BX1.out.cell (i := 3) rfl
  have cBX1f := BX1.out.fz
  have cBX1l := BX1.out.lt
  have cBX20 := BX2.out.cell (i := 0) rfl
  have cBX21 := BX2.out.cell (i := 1) rfl
  have cBX22 := BX2.out.cell (i := 2) rfl
  have cBX23 := BX2.out.cell (i := 3) rfl
  have cBX2f := BX2.out.fz
  have cBX2l := BX2.out.lt
  go_wp2_with fail
  clear cBX10 cBX11 cBX12 cBX13 cBX1f cBX1l
  clear cBX20 cBX21 cBX22 cBX23 cBX2f cBX2l
  obtain ⟨v6, hV⟩ : ∃ V, V = w4.alloc (.cells #[.bool x1.t.s, .slice x1.t.a x1.t.n x1.t.c, .bool x1.l.s, .slice x1.l.a x1.l.n x1.l.c, .bool x2.t.s, .slice x2.t.a x2.t.n x2.t.c, .bool x2.l.s, .slice x2.l.a x2.l.n x2.l.c] 26) := ⟨_, rfl⟩
  have hbV : Below w4.heap.size w4 v6 := by rw [hV]; exact ((Below.refl _ _).alloc (Nat.le_refl _) _)
  have BX5 := Lib.hid (show Bxs v6 (w4.heap.size) 26 [.bool x1.t.s, .slice x1.t.a x1.t.n x1.t.c, .bool x1.l.s, .slice x1.l.a x1.l.n x1.l.c, .bool x2.t.s, .slice x2.t.a x2.t.n x2.t.c, .bool x2.l.s, .slice x2.l.a x2.l.n x2.l.c] by have h := Bxs.new (w4) 26 [.bool x1.t.s, .slice x1.t.a x1.t.n x1.t.c, .bool x1.l.s, .slice x1.l.a x1.l.n x1.l.c, .bool x2.t.s, .slice x2.t.a x2.t.n x2.t.c, .bool x2.l.s, .slice x2.l.a x2.l.n x2.l.c]; rw [hV]; exact h)
  rw [show w4.alloc (.cells #[.bool x1.t.s, .slice x1.t.a x1.t.n x1.t.c, .bool x1.l.s, .slice x1.l.a x1.l.n x1.l.c, .bool x2.t.s, .slice x2.t.a x2.t.n x2.t.c, .bool x2.l.s, .slice x2.l.a x2.l.n x2.l.c] 26) = v6 from hV.symm]
  have BX1 := Lib.hid (BX1.out.below hbV BX1.out.lt)
  have BX2 := Lib.hid (BX2.out.below hbV BX2.out.lt)
  have KG := Lib.hid (KG.out.trans (hbV.mono KG.out.size))
  clear hV hbV
  have cBX10 := BX1.out.cell (i := 0) rfl
  have cBX11 := BX1.out.cell (i := 1) rfl
  have cBX12 := BX1.out.cell (i := 2) rfl
  have cBX13 := BX1.out.cell (i := 3) rfl
  have cBX1f := BX1.out.fz
  have cBX1l := BX1.out.lt
  have cBX20 := BX2.out.cell (i := 0) rfl
  have cBX21 := BX2.out.cell (i := 1) rfl
  have cBX22 := BX2.out.cell (i := 2) rfl
  have cBX23 := BX2.out.cell (i := 3) rfl
  have cBX2f := BX2.out.fz
  have cBX2l := BX2.out.lt
  have CT := Lib.hid (qgreat2 (M := 10) BX5.out)
  rw [show ((10 : Nat) : Int) = 10 from rfl, show decide ((10 < x1.t.n ∨ 10 < x1.l.n) ∨ (10 < x2.t.n ∨ 10 < x2.l.n)) = false from decide_eq_false (by have g0 := (((N1.out.below KG.out)).len LQp1.out (by decide : _ ≤ 10)); have g1 := Bx2.out; omega)] at CT
  with_reducible refine CT.out.mono ?_
  rintro e w7 ⟨rfl, hb⟩
  clear CT
  clear cBX10 cBX11 cBX12 cBX13 cBX1f cBX1l
  clear cBX20 cBX21 cBX22 cBX23 cBX2f cBX2l
  have BX1 := Lib.hid (BX1.out.below hb BX1.out.lt)
  have BX2 := Lib.hid (BX2.out.below hb BX2.out.lt)
  clear BX5
  have KG := Lib.hid (KG.out.trans (hb.mono KG.out.size))
  clear hb
  have cBX10 := BX1.out.cell (i := 0) rfl
  have cBX11 := BX1.out.cell (i := 1) rfl
  have cBX12 := BX1.out.cell (i := 2) rfl
  have cBX13 := BX1.out.cell (i := 3) rfl
  have cBX1f := BX1.out.fz
  have cBX1l := BX1.out.lt
  go_wp2_with fail
  have CT := Lib.hid (qcheck (N1.out.below KG.out) (((N1.out.below KG.out)).len LQp1.out (by decide : _ ≤ 900000)))
  with_reducible refine CT.out.mono ?_
  rintro e w8 ⟨rfl, hb⟩
  clear CT
  clear cBX10 cBX11 cBX12 cBX13 cBX1f cBX1l
  clear BX1
  have BX2 := Lib.hid (BX2.out.below hb BX2.out.lt)
  have KG := Lib.hid (KG.out.trans (hb.mono KG.out.size))
  clear hb
  have cBX20 := BX2.out.cell (i := 0) rfl
  have cBX21 := BX2.out.cell (i := 1) rfl
  have cBX22 := BX2.out.cell (i := 2) rfl
  have cBX23 := BX2.out.cell (i := 3) rfl
  have cBX2f := BX2.out.fz
  have cBX2l := BX2.out.lt
  go_wp2_with fail
  have CT := Lib.hid (qcheckB (N2.out.below KG.out) (LF.up Bx2.out (by decide : _ ≤ 900000)))
  with_reducible refine CT.out.mono ?_
  rintro e w9 ⟨rfl, hb⟩
  clear CT
  clear cBX20 cBX21 cBX22 cBX23 cBX2f cBX2l
  clear BX2
  have KG := Lib.hid (KG.out.trans (hb.mono KG.out.size))
  clear hb
  go_wp2_with fail
  have CT := Lib.hid (qalive w9 (HT.out.on KG.out))
  with_reducible refine CT.out.mono ?_
  rintro e w10 ⟨rfl, hb⟩
  clear CT
  have KG := Lib.hid (KG.out.trans (hb.mono KG.out.size))
  clear hb
  go_wp2_with fail
  go_ret
  exact ⟨rfl, KG.out⟩
set_option maxRecDepth 100000 in
set_option maxHeartbeats 8000000 in
theorem undone_zero (x1 x2 : FV) (p1 p2 : Rat) (w : World) (htab : Tab w) (h1 : KF w x1 p1) (h2 : KF w x2 p2) (b1 : LF x1 10) (b2 : LF x2 10) (hz : p2 = 0) : Calls Tryz.prog 7 #[x1.v, x2.v] w fun e w' => e = .returned (.bool true) ∧ Below w.heap.size w w' := by
  have HT := Lib.hid htab
  have KG := Lib.hid (Below.refl w.heap.size w)
  have N1 := Lib.hid h1
  have N2 := Lib.hid h2
  have LQp1 := Lib.hid (h1.lq b1)
  have LQp2 := Lib.hid (h2.lq b2)
  have HZ := Lib.hid hz
  clear hz
  clear htab h1 h2 b1 b2
  obtain ⟨q10, hq10⟩ : ∃ z : Rat, z = p1 + p2 := ⟨_, rfl⟩
  have Hq10 := Lib.hid hq10
  have LQq10 := Lib.hid (show LQ q10 21 by rw [hq10]; exact LQ.add (LQp1.out.up (by decide : _ ≤ 10)) (LQp2.out.up (by decide : _ ≤ 10)) (by decide))
  clear hq10
  obtain ⟨q11, hq11⟩ : ∃ z : Rat, z = q10 - p2 := ⟨_, rfl⟩
  have Hq11 := Lib.hid hq11
  have LQq11 := Lib.hid (show LQ q11 43 by rw [hq11]; exact LQ.sub (LQq10.out.up (by decide : _ ≤ 21)) (LQp2.out.up (by decide : _ ≤ 21)) (by decide))
  clear hq11
  obtain ⟨q12, hq12⟩ : ∃ z : Rat, z = p1 - p1 := ⟨_, rfl⟩
  have Hq12 := Lib.hid hq12
  have LQq12 := Lib.hid (show LQ q12 21 by rw [hq12]; exact LQ.sub (LQp1.out.up (by decide : _ ≤ 10)) (LQp1.out.up (by decide : _ ≤ 10)) (by decide))
  clear hq12
  obtain ⟨q13, hq13⟩ : ∃ z : Rat, z = ((0 : Int) : Rat) / ((1 : Int) : Rat) := ⟨_, rfl⟩
  have Hq13 := Lib.hid hq13
  have LQq13 := Lib.hid (show LQ q13 3 by rw [hq13]; exact LQ.of (by decide) (by decide) (by decide) (by decide) (by decide))
  clear hq13
  obtain ⟨q14, hq14⟩ : ∃ z : Rat, z = p1 - p2 := ⟨_, rfl⟩
  have Hq14 := Lib.hid hq14
  have LQq14 := Lib.hid (show LQ q14 21 by rw [hq14]; exact LQ.sub (LQp1.out.up (by decide : _ ≤ 10)) (LQp2.out.up (by decide : _ ≤ 10)) (by decide))
  clear hq14
  obtain ⟨q15, hq15⟩ : ∃ z : Rat, z = q14 + p2 := ⟨_, rfl⟩
  have Hq15 := Lib.hid hq15
  have LQq15 := Lib.hid (show LQ q15 43 by rw [hq15]; exact LQ.add (LQq14.out.up (by decide : _ ≤ 21)) (LQp2.out.up (by decide : _ ≤ 21)) (by decide))
  clear hq15
  obtain ⟨q17, hq17⟩ : ∃ z : Rat, z = p1 * p2 := ⟨_, rfl⟩
  have Hq17 := Lib.hid hq17
  have LQq17 := Lib.hid (show LQ q17 20 by rw [hq17]; exact LQ.mul (LQp1.out.up (by decide : _ ≤ 10)) (LQp2.out.up (by decide : _ ≤ 10)) (by decide))
  clear hq17
  obtain ⟨q24, hq24⟩ : ∃ z : Rat, z = ((1 : Int) : Rat) / ((1 : Int) : Rat) := ⟨_, rfl⟩
  have Hq24 := Lib.hid hq24
  have LQq24 := Lib.hid (show LQ q24 3 by rw [hq24]; exact LQ.of (by decide) (by decide) (by decide) (by decide) (by decide))
  clear hq24
  go_enter Tryz.func7, Tryz.ntmps7
  go_upto_region 1 with (fail)
  obtain ⟨v3, hV⟩ : ∃ V, V = (w.alloc (.cells #[.bool x1.t.s, .slice x1.t.a x1.t.n x1.t.c, .bool x1.l.s, .slice x1.l.a x1.l.n x1.l.c] 26)).alloc (.cells #[.bool x2.t.s, .slice x2.t.a x2.t.n x2.t.c, .bool x2.l.s, .slice x2.l.a x2.l.n x2.l.c] 26) := ⟨_, rfl⟩
  have hbV : Below w.heap.size w v3 := by rw [hV]; exact (((Below.refl _ _).alloc (Nat.le_refl _) _).alloc (by go_size) _)
  have BX1 := Lib.hid (show Bxs v3 (w.heap.size) 26 [.bool x1.t.s, .slice x1.t.a x1.t.n x1.t.c, .bool x1.l.s, .slice x1.l.a x1.l.n x1.l.c] by have h := (Bxs.new (w) 26 [.bool x1.t.s, .slice x1.t.a x1.t.n x1.t.c, .bool x1.l.s, .slice x1.l.a x1.l.n x1.l.c]).alloc (.cells #[.bool x2.t.s, .slice x2.t.a x2.t.n x2.t.c, .bool x2.l.s, .slice x2.l.a x2.l.n x2.l.c] 26); rw [hV]; exact h)
  have BX2 := Lib.hid (show Bxs v3 (w.heap.size + 1) 26 [.bool x2.t.s, .slice x2.t.a x2.t.n x2.t.c, .bool x2.l.s, .slice x2.l.a x2.l.n x2.l.c] by have h := Bxs.new (w.alloc (.cells #[.bool x1.t.s, .slice x1.t.a x1.t.n x1.t.c, .bool x1.l.s, .slice x1.l.a x1.l.n x1.l.c] 26)) 26 [.bool x2.t.s, .slice x2.t.a x2.t.n x2.t.c, .bool x2.l.s, .slice x2.l.a x2.l.n x2.l.c]; simp only [World.size_alloc] at h; rw [hV]; exact h)
  rw [show (w.alloc (.cells #[.bool x1.t.s, .slice x1.t.a x1.t.n x1.t.c, .bool x1.l.s, .slice x1.l.a x1.l.n x1.l.c] 26)).alloc (.cells #[.bool x2.t.s, .slice x2.t.a x2.t.n x2.t.c, .bool x2.l.s, .slice x2.l.a x2.l.n x2.l.c] 26) = v3 from hV.symm]
  have KG := Lib.hid (KG.out.trans (hbV.mono KG.out.size))
  clear hV hbV
  go_wp2_with fail
  have CT := Lib.hid (qalive v3 (HT.out.on KG.out))
  with_reducible refine CT.out.mono ?_
  rintro e w4 ⟨rfl, hb⟩
  clear CT
  have BX1 := Lib.hid (BX1.out.below hb BX1.out.lt)
  have BX2 := Lib.hid (BX2.out.below hb BX2.out.lt)
  have KG := Lib.hid (KG.out.trans (hb.mono KG.out.size))
  clear hb
  have cBX10 := BX1.out.cell (i := 0) rfl
  have cBX11 := BX1.out.cell (i := 1) rfl
  have cBX12 := BX1.out.cell (i := 2) rfl
  have cBX13 := BX1.out.cell (i := 3) rfl
  have cBX1f := BX1.out.fz
  have cBX1l := BX1.out.lt
  have cBX20 := BX2.out.cell (i := 0) rfl
  have cBX21 := BX2.out.cell (i := 1) rfl
  have cBX22 := BX2.out.cell (i := 2) rfl
  have cBX23 := BX2.out.cell (i := 3) rfl
  have cBX2f := BX2.out.fz
  have cBX2l := BX2.out.lt
  go_wp2_with fail
  clear cBX10 cBX11 cBX12 cBX13 cBX1f cBX1l
  clear cBX20 cBX21 cBX22 cBX23 cBX2f cBX2l
  obtain ⟨v6, hV⟩ : ∃ V, V = w4.alloc (.cells #[.bool x1.t.s, .slice x1.t.a x1.t.n x1.t.c, .bool x1.l.s, .slice x1.l.a x1.l.n x1.l.c, .bool x2.t.s, .slice x2.t.a x2.t.n x2.t.c, .bool x2.l.s, .slice x2.l.a x2.l.n x2.l.c] 26) := ⟨_, rfl⟩
  have hbV : Below w4.heap.size w4 v6 := by rw [hV]; exact ((Below.refl _ _).alloc (Nat.le_refl _) _)
  have BX5 := Lib.hid (show Bxs v6 (w4.heap.size) 26 [.bool x1.t.s, .slice x1.t.a x1.t.n x1.t.c, .bool x1.l.s, .slice x1.l.a x1.l.n x1.l.c, .bool x2.t.s, .slice x2.t.a x2.t.n x2.t.c, .bool x2.l.s, .slice x2.l.a x2.l.n x2.l.c] by have h := Bxs.new (w4) 26 [.bool x1.t.s, .slice x1.t.a x1.t.n x1.t.c, .bool x1.l.s, .slice x1.l.a x1.l.n x1.l.c, .bool x2.t.s, .slice x2.t.a x2.t.n x2.t.c, .bool x2.l.s, .slice x2.l.a x2.l.n x2.l.c]; rw [hV]; exact h)
  rw [show w4.alloc (.cells #[.bool x1.t.s, .slice x1.t.a x1.t.n x1.t.c, .bool x1.l.s, .slice x1.l.a x1.l.n x1.l.c, .bool x2.t.s, .slice x2.t.a x2.t.n x2.t.c, .bool x2.l.s, .slice x2.l.a x2.l.n x2.l.c] 26) = v6 from hV.symm]
  have BX1 := Lib.hid (BX1.out.below hbV BX1.out.lt)
  have BX2 := Lib.hid (BX2.out.below hbV BX2.out.lt)
  have KG := Lib.hid (KG.out.trans (hbV.mono KG.out.size))
  clear hV hbV
  have cBX10 := BX1.out.cell (i := 0) rfl
  have cBX11 := BX1.out.cell (i := 1) rfl
  have cBX12 := BX1.out.cell (i := 2) rfl
  have cBX13 := BX1.out.cell (i := 3) rfl
  have cBX1f := BX1.out.fz
  have cBX1l := BX1.out.lt
  have cBX20 := BX2.out.cell (i := 0) rfl
  have cBX21 := BX2.out.cell (i := 1) rfl
  have cBX22 := BX2.out.cell (i := 2) rfl
  have cBX23 := BX2.out.cell (i := 3) rfl
  have cBX2f := BX2.out.fz
  have cBX2l := BX2.out.lt
  have CT := Lib.hid (qgreat2 (M := 10) BX5.out)
  rw [show ((10 : Nat) : Int) = 10 from rfl, show decide ((10 < x1.t.n ∨ 10 < x1.l.n) ∨ (10 < x2.t.n ∨ 10 < x2.l.n)) = false from decide_eq_false (by have g0 := (((N1.out.below KG.out)).len LQp1.out (by decide : _ ≤ 10)); have g1 := (((N2.out.below KG.out)).len LQp2.out (by decide : _ ≤ 10)); omega)] at CT
  with_reducible refine CT.out.mono ?_
  rintro e w7 ⟨rfl, hb⟩
  clear CT
  clear cBX10 cBX11 cBX12 cBX13 cBX1f cBX1l
  clear cBX20 cBX21 cBX22 cBX23 cBX2f cBX2l
  have BX1 := Lib.hid (BX1.out.below hb BX1.out.lt)
  have BX2 := Lib.hid (BX2.out.below hb BX2.out.lt)
  clear BX5
  have KG := Lib.hid (KG.out.trans (hb.mono KG.out.size))
  clear hb
  have cBX10 := BX1.out.cell (i := 0) rfl
  have cBX11 := BX1.out.cell (i := 1) rfl
  have cBX12 := BX1.out.cell (i := 2) rfl
  have cBX13 := BX1.out.cell (i := 3) rfl
  have cBX1f := BX1.out.fz
  have cBX1l := BX1.out.lt
  go_wp2_with fail
  have CT := Lib.hid (qcheck (N1.out.below KG.out) (((N1.out.below KG.out)).len LQp1.out (by decide : _ ≤ 900000)))
  with_reducible refine CT.out.mono ?_
  rintro e w8 ⟨rfl, hb⟩
  clear CT
  clear cBX10 cBX11 cBX12 cBX13 cBX1f cBX1l
  have BX1 := Lib.hid (BX1.out.below hb BX1.out.lt)
  have BX2 := Lib.hid (BX2.out.below hb BX2.out.lt)
  have KG := Lib.hid (KG.out.trans (hb.mono KG.out.size))
  clear hb
  have cBX20 := BX2.out.cell (i := 0) rfl
  have cBX21 := BX2.out.cell (i := 1) rfl
  have cBX22 := BX2.out.cell (i := 2) rfl
  have cBX23 := BX2.out.cell (i := 3) rfl
  have cBX2f := BX2.out.fz
  have cBX2l := BX2.out.lt
  go_wp2_with fail
  have CT := Lib.hid (qcheck (N2.out.below KG.out) (((N2.out.below KG.out)).len LQp2.out (by decide : _ ≤ 900000)))
  with_reducible refine CT.out.mono ?_
  rintro e w9 ⟨rfl, hb⟩
  clear CT
  clear cBX20 cBX21 cBX22 cBX23 cBX2f cBX2l
  have BX1 := Lib.hid (BX1.out.below hb BX1.out.lt)
  have BX2 := Lib.hid (BX2.out.below hb BX2.out.lt)
  have KG := Lib.hid (KG.out.trans (hb.mono KG.out.size))
  clear hb
  go_upto_region 3 with (fail)
  refine Go.FreshS.wp_region_fresh 25 [] (Go.FreshS.spOf [(2, Go.FreshS.Sp.made (fun x : FV => x.v) (fun x w' => DF w' w9.heap.size x q10) FV.blk), (4, Go.FreshS.Sp.made (fun x : FV => x.v) (fun x w' => DF w' w9.heap.size x q11) FV.blk), (6, Go.FreshS.Sp.know (.bool true)), (11, Go.FreshS.Sp.made (fun x : FV => x.v) (fun x w' => DF w' w9.heap.size x q12) FV.blk), (12, Go.FreshS.Sp.made (fun x : FV => x.v) (fun x w' => DF w' w9.heap.size x q13) FV.blk), (13, Go.FreshS.Sp.know (.bool true)), (19, Go.FreshS.Sp.made (fun x : FV => x.v) (fun x w' => DF w' w9.heap.size x q14) FV.blk), (21, Go.FreshS.Sp.made (fun x : FV => x.v) (fun x w' => DF w' w9.heap.size x q15) FV.blk), (23, Go.FreshS.Sp.know (.bool true))])
    (fun w' => Below w9.heap.size w9 w') (by kernel_rfl) (by kernel_rfl) (by kernel_rfl)
    (Go.FreshS.spOf_cons (Go.FreshS.Sp.made_keeps _ (fun _ _ _ h _ hk => h.kept hk) (Go.FreshS.notTaken (by kernel_rfl))) (Go.FreshS.spOf_cons (Go.FreshS.Sp.made_keeps _ (fun _ _ _ h _ hk => h.kept hk) (Go.FreshS.notTaken (by kernel_rfl))) (Go.FreshS.spOf_cons (Go.FreshS.Sp.know_keeps _ _) (Go.FreshS.spOf_cons (Go.FreshS.Sp.made_keeps _ (fun _ _ _ h _ hk => h.kept hk) (Go.FreshS.notTaken (by kernel_rfl))) (Go.FreshS.spOf_cons (Go.FreshS.Sp.made_keeps _ (fun _ _ _ h _ hk => h.kept hk) (Go.FreshS.notTaken (by kernel_rfl))) (Go.FreshS.spOf_cons (Go.FreshS.Sp.know_keeps _ _) (Go.FreshS.spOf_cons (Go.FreshS.Sp.made_keeps _ (fun _ _ _ h _ hk => h.kept hk) (Go.FreshS.notTaken (by kernel_rfl))) (Go.FreshS.spOf_cons (Go.FreshS.Sp.made_keeps _ (fun _ _ _ h _ hk => h.kept hk) (Go.FreshS.notTaken (by kernel_rfl))) (Go.FreshS.spOf_cons (Go.FreshS.Sp.know_keeps _ _) (Go.FreshS.spOf_nil)))))))))) (fun _ _ h hb => h.trans (hb.mono h.size)) ((Below.refl _ _).drew) ?_
  simp only [List.append_eq, List.cons_append, List.nil_append, List.take_succ_cons, List.take_zero, List.drop_succ_cons, List.drop_zero]
  refine Go.FreshS.wpF_reads rfl rfl rfl ?_ (fun w' hw' => ?_) ?_
  rotate_left
  · have hb' := hw'.world
    have hs0 := (BX1.out.below hb' BX1.out.lt).cell (i := 0) rfl
    have hs1 := (BX1.out.below hb' BX1.out.lt).cell (i := 1) rfl
    have hs2 := (BX1.out.below hb' BX1.out.lt).cell (i := 2) rfl
    have hs3 := (BX1.out.below hb' BX1.out.lt).cell (i := 3) rfl
    have hsf := (BX1.out.below hb' BX1.out.lt).fz
    have hsl := (BX1.out.below hb' BX1.out.lt).lt
    clear hw'
    go_simp
    try rfl
  conv => arg 10; simp only [Act.put, List.setIfInBounds_toArray, List.set_cons_succ, List.set_cons_zero]
  refine Go.FreshS.wpF_reads rfl rfl rfl ?_ (fun w' hw' => ?_) ?_
  rotate_left
  · have hb' := hw'.world
    have hs0 := (BX2.out.below hb' BX2.out.lt).cell (i := 0) rfl
    have hs1 := (BX2.out.below hb' BX2.out.lt).cell (i := 1) rfl
    have hs2 := (BX2.out.below hb' BX2.out.lt).cell (i := 2) rfl
    have hs3 := (BX2.out.below hb' BX2.out.lt).cell (i := 3) rfl
    have hsf := (BX2.out.below hb' BX2.out.lt).fz
    have hsl := (BX2.out.below hb' BX2.out.lt).lt
    clear hw'
    go_simp
    try rfl
  conv => arg 10; simp only [Act.put, List.setIfInBounds_toArray, List.set_cons_succ, List.set_cons_zero]
  refine Go.FreshS.wpF_spec rfl rfl rfl (fun w' hw' => ?_) ?_
  · have hb' := hw'.world
    refine Go.FreshS.gives_of (Go.FreshS.PM (fun x : FV => x.v) (fun x w' => DF w' w9.heap.size x q10) FV.blk w'.heap.size) ?_ (fun _ _ h => h.post (fun _ _ => FV.inj))
    go_simp
    have CT := qadd ((N1.out.below (KG.out.trans (hb'.mono KG.out.size)))).any (((N1.out.below (KG.out.trans (hb'.mono KG.out.size)))).len LQp1.out (by decide : _ ≤ 900000)) ((N2.out.below (KG.out.trans (hb'.mono KG.out.size)))).any (((N2.out.below (KG.out.trans (hb'.mono KG.out.size)))).len LQp2.out (by decide : _ ≤ 900000))
    rw [show p1 + p2 = q10 from Hq10.out.symm] at CT
    refine CT.mono ?_
    rintro e w'' ⟨za, rfl, ho, hb⟩
    exact ⟨_, rfl, ⟨za, rfl, ho.mono hb'.size, ho.blks⟩, hb⟩
  rintro _ ⟨y2, rfl⟩
  conv => arg 10; simp only [Act.put, List.setIfInBounds_toArray, List.set_cons_succ, List.set_cons_zero]
  refine Go.FreshS.wpF_reads rfl rfl rfl ?_ (fun w' hw' => ?_) ?_
  rotate_left
  · have hb' := hw'.world
    have hs0 := (BX2.out.below hb' BX2.out.lt).cell (i := 0) rfl
    have hs1 := (BX2.out.below hb' BX2.out.lt).cell (i := 1) rfl
    have hs2 := (BX2.out.below hb' BX2.out.lt).cell (i := 2) rfl
    have hs3 := (BX2.out.below hb' BX2.out.lt).cell (i := 3) rfl
    have hsf := (BX2.out.below hb' BX2.out.lt).fz
    have hsl := (BX2.out.below hb' BX2.out.lt).lt
    clear hw'
    go_simp
    try rfl
  conv => arg 10; simp only [Act.put, List.setIfInBounds_toArray, List.set_cons_succ, List.set_cons_zero]
  refine Go.FreshS.wpF_spec rfl rfl rfl (fun w' hw' => ?_) ?_
  · have hb' := hw'.world
    refine Go.FreshS.gives_of (Go.FreshS.PM (fun x : FV => x.v) (fun x w' => DF w' w9.heap.size x q11) FV.blk w'.heap.size) ?_ (fun _ _ h => h.post (fun _ _ => FV.inj))
    go_simp
    have f2 := Go.FreshS.made_of (val := (fun x : FV => x.v)) (Φ := fun x w' => DF w' w9.heap.size x q10) (fun _ _ => FV.inj) (hw'.fact 2 (by kernel_rfl))
    have CT := qsub (f2).k.any (((f2).k).len LQq10.out (by decide : _ ≤ 900000)) ((N2.out.below (KG.out.trans (hb'.mono KG.out.size)))).any (((N2.out.below (KG.out.trans (hb'.mono KG.out.size)))).len LQp2.out (by decide : _ ≤ 900000))
    rw [show q10 - p2 = q11 from Hq11.out.symm] at CT
    refine CT.mono ?_
    rintro e w'' ⟨za, rfl, ho, hb⟩
    exact ⟨_, rfl, ⟨za, rfl, ho.mono hb'.size, ho.blks⟩, hb⟩
  rintro _ ⟨y4, rfl⟩
  conv => arg 10; simp only [Act.put, List.setIfInBounds_toArray, List.set_cons_succ, List.set_cons_zero]
  refine Go.FreshS.wpF_reads rfl rfl rfl ?_ (fun w' hw' => ?_) ?_
  rotate_left
  · have hb' := hw'.world
    have hs0 := (BX1.out.below hb' BX1.out.lt).cell (i := 0) rfl
    have hs1 := (BX1.out.below hb' BX1.out.lt).cell (i := 1) rfl
    have hs2 := (BX1.out.below hb' BX1.out.lt).cell (i := 2) rfl
    have hs3 := (BX1.out.below hb' BX1.out.lt).cell (i := 3) rfl
    have hsf := (BX1.out.below hb' BX1.out.lt).fz
    have hsl := (BX1.out.below hb' BX1.out.lt).lt
    clear hw'
    go_simp
    try rfl
  conv => arg 10; simp only [Act.put, List.setIfInBounds_toArray, List.set_cons_succ, List.set_cons_zero]
  refine Go.FreshS.wpF_spec rfl rfl rfl (fun w' hw' => ?_) ?_
  · have hb' := hw'.world
    refine Go.FreshS.gives_of (Go.FreshS.PK (.bool true)) ?_ (fun _ _ h => h.post)
    go_simp
    have f4 := Go.FreshS.made_of (val := (fun x : FV => x.v)) (Φ := fun x w' => DF w' w9.heap.size x q11) (fun _ _ => FV.inj) (hw'.fact 4 (by kernel_rfl))
    have CT := qsame (f4).k (((f4).k).len LQq11.out (by decide : _ ≤ 900000)) (N1.out.below (KG.out.trans (hb'.mono KG.out.size))) (((N1.out.below (KG.out.trans (hb'.mono KG.out.size)))).len LQp1.out (by decide : _ ≤ 900000)) (by simp only [Hq11.out, Hq10.out]; (try simp only [qc01, qc11, qci1]); grind)
    refine CT.mono ?_
    rintro e w'' ⟨rfl, hb⟩
    exact ⟨_, rfl, rfl, hb⟩
  rintro _ rfl
  conv => arg 10; simp only [Act.put, List.setIfInBounds_toArray, List.set_cons_succ, List.set_cons_zero]
  refine Go.FreshS.wpF_reads rfl rfl rfl ?_ (fun w' hw' => ?_) ?_
  rotate_left
  · have hb' := hw'.world
    skip
    clear hw'
    go_simp
    try rfl
  conv => arg 10; simp only [Act.put, List.setIfInBounds_toArray, List.set_cons_succ, List.set_cons_zero]
  refine Go.FreshS.wpF_reads rfl rfl rfl ?_ (fun w' hw' => ?_) ?_
  rotate_left
  · have hb' := hw'.world
    skip
    clear hw'
    go_simp
    try rfl
  conv => arg 10; simp only [Act.put, List.setIfInBounds_toArray, List.set_cons_succ, List.set_cons_zero]
  refine Go.FreshS.wpF_readsG (by rfl) rfl rfl ?_ (fun w' hw' => ?_) ?_
  rotate_left
  · have hb' := hw'.world
    have hs0 := (BX1.out.below hb' BX1.out.lt).cell (i := 0) rfl
    have hs1 := (BX1.out.below hb' BX1.out.lt).cell (i := 1) rfl
    have hs2 := (BX1.out.below hb' BX1.out.lt).cell (i := 2) rfl
    have hs3 := (BX1.out.below hb' BX1.out.lt).cell (i := 3) rfl
    have hsf := (BX1.out.below hb' BX1.out.lt).fz
    have hsl := (BX1.out.below hb' BX1.out.lt).lt
    clear hw'
    go_simp
    try rfl
  conv => arg 10; simp only [Act.put, List.setIfInBounds_toArray, List.set_cons_succ, List.set_cons_zero]
  refine Go.FreshS.wpF_readsG (by rfl) rfl rfl ?_ (fun w' hw' => ?_) ?_
  rotate_left
  · have hb' := hw'.world
    have hs0 := (BX1.out.below hb' BX1.out.lt).cell (i := 0) rfl
    have hs1 := (BX1.out.below hb' BX1.out.lt).cell (i := 1) rfl
    have hs2 := (BX1.out.below hb' BX1.out.lt).cell (i := 2) rfl
    have hs3 := (BX1.out.below hb' BX1.out.lt).cell (i := 3) rfl
    have hsf := (BX1.out.below hb' BX1.out.lt).fz
    have hsl := (BX1.out.below hb' BX1.out.lt).lt
    clear hw'
    go_simp
    try rfl
  conv => arg 10; simp only [Act.put, List.setIfInBounds_toArray, List.set_cons_succ, List.set_cons_zero]
  refine Go.FreshS.wpF_gspec (by rfl) rfl rfl (fun w' hw' => ?_) ?_
  · have hb' := hw'.world
    refine Go.FreshS.gives_of (Go.FreshS.PM (fun x : FV => x.v) (fun x w' => DF w' w9.heap.size x q12) FV.blk w'.heap.size) ?_ (fun _ _ h => h.post (fun _ _ => FV.inj))
    go_simp
    have CT := qsub ((N1.out.below (KG.out.trans (hb'.mono KG.out.size)))).any (((N1.out.below (KG.out.trans (hb'.mono KG.out.size)))).len LQp1.out (by decide : _ ≤ 900000)) ((N1.out.below (KG.out.trans (hb'.mono KG.out.size)))).any (((N1.out.below (KG.out.trans (hb'.mono KG.out.size)))).len LQp1.out (by decide : _ ≤ 900000))
    rw [show p1 - p1 = q12 from Hq12.out.symm] at CT
    refine CT.mono ?_
    rintro e w'' ⟨za, rfl, ho, hb⟩
    exact ⟨_, rfl, ⟨za, rfl, ho.mono hb'.size, ho.blks⟩, hb⟩
  rintro _ ⟨y11, rfl⟩
  conv => arg 10; simp only [Act.put, List.setIfInBounds_toArray, List.set_cons_succ, List.set_cons_zero]
  refine Go.FreshS.wpF_gspec (by rfl) rfl rfl (fun w' hw' => ?_) ?_
  · have hb' := hw'.world
    refine Go.FreshS.gives_of (Go.FreshS.PM (fun x : FV => x.v) (fun x w' => DF w' w9.heap.size x q13) FV.blk w'.heap.size) ?_ (fun _ _ h => h.post (fun _ _ => FV.inj))
    go_simp
    have CT := ofQ 0 1 w' (by decide) (by decide) (by decide) (by decide) (by decide)
    rw [show ((0 : Int) : Rat) / ((1 : Int) : Rat) = q13 from Hq13.out.symm] at CT
    refine CT.mono ?_
    rintro e w'' ⟨za, rfl, ho, hb⟩
    exact ⟨_, rfl, ⟨za, rfl, ho.mono hb'.size, ho.blks⟩, hb⟩
  rintro _ ⟨y12, rfl⟩
  conv => arg 10; simp only [Act.put, List.setIfInBounds_toArray, List.set_cons_succ, List.set_cons_zero]
  refine Go.FreshS.wpF_gspec (by rfl) rfl rfl (fun w' hw' => ?_) ?_
  · have hb' := hw'.world
    refine Go.FreshS.gives_of (Go.FreshS.PK (.bool true)) ?_ (fun _ _ h => h.post)
    go_simp
    have f11 := Go.FreshS.made_of (val := (fun x : FV => x.v)) (Φ := fun x w' => DF w' w9.heap.size x q12) (fun _ _ => FV.inj) (hw'.fact 11 (by kernel_rfl))
    have f12 := Go.FreshS.made_of (val := (fun x : FV => x.v)) (Φ := fun x w' => DF w' w9.heap.size x q13) (fun _ _ => FV.inj) (hw'.fact 12 (by kernel_rfl))
    have CT := qsame (f11).k (((f11).k).len LQq12.out (by decide : _ ≤ 900000)) (f12).k (((f12).k).len LQq13.out (by decide : _ ≤ 900000)) (by simp only [Hq13.out, Hq12.out, Hq11.out, Hq10.out]; (try simp only [qc01, qc11, qci1]); grind)
    refine CT.mono ?_
    rintro e w'' ⟨rfl, hb⟩
    exact ⟨_, rfl, rfl, hb⟩
  rintro _ rfl
  conv => arg 10; simp only [Act.put, List.setIfInBounds_toArray, List.set_cons_succ, List.set_cons_zero]
  refine Go.FreshS.wpF_readsG (by rfl) rfl rfl ?_ (fun w' hw' => ?_) ?_
  rotate_left
  · have hb' := hw'.world
    skip
    clear hw'
    go_simp
    try rfl
  conv => arg 10; simp only [Act.put, List.setIfInBounds_toArray, List.set_cons_succ, List.set_cons_zero]
  refine Go.FreshS.wpF_reads rfl rfl rfl ?_ (fun w' hw' => ?_) ?_
  rotate_left
  · have hb' := hw'.world
    skip
    clear hw'
    go_simp
    try rfl
  conv => arg 10; simp only [Act.put, List.setIfInBounds_toArray, List.set_cons_succ, List.set_cons_zero]
  refine Go.FreshS.wpF_reads rfl rfl rfl ?_ (fun w' hw' => ?_) ?_
  rotate_left
  · have hb' := hw'.world
    skip
    clear hw'
    go_simp
    try rfl
  conv => arg 10; simp only [Act.put, List.setIfInBounds_toArray, List.set_cons_succ, List.set_cons_zero]
  refine Go.FreshS.wpF_readsG (by rfl) rfl rfl ?_ (fun w' hw' => ?_) ?_
  rotate_left
  · have hb' := hw'.world
    have hs0 := (BX1.out.below hb' BX1.out.lt).cell (i := 0) rfl
    have hs1 := (BX1.out.below hb' BX1.out.lt).cell (i := 1) rfl
    have hs2 := (BX1.out.below hb' BX1.out.lt).cell (i := 2) rfl
    have hs3 := (BX1.out.below hb' BX1.out.lt).cell (i := 3) rfl
    have hsf := (BX1.out.below hb' BX1.out.lt).fz
    have hsl := (BX1.out.below hb' BX1.out.lt).lt
    clear hw'
    go_simp
    try rfl
  conv => arg 10; simp only [Act.put, List.setIfInBounds_toArray, List.set_cons_succ, List.set_cons_zero]
  refine Go.FreshS.wpF_readsG (by rfl) rfl rfl ?_ (fun w' hw' => ?_) ?_
  rotate_left
  · have hb' := hw'.world
    have hs0 := (BX2.out.below hb' BX2.out.lt).cell (i := 0) rfl
    have hs1 := (BX2.out.below hb' BX2.out.lt).cell (i := 1) rfl
    have hs2 := (BX2.out.below hb' BX2.out.lt).cell (i := 2) rfl
    have hs3 := (BX2.out.below hb' BX2.out.lt).cell (i := 3) rfl
    have hsf := (BX2.out.below hb' BX2.out.lt).fz
    have hsl := (BX2.out.below hb' BX2.out.lt).lt
    clear hw'
    go_simp
    try rfl
  conv => arg 10; simp only [Act.put, List.setIfInBounds_toArray, List.set_cons_succ, List.set_cons_zero]
  refine Go.FreshS.wpF_gspec (by rfl) rfl rfl (fun w' hw' => ?_) ?_
  · have hb' := hw'.world
    refine Go.FreshS.gives_of (Go.FreshS.PM (fun x : FV => x.v) (fun x w' => DF w' w9.heap.size x q14) FV.blk w'.heap.size) ?_ (fun _ _ h => h.post (fun _ _ => FV.inj))
    go_simp
    have CT := qsub ((N1.out.below (KG.out.trans (hb'.mono KG.out.size)))).any (((N1.out.below (KG.out.trans (hb'.mono KG.out.size)))).len LQp1.out (by decide : _ ≤ 900000)) ((N2.out.below (KG.out.trans (hb'.mono KG.out.size)))).any (((N2.out.below (KG.out.trans (hb'.mono KG.out.size)))).len LQp2.out (by decide : _ ≤ 900000))
    rw [show p1 - p2 = q14 from Hq14.out.symm] at CT
    refine CT.mono ?_
    rintro e w'' ⟨za, rfl, ho, hb⟩
    exact ⟨_, rfl, ⟨za, rfl, ho.mono hb'.size, ho.blks⟩, hb⟩
  rintro _ ⟨y19, rfl⟩
  conv => arg 10; simp only [Act.put, List.setIfInBounds_toArray, List.set_cons_succ, List.set_cons_zero]
  refine Go.FreshS.wpF_readsG (by rfl) rfl rfl ?_ (fun w' hw' => ?_) ?_
  rotate_left
  · have hb' := hw'.world
    have hs0 := (BX2.out.below hb' BX2.out.lt).cell (i := 0) rfl
    have hs1 := (BX2.out.below hb' BX2.out.lt).cell (i := 1) rfl
    have hs2 := (BX2.out.below hb' BX2.out.lt).cell (i := 2) rfl
    have hs3 := (BX2.out.below hb' BX2.out.lt).cell (i := 3) rfl
    have hsf := (BX2.out.below hb' BX2.out.lt).fz
    have hsl := (BX2.out.below hb' BX2.out.lt).lt
    clear hw'
    go_simp
    try rfl
  conv => arg 10; simp only [Act.put, List.setIfInBounds_toArray, List.set_cons_succ, List.set_cons_zero]
  refine Go.FreshS.wpF_gspec (by rfl) rfl rfl (fun w' hw' => ?_) ?_
  · have hb' := hw'.world
    refine Go.FreshS.gives_of (Go.FreshS.PM (fun x : FV => x.v) (fun x w' => DF w' w9.heap.size x q15) FV.blk w'.heap.size) ?_ (fun _ _ h => h.post (fun _ _ => FV.inj))
    go_simp
    have f19 := Go.FreshS.made_of (val := (fun x : FV => x.v)) (Φ := fun x w' => DF w' w9.heap.size x q14) (fun _ _ => FV.inj) (hw'.fact 19 (by kernel_rfl))
    have CT := qadd (f19).k.any (((f19).k).len LQq14.out (by decide : _ ≤ 900000)) ((N2.out.below (KG.out.trans (hb'.mono KG.out.size)))).any (((N2.out.below (KG.out.trans (hb'.mono KG.out.size)))).len LQp2.out (by decide : _ ≤ 900000))
    rw [show q14 + p2 = q15 from Hq15.out.symm] at CT
    refine CT.mono ?_
    rintro e w'' ⟨za, rfl, ho, hb⟩
    exact ⟨_, rfl, ⟨za, rfl, ho.mono hb'.size, ho.blks⟩, hb⟩
  rintro _ ⟨y21, rfl⟩
  conv => arg 10; simp only [Act.put, List.setIfInBounds_toArray, List.set_cons_succ, List.set_cons_zero]
  refine Go.FreshS.wpF_readsG (by rfl) rfl rfl ?_ (fun w' hw' => ?_) ?_
  rotate_left
  · have hb' := hw'.world
    have hs0 := (BX1.out.below hb' BX1.out.lt).cell (i := 0) rfl
    have hs1 := (BX1.out.below hb' BX1.out.lt).cell (i := 1) rfl
    have hs2 := (BX1.out.below hb' BX1.out.lt).cell (i := 2) rfl
    have hs3 := (BX1.out.below hb' BX1.out.lt).cell (i := 3) rfl
    have hsf := (BX1.out.below hb' BX1.out.lt).fz
    have hsl := (BX1.out.below hb' BX1.out.lt).lt
    clear hw'
    go_simp
    try rfl
  conv => arg 10; simp only [Act.put, List.setIfInBounds_toArray, List.set_cons_succ, List.set_cons_zero]
  refine Go.FreshS.wpF_gspec (by rfl) rfl rfl (fun w' hw' => ?_) ?_
  · have hb' := hw'.world
    refine Go.FreshS.gives_of (Go.FreshS.PK (.bool true)) ?_ (fun _ _ h => h.post)
    go_simp
    have f21 := Go.FreshS.made_of (val := (fun x : FV => x.v)) (Φ := fun x w' => DF w' w9.heap.size x q15) (fun _ _ => FV.inj) (hw'.fact 21 (by kernel_rfl))
    have CT := qsame (f21).k (((f21).k).len LQq15.out (by decide : _ ≤ 900000)) (N1.out.below (KG.out.trans (hb'.mono KG.out.size))) (((N1.out.below (KG.out.trans (hb'.mono KG.out.size)))).len LQp1.out (by decide : _ ≤ 900000)) (by simp only [Hq15.out, Hq14.out, Hq13.out, Hq12.out, Hq11.out, Hq10.out]; (try simp only [qc01, qc11, qci1]); grind)
    refine CT.mono ?_
    rintro e w'' ⟨rfl, hb⟩
    exact ⟨_, rfl, rfl, hb⟩
  rintro _ rfl
  conv => arg 10; simp only [Act.put, List.setIfInBounds_toArray, List.set_cons_succ, List.set_cons_zero]
  refine Go.FreshS.wpF_readsG (by rfl) rfl rfl ?_ (fun w' hw' => ?_) ?_
  rotate_left
  · have hb' := hw'.world
    skip
    clear hw'
    go_simp
    try rfl
  conv => arg 10; simp only [Act.put, List.setIfInBounds_toArray, List.set_cons_succ, List.set_cons_zero]
  refine Go.FreshS.wpF_nil (fun w16 hb hF => ?_)
  clear hF
  have BX1 := Lib.hid (BX1.out.below hb BX1.out.lt)
  have BX2 := Lib.hid (BX2.out.below hb BX2.out.lt)
  have KG := Lib.hid (KG.out.trans (hb.mono KG.out.size))
  clear hb
  go_upto_region 5 with (fail)
  refine Go.FreshS.wp_region_fresh 10 [(9, 8)] (Go.FreshS.spOf [(2, Go.FreshS.Sp.made (fun x : FV => x.v) (fun x w' => DF w' w16.heap.size x q17) FV.blk), (4, Go.FreshS.Sp.made (fun x : FV => .tuple #[x.v, .int .i64 6]) (fun _ _ => True) (fun _ _ => False)), (8, Go.FreshS.Sp.box 26 4 w16.heap.size)])
    (fun w' => Below w16.heap.size w16 w') (by kernel_rfl) (by kernel_rfl) (by kernel_rfl)
    (Go.FreshS.spOf_cons (Go.FreshS.Sp.made_keeps _ (fun _ _ _ h _ hk => h.kept hk) (Go.FreshS.notTaken (by kernel_rfl))) (Go.FreshS.spOf_cons (Go.FreshS.Sp.made_keeps _ (fun _ _ _ h _ _ => h) (Go.FreshS.notTaken (by kernel_rfl))) (Go.FreshS.spOf_cons (Go.FreshS.Sp.box_keeps _ _ _ _) (Go.FreshS.spOf_nil)))) (fun _ _ h hb => h.trans (hb.mono h.size)) ((Below.refl _ _).drew) ?_
  simp only [List.append_eq, List.cons_append, List.nil_append, List.take_succ_cons, List.take_zero, List.drop_succ_cons, List.drop_zero]
  refine Go.FreshS.wpF_reads rfl rfl rfl ?_ (fun w' hw' => ?_) ?_
  rotate_left
  · have hb' := hw'.world
    have hs0 := (BX1.out.below hb' BX1.out.lt).cell (i := 0) rfl
    have hs1 := (BX1.out.below hb' BX1.out.lt).cell (i := 1) rfl
    have hs2 := (BX1.out.below hb' BX1.out.lt).cell (i := 2) rfl
    have hs3 := (BX1.out.below hb' BX1.out.lt).cell (i := 3) rfl
    have hsf := (BX1.out.below hb' BX1.out.lt).fz
    have hsl := (BX1.out.below hb' BX1.out.lt).lt
    clear hw'
    go_simp
    try rfl
  conv => arg 10; simp only [Act.put, List.setIfInBounds_toArray, List.set_cons_succ, List.set_cons_zero]
  refine Go.FreshS.wpF_reads rfl rfl rfl ?_ (fun w' hw' => ?_) ?_
  rotate_left
  · have hb' := hw'.world
    have hs0 := (BX2.out.below hb' BX2.out.lt).cell (i := 0) rfl
    have hs1 := (BX2.out.below hb' BX2.out.lt).cell (i := 1) rfl
    have hs2 := (BX2.out.below hb' BX2.out.lt).cell (i := 2) rfl
    have hs3 := (BX2.out.below hb' BX2.out.lt).cell (i := 3) rfl
    have hsf := (BX2.out.below hb' BX2.out.lt).fz
    have hsl := (BX2.out.below hb' BX2.out.lt).lt
    clear hw'
    go_simp
    try rfl
  conv => arg 10; simp only [Act.put, List.setIfInBounds_toArray, List.set_cons_succ, List.set_cons_zero]
  refine Go.FreshS.wpF_spec rfl rfl rfl (fun w' hw' => ?_) ?_
  · have hb' := hw'.world
    refine Go.FreshS.gives_of (Go.FreshS.PM (fun x : FV => x.v) (fun x w' => DF w' w16.heap.size x q17) FV.blk w'.heap.size) ?_ (fun _ _ h => h.post (fun _ _ => FV.inj))
    go_simp
    have CT := qmul ((N1.out.below (KG.out.trans (hb'.mono KG.out.size)))).any (((N1.out.below (KG.out.trans (hb'.mono KG.out.size)))).len LQp1.out (by decide : _ ≤ 900000)) ((N2.out.below (KG.out.trans (hb'.mono KG.out.size)))).any (((N2.out.below (KG.out.trans (hb'.mono KG.out.size)))).len LQp2.out (by decide : _ ≤ 900000))
    rw [show p1 * p2 = q17 from Hq17.out.symm] at CT
    refine CT.mono ?_
    rintro e w'' ⟨za, rfl, ho, hb⟩
    exact ⟨_, rfl, ⟨za, rfl, ho.mono hb'.size, ho.blks⟩, hb⟩
  rintro _ ⟨y2, rfl⟩
  conv => arg 10; simp only [Act.put, List.setIfInBounds_toArray, List.set_cons_succ, List.set_cons_zero]
  refine Go.FreshS.wpF_reads rfl rfl rfl ?_ (fun w' hw' => ?_) ?_
  rotate_left
  · have hb' := hw'.world
    have hs0 := (BX2.out.below hb' BX2.out.lt).cell (i := 0) rfl
    have hs1 := (BX2.out.below hb' BX2.out.lt).cell (i := 1) rfl
    have hs2 := (BX2.out.below hb' BX2.out.lt).cell (i := 2) rfl
    have hs3 := (BX2.out.below hb' BX2.out.lt).cell (i := 3) rfl
    have hsf := (BX2.out.below hb' BX2.out.lt).fz
    have hsl := (BX2.out.below hb' BX2.out.lt).lt
    clear hw'
    go_simp
    try rfl
  conv => arg 10; simp only [Act.put, List.setIfInBounds_toArray, List.set_cons_succ, List.set_cons_zero]
  refine Go.FreshS.wpF_spec rfl rfl rfl (fun w' hw' => ?_) ?_
  · have hb' := hw'.world
    refine Go.FreshS.gives_of (Go.FreshS.PM (fun x : FV => .tuple #[x.v, .int .i64 6]) (fun _ _ => True) (fun _ _ => False) w'.heap.size) ?_ (fun _ _ h => h.post (FV.injE 6))
    go_simp
    have f2 := Go.FreshS.made_of (val := (fun x : FV => x.v)) (Φ := fun x w' => DF w' w16.heap.size x q17) (fun _ _ => FV.inj) (hw'.fact 2 (by kernel_rfl))
    have CT := qdiv0 (f2).k (((f2).k).len LQq17.out (by decide : _ ≤ 900000)) (N2.out.below (KG.out.trans (hb'.mono KG.out.size))) (((N2.out.below (KG.out.trans (hb'.mono KG.out.size)))).len LQp2.out (by decide : _ ≤ 900000)) (HZ.out)
    refine CT.mono ?_
    rintro e w'' ⟨za, rfl, hb⟩
    exact ⟨_, rfl, ⟨za, rfl, trivial, fun _ h => False.elim h⟩, hb⟩
  rintro _ ⟨y4, rfl⟩
  conv => arg 10; simp only [Act.put, List.setIfInBounds_toArray, List.set_cons_succ, List.set_cons_zero]
  refine Go.FreshS.wpF_reads rfl rfl rfl ?_ (fun w' hw' => ?_) ?_
  rotate_left
  · have hb' := hw'.world
    skip
    clear hw'
    go_simp
    try rfl
  conv => arg 10; simp only [Act.put, List.setIfInBounds_toArray, List.set_cons_succ, List.set_cons_zero]
  refine Go.FreshS.wpF_reads rfl rfl rfl ?_ (fun w' hw' => ?_) ?_
  rotate_left
  · have hb' := hw'.world
    skip
    clear hw'
    go_simp
    try rfl
  conv => arg 10; simp only [Act.put, List.setIfInBounds_toArray, List.set_cons_succ, List.set_cons_zero]
  refine Go.FreshS.wpF_reads rfl rfl rfl ?_ (fun w' hw' => ?_) ?_
  rotate_left
  · have hb' := hw'.world
    skip
    clear hw'
    go_simp
    try rfl
  conv => arg 10; simp only [Act.put, List.setIfInBounds_toArray, List.set_cons_succ, List.set_cons_zero]
  refine Go.FreshS.wpF_spec rfl rfl rfl (fun w' hw' => ?_) ?_
  · have hb' := hw'.world
    refine Go.FreshS.gives_of (Go.FreshS.PB 26 4 w16.heap.size w'.heap.size) ?_ (fun _ _ h => h.post)
    go_simp
    exact ⟨Go.FreshS.PB.new _ rfl hb'.size, (Below.refl _ _).alloc (Nat.le_refl _) _⟩
  rintro _ ⟨y8, rfl⟩
  conv => arg 10; simp only [Act.put, List.setIfInBounds_toArray, List.set_cons_succ, List.set_cons_zero]
  refine Go.FreshS.wpF_store rfl rfl 8 rfl rfl rfl rfl (fun _ => Iff.rfl) (fun w' hw' => ?_) ?_
  · have hb' := hw'.world
    have hX := Go.FreshS.box_of (hw'.fact 8 (by kernel_rfl))
    obtain ⟨c0, c1, c2, c3, hB⟩ := shp4 hX.1
    have m0 := hB.cell (i := 0) rfl
    have m1 := hB.cell (i := 1) rfl
    have m2 := hB.cell (i := 2) rfl
    have m3 := hB.cell (i := 3) rfl
    have mf := hB.fz
    have ml := hB.lt
    refine Go.FreshS.stores_of ?_ (store4 hb' hX.2 hB (.bool y4.t.s) (.slice y4.t.a y4.t.n y4.t.c) (.bool y4.l.s) (.slice y4.l.a y4.l.n y4.l.c))
    clear hw'
    go_simp
    try rfl
  conv => arg 10; simp only [Act.put, List.setIfInBounds_toArray, List.set_cons_succ, List.set_cons_zero]
  refine Go.FreshS.wpF_nil (fun w19 hb hF => ?_)
  have BX18 := Lib.hid (show Bxs w19 y8 26 [.bool y4.t.s, .slice y4.t.a y4.t.n y4.t.c, .bool y4.l.s, .slice y4.l.a y4.l.n y4.l.c] from stored_bxs (hF.all 9))
  clear hF
  have BX1 := Lib.hid (BX1.out.below hb BX1.out.lt)
  have BX2 := Lib.hid (BX2.out.below hb BX2.out.lt)
  have KG := Lib.hid (KG.out.trans (hb.mono KG.out.size))
  clear hb
  clear BX18
  have cBX10 := BX1.out.cell (i := 0) rfl
  have cBX11 := BX1.out.cell (i := 1) rfl
  have cBX12 := BX1.out.cell (i := 2) rfl
  have cBX13 := BX1.out.cell (i := 3) rfl
  have cBX1f := BX1.out.fz
  have cBX1l := BX1.out.lt
  have cBX20 := BX2.out.cell (i := 0) rfl
  have cBX21 := BX2.out.cell (i := 1) rfl
  have cBX22 := BX2.out.cell (i := 2) rfl
  have cBX23 := BX2.out.cell (i := 3) rfl
  have cBX2f := BX2.out.fz
  have cBX2l := BX2.out.lt
  go_wp2_with fail
  have CT := Lib.hid (qdiv0 (N1.out.below KG.out) (((N1.out.below KG.out)).len LQp1.out (by decide : _ ≤ 900000)) (N2.out.below KG.out) (((N2.out.below KG.out)).len LQp2.out (by decide : _ ≤ 900000)) (HZ.out))
  with_reducible refine CT.out.mono ?_
  rintro e w20 ⟨x21, rfl, hb⟩
  clear CT
  clear cBX10 cBX11 cBX12 cBX13 cBX1f cBX1l
  clear cBX20 cBX21 cBX22 cBX23 cBX2f cBX2l
  clear BX1
  have BX2 := Lib.hid (BX2.out.below hb BX2.out.lt)
  have KG := Lib.hid (KG.out.trans (hb.mono KG.out.size))
  clear hb
  go_upto_region 7 with (fail)
  obtain ⟨v23, hV⟩ : ∃ V, V = w20.alloc (.cells #[.bool x21.t.s, .slice x21.t.a x21.t.n x21.t.c, .bool x21.l.s, .slice x21.l.a x21.l.n x21.l.c] 26) := ⟨_, rfl⟩
  have hbV : Below w20.heap.size w20 v23 := by rw [hV]; exact ((Below.refl _ _).alloc (Nat.le_refl _) _)
  have BX22 := Lib.hid (show Bxs v23 (w20.heap.size) 26 [.bool x21.t.s, .slice x21.t.a x21.t.n x21.t.c, .bool x21.l.s, .slice x21.l.a x21.l.n x21.l.c] by have h := Bxs.new (w20) 26 [.bool x21.t.s, .slice x21.t.a x21.t.n x21.t.c, .bool x21.l.s, .slice x21.l.a x21.l.n x21.l.c]; rw [hV]; exact h)
  rw [show w20.alloc (.cells #[.bool x21.t.s, .slice x21.t.a x21.t.n x21.t.c, .bool x21.l.s, .slice x21.l.a x21.l.n x21.l.c] 26) = v23 from hV.symm]
  have BX2 := Lib.hid (BX2.out.below hbV BX2.out.lt)
  have KG := Lib.hid (KG.out.trans (hbV.mono KG.out.size))
  clear hV hbV
  clear BX22
  go_upto_region 7 with (fail)
  refine Go.FreshS.wp_region_fresh 8 [(7, 6)] (Go.FreshS.spOf [(0, Go.FreshS.Sp.made (fun x : FV => x.v) (fun x w' => DF w' v23.heap.size x q24) FV.blk), (2, Go.FreshS.Sp.made (fun x : FV => .tuple #[x.v, .int .i64 6]) (fun _ _ => True) (fun _ _ => False)), (6, Go.FreshS.Sp.box 26 4 v23.heap.size)])
    (fun w' => Below v23.heap.size v23 w') (by kernel_rfl) (by kernel_rfl) (by kernel_rfl)
    (Go.FreshS.spOf_cons (Go.FreshS.Sp.made_keeps _ (fun _ _ _ h _ hk => h.kept hk) (Go.FreshS.notTaken (by kernel_rfl))) (Go.FreshS.spOf_cons (Go.FreshS.Sp.made_keeps _ (fun _ _ _ h _ _ => h) (Go.FreshS.notTaken (by kernel_rfl))) (Go.FreshS.spOf_cons (Go.FreshS.Sp.box_keeps _ _ _ _) (Go.FreshS.spOf_nil)))) (fun _ _ h hb => h.trans (hb.mono h.size)) ((Below.refl _ _).drew) ?_
  simp only [List.append_eq, List.cons_append, List.nil_append, List.take_succ_cons, List.take_zero, List.drop_succ_cons, List.drop_zero]
  refine Go.FreshS.wpF_spec rfl rfl rfl (fun w' hw' => ?_) ?_
  · have hb' := hw'.world
    refine Go.FreshS.gives_of (Go.FreshS.PM (fun x : FV => x.v) (fun x w' => DF w' v23.heap.size x q24) FV.blk w'.heap.size) ?_ (fun _ _ h => h.post (fun _ _ => FV.inj))
    go_simp
    have CT := ofQ 1 1 w' (by decide) (by decide) (by decide) (by decide) (by decide)
    rw [show ((1 : Int) : Rat) / ((1 : Int) : Rat) = q24 from Hq24.out.symm] at CT
    refine CT.mono ?_
    rintro e w'' ⟨za, rfl, ho, hb⟩
    exact ⟨_, rfl, ⟨za, rfl, ho.mono hb'.size, ho.blks⟩, hb⟩
  rintro _ ⟨y0, rfl⟩
  conv => arg 10; simp only [Act.put, List.setIfInBounds_toArray, List.set_cons_succ, List.set_cons_zero]
  refine Go.FreshS.wpF_reads rfl rfl rfl ?_ (fun w' hw' => ?_) ?_
  rotate_left
  · have hb' := hw'.world
    have hs0 := (BX2.out.below hb' BX2.out.lt).cell (i := 0) rfl
    have hs1 := (BX2.out.below hb' BX2.out.lt).cell (i := 1) rfl
    have hs2 := (BX2.out.below hb' BX2.out.lt).cell (i := 2) rfl
    have hs3 := (BX2.out.below hb' BX2.out.lt).cell (i := 3) rfl
    have hsf := (BX2.out.below hb' BX2.out.lt).fz
    have hsl := (BX2.out.below hb' BX2.out.lt).lt
    clear hw'
    go_simp
    try rfl
  conv => arg 10; simp only [Act.put, List.setIfInBounds_toArray, List.set_cons_succ, List.set_cons_zero]
  refine Go.FreshS.wpF_spec rfl rfl rfl (fun w' hw' => ?_) ?_
  · have hb' := hw'.world
    refine Go.FreshS.gives_of (Go.FreshS.PM (fun x : FV => .tuple #[x.v, .int .i64 6]) (fun _ _ => True) (fun _ _ => False) w'.heap.size) ?_ (fun _ _ h => h.post (FV.injE 6))
    go_simp
    have f0 := Go.FreshS.made_of (val := (fun x : FV => x.v)) (Φ := fun x w' => DF w' v23.heap.size x q24) (fun _ _ => FV.inj) (hw'.fact 0 (by kernel_rfl))
    have CT := qdiv0 (f0).k (((f0).k).len LQq24.out (by decide : _ ≤ 900000)) (N2.out.below (KG.out.trans (hb'.mono KG.out.size))) (((N2.out.below (KG.out.trans (hb'.mono KG.out.size)))).len LQp2.out (by decide : _ ≤ 900000)) (HZ.out)
    refine CT.mono ?_
    rintro e w'' ⟨za, rfl, hb⟩
    exact ⟨_, rfl, ⟨za, rfl, trivial, fun _ h => False.elim h⟩, hb⟩
  rintro _ ⟨y2, rfl⟩
  conv => arg 10; simp only [Act.put, List.setIfInBounds_toArray, List.set_cons_succ, List.set_cons_zero]
  refine Go.FreshS.wpF_reads rfl rfl rfl ?_ (fun w' hw' => ?_) ?_
  rotate_left
  · have hb' := hw'.world
    skip
    clear hw'
    go_simp
    try rfl
  conv => arg 10; simp only [Act.put, List.setIfInBounds_toArray, List.set_cons_succ, List.set_cons_zero]
  refine Go.FreshS.wpF_reads rfl rfl rfl ?_ (fun w' hw' => ?_) ?_
  rotate_left
  · have hb' := hw'.world
    skip
    clear hw'
    go_simp
    try rfl
  conv => arg 10; simp only [Act.put, List.setIfInBounds_toArray, List.set_cons_succ, List.set_cons_zero]
  refine Go.FreshS.wpF_reads rfl rfl rfl ?_ (fun w' hw' => ?_) ?_
  rotate_left
  · have hb' := hw'.world
    skip
    clear hw'
    go_simp
    try rfl
  conv => arg 10; simp only [Act.put, List.setIfInBounds_toArray, List.set_cons_succ, List.set_cons_zero]
  refine Go.FreshS.wpF_spec rfl rfl rfl (fun w' hw' => ?_) ?_
  · have hb' := hw'.world
    refine Go.FreshS.gives_of (Go.FreshS.PB 26 4 v23.heap.size w'.heap.size) ?_ (fun _ _ h => h.post)
    go_simp
    exact ⟨Go.FreshS.PB.new _ rfl hb'.size, (Below.refl _ _).alloc (Nat.le_refl _) _⟩
  rintro _ ⟨y6, rfl⟩
  conv => arg 10; simp only [Act.put, List.setIfInBounds_toArray, List.set_cons_succ, List.set_cons_zero]
  refine Go.FreshS.wpF_store rfl rfl 6 rfl rfl rfl rfl (fun _ => Iff.rfl) (fun w' hw' => ?_) ?_
  · have hb' := hw'.world
    have hX := Go.FreshS.box_of (hw'.fact 6 (by kernel_rfl))
    obtain ⟨c0, c1, c2, c3, hB⟩ := shp4 hX.1
    have m0 := hB.cell (i := 0) rfl
    have m1 := hB.cell (i := 1) rfl
    have m2 := hB.cell (i := 2) rfl
    have m3 := hB.cell (i := 3) rfl
    have mf := hB.fz
    have ml := hB.lt
    refine Go.FreshS.stores_of ?_ (store4 hb' hX.2 hB (.bool y2.t.s) (.slice y2.t.a y2.t.n y2.t.c) (.bool y2.l.s) (.slice y2.l.a y2.l.n y2.l.c))
    clear hw'
    go_simp
    try rfl
  conv => arg 10; simp only [Act.put, List.setIfInBounds_toArray, List.set_cons_succ, List.set_cons_zero]
  refine Go.FreshS.wpF_nil (fun w26 hb hF => ?_)
  have BX25 := Lib.hid (show Bxs w26 y6 26 [.bool y2.t.s, .slice y2.t.a y2.t.n y2.t.c, .bool y2.l.s, .slice y2.l.a y2.l.n y2.l.c] from stored_bxs (hF.all 7))
  clear hF
  have BX2 := Lib.hid (BX2.out.below hb BX2.out.lt)
  have KG := Lib.hid (KG.out.trans (hb.mono KG.out.size))
  clear hb
  clear BX25
  have cBX20 := BX2.out.cell (i := 0) rfl
  have cBX21 := BX2.out.cell (i := 1) rfl
  have cBX22 := BX2.out.cell (i := 2) rfl
  have cBX23 := BX2.out.cell (i := 3) rfl
  have cBX2f := BX2.out.fz
  have cBX2l := BX2.out.lt
  go_wp2_with fail
  have CT := Lib.hid (qsign ((N2.out.below KG.out)).any (((N2.out.below KG.out)).len LQp2.out (by decide : _ ≤ 900000)))
  rw [show cmpZ p2.num 0 = 0 from cmpZ_eq (by rw [HZ.out]; rfl)] at CT
  with_reducible refine CT.out.mono ?_
  rintro e w27 ⟨rfl, hb⟩
  clear CT
  clear cBX20 cBX21 cBX22 cBX23 cBX2f cBX2l
  clear BX2
  have KG := Lib.hid (KG.out.trans (hb.mono KG.out.size))
  clear hb
  go_wp2_with fail
  go_ret
  exact ⟨rfl, KG.out⟩
set_option maxRecDepth 100000 in
set_option maxHeartbeats 8000000 in
theorem undone_ok (x1 x2 : FV) (p1 p2 : Rat) (w : World) (htab : Tab w) (h1 : KF w x1 p1) (h2 : KF w x2 p2) (b1 : LF x1 10) (b2 : LF x2 10) (hz : p2 ≠ 0) : Calls Tryz.prog 7 #[x1.v, x2.v] w fun e w' => e = .returned (.bool true) ∧ Below w.heap.size w w' := by
  have HT := Lib.hid htab
  have KG := Lib.hid (Below.refl w.heap.size w)
  have N1 := Lib.hid h1
  have N2 := Lib.hid h2
  have LQp1 := Lib.hid (h1.lq b1)
  have LQp2 := Lib.hid (h2.lq b2)
  have HZ := Lib.hid hz
  clear hz
  clear htab h1 h2 b1 b2
  obtain ⟨sb, hsb⟩ : ∃ s, s = cmpZ p2.num 0 := ⟨_, rfl⟩
  have HSN := Lib.hid (show (sb == 0) = false by rw [hsb, cmpZ_same]; exact decide_eq_false (fun e => HZ.out (Rat.num_eq_zero.1 e)))
  have Hsb := Lib.hid hsb
  clear hsb
  obtain ⟨q10, hq10⟩ : ∃ z : Rat, z = p1 + p2 := ⟨_, rfl⟩
  have Hq10 := Lib.hid hq10
  have LQq10 := Lib.hid (show LQ q10 21 by rw [hq10]; exact LQ.add (LQp1.out.up (by decide : _ ≤ 10)) (LQp2.out.up (by decide : _ ≤ 10)) (by decide))
  clear hq10
  obtain ⟨q11, hq11⟩ : ∃ z : Rat, z = q10 - p2 := ⟨_, rfl⟩
  have Hq11 := Lib.hid hq11
  have LQq11 := Lib.hid (show LQ q11 43 by rw [hq11]; exact LQ.sub (LQq10.out.up (by decide : _ ≤ 21)) (LQp2.out.up (by decide : _ ≤ 21)) (by decide))
  clear hq11
  obtain ⟨q12, hq12⟩ : ∃ z : Rat, z = p1 - p1 := ⟨_, rfl⟩
  have Hq12 := Lib.hid hq12
  have LQq12 := Lib.hid (show LQ q12 21 by rw [hq12]; exact LQ.sub (LQp1.out.up (by decide : _ ≤ 10)) (LQp1.out.up (by decide : _ ≤ 10)) (by decide))
  clear hq12
  obtain ⟨q13, hq13⟩ : ∃ z : Rat, z = ((0 : Int) : Rat) / ((1 : Int) : Rat) := ⟨_, rfl⟩
  have Hq13 := Lib.hid hq13
  have LQq13 := Lib.hid (show LQ q13 3 by rw [hq13]; exact LQ.of (by decide) (by decide) (by decide) (by decide) (by decide))
  clear hq13
  obtain ⟨q14, hq14⟩ : ∃ z : Rat, z = p1 - p2 := ⟨_, rfl⟩
  have Hq14 := Lib.hid hq14
  have LQq14 := Lib.hid (show LQ q14 21 by rw [hq14]; exact LQ.sub (LQp1.out.up (by decide : _ ≤ 10)) (LQp2.out.up (by decide : _ ≤ 10)) (by decide))
  clear hq14
  obtain ⟨q15, hq15⟩ : ∃ z : Rat, z = q14 + p2 := ⟨_, rfl⟩
  have Hq15 := Lib.hid hq15
  have LQq15 := Lib.hid (show LQ q15 43 by rw [hq15]; exact LQ.add (LQq14.out.up (by decide : _ ≤ 21)) (LQp2.out.up (by decide : _ ≤ 21)) (by decide))
  clear hq15
  obtain ⟨q17, hq17⟩ : ∃ z : Rat, z = p1 * p2 := ⟨_, rfl⟩
  have Hq17 := Lib.hid hq17
  have LQq17 := Lib.hid (show LQ q17 20 by rw [hq17]; exact LQ.mul (LQp1.out.up (by decide : _ ≤ 10)) (LQp2.out.up (by decide : _ ≤ 10)) (by decide))
  clear hq17
  obtain ⟨q18, hq18⟩ : ∃ z : Rat, z = q17 / p2 := ⟨_, rfl⟩
  have Hq18 := Lib.hid hq18
  have LQq18 := Lib.hid (show LQ q18 40 by rw [hq18]; exact LQ.div (HZ.out) (LQq17.out.up (by decide : _ ≤ 20)) (LQp2.out.up (by decide : _ ≤ 20)) (by decide))
  clear hq18
  obtain ⟨q22, hq22⟩ : ∃ z : Rat, z = p1 / p2 := ⟨_, rfl⟩
  have Hq22 := Lib.hid hq22
  have LQq22 := Lib.hid (show LQ q22 20 by rw [hq22]; exact LQ.div (HZ.out) (LQp1.out.up (by decide : _ ≤ 10)) (LQp2.out.up (by decide : _ ≤ 10)) (by decide))
  clear hq22
  obtain ⟨q28, hq28⟩ : ∃ z : Rat, z = ((1 : Int) : Rat) / ((1 : Int) : Rat) := ⟨_, rfl⟩
  have Hq28 := Lib.hid hq28
  have LQq28 := Lib.hid (show LQ q28 3 by rw [hq28]; exact LQ.of (by decide) (by decide) (by decide) (by decide) (by decide))
  clear hq28
  obtain ⟨q29, hq29⟩ : ∃ z : Rat, z = q28 / p2 := ⟨_, rfl⟩
  have Hq29 := Lib.hid hq29
  have LQq29 := Lib.hid (show LQ q29 20 by rw [hq29]; exact LQ.div (HZ.out) (LQq28.out.up (by decide : _ ≤ 10)) (LQp2.out.up (by decide : _ ≤ 10)) (by decide))
  clear hq29
  obtain ⟨q34, hq34⟩ : ∃ z : Rat, z = q22 * p2 := ⟨_, rfl⟩
  have Hq34 := Lib.hid hq34
  have LQq34 := Lib.hid (show LQ q34 40 by rw [hq34]; exact LQ.mul (LQq22.out.up (by decide : _ ≤ 20)) (LQp2.out.up (by decide : _ ≤ 20)) (by decide))
  clear hq34
  obtain ⟨q35, hq35⟩ : ∃ z : Rat, z = p1 * q29 := ⟨_, rfl⟩
  have Hq35 := Lib.hid hq35
  have LQq35 := Lib.hid (show LQ q35 40 by rw [hq35]; exact LQ.mul (LQp1.out.up (by decide : _ ≤ 20)) (LQq29.out.up (by decide : _ ≤ 20)) (by decide))
  clear hq35
  go_enter Tryz.func7, Tryz.ntmps7
  go_upto_region 1 with (fail)
  obtain ⟨v3, hV⟩ : ∃ V, V = (w.alloc (.cells #[.bool x1.t.s, .slice x1.t.a x1.t.n x1.t.c, .bool x1.l.s, .slice x1.l.a x1.l.n x1.l.c] 26)).alloc (.cells #[.bool x2.t.s, .slice x2.t.a x2.t.n x2.t.c, .bool x2.l.s, .slice x2.l.a x2.l.n x2.l.c] 26) := ⟨_, rfl⟩
  have hbV : Below w.heap.size w v3 := by rw [hV]; exact (((Below.refl _ _).alloc (Nat.le_refl _) _).alloc (by go_size) _)
  have BX1 := Lib.hid (show Bxs v3 (w.heap.size) 26 [.bool x1.t.s, .slice x1.t.a x1.t.n x1.t.c, .bool x1.l.s, .slice x1.l.a x1.l.n x1.l.c] by have h := (Bxs.new (w) 26 [.bool x1.t.s, .slice x1.t.a x1.t.n x1.t.c, .bool x1.l.s, .slice x1.l.a x1.l.n x1.l.c]).alloc (.cells #[.bool x2.t.s, .slice x2.t.a x2.t.n x2.t.c, .bool x2.l.s, .slice x2.l.a x2.l.n x2.l.c] 26); rw [hV]; exact h)
  have BX2 := Lib.hid (show Bxs v3 (w.heap.size + 1) 26 [.bool x2.t.s, .slice x2.t.a x2.t.n x2.t.c, .bool x2.l.s, .slice x2.l.a x2.l.n x2.l.c] by have h := Bxs.new (w.alloc (.cells #[.bool x1.t.s, .slice x1.t.a x1.t.n x1.t.c, .bool x1.l.s, .slice x1.l.a x1.l.n x1.l.c] 26)) 26 [.bool x2.t.s, .slice x2.t.a x2.t.n x2.t.c, .bool x2.l.s, .slice x2.l.a x2.l.n x2.l.c]; simp only [World.size_alloc] at h; rw [hV]; exact h)
  rw [show (w.alloc (.cells #[.bool x1.t.s, .slice x1.t.a x1.t.n x1.t.c, .bool x1.l.s, .slice x1.l.a x1.l.n x1.l.c] 26)).alloc (.cells #[.bool x2.t.s, .slice x2.t.a x2.t.n x2.t.c, .bool x2.l.s, .slice x2.l.a x2.l.n x2.l.c] 26) = v3 from hV.symm]
  have KG := Lib.hid (KG.out.trans (hbV.mono KG.out.size))
  clear hV hbV
  go_wp2_with fail
  have CT := Lib.hid (qalive v3 (HT.out.on KG.out))
  with_reducible refine CT.out.mono ?_
  rintro e w4 ⟨rfl, hb⟩
  clear CT
  have BX1 := Lib.hid (BX1.out.below hb BX1.out.lt)
  have BX2 := Lib.hid (BX2.out.below hb BX2.out.lt)
  have KG := Lib.hid (KG.out.trans (hb.mono KG.out.size))
  clear hb
  have cBX10 := BX1.out.cell (i := 0) rfl
  have cBX11 := BX1.out.cell (i := 1) rfl
  have cBX12 := BX1.out.cell (i := 2) rfl
  have cBX13 := BX1.out.cell (i := 3) rfl
  have cBX1f := BX1.out.fz
  have cBX1l := BX1.out.lt
  have cBX20 := BX2.out.cell (i := 0) rfl
  have cBX21 := BX2.out.cell (i := 1) rfl
  have cBX22 := BX2.out.cell (i := 2) rfl
  have cBX23 := BX2.out.cell (i := 3) rfl
  have cBX2f := BX2.out.fz
  have cBX2l := BX2.out.lt
  go_wp2_with fail
  clear cBX10 cBX11 cBX12 cBX13 cBX1f cBX1l
  clear cBX20 cBX21 cBX22 cBX23 cBX2f cBX2l
  obtain ⟨v6, hV⟩ : ∃ V, V = w4.alloc (.cells #[.bool x1.t.s, .slice x1.t.a x1.t.n x1.t.c, .bool x1.l.s, .slice x1.l.a x1.l.n x1.l.c, .bool x2.t.s, .slice x2.t.a x2.t.n x2.t.c, .bool x2.l.s, .slice x2.l.a x2.l.n x2.l.c] 26) := ⟨_, rfl⟩
  have hbV : Below w4.heap.size w4 v6 := by rw [hV]; exact ((Below.refl _ _).alloc (Nat.le_refl _) _)
  have BX5 := Lib.hid (show Bxs v6 (w4.heap.size) 26 [.bool x1.t.s, .slice x1.t.a x1.t.n x1.t.c, .bool x1.l.s, .slice x1.l.a x1.l.n x1.l.c, .bool x2.t.s, .slice x2.t.a x2.t.n x2.t.c, .bool x2.l.s, .slice x2.l.a x2.l.n x2.l.c] by have h := Bxs.new (w4) 26 [.bool x1.t.s, .slice x1.t.a x1.t.n x1.t.c, .bool x1.l.s, .slice x1.l.a x1.l.n x1.l.c, .bool x2.t.s, .slice x2.t.a x2.t.n x2.t.c, .bool x2.l.s, .slice x2.l.a x2.l.n x2.l.c]; rw [hV]; exact h)
  rw [show w4.alloc (.cells #[.bool x1.t.s, .slice x1.t.a x1.t.n x1.t.c, .bool x1.l.s, .slice x1.l.a x1.l.n x1.l.c, .bool x2.t.s, .slice x2.t.a x2.t.n x2.t.c, .bool x2.l.s, .slice x2.l.a x2.l.n x2.l.c] 26) = v6 from hV.symm]
  have BX1 := Lib.hid (BX1.out.below hbV BX1.out.lt)
  have BX2 := Lib.hid (BX2.out.below hbV BX2.out.lt)
  have KG := Lib.hid (KG.out.trans (hbV.mono KG.out.size))
  clear hV hbV
  have cBX10 := BX1.out.cell (i := 0) rfl
  have cBX11 := BX1.out.cell (i := 1) rfl
  have cBX12 := BX1.out.cell (i := 2) rfl
  have cBX13 := BX1.out.cell (i := 3) rfl
  have cBX1f := BX1.out.fz
  have cBX1l := BX1.out.lt
  have cBX20 := BX2.out.cell (i := 0) rfl
  have cBX21 := BX2.out.cell (i := 1) rfl
  have cBX22 := BX2.out.cell (i := 2) rfl
  have cBX23 := BX2.out.cell (i := 3) rfl
  have cBX2f := BX2.out.fz
  have cBX2l := BX2.out.lt
  have CT := Lib.hid (qgreat2 (M := 10) BX5.out)
  rw [show ((10 : Nat) : Int) = 10 from rfl, show decide ((10 < x1.t.n ∨ 10 < x1.l.n) ∨ (10 < x2.t.n ∨ 10 < x2.l.n)) = false from decide_eq_false (by have g0 := (((N1.out.below KG.out)).len LQp1.out (by decide : _ ≤ 10)); have g1 := (((N2.out.below KG.out)).len LQp2.out (by decide : _ ≤ 10)); omega)] at CT
  with_reducible refine CT.out.mono ?_
  rintro e w7 ⟨rfl, hb⟩
  clear CT
  clear cBX10 cBX11 cBX12 cBX13 cBX1f cBX1l
  clear cBX20 cBX21 cBX22 cBX23 cBX2f cBX2l
  have BX1 := Lib.hid (BX1.out.below hb BX1.out.lt)
  have BX2 := Lib.hid (BX2.out.below hb BX2.out.lt)
  clear BX5
  have KG := Lib.hid (KG.out.trans (hb.mono KG.out.size))
  clear hb
  have cBX10 := BX1.out.cell (i := 0) rfl
  have cBX11 := BX1.out.cell (i := 1) rfl
  have cBX12 := BX1.out.cell (i := 2) rfl
  have cBX13 := BX1.out.cell (i := 3) rfl
  have cBX1f := BX1.out.fz
  have cBX1l := BX1.out.lt
  go_wp2_with fail
  have CT := Lib.hid (qcheck (N1.out.below KG.out) (((N1.out.below KG.out)).len LQp1.out (by decide : _ ≤ 900000)))
  with_reducible refine CT.out.mono ?_
  rintro e w8 ⟨rfl, hb⟩
  clear CT
  clear cBX10 cBX11 cBX12 cBX13 cBX1f cBX1l
  have BX1 := Lib.hid (BX1.out.below hb BX1.out.lt)
  have BX2 := Lib.hid (BX2.out.below hb BX2.out.lt)
  have KG := Lib.hid (KG.out.trans (hb.mono KG.out.size))
  clear hb
  have cBX20 := BX2.out.cell (i := 0) rfl
  have cBX21 := BX2.out.cell (i := 1) rfl
  have cBX22 := BX2.out.cell (i := 2) rfl
  have cBX23 := BX2.out.cell (i := 3) rfl
  have cBX2f := BX2.out.fz
  have cBX2l := BX2.out.lt
  go_wp2_with fail
  have CT := Lib.hid (qcheck (N2.out.below KG.out) (((N2.out.below KG.out)).len LQp2.out (by decide : _ ≤ 900000)))
  with_reducible refine CT.out.mono ?_
  rintro e w9 ⟨rfl, hb⟩
  clear CT
  clear cBX20 cBX21 cBX22 cBX23 cBX2f cBX2l
  have BX1 := Lib.hid (BX1.out.below hb BX1.out.lt)
  have BX2 := Lib.hid (BX2.out.below hb BX2.out.lt)
  have KG := Lib.hid (KG.out.trans (hb.mono KG.out.size))
  clear hb
  go_upto_region 3 with (fail)
  refine Go.FreshS.wp_region_fresh 25 [] (Go.FreshS.spOf [(2, Go.FreshS.Sp.made (fun x : FV => x.v) (fun x w' => DF w' w9.heap.size x q10) FV.blk), (4, Go.FreshS.Sp.made (fun x : FV => x.v) (fun x w' => DF w' w9.heap.size x q11) FV.blk), (6, Go.FreshS.Sp.know (.bool true)), (11, Go.FreshS.Sp.made (fun x : FV => x.v) (fun x w' => DF w' w9.heap.size x q12) FV.blk), (12, Go.FreshS.Sp.made (fun x : FV => x.v) (fun x w' => DF w' w9.heap.size x q13) FV.blk), (13, Go.FreshS.Sp.know (.bool true)), (19, Go.FreshS.Sp.made (fun x : FV => x.v) (fun x w' => DF w' w9.heap.size x q14) FV.blk), (21, Go.FreshS.Sp.made (fun x : FV => x.v) (fun x w' => DF w' w9.heap.size x q15) FV.blk), (23, Go.FreshS.Sp.know (.bool true))])
    (fun w' => Below w9.heap.size w9 w') (by kernel_rfl) (by kernel_rfl) (by kernel_rfl)
    (Go.FreshS.spOf_cons (Go.FreshS.Sp.made_keeps _ (fun _ _ _ h _ hk => h.kept hk) (Go.FreshS.notTaken (by kernel_rfl))) (Go.FreshS.spOf_cons (Go.FreshS.Sp.made_keeps _ (fun _ _ _ h _ hk => h.kept hk) (Go.FreshS.notTaken (by kernel_rfl))) (Go.FreshS.spOf_cons (Go.FreshS.Sp.know_keeps _ _) (Go.FreshS.spOf_cons (Go.FreshS.Sp.made_keeps _ (fun _ _ _ h _ hk => h.kept hk) (Go.FreshS.notTaken (by kernel_rfl))) (Go.FreshS.spOf_cons (Go.FreshS.Sp.made_keeps _ (fun _ _ _ h _ hk => h.kept hk) (Go.FreshS.notTaken (by kernel_rfl))) (Go.FreshS.spOf_cons (Go.FreshS.Sp.know_keeps _ _) (Go.FreshS.spOf_cons (Go.FreshS.Sp.made_keeps _ (fun _ _ _ h _ hk => h.kept hk) (Go.FreshS.notTaken (by kernel_rfl))) (Go.FreshS.spOf_cons (Go.FreshS.Sp.made_keeps _ (fun _ _ _ h _ hk => h.kept hk) (Go.FreshS.notTaken (by kernel_rfl))) (Go.FreshS.spOf_cons (Go.FreshS.Sp.know_keeps _ _) (Go.FreshS.spOf_nil)))))))))) (fun _ _ h hb => h.trans (hb.mono h.size)) ((Below.refl _ _).drew) ?_
  simp only [List.append_eq, List.cons_append, List.nil_append, List.take_succ_cons, List.take_zero, List.drop_succ_cons, List.drop_zero]
  refine Go.FreshS.wpF_reads rfl rfl rfl ?_ (fun w' hw' => ?_) ?_
  rotate_left
  · have hb' := hw'.world
    have hs0 := (BX1.out.below hb' BX1.out.lt).cell (i := 0) rfl
    have hs1 := (BX1.out.below hb' BX1.out.lt).cell (i := 1) rfl
    have hs2 := (BX1.out.below hb' BX1.out.lt).cell (i := 2) rfl
    have hs3 := (BX1.out.below hb' BX1.out.lt).cell (i := 3) rfl
    have hsf := (BX1.out.below hb' BX1.out.lt).fz
    have hsl := (BX1.out.below hb' BX1.out.lt).lt
    clear hw'
    go_simp
    try rfl
  conv => arg 10; simp only [Act.put, List.setIfInBounds_toArray, List.set_cons_succ, List.set_cons_zero]
  refine Go.FreshS.wpF_reads rfl rfl rfl ?_ (fun w' hw' => ?_) ?_
  rotate_left
  · have hb' := hw'.world
    have hs0 := (BX2.out.below hb' BX2.out.lt).cell (i := 0) rfl
    have hs1 := (BX2.out.below hb' BX2.out.lt).cell (i := 1) rfl
    have hs2 := (BX2.out.below hb' BX2.out.lt).cell (i := 2) rfl
    have hs3 := (BX2.out.below hb' BX2.out.lt).cell (i := 3) rfl
    have hsf := (BX2.out.below hb' BX2.out.lt).fz
    have hsl := (BX2.out.below hb' BX2.out.lt).lt
    clear hw'
    go_simp
    try rfl
  conv => arg 10; simp only [Act.put, List.setIfInBounds_toArray, List.set_cons_succ, List.set_cons_zero]
  refine Go.FreshS.wpF_spec rfl rfl rfl (fun w' hw' => ?_) ?_
  · have hb' := hw'.world
    refine Go.FreshS.gives_of (Go.FreshS.PM (fun x : FV => x.v) (fun x w' => DF w' w9.heap.size x q10) FV.blk w'.heap.size) ?_ (fun _ _ h => h.post (fun _ _ => FV.inj))
    go_simp
    have CT := qadd ((N1.out.below (KG.out.trans (hb'.mono KG.out.size)))).any (((N1.out.below (KG.out.trans (hb'.mono KG.out.size)))).len LQp1.out (by decide : _ ≤ 900000)) ((N2.out.below (KG.out.trans (hb'.mono KG.out.size)))).any (((N2.out.below (KG.out.trans (hb'.mono KG.out.size)))).len LQp2.out (by decide : _ ≤ 900000))
    rw [show p1 + p2 = q10 from Hq10.out.symm] at CT
    refine CT.mono ?_
    rintro e w'' ⟨za, rfl, ho, hb⟩
    exact ⟨_, rfl, ⟨za, rfl, ho.mono hb'.size, ho.blks⟩, hb⟩
  rintro _ ⟨y2, rfl⟩
  conv => arg 10; simp only [Act.put, List.setIfInBounds_toArray, List.set_cons_succ, List.set_cons_zero]
  refine Go.FreshS.wpF_reads rfl rfl rfl ?_ (fun w' hw' => ?_) ?_
  rotate_left
  · have hb' := hw'.world
    have hs0 := (BX2.out.below hb' BX2.out.lt).cell (i := 0) rfl
    have hs1 := (BX2.out.below hb' BX2.out.lt).cell (i := 1) rfl
    have hs2 := (BX2.out.below hb' BX2.out.lt).cell (i := 2) rfl
    have hs3 := (BX2.out.below hb' BX2.out.lt).cell (i := 3) rfl
    have hsf := (BX2.out.below hb' BX2.out.lt).fz
    have hsl := (BX2.out.below hb' BX2.out.lt).lt
    clear hw'
    go_simp
    try rfl
  conv => arg 10; simp only [Act.put, List.setIfInBounds_toArray, List.set_cons_succ, List.set_cons_zero]
  refine Go.FreshS.wpF_spec rfl rfl rfl (fun w' hw' => ?_) ?_
  · have hb' := hw'.world
    refine Go.FreshS.gives_of (Go.FreshS.PM (fun x : FV => x.v) (fun x w' => DF w' w9.heap.size x q11) FV.blk w'.heap.size) ?_ (fun _ _ h => h.post (fun _ _ => FV.inj))
    go_simp
    have f2 := Go.FreshS.made_of (val := (fun x : FV => x.v)) (Φ := fun x w' => DF w' w9.heap.size x q10) (fun _ _ => FV.inj) (hw'.fact 2 (by kernel_rfl))
    have CT := qsub (f2).k.any (((f2).k).len LQq10.out (by decide : _ ≤ 900000)) ((N2.out.below (KG.out.trans (hb'.mono KG.out.size)))).any (((N2.out.below (KG.out.trans (hb'.mono KG.out.size)))).len LQp2.out (by decide : _ ≤ 900000))
    rw [show q10 - p2 = q11 from Hq11.out.symm] at CT
    refine CT.mono ?_
    rintro e w'' ⟨za, rfl, ho, hb⟩
    exact ⟨_, rfl, ⟨za, rfl, ho.mono hb'.size, ho.blks⟩, hb⟩
  rintro _ ⟨y4, rfl⟩
  conv => arg 10; simp only [Act.put, List.setIfInBounds_toArray, List.set_cons_succ, List.set_cons_zero]
  refine Go.FreshS.wpF_reads rfl rfl rfl ?_ (fun w' hw' => ?_) ?_
  rotate_left
  · have hb' := hw'.world
    have hs0 := (BX1.out.below hb' BX1.out.lt).cell (i := 0) rfl
    have hs1 := (BX1.out.below hb' BX1.out.lt).cell (i := 1) rfl
    have hs2 := (BX1.out.below hb' BX1.out.lt).cell (i := 2) rfl
    have hs3 := (BX1.out.below hb' BX1.out.lt).cell (i := 3) rfl
    have hsf := (BX1.out.below hb' BX1.out.lt).fz
    have hsl := (BX1.out.below hb' BX1.out.lt).lt
    clear hw'
    go_simp
    try rfl
  conv => arg 10; simp only [Act.put, List.setIfInBounds_toArray, List.set_cons_succ, List.set_cons_zero]
  refine Go.FreshS.wpF_spec rfl rfl rfl (fun w' hw' => ?_) ?_
  · have hb' := hw'.world
    refine Go.FreshS.gives_of (Go.FreshS.PK (.bool true)) ?_ (fun _ _ h => h.post)
    go_simp
    have f4 := Go.FreshS.made_of (val := (fun x : FV => x.v)) (Φ := fun x w' => DF w' w9.heap.size x q11) (fun _ _ => FV.inj) (hw'.fact 4 (by kernel_rfl))
    have CT := qsame (f4).k (((f4).k).len LQq11.out (by decide : _ ≤ 900000)) (N1.out.below (KG.out.trans (hb'.mono KG.out.size))) (((N1.out.below (KG.out.trans (hb'.mono KG.out.size)))).len LQp1.out (by decide : _ ≤ 900000)) (by simp only [Hq11.out, Hq10.out]; (try simp only [qc01, qc11, qci1]); grind)
    refine CT.mono ?_
    rintro e w'' ⟨rfl, hb⟩
    exact ⟨_, rfl, rfl, hb⟩
  rintro _ rfl
  conv => arg 10; simp only [Act.put, List.setIfInBounds_toArray, List.set_cons_succ, List.set_cons_zero]
  refine Go.FreshS.wpF_reads rfl rfl rfl ?_ (fun w' hw' => ?_) ?_
  rotate_left
  · have hb' := hw'.world
    skip
    clear hw'
    go_simp
    try rfl
  conv => arg 10; simp only [Act.put, List.setIfInBounds_toArray, List.set_cons_succ, List.set_cons_zero]
  refine Go.FreshS.wpF_reads rfl rfl rfl ?_ (fun w' hw' => ?_) ?_
  rotate_left
  · have hb' := hw'.world
    skip
    clear hw'
    go_simp
    try rfl
  conv => arg 10; simp only [Act.put, List.setIfInBounds_toArray, List.set_cons_succ, List.set_cons_zero]
  refine Go.FreshS.wpF_readsG (by rfl) rfl rfl ?_ (fun w' hw' => ?_) ?_
  rotate_left
  · have hb' := hw'.world
    have hs0 := (BX1.out.below hb' BX1.out.lt).cell (i := 0) rfl
    have hs1 := (BX1.out.below hb' BX1.out.lt).cell (i := 1) rfl
    have hs2 := (BX1.out.below hb' BX1.out.lt).cell (i := 2) rfl
    have hs3 := (BX1.out.below hb' BX1.out.lt).cell (i := 3) rfl
    have hsf := (BX1.out.below hb' BX1.out.lt).fz
    have hsl := (BX1.out.below hb' BX1.out.lt).lt
    clear hw'
    go_simp
    try rfl
  conv => arg 10; simp only [Act.put, List.setIfInBounds_toArray, List.set_cons_succ, List.set_cons_zero]
  refine Go.FreshS.wpF_readsG (by rfl) rfl rfl ?_ (fun w' hw' => ?_) ?_
  rotate_left
  · have hb' := hw'.world
    have hs0 := (BX1.out.below hb' BX1.out.lt).cell (i := 0) rfl
    have hs1 := (BX1.out.below hb' BX1.out.lt).cell (i := 1) rfl
    have hs2 := (BX1.out.below hb' BX1.out.lt).cell (i := 2) rfl
    have hs3 := (BX1.out.below hb' BX1.out.lt).cell (i := 3) rfl
    have hsf := (BX1.out.below hb' BX1.out.lt).fz
    have hsl := (BX1.out.below hb' BX1.out.lt).lt
    clear hw'
    go_simp
    try rfl
  conv => arg 10; simp only [Act.put, List.setIfInBounds_toArray, List.set_cons_succ, List.set_cons_zero]
  refine Go.FreshS.wpF_gspec (by rfl) rfl rfl (fun w' hw' => ?_) ?_
  · have hb' := hw'.world
    refine Go.FreshS.gives_of (Go.FreshS.PM (fun x : FV => x.v) (fun x w' => DF w' w9.heap.size x q12) FV.blk w'.heap.size) ?_ (fun _ _ h => h.post (fun _ _ => FV.inj))
    go_simp
    have CT := qsub ((N1.out.below (KG.out.trans (hb'.mono KG.out.size)))).any (((N1.out.below (KG.out.trans (hb'.mono KG.out.size)))).len LQp1.out (by decide : _ ≤ 900000)) ((N1.out.below (KG.out.trans (hb'.mono KG.out.size)))).any (((N1.out.below (KG.out.trans (hb'.mono KG.out.size)))).len LQp1.out (by decide : _ ≤ 900000))
    rw [show p1 - p1 = q12 from Hq12.out.symm] at CT
    refine CT.mono ?_
    rintro e w'' ⟨za, rfl, ho, hb⟩
    exact ⟨_, rfl, ⟨za, rfl, ho.mono hb'.size, ho.blks⟩, hb⟩
  rintro _ ⟨y11, rfl⟩
  conv => arg 10; simp only [Act.put, List.setIfInBounds_toArray, List.set_cons_succ, List.set_cons_zero]
  refine Go.FreshS.wpF_gspec (by rfl) rfl rfl (fun w' hw' => ?_) ?_
  · have hb' := hw'.world
    refine Go.FreshS.gives_of (Go.FreshS.PM (fun x : FV => x.v) (fun x w' => DF w' w9.heap.size x q13) FV.blk w'.heap.size) ?_ (fun _ _ h => h.post (fun _ _ => FV.inj))
    go_simp
    have CT := ofQ 0 1 w' (by decide) (by decide) (by decide) (by decide) (by decide)
    rw [show ((0 : Int) : Rat) / ((1 : Int) : Rat) = q13 from Hq13.out.symm] at CT
    refine CT.mono ?_
    rintro e w'' ⟨za, rfl, ho, hb⟩
    exact ⟨_, rfl, ⟨za, rfl, ho.mono hb'.size, ho.blks⟩, hb⟩
  rintro _ ⟨y12, rfl⟩
  conv => arg 10; simp only [Act.put, List.setIfInBounds_toArray, List.set_cons_succ, List.set_cons_zero]
  refine Go.FreshS.wpF_gspec (by rfl) rfl rfl (fun w' hw' => ?_) ?_
  · have hb' := hw'.world
    refine Go.FreshS.gives_of (Go.FreshS.PK (.bool true)) ?_ (fun _ _ h => h.post)
    go_simp
    have f11 := Go.FreshS.made_of (val := (fun x : FV => x.v)) (Φ := fun x w' => DF w' w9.heap.size x q12) (fun _ _ => FV.inj) (hw'.fact 11 (by kernel_rfl))
    have f12 := Go.FreshS.made_of (val := (fun x : FV => x.v)) (Φ := fun x w' => DF w' w9.heap.size x q13) (fun _ _ => FV.inj) (hw'.fact 12 (by kernel_rfl))
    have CT := qsame (f11).k (((f11).k).len LQq12.out (by decide : _ ≤ 900000)) (f12).k (((f12).k).len LQq13.out (by decide : _ ≤ 900000)) (by simp only [Hq13.out, Hq12.out, Hq11.out, Hq10.out]; (try simp only [qc01, qc11, qci1]); grind)
    refine CT.mono ?_
    rintro e w'' ⟨rfl, hb⟩
    exact ⟨_, rfl, rfl, hb⟩
  rintro _ rfl
  conv => arg 10; simp only [Act.put, List.setIfInBounds_toArray, List.set_cons_succ, List.set_cons_zero]
  refine Go.FreshS.wpF_readsG (by rfl) rfl rfl ?_ (fun w' hw' => ?_) ?_
  rotate_left
  · have hb' := hw'.world
    skip
    clear hw'
    go_simp
    try rfl
  conv => arg 10; simp only [Act.put, List.setIfInBounds_toArray, List.set_cons_succ, List.set_cons_zero]
  refine Go.FreshS.wpF_reads rfl rfl rfl ?_ (fun w' hw' => ?_) ?_
  rotate_left
  · have hb' := hw'.world
    skip
    clear hw'
    go_simp
    try rfl
  conv => arg 10; simp only [Act.put, List.setIfInBounds_toArray, List.set_cons_succ, List.set_cons_zero]
  refine Go.FreshS.wpF_reads rfl rfl rfl ?_ (fun w' hw' => ?_) ?_
  rotate_left
  · have hb' := hw'.world
    skip
    clear hw'
    go_simp
    try rfl
  conv => arg 10; simp only [Act.put, List.setIfInBounds_toArray, List.set_cons_succ, List.set_cons_zero]
  refine Go.FreshS.wpF_readsG (by rfl) rfl rfl ?_ (fun w' hw' => ?_) ?_
  rotate_left
  · have hb' := hw'.world
    have hs0 := (BX1.out.below hb' BX1.out.lt).cell (i := 0) rfl
    have hs1 := (BX1.out.below hb' BX1.out.lt).cell (i := 1) rfl
    have hs2 := (BX1.out.below hb' BX1.out.lt).cell (i := 2) rfl
    have hs3 := (BX1.out.below hb' BX1.out.lt).cell (i := 3) rfl
    have hsf := (BX1.out.below hb' BX1.out.lt).fz
    have hsl := (BX1.out.below hb' BX1.out.lt).lt
    clear hw'
    go_simp
    try rfl
  conv => arg 10; simp only [Act.put, List.setIfInBounds_toArray, List.set_cons_succ, List.set_cons_zero]
  refine Go.FreshS.wpF_readsG (by rfl) rfl rfl ?_ (fun w' hw' => ?_) ?_
  rotate_left
  · have hb' := hw'.world
    have hs0 := (BX2.out.below hb' BX2.out.lt).cell (i := 0) rfl
    have hs1 := (BX2.out.below hb' BX2.out.lt).cell (i := 1) rfl
    have hs2 := (BX2.out.below hb' BX2.out.lt).cell (i := 2) rfl
    have hs3 := (BX2.out.below hb' BX2.out.lt).cell (i := 3) rfl
    have hsf := (BX2.out.below hb' BX2.out.lt).fz
    have hsl := (BX2.out.below hb' BX2.out.lt).lt
    clear hw'
    go_simp
    try rfl
  conv => arg 10; simp only [Act.put, List.setIfInBounds_toArray, List.set_cons_succ, List.set_cons_zero]
  refine Go.FreshS.wpF_gspec (by rfl) rfl rfl (fun w' hw' => ?_) ?_
  · have hb' := hw'.world
    refine Go.FreshS.gives_of (Go.FreshS.PM (fun x : FV => x.v) (fun x w' => DF w' w9.heap.size x q14) FV.blk w'.heap.size) ?_ (fun _ _ h => h.post (fun _ _ => FV.inj))
    go_simp
    have CT := qsub ((N1.out.below (KG.out.trans (hb'.mono KG.out.size)))).any (((N1.out.below (KG.out.trans (hb'.mono KG.out.size)))).len LQp1.out (by decide : _ ≤ 900000)) ((N2.out.below (KG.out.trans (hb'.mono KG.out.size)))).any (((N2.out.below (KG.out.trans (hb'.mono KG.out.size)))).len LQp2.out (by decide : _ ≤ 900000))
    rw [show p1 - p2 = q14 from Hq14.out.symm] at CT
    refine CT.mono ?_
    rintro e w'' ⟨za, rfl, ho, hb⟩
    exact ⟨_, rfl, ⟨za, rfl, ho.mono hb'.size, ho.blks⟩, hb⟩
  rintro _ ⟨y19, rfl⟩
  conv => arg 10; simp only [Act.put, List.setIfInBounds_toArray, List.set_cons_succ, List.set_cons_zero]
  refine Go.FreshS.wpF_readsG (by rfl) rfl rfl ?_ (fun w' hw' => ?_) ?_
  rotate_left
  · have hb' := hw'.world
    have hs0 := (BX2.out.below hb' BX2.out.lt).cell (i := 0) rfl
    have hs1 := (BX2.out.below hb' BX2.out.lt).cell (i := 1) rfl
    have hs2 := (BX2.out.below hb' BX2.out.lt).cell (i := 2) rfl
    have hs3 := (BX2.out.below hb' BX2.out.lt).cell (i := 3) rfl
    have hsf := (BX2.out.below hb' BX2.out.lt).fz
    have hsl := (BX2.out.below hb' BX2.out.lt).lt
    clear hw'
    go_simp
    try rfl
  conv => arg 10; simp only [Act.put, List.setIfInBounds_toArray, List.set_cons_succ, List.set_cons_zero]
  refine Go.FreshS.wpF_gspec (by rfl) rfl rfl (fun w' hw' => ?_) ?_
  · have hb' := hw'.world
    refine Go.FreshS.gives_of (Go.FreshS.PM (fun x : FV => x.v) (fun x w' => DF w' w9.heap.size x q15) FV.blk w'.heap.size) ?_ (fun _ _ h => h.post (fun _ _ => FV.inj))
    go_simp
    have f19 := Go.FreshS.made_of (val := (fun x : FV => x.v)) (Φ := fun x w' => DF w' w9.heap.size x q14) (fun _ _ => FV.inj) (hw'.fact 19 (by kernel_rfl))
    have CT := qadd (f19).k.any (((f19).k).len LQq14.out (by decide : _ ≤ 900000)) ((N2.out.below (KG.out.trans (hb'.mono KG.out.size)))).any (((N2.out.below (KG.out.trans (hb'.mono KG.out.size)))).len LQp2.out (by decide : _ ≤ 900000))
    rw [show q14 + p2 = q15 from Hq15.out.symm] at CT
    refine CT.mono ?_
    rintro e w'' ⟨za, rfl, ho, hb⟩
    exact ⟨_, rfl, ⟨za, rfl, ho.mono hb'.size, ho.blks⟩, hb⟩
  rintro _ ⟨y21, rfl⟩
  conv => arg 10; simp only [Act.put, List.setIfInBounds_toArray, List.set_cons_succ, List.set_cons_zero]
  refine Go.FreshS.wpF_readsG (by rfl) rfl rfl ?_ (fun w' hw' => ?_) ?_
  rotate_left
  · have hb' := hw'.world
    have hs0 := (BX1.out.below hb' BX1.out.lt).cell (i := 0) rfl
    have hs1 := (BX1.out.below hb' BX1.out.lt).cell (i := 1) rfl
    have hs2 := (BX1.out.below hb' BX1.out.lt).cell (i := 2) rfl
    have hs3 := (BX1.out.below hb' BX1.out.lt).cell (i := 3) rfl
    have hsf := (BX1.out.below hb' BX1.out.lt).fz
    have hsl := (BX1.out.below hb' BX1.out.lt).lt
    clear hw'
    go_simp
    try rfl
  conv => arg 10; simp only [Act.put, List.setIfInBounds_toArray, List.set_cons_succ, List.set_cons_zero]
  refine Go.FreshS.wpF_gspec (by rfl) rfl rfl (fun w' hw' => ?_) ?_
  · have hb' := hw'.world
    refine Go.FreshS.gives_of (Go.FreshS.PK (.bool true)) ?_ (fun _ _ h => h.post)
    go_simp
    have f21 := Go.FreshS.made_of (val := (fun x : FV => x.v)) (Φ := fun x w' => DF w' w9.heap.size x q15) (fun _ _ => FV.inj) (hw'.fact 21 (by kernel_rfl))
    have CT := qsame (f21).k (((f21).k).len LQq15.out (by decide : _ ≤ 900000)) (N1.out.below (KG.out.trans (hb'.mono KG.out.size))) (((N1.out.below (KG.out.trans (hb'.mono KG.out.size)))).len LQp1.out (by decide : _ ≤ 900000)) (by simp only [Hq15.out, Hq14.out, Hq13.out, Hq12.out, Hq11.out, Hq10.out]; (try simp only [qc01, qc11, qci1]); grind)
    refine CT.mono ?_
    rintro e w'' ⟨rfl, hb⟩
    exact ⟨_, rfl, rfl, hb⟩
  rintro _ rfl
  conv => arg 10; simp only [Act.put, List.setIfInBounds_toArray, List.set_cons_succ, List.set_cons_zero]
  refine Go.FreshS.wpF_readsG (by rfl) rfl rfl ?_ (fun w' hw' => ?_) ?_
  rotate_left
  · have hb' := hw'.world
    skip
    clear hw'
    go_simp
    try rfl
  conv => arg 10; simp only [Act.put, List.setIfInBounds_toArray, List.set_cons_succ, List.set_cons_zero]
  refine Go.FreshS.wpF_nil (fun w16 hb hF => ?_)
  clear hF
  have BX1 := Lib.hid (BX1.out.below hb BX1.out.lt)
  have BX2 := Lib.hid (BX2.out.below hb BX2.out.lt)
  have KG := Lib.hid (KG.out.trans (hb.mono KG.out.size))
  clear hb
  go_upto_region 5 with (fail)
  refine Go.FreshS.wp_region_fresh 10 [(9, 8)] (Go.FreshS.spOf [(2, Go.FreshS.Sp.made (fun x : FV => x.v) (fun x w' => DF w' w16.heap.size x q17) FV.blk), (4, Go.FreshS.Sp.made (fun x : FV => .tuple #[x.v, .int .i64 0]) (fun x w' => DF w' w16.heap.size x q18) FV.blk), (8, Go.FreshS.Sp.box 26 4 w16.heap.size)])
    (fun w' => Below w16.heap.size w16 w') (by kernel_rfl) (by kernel_rfl) (by kernel_rfl)
    (Go.FreshS.spOf_cons (Go.FreshS.Sp.made_keeps _ (fun _ _ _ h _ hk => h.kept hk) (Go.FreshS.notTaken (by kernel_rfl))) (Go.FreshS.spOf_cons (Go.FreshS.Sp.made_keeps _ (fun _ _ _ h _ hk => h.kept hk) (Go.FreshS.notTaken (by kernel_rfl))) (Go.FreshS.spOf_cons (Go.FreshS.Sp.box_keeps _ _ _ _) (Go.FreshS.spOf_nil)))) (fun _ _ h hb => h.trans (hb.mono h.size)) ((Below.refl _ _).drew) ?_
  simp only [List.append_eq, List.cons_append, List.nil_append, List.take_succ_cons, List.take_zero, List.drop_succ_cons, List.drop_zero]
  refine Go.FreshS.wpF_reads rfl rfl rfl ?_ (fun w' hw' => ?_) ?_
  rotate_left
  · have hb' := hw'.world
    have hs0 := (BX1.out.below hb' BX1.out.lt).cell (i := 0) rfl
    have hs1 := (BX1.out.below hb' BX1.out.lt).cell (i := 1) rfl
    have hs2 := (BX1.out.below hb' BX1.out.lt).cell (i := 2) rfl
    have hs3 := (BX1.out.below hb' BX1.out.lt).cell (i := 3) rfl
    have hsf := (BX1.out.below hb' BX1.out.lt).fz
    have hsl := (BX1.out.below hb' BX1.out.lt).lt
    clear hw'
    go_simp
    try rfl
  conv => arg 10; simp only [Act.put, List.setIfInBounds_toArray, List.set_cons_succ, List.set_cons_zero]
  refine Go.FreshS.wpF_reads rfl rfl rfl ?_ (fun w' hw' => ?_) ?_
  rotate_left
  · have hb' := hw'.world
    have hs0 := (BX2.out.below hb' BX2.out.lt).cell (i := 0) rfl
    have hs1 := (BX2.out.below hb' BX2.out.lt).cell (i := 1) rfl
    have hs2 := (BX2.out.below hb' BX2.out.lt).cell (i := 2) rfl
    have hs3 := (BX2.out.below hb' BX2.out.lt).cell (i := 3) rfl
    have hsf := (BX2.out.below hb' BX2.out.lt).fz
    have hsl := (BX2.out.below hb' BX2.out.lt).lt
    clear hw'
    go_simp
    try rfl
  conv => arg 10; simp only [Act.put, List.setIfInBounds_toArray, List.set_cons_succ, List.set_cons_zero]
  refine Go.FreshS.wpF_spec rfl rfl rfl (fun w' hw' => ?_) ?_
  · have hb' := hw'.world
    refine Go.FreshS.gives_of (Go.FreshS.PM (fun x : FV => x.v) (fun x w' => DF w' w16.heap.size x q17) FV.blk w'.heap.size) ?_ (fun _ _ h => h.post (fun _ _ => FV.inj))
    go_simp
    have CT := qmul ((N1.out.below (KG.out.trans (hb'.mono KG.out.size)))).any (((N1.out.below (KG.out.trans (hb'.mono KG.out.size)))).len LQp1.out (by decide : _ ≤ 900000)) ((N2.out.below (KG.out.trans (hb'.mono KG.out.size)))).any (((N2.out.below (KG.out.trans (hb'.mono KG.out.size)))).len LQp2.out (by decide : _ ≤ 900000))
    rw [show p1 * p2 = q17 from Hq17.out.symm] at CT
    refine CT.mono ?_
    rintro e w'' ⟨za, rfl, ho, hb⟩
    exact ⟨_, rfl, ⟨za, rfl, ho.mono hb'.size, ho.blks⟩, hb⟩
  rintro _ ⟨y2, rfl⟩
  conv => arg 10; simp only [Act.put, List.setIfInBounds_toArray, List.set_cons_succ, List.set_cons_zero]
  refine Go.FreshS.wpF_reads rfl rfl rfl ?_ (fun w' hw' => ?_) ?_
  rotate_left
  · have hb' := hw'.world
    have hs0 := (BX2.out.below hb' BX2.out.lt).cell (i := 0) rfl
    have hs1 := (BX2.out.below hb' BX2.out.lt).cell (i := 1) rfl
    have hs2 := (BX2.out.below hb' BX2.out.lt).cell (i := 2) rfl
    have hs3 := (BX2.out.below hb' BX2.out.lt).cell (i := 3) rfl
    have hsf := (BX2.out.below hb' BX2.out.lt).fz
    have hsl := (BX2.out.below hb' BX2.out.lt).lt
    clear hw'
    go_simp
    try rfl
  conv => arg 10; simp only [Act.put, List.setIfInBounds_toArray, List.set_cons_succ, List.set_cons_zero]
  refine Go.FreshS.wpF_spec rfl rfl rfl (fun w' hw' => ?_) ?_
  · have hb' := hw'.world
    refine Go.FreshS.gives_of (Go.FreshS.PM (fun x : FV => .tuple #[x.v, .int .i64 0]) (fun x w' => DF w' w16.heap.size x q18) FV.blk w'.heap.size) ?_ (fun _ _ h => h.post (FV.injE 0))
    go_simp
    have f2 := Go.FreshS.made_of (val := (fun x : FV => x.v)) (Φ := fun x w' => DF w' w16.heap.size x q17) (fun _ _ => FV.inj) (hw'.fact 2 (by kernel_rfl))
    have CT := qdiv (f2).k (((f2).k).len LQq17.out (by decide : _ ≤ 900000)) (N2.out.below (KG.out.trans (hb'.mono KG.out.size))) (((N2.out.below (KG.out.trans (hb'.mono KG.out.size)))).len LQp2.out (by decide : _ ≤ 900000)) (HZ.out)
    rw [show q17 / p2 = q18 from Hq18.out.symm] at CT
    refine CT.mono ?_
    rintro e w'' ⟨za, rfl, ho, hb⟩
    exact ⟨_, rfl, ⟨za, rfl, ho.mono hb'.size, ho.blks⟩, hb⟩
  rintro _ ⟨y4, rfl⟩
  conv => arg 10; simp only [Act.put, List.setIfInBounds_toArray, List.set_cons_succ, List.set_cons_zero]
  refine Go.FreshS.wpF_reads rfl rfl rfl ?_ (fun w' hw' => ?_) ?_
  rotate_left
  · have hb' := hw'.world
    skip
    clear hw'
    go_simp
    try rfl
  conv => arg 10; simp only [Act.put, List.setIfInBounds_toArray, List.set_cons_succ, List.set_cons_zero]
  refine Go.FreshS.wpF_reads rfl rfl rfl ?_ (fun w' hw' => ?_) ?_
  rotate_left
  · have hb' := hw'.world
    skip
    clear hw'
    go_simp
    try rfl
  conv => arg 10; simp only [Act.put, List.setIfInBounds_toArray, List.set_cons_succ, List.set_cons_zero]
  refine Go.FreshS.wpF_reads rfl rfl rfl ?_ (fun w' hw' => ?_) ?_
  rotate_left
  · have hb' := hw'.world
    skip
    clear hw'
    go_simp
    try rfl
  conv => arg 10; simp only [Act.put, List.setIfInBounds_toArray, List.set_cons_succ, List.set_cons_zero]
  refine Go.FreshS.wpF_spec rfl rfl rfl (fun w' hw' => ?_) ?_
  · have hb' := hw'.world
    refine Go.FreshS.gives_of (Go.FreshS.PB 26 4 w16.heap.size w'.heap.size) ?_ (fun _ _ h => h.post)
    go_simp
    exact ⟨Go.FreshS.PB.new _ rfl hb'.size, (Below.refl _ _).alloc (Nat.le_refl _) _⟩
  rintro _ ⟨y8, rfl⟩
  conv => arg 10; simp only [Act.put, List.setIfInBounds_toArray, List.set_cons_succ, List.set_cons_zero]
  refine Go.FreshS.wpF_store rfl rfl 8 rfl rfl rfl rfl (fun _ => Iff.rfl) (fun w' hw' => ?_) ?_
  · have hb' := hw'.world
    have hX := Go.FreshS.box_of (hw'.fact 8 (by kernel_rfl))
    obtain ⟨c0, c1, c2, c3, hB⟩ := shp4 hX.1
    have m0 := hB.cell (i := 0) rfl
    have m1 := hB.cell (i := 1) rfl
    have m2 := hB.cell (i := 2) rfl
    have m3 := hB.cell (i := 3) rfl
    have mf := hB.fz
    have ml := hB.lt
    refine Go.FreshS.stores_of ?_ (store4 hb' hX.2 hB (.bool y4.t.s) (.slice y4.t.a y4.t.n y4.t.c) (.bool y4.l.s) (.slice y4.l.a y4.l.n y4.l.c))
    clear hw'
    go_simp
    try rfl
  conv => arg 10; simp only [Act.put, List.setIfInBounds_toArray, List.set_cons_succ, List.set_cons_zero]
  refine Go.FreshS.wpF_nil (fun w20 hb hF => ?_)
  have BX19 := Lib.hid (show Bxs w20 y8 26 [.bool y4.t.s, .slice y4.t.a y4.t.n y4.t.c, .bool y4.l.s, .slice y4.l.a y4.l.n y4.l.c] from stored_bxs (hF.all 9))
  have N21 := Lib.hid (show DF w20 w16.heap.size y4 q18 from (Go.FreshS.made_of (val := (fun x : FV => .tuple #[x.v, .int .i64 0])) (Φ := fun x w' => DF w' w16.heap.size x q18) (FV.injE 0) (hF.all 4)))
  clear hF
  have BX1 := Lib.hid (BX1.out.below hb BX1.out.lt)
  have BX2 := Lib.hid (BX2.out.below hb BX2.out.lt)
  have KG := Lib.hid (KG.out.trans (hb.mono KG.out.size))
  clear hb
  have cBX10 := BX1.out.cell (i := 0) rfl
  have cBX11 := BX1.out.cell (i := 1) rfl
  have cBX12 := BX1.out.cell (i := 2) rfl
  have cBX13 := BX1.out.cell (i := 3) rfl
  have cBX1f := BX1.out.fz
  have cBX1l := BX1.out.lt
  have cBX20 := BX2.out.cell (i := 0) rfl
  have cBX21 := BX2.out.cell (i := 1) rfl
  have cBX22 := BX2.out.cell (i := 2) rfl
  have cBX23 := BX2.out.cell (i := 3) rfl
  have cBX2f := BX2.out.fz
  have cBX2l := BX2.out.lt
  go_wp2_with fail
  have CT := Lib.hid (qdiv (N1.out.below KG.out) (((N1.out.below KG.out)).len LQp1.out (by decide : _ ≤ 900000)) (N2.out.below KG.out) (((N2.out.below KG.out)).len LQp2.out (by decide : _ ≤ 900000)) (HZ.out))
  rw [show p1 / p2 = q22 from Hq22.out.symm] at CT
  with_reducible refine CT.out.mono ?_
  rintro e w23 ⟨x24, rfl, hN25, hb⟩
  have N25 := Lib.hid hN25
  clear hN25
  clear CT
  clear cBX10 cBX11 cBX12 cBX13 cBX1f cBX1l
  clear cBX20 cBX21 cBX22 cBX23 cBX2f cBX2l
  have N21 := Lib.hid (N21.out.below hb)
  have BX1 := Lib.hid (BX1.out.below hb BX1.out.lt)
  have BX2 := Lib.hid (BX2.out.below hb BX2.out.lt)
  have BX19 := Lib.hid (BX19.out.below hb BX19.out.lt)
  have KG := Lib.hid (KG.out.trans (hb.mono KG.out.size))
  clear hb
  go_upto_region 7 with (fail)
  obtain ⟨v27, hV⟩ : ∃ V, V = w23.alloc (.cells #[.bool x24.t.s, .slice x24.t.a x24.t.n x24.t.c, .bool x24.l.s, .slice x24.l.a x24.l.n x24.l.c] 26) := ⟨_, rfl⟩
  have hbV : Below w23.heap.size w23 v27 := by rw [hV]; exact ((Below.refl _ _).alloc (Nat.le_refl _) _)
  have BX26 := Lib.hid (show Bxs v27 (w23.heap.size) 26 [.bool x24.t.s, .slice x24.t.a x24.t.n x24.t.c, .bool x24.l.s, .slice x24.l.a x24.l.n x24.l.c] by have h := Bxs.new (w23) 26 [.bool x24.t.s, .slice x24.t.a x24.t.n x24.t.c, .bool x24.l.s, .slice x24.l.a x24.l.n x24.l.c]; rw [hV]; exact h)
  rw [show w23.alloc (.cells #[.bool x24.t.s, .slice x24.t.a x24.t.n x24.t.c, .bool x24.l.s, .slice x24.l.a x24.l.n x24.l.c] 26) = v27 from hV.symm]
  have N21 := Lib.hid (N21.out.below hbV)
  have N25 := Lib.hid (N25.out.below hbV)
  have BX1 := Lib.hid (BX1.out.below hbV BX1.out.lt)
  have BX2 := Lib.hid (BX2.out.below hbV BX2.out.lt)
  have BX19 := Lib.hid (BX19.out.below hbV BX19.out.lt)
  have KG := Lib.hid (KG.out.trans (hbV.mono KG.out.size))
  clear hV hbV
  go_upto_region 7 with (fail)
  refine Go.FreshS.wp_region_fresh 8 [(7, 6)] (Go.FreshS.spOf [(0, Go.FreshS.Sp.made (fun x : FV => x.v) (fun x w' => DF w' v27.heap.size x q28) FV.blk), (2, Go.FreshS.Sp.made (fun x : FV => .tuple #[x.v, .int .i64 0]) (fun x w' => DF w' v27.heap.size x q29) FV.blk), (6, Go.FreshS.Sp.box 26 4 v27.heap.size)])
    (fun w' => Below v27.heap.size v27 w') (by kernel_rfl) (by kernel_rfl) (by kernel_rfl)
    (Go.FreshS.spOf_cons (Go.FreshS.Sp.made_keeps _ (fun _ _ _ h _ hk => h.kept hk) (Go.FreshS.notTaken (by kernel_rfl))) (Go.FreshS.spOf_cons (Go.FreshS.Sp.made_keeps _ (fun _ _ _ h _ hk => h.kept hk) (Go.FreshS.notTaken (by kernel_rfl))) (Go.FreshS.spOf_cons (Go.FreshS.Sp.box_keeps _ _ _ _) (Go.FreshS.spOf_nil)))) (fun _ _ h hb => h.trans (hb.mono h.size)) ((Below.refl _ _).drew) ?_
  simp only [List.append_eq, List.cons_append, List.nil_append, List.take_succ_cons, List.take_zero, List.drop_succ_cons, List.drop_zero]
  refine Go.FreshS.wpF_spec rfl rfl rfl (fun w' hw' => ?_) ?_
  · have hb' := hw'.world
    refine Go.FreshS.gives_of (Go.FreshS.PM (fun x : FV => x.v) (fun x w' => DF w' v27.heap.size x q28) FV.blk w'.heap.size) ?_ (fun _ _ h => h.post (fun _ _ => FV.inj))
    go_simp
    have CT := ofQ 1 1 w' (by decide) (by decide) (by decide) (by decide) (by decide)
    rw [show ((1 : Int) : Rat) / ((1 : Int) : Rat) = q28 from Hq28.out.symm] at CT
    refine CT.mono ?_
    rintro e w'' ⟨za, rfl, ho, hb⟩
    exact ⟨_, rfl, ⟨za, rfl, ho.mono hb'.size, ho.blks⟩, hb⟩
  rintro _ ⟨y0, rfl⟩
  conv => arg 10; simp only [Act.put, List.setIfInBounds_toArray, List.set_cons_succ, List.set_cons_zero]
  refine Go.FreshS.wpF_reads rfl rfl rfl ?_ (fun w' hw' => ?_) ?_
  rotate_left
  · have hb' := hw'.world
    have hs0 := (BX2.out.below hb' BX2.out.lt).cell (i := 0) rfl
    have hs1 := (BX2.out.below hb' BX2.out.lt).cell (i := 1) rfl
    have hs2 := (BX2.out.below hb' BX2.out.lt).cell (i := 2) rfl
    have hs3 := (BX2.out.below hb' BX2.out.lt).cell (i := 3) rfl
    have hsf := (BX2.out.below hb' BX2.out.lt).fz
    have hsl := (BX2.out.below hb' BX2.out.lt).lt
    clear hw'
    go_simp
    try rfl
  conv => arg 10; simp only [Act.put, List.setIfInBounds_toArray, List.set_cons_succ, List.set_cons_zero]
  refine Go.FreshS.wpF_spec rfl rfl rfl (fun w' hw' => ?_) ?_
  · have hb' := hw'.world
    refine Go.FreshS.gives_of (Go.FreshS.PM (fun x : FV => .tuple #[x.v, .int .i64 0]) (fun x w' => DF w' v27.heap.size x q29) FV.blk w'.heap.size) ?_ (fun _ _ h => h.post (FV.injE 0))
    go_simp
    have f0 := Go.FreshS.made_of (val := (fun x : FV => x.v)) (Φ := fun x w' => DF w' v27.heap.size x q28) (fun _ _ => FV.inj) (hw'.fact 0 (by kernel_rfl))
    have CT := qdiv (f0).k (((f0).k).len LQq28.out (by decide : _ ≤ 900000)) (N2.out.below (KG.out.trans (hb'.mono KG.out.size))) (((N2.out.below (KG.out.trans (hb'.mono KG.out.size)))).len LQp2.out (by decide : _ ≤ 900000)) (HZ.out)
    rw [show q28 / p2 = q29 from Hq29.out.symm] at CT
    refine CT.mono ?_
    rintro e w'' ⟨za, rfl, ho, hb⟩
    exact ⟨_, rfl, ⟨za, rfl, ho.mono hb'.size, ho.blks⟩, hb⟩
  rintro _ ⟨y2, rfl⟩
  conv => arg 10; simp only [Act.put, List.setIfInBounds_toArray, List.set_cons_succ, List.set_cons_zero]
  refine Go.FreshS.wpF_reads rfl rfl rfl ?_ (fun w' hw' => ?_) ?_
  rotate_left
  · have hb' := hw'.world
    skip
    clear hw'
    go_simp
    try rfl
  conv => arg 10; simp only [Act.put, List.setIfInBounds_toArray, List.set_cons_succ, List.set_cons_zero]
  refine Go.FreshS.wpF_reads rfl rfl rfl ?_ (fun w' hw' => ?_) ?_
  rotate_left
  · have hb' := hw'.world
    skip
    clear hw'
    go_simp
    try rfl
  conv => arg 10; simp only [Act.put, List.setIfInBounds_toArray, List.set_cons_succ, List.set_cons_zero]
  refine Go.FreshS.wpF_reads rfl rfl rfl ?_ (fun w' hw' => ?_) ?_
  rotate_left
  · have hb' := hw'.world
    skip
    clear hw'
    go_simp
    try rfl
  conv => arg 10; simp only [Act.put, List.setIfInBounds_toArray, List.set_cons_succ, List.set_cons_zero]
  refine Go.FreshS.wpF_spec rfl rfl rfl (fun w' hw' => ?_) ?_
  · have hb' := hw'.world
    refine Go.FreshS.gives_of (Go.FreshS.PB 26 4 v27.heap.size w'.heap.size) ?_ (fun _ _ h => h.post)
    go_simp
    exact ⟨Go.FreshS.PB.new _ rfl hb'.size, (Below.refl _ _).alloc (Nat.le_refl _) _⟩
  rintro _ ⟨y6, rfl⟩
  conv => arg 10; simp only [Act.put, List.setIfInBounds_toArray, List.set_cons_succ, List.set_cons_zero]
  refine Go.FreshS.wpF_store rfl rfl 6 rfl rfl rfl rfl (fun _ => Iff.rfl) (fun w' hw' => ?_) ?_
  · have hb' := hw'.world
    have hX := Go.FreshS.box_of (hw'.fact 6 (by kernel_rfl))
    obtain ⟨c0, c1, c2, c3, hB⟩ := shp4 hX.1
    have m0 := hB.cell (i := 0) rfl
    have m1 := hB.cell (i := 1) rfl
    have m2 := hB.cell (i := 2) rfl
    have m3 := hB.cell (i := 3) rfl
    have mf := hB.fz
    have ml := hB.lt
    refine Go.FreshS.stores_of ?_ (store4 hb' hX.2 hB (.bool y2.t.s) (.slice y2.t.a y2.t.n y2.t.c) (.bool y2.l.s) (.slice y2.l.a y2.l.n y2.l.c))
    clear hw'
    go_simp
    try rfl
  conv => arg 10; simp only [Act.put, List.setIfInBounds_toArray, List.set_cons_succ, List.set_cons_zero]
  refine Go.FreshS.wpF_nil (fun w31 hb hF => ?_)
  have BX30 := Lib.hid (show Bxs w31 y6 26 [.bool y2.t.s, .slice y2.t.a y2.t.n y2.t.c, .bool y2.l.s, .slice y2.l.a y2.l.n y2.l.c] from stored_bxs (hF.all 7))
  have N32 := Lib.hid (show DF w31 v27.heap.size y2 q29 from (Go.FreshS.made_of (val := (fun x : FV => .tuple #[x.v, .int .i64 0])) (Φ := fun x w' => DF w' v27.heap.size x q29) (FV.injE 0) (hF.all 2)))
  clear hF
  have N21 := Lib.hid (N21.out.below hb)
  have N25 := Lib.hid (N25.out.below hb)
  have BX1 := Lib.hid (BX1.out.below hb BX1.out.lt)
  have BX2 := Lib.hid (BX2.out.below hb BX2.out.lt)
  have BX19 := Lib.hid (BX19.out.below hb BX19.out.lt)
  have BX26 := Lib.hid (BX26.out.below hb BX26.out.lt)
  have KG := Lib.hid (KG.out.trans (hb.mono KG.out.size))
  clear hb
  have cBX20 := BX2.out.cell (i := 0) rfl
  have cBX21 := BX2.out.cell (i := 1) rfl
  have cBX22 := BX2.out.cell (i := 2) rfl
  have cBX23 := BX2.out.cell (i := 3) rfl
  have cBX2f := BX2.out.fz
  have cBX2l := BX2.out.lt
  go_wp2_with fail
  have CT := Lib.hid (qsign ((N2.out.below KG.out)).any (((N2.out.below KG.out)).len LQp2.out (by decide : _ ≤ 900000)))
  rw [show cmpZ p2.num 0 = sb from Hsb.out.symm] at CT
  with_reducible refine CT.out.mono ?_
  rintro e w33 ⟨rfl, hb⟩
  clear CT
  clear cBX20 cBX21 cBX22 cBX23 cBX2f cBX2l
  have N21 := Lib.hid (N21.out.below hb)
  have N25 := Lib.hid (N25.out.below hb)
  have N32 := Lib.hid (N32.out.below hb)
  have BX1 := Lib.hid (BX1.out.below hb BX1.out.lt)
  have BX2 := Lib.hid (BX2.out.below hb BX2.out.lt)
  have BX19 := Lib.hid (BX19.out.below hb BX19.out.lt)
  have BX26 := Lib.hid (BX26.out.below hb BX26.out.lt)
  have BX30 := Lib.hid (BX30.out.below hb BX30.out.lt)
  have KG := Lib.hid (KG.out.trans (hb.mono KG.out.size))
  clear hb
  have qs := HSN.out
  go_upto_region 10 with (fail)
  refine Go.FreshS.wp_region_fresh 29 [] (Go.FreshS.spOf [(13, Go.FreshS.Sp.know (.bool true)), (18, Go.FreshS.Sp.made (fun x : FV => x.v) (fun x w' => DF w' w33.heap.size x q34) FV.blk), (20, Go.FreshS.Sp.know (.bool true)), (25, Go.FreshS.Sp.made (fun x : FV => x.v) (fun x w' => DF w' w33.heap.size x q35) FV.blk), (27, Go.FreshS.Sp.know (.bool true))])
    (fun w' => Below w33.heap.size w33 w') (by kernel_rfl) (by kernel_rfl) (by kernel_rfl)
    (Go.FreshS.spOf_cons (Go.FreshS.Sp.know_keeps _ _) (Go.FreshS.spOf_cons (Go.FreshS.Sp.made_keeps _ (fun _ _ _ h _ hk => h.kept hk) (Go.FreshS.notTaken (by kernel_rfl))) (Go.FreshS.spOf_cons (Go.FreshS.Sp.know_keeps _ _) (Go.FreshS.spOf_cons (Go.FreshS.Sp.made_keeps _ (fun _ _ _ h _ hk => h.kept hk) (Go.FreshS.notTaken (by kernel_rfl))) (Go.FreshS.spOf_cons (Go.FreshS.Sp.know_keeps _ _) (Go.FreshS.spOf_nil)))))) (fun _ _ h hb => h.trans (hb.mono h.size)) ((Below.refl _ _).drew) ?_
  simp only [List.append_eq, List.cons_append, List.nil_append, List.take_succ_cons, List.take_zero, List.drop_succ_cons, List.drop_zero]
  refine Go.FreshS.wpF_reads rfl rfl rfl ?_ (fun w' hw' => ?_) ?_
  rotate_left
  · have hb' := hw'.world
    skip
    clear hw'
    go_simp
    try rfl
  conv => arg 10; simp only [Act.put, List.setIfInBounds_toArray, List.set_cons_succ, List.set_cons_zero]
  refine Go.FreshS.wpF_reads rfl rfl rfl ?_ (fun w' hw' => ?_) ?_
  rotate_left
  · have hb' := hw'.world
    skip
    clear hw'
    go_simp
    try rfl
  conv => arg 10; simp only [Act.put, List.setIfInBounds_toArray, List.set_cons_succ, List.set_cons_zero]
  refine Go.FreshS.wpF_reads rfl rfl rfl ?_ (fun w' hw' => ?_) ?_
  rotate_left
  · have hb' := hw'.world
    skip
    clear hw'
    go_simp
    try rfl
  conv => arg 10; simp only [Act.put, List.setIfInBounds_toArray, List.set_cons_succ, List.set_cons_zero]
  refine Go.FreshS.wpF_readsG (by rfl) rfl rfl ?_ (fun w' hw' => ?_) ?_
  rotate_left
  · have hb' := hw'.world
    skip
    clear hw'
    go_simp
    try rfl
  conv => arg 10; simp only [Act.put, List.setIfInBounds_toArray, List.set_cons_succ, List.set_cons_zero]
  refine Go.FreshS.wpF_readsG (by rfl) rfl rfl ?_ (fun w' hw' => ?_) ?_
  rotate_left
  · have hb' := hw'.world
    skip
    clear hw'
    go_simp
    try rfl
  conv => arg 10; simp only [Act.put, List.setIfInBounds_toArray, List.set_cons_succ, List.set_cons_zero]
  refine Go.FreshS.wpF_reads rfl rfl rfl ?_ (fun w' hw' => ?_) ?_
  rotate_left
  · have hb' := hw'.world
    skip
    clear hw'
    go_simp
    try rfl
  conv => arg 10; simp only [Act.put, List.setIfInBounds_toArray, List.set_cons_succ, List.set_cons_zero]
  refine Go.FreshS.wpF_reads rfl rfl rfl ?_ (fun w' hw' => ?_) ?_
  rotate_left
  · have hb' := hw'.world
    skip
    clear hw'
    go_simp
    try rfl
  conv => arg 10; simp only [Act.put, List.setIfInBounds_toArray, List.set_cons_succ, List.set_cons_zero]
  refine Go.FreshS.wpF_readsG (by rfl) rfl rfl ?_ (fun w' hw' => ?_) ?_
  rotate_left
  · have hb' := hw'.world
    skip
    clear hw'
    go_simp
    try rfl
  conv => arg 10; simp only [Act.put, List.setIfInBounds_toArray, List.set_cons_succ, List.set_cons_zero]
  refine Go.FreshS.wpF_readsG (by rfl) rfl rfl ?_ (fun w' hw' => ?_) ?_
  rotate_left
  · have hb' := hw'.world
    skip
    clear hw'
    go_simp
    try rfl
  conv => arg 10; simp only [Act.put, List.setIfInBounds_toArray, List.set_cons_succ, List.set_cons_zero]
  refine Go.FreshS.wpF_reads rfl rfl rfl ?_ (fun w' hw' => ?_) ?_
  rotate_left
  · have hb' := hw'.world
    skip
    clear hw'
    go_simp
    try rfl
  conv => arg 10; simp only [Act.put, List.setIfInBounds_toArray, List.set_cons_succ, List.set_cons_zero]
  refine Go.FreshS.wpF_reads rfl rfl rfl ?_ (fun w' hw' => ?_) ?_
  rotate_left
  · have hb' := hw'.world
    skip
    clear hw'
    go_simp
    try rfl
  conv => arg 10; simp only [Act.put, List.setIfInBounds_toArray, List.set_cons_succ, List.set_cons_zero]
  refine Go.FreshS.wpF_readsG (by rfl) rfl rfl ?_ (fun w' hw' => ?_) ?_
  rotate_left
  · have hb' := hw'.world
    have hs0 := (BX19.out.below hb' BX19.out.lt).cell (i := 0) rfl
    have hs1 := (BX19.out.below hb' BX19.out.lt).cell (i := 1) rfl
    have hs2 := (BX19.out.below hb' BX19.out.lt).cell (i := 2) rfl
    have hs3 := (BX19.out.below hb' BX19.out.lt).cell (i := 3) rfl
    have hsf := (BX19.out.below hb' BX19.out.lt).fz
    have hsl := (BX19.out.below hb' BX19.out.lt).lt
    clear hw'
    go_simp
    try rfl
  conv => arg 10; simp only [Act.put, List.setIfInBounds_toArray, List.set_cons_succ, List.set_cons_zero]
  refine Go.FreshS.wpF_readsG (by rfl) rfl rfl ?_ (fun w' hw' => ?_) ?_
  rotate_left
  · have hb' := hw'.world
    have hs0 := (BX1.out.below hb' BX1.out.lt).cell (i := 0) rfl
    have hs1 := (BX1.out.below hb' BX1.out.lt).cell (i := 1) rfl
    have hs2 := (BX1.out.below hb' BX1.out.lt).cell (i := 2) rfl
    have hs3 := (BX1.out.below hb' BX1.out.lt).cell (i := 3) rfl
    have hsf := (BX1.out.below hb' BX1.out.lt).fz
    have hsl := (BX1.out.below hb' BX1.out.lt).lt
    clear hw'
    go_simp
    try rfl
  conv => arg 10; simp only [Act.put, List.setIfInBounds_toArray, List.set_cons_succ, List.set_cons_zero]
  refine Go.FreshS.wpF_gspec (by rfl) rfl rfl (fun w' hw' => ?_) ?_
  · have hb' := hw'.world
    refine Go.FreshS.gives_of (Go.FreshS.PK (.bool true)) ?_ (fun _ _ h => h.post)
    go_simp
    have CT := qsame ((N21.out.below hb')).k ((((N21.out.below hb')).k).len LQq18.out (by decide : _ ≤ 900000)) (N1.out.below (KG.out.trans (hb'.mono KG.out.size))) (((N1.out.below (KG.out.trans (hb'.mono KG.out.size)))).len LQp1.out (by decide : _ ≤ 900000)) (by simp only [Hq29.out, Hq28.out, Hq22.out, Hq18.out, Hq17.out, Hq15.out, Hq14.out, Hq13.out, Hq12.out, Hq11.out, Hq10.out]; have hz := HZ.out; (try simp only [qc01, qc11, qci1]); grind)
    refine CT.mono ?_
    rintro e w'' ⟨rfl, hb⟩
    exact ⟨_, rfl, rfl, hb⟩
  rintro _ rfl
  conv => arg 10; simp only [Act.put, List.setIfInBounds_toArray, List.set_cons_succ, List.set_cons_zero]
  refine Go.FreshS.wpF_reads rfl rfl rfl ?_ (fun w' hw' => ?_) ?_
  rotate_left
  · have hb' := hw'.world
    skip
    clear hw'
    go_simp
    try rfl
  conv => arg 10; simp only [Act.put, List.setIfInBounds_toArray, List.set_cons_succ, List.set_cons_zero]
  refine Go.FreshS.wpF_reads rfl rfl rfl ?_ (fun w' hw' => ?_) ?_
  rotate_left
  · have hb' := hw'.world
    skip
    clear hw'
    go_simp
    try rfl
  conv => arg 10; simp only [Act.put, List.setIfInBounds_toArray, List.set_cons_succ, List.set_cons_zero]
  refine Go.FreshS.wpF_readsG (by rfl) rfl rfl ?_ (fun w' hw' => ?_) ?_
  rotate_left
  · have hb' := hw'.world
    have hs0 := (BX26.out.below hb' BX26.out.lt).cell (i := 0) rfl
    have hs1 := (BX26.out.below hb' BX26.out.lt).cell (i := 1) rfl
    have hs2 := (BX26.out.below hb' BX26.out.lt).cell (i := 2) rfl
    have hs3 := (BX26.out.below hb' BX26.out.lt).cell (i := 3) rfl
    have hsf := (BX26.out.below hb' BX26.out.lt).fz
    have hsl := (BX26.out.below hb' BX26.out.lt).lt
    clear hw'
    go_simp
    try rfl
  conv => arg 10; simp only [Act.put, List.setIfInBounds_toArray, List.set_cons_succ, List.set_cons_zero]
  refine Go.FreshS.wpF_readsG (by rfl) rfl rfl ?_ (fun w' hw' => ?_) ?_
  rotate_left
  · have hb' := hw'.world
    have hs0 := (BX2.out.below hb' BX2.out.lt).cell (i := 0) rfl
    have hs1 := (BX2.out.below hb' BX2.out.lt).cell (i := 1) rfl
    have hs2 := (BX2.out.below hb' BX2.out.lt).cell (i := 2) rfl
    have hs3 := (BX2.out.below hb' BX2.out.lt).cell (i := 3) rfl
    have hsf := (BX2.out.below hb' BX2.out.lt).fz
    have hsl := (BX2.out.below hb' BX2.out.lt).lt
    clear hw'
    go_simp
    try rfl
  conv => arg 10; simp only [Act.put, List.setIfInBounds_toArray, List.set_cons_succ, List.set_cons_zero]
  refine Go.FreshS.wpF_gspec (by rfl) rfl rfl (fun w' hw' => ?_) ?_
  · have hb' := hw'.world
    refine Go.FreshS.gives_of (Go.FreshS.PM (fun x : FV => x.v) (fun x w' => DF w' w33.heap.size x q34) FV.blk w'.heap.size) ?_ (fun _ _ h => h.post (fun _ _ => FV.inj))
    go_simp
    have CT := qmul ((N25.out.below hb')).k.any ((((N25.out.below hb')).k).len LQq22.out (by decide : _ ≤ 900000)) ((N2.out.below (KG.out.trans (hb'.mono KG.out.size)))).any (((N2.out.below (KG.out.trans (hb'.mono KG.out.size)))).len LQp2.out (by decide : _ ≤ 900000))
    rw [show q22 * p2 = q34 from Hq34.out.symm] at CT
    refine CT.mono ?_
    rintro e w'' ⟨za, rfl, ho, hb⟩
    exact ⟨_, rfl, ⟨za, rfl, ho.mono hb'.size, ho.blks⟩, hb⟩
  rintro _ ⟨y18, rfl⟩
  conv => arg 10; simp only [Act.put, List.setIfInBounds_toArray, List.set_cons_succ, List.set_cons_zero]
  refine Go.FreshS.wpF_readsG (by rfl) rfl rfl ?_ (fun w' hw' => ?_) ?_
  rotate_left
  · have hb' := hw'.world
    have hs0 := (BX1.out.below hb' BX1.out.lt).cell (i := 0) rfl
    have hs1 := (BX1.out.below hb' BX1.out.lt).cell (i := 1) rfl
    have hs2 := (BX1.out.below hb' BX1.out.lt).cell (i := 2) rfl
    have hs3 := (BX1.out.below hb' BX1.out.lt).cell (i := 3) rfl
    have hsf := (BX1.out.below hb' BX1.out.lt).fz
    have hsl := (BX1.out.below hb' BX1.out.lt).lt
    clear hw'
    go_simp
    try rfl
  conv => arg 10; simp only [Act.put, List.setIfInBounds_toArray, List.set_cons_succ, List.set_cons_zero]
  refine Go.FreshS.wpF_gspec (by rfl) rfl rfl (fun w' hw' => ?_) ?_
  · have hb' := hw'.world
    refine Go.FreshS.gives_of (Go.FreshS.PK (.bool true)) ?_ (fun _ _ h => h.post)
    go_simp
    have f18 := Go.FreshS.made_of (val := (fun x : FV => x.v)) (Φ := fun x w' => DF w' w33.heap.size x q34) (fun _ _ => FV.inj) (hw'.fact 18 (by kernel_rfl))
    have CT := qsame (f18).k (((f18).k).len LQq34.out (by decide : _ ≤ 900000)) (N1.out.below (KG.out.trans (hb'.mono KG.out.size))) (((N1.out.below (KG.out.trans (hb'.mono KG.out.size)))).len LQp1.out (by decide : _ ≤ 900000)) (by simp only [Hq34.out, Hq29.out, Hq28.out, Hq22.out, Hq18.out, Hq17.out, Hq15.out, Hq14.out, Hq13.out, Hq12.out, Hq11.out, Hq10.out]; have hz := HZ.out; (try simp only [qc01, qc11, qci1]); grind)
    refine CT.mono ?_
    rintro e w'' ⟨rfl, hb⟩
    exact ⟨_, rfl, rfl, hb⟩
  rintro _ rfl
  conv => arg 10; simp only [Act.put, List.setIfInBounds_toArray, List.set_cons_succ, List.set_cons_zero]
  refine Go.FreshS.wpF_reads rfl rfl rfl ?_ (fun w' hw' => ?_) ?_
  rotate_left
  · have hb' := hw'.world
    skip
    clear hw'
    go_simp
    try rfl
  conv => arg 10; simp only [Act.put, List.setIfInBounds_toArray, List.set_cons_succ, List.set_cons_zero]
  refine Go.FreshS.wpF_reads rfl rfl rfl ?_ (fun w' hw' => ?_) ?_
  rotate_left
  · have hb' := hw'.world
    skip
    clear hw'
    go_simp
    try rfl
  conv => arg 10; simp only [Act.put, List.setIfInBounds_toArray, List.set_cons_succ, List.set_cons_zero]
  refine Go.FreshS.wpF_readsG (by rfl) rfl rfl ?_ (fun w' hw' => ?_) ?_
  rotate_left
  · have hb' := hw'.world
    have hs0 := (BX1.out.below hb' BX1.out.lt).cell (i := 0) rfl
    have hs1 := (BX1.out.below hb' BX1.out.lt).cell (i := 1) rfl
    have hs2 := (BX1.out.below hb' BX1.out.lt).cell (i := 2) rfl
    have hs3 := (BX1.out.below hb' BX1.out.lt).cell (i := 3) rfl
    have hsf := (BX1.out.below hb' BX1.out.lt).fz
    have hsl := (BX1.out.below hb' BX1.out.lt).lt
    clear hw'
    go_simp
    try rfl
  conv => arg 10; simp only [Act.put, List.setIfInBounds_toArray, List.set_cons_succ, List.set_cons_zero]
  refine Go.FreshS.wpF_readsG (by rfl) rfl rfl ?_ (fun w' hw' => ?_) ?_
  rotate_left
  · have hb' := hw'.world
    have hs0 := (BX30.out.below hb' BX30.out.lt).cell (i := 0) rfl
    have hs1 := (BX30.out.below hb' BX30.out.lt).cell (i := 1) rfl
    have hs2 := (BX30.out.below hb' BX30.out.lt).cell (i := 2) rfl
    have hs3 := (BX30.out.below hb' BX30.out.lt).cell (i := 3) rfl
    have hsf := (BX30.out.below hb' BX30.out.lt).fz
    have hsl := (BX30.out.below hb' BX30.out.lt).lt
    clear hw'
    go_simp
    try rfl
  conv => arg 10; simp only [Act.put, List.setIfInBounds_toArray, List.set_cons_succ, List.set_cons_zero]
  refine Go.FreshS.wpF_gspec (by rfl) rfl rfl (fun w' hw' => ?_) ?_
  · have hb' := hw'.world
    refine Go.FreshS.gives_of (Go.FreshS.PM (fun x : FV => x.v) (fun x w' => DF w' w33.heap.size x q35) FV.blk w'.heap.size) ?_ (fun _ _ h => h.post (fun _ _ => FV.inj))
    go_simp
    have CT := qmul ((N1.out.below (KG.out.trans (hb'.mono KG.out.size)))).any (((N1.out.below (KG.out.trans (hb'.mono KG.out.size)))).len LQp1.out (by decide : _ ≤ 900000)) ((N32.out.below hb')).k.any ((((N32.out.below hb')).k).len LQq29.out (by decide : _ ≤ 900000))
    rw [show p1 * q29 = q35 from Hq35.out.symm] at CT
    refine CT.mono ?_
    rintro e w'' ⟨za, rfl, ho, hb⟩
    exact ⟨_, rfl, ⟨za, rfl, ho.mono hb'.size, ho.blks⟩, hb⟩
  rintro _ ⟨y25, rfl⟩
  conv => arg 10; simp only [Act.put, List.setIfInBounds_toArray, List.set_cons_succ, List.set_cons_zero]
  refine Go.FreshS.wpF_readsG (by rfl) rfl rfl ?_ (fun w' hw' => ?_) ?_
  rotate_left
  · have hb' := hw'.world
    have hs0 := (BX26.out.below hb' BX26.out.lt).cell (i := 0) rfl
    have hs1 := (BX26.out.below hb' BX26.out.lt).cell (i := 1) rfl
    have hs2 := (BX26.out.below hb' BX26.out.lt).cell (i := 2) rfl
    have hs3 := (BX26.out.below hb' BX26.out.lt).cell (i := 3) rfl
    have hsf := (BX26.out.below hb' BX26.out.lt).fz
    have hsl := (BX26.out.below hb' BX26.out.lt).lt
    clear hw'
    go_simp
    try rfl
  conv => arg 10; simp only [Act.put, List.setIfInBounds_toArray, List.set_cons_succ, List.set_cons_zero]
  refine Go.FreshS.wpF_gspec (by rfl) rfl rfl (fun w' hw' => ?_) ?_
  · have hb' := hw'.world
    refine Go.FreshS.gives_of (Go.FreshS.PK (.bool true)) ?_ (fun _ _ h => h.post)
    go_simp
    have f25 := Go.FreshS.made_of (val := (fun x : FV => x.v)) (Φ := fun x w' => DF w' w33.heap.size x q35) (fun _ _ => FV.inj) (hw'.fact 25 (by kernel_rfl))
    have CT := qsame (f25).k (((f25).k).len LQq35.out (by decide : _ ≤ 900000)) ((N25.out.below hb')).k ((((N25.out.below hb')).k).len LQq22.out (by decide : _ ≤ 900000)) (by simp only [Hq35.out, Hq34.out, Hq29.out, Hq28.out, Hq22.out, Hq18.out, Hq17.out, Hq15.out, Hq14.out, Hq13.out, Hq12.out, Hq11.out, Hq10.out]; have hz := HZ.out; (try simp only [qc01, qc11, qci1]); grind)
    refine CT.mono ?_
    rintro e w'' ⟨rfl, hb⟩
    exact ⟨_, rfl, rfl, hb⟩
  rintro _ rfl
  conv => arg 10; simp only [Act.put, List.setIfInBounds_toArray, List.set_cons_succ, List.set_cons_zero]
  refine Go.FreshS.wpF_reads rfl rfl rfl ?_ (fun w' hw' => ?_) ?_
  rotate_left
  · have hb' := hw'.world
    skip
    clear hw'
    go_simp
    try rfl
  conv => arg 10; simp only [Act.put, List.setIfInBounds_toArray, List.set_cons_succ, List.set_cons_zero]
  refine Go.FreshS.wpF_nil (fun w36 hb hF => ?_)
  clear hF
  clear N21
  clear N25
  clear N32
  clear BX1
  clear BX2
  clear BX19
  clear BX26
  clear BX30
  have KG := Lib.hid (KG.out.trans (hb.mono KG.out.size))
  clear hb
  go_wp2_with fail
  go_ret
  exact ⟨rfl, KG.out⟩
theorem fracsUndone_law (s1 : Bool) (a1 : Option Addr) (n1 c1 : Nat) (o1 : Nat → Int) (s2 : Bool) (a2 : Option Addr) (n2 c2 : Nat) (o2 : Nat → Int) (s3 : Bool) (a3 : Option Addr) (n3 c3 : Nat) (o3 : Nat → Int) (s4 : Bool) (a4 : Option Addr) (n4 c4 : Nat) (o4 : Nat → Int) (w : World) (htab : Tab w) (h1 : Rd w a1 n1 o1) (hc1 : n1 ≤ c1) (h2 : Rd w a2 n2 o2) (hc2 : n2 ≤ c2) (h3 : Rd w a3 n3 o3) (hc3 : n3 ≤ c3) (h4 : Rd w a4 n4 o4) (hc4 : n4 ≤ c4) :
    Calls Tryz.prog 7 #[.agg #[.bool s1, .slice a1 n1 c1, .bool s2, .slice a2 n2 c2], .agg #[.bool s3, .slice a3 n3 c3, .bool s4, .slice a4 n4 c4]] w fun e w' => e = .returned (.bool true) ∧ Below w.heap.size w w' := by
  by_cases hg : (10 < n1 ∨ 10 < n2) ∨ (10 < n3 ∨ 10 < n4)
  · exact undone_great ⟨⟨s1, a1, n1, c1⟩, ⟨s2, a2, n2, c2⟩⟩ ⟨⟨s3, a3, n3, c3⟩, ⟨s4, a4, n4, c4⟩⟩ _ _ w htab (AF.raw h1 hc1 h2 hc2) (AF.raw h3 hc3 h4 hc4) hg
  · have b1 : n1 ≤ 10 ∧ n2 ≤ 10 := by omega
    have b2 : n3 ≤ 10 ∧ n4 ≤ 10 := by omega
    by_cases k1 : okF s1 n1 o1 s2 n2 o2
    · by_cases k2 : okF s3 n3 o3 s4 n4 o4
      · by_cases hz : valF s3 n3 o3 s4 n4 o4 = 0
        · exact undone_zero ⟨⟨s1, a1, n1, c1⟩, ⟨s2, a2, n2, c2⟩⟩ ⟨⟨s3, a3, n3, c3⟩, ⟨s4, a4, n4, c4⟩⟩ _ _ w htab (KF.raw h1 hc1 h2 hc2 k1) (KF.raw h3 hc3 h4 hc4 k2) b1 b2 hz
        · exact undone_ok ⟨⟨s1, a1, n1, c1⟩, ⟨s2, a2, n2, c2⟩⟩ ⟨⟨s3, a3, n3, c3⟩, ⟨s4, a4, n4, c4⟩⟩ _ _ w htab (KF.raw h1 hc1 h2 hc2 k1) (KF.raw h3 hc3 h4 hc4 k2) b1 b2 hz
      · exact undone_bad2 ⟨⟨s1, a1, n1, c1⟩, ⟨s2, a2, n2, c2⟩⟩ ⟨⟨s3, a3, n3, c3⟩, ⟨s4, a4, n4, c4⟩⟩ _ 0 w htab (KF.raw h1 hc1 h2 hc2 k1) (BF.raw h3 hc3 h4 hc4 k2) b1 b2
    · exact undone_bad1 ⟨⟨s1, a1, n1, c1⟩, ⟨s2, a2, n2, c2⟩⟩ ⟨⟨s3, a3, n3, c3⟩, ⟨s4, a4, n4, c4⟩⟩ 0 _ w htab (BF.raw h1 hc1 h2 hc2 k1) (AF.raw h3 hc3 h4 hc4) b1 b2
end Go.Proofs.YtklidpbdgliemaaGreatDoor.Limb
