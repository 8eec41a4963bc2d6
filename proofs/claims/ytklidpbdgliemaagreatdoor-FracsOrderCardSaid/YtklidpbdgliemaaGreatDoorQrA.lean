/-
  Of two fractions one is less, or they are the same; what is added to both, or multiplies both, if it is above 0, changes nothing; of three the order goes on.
-/
import Derived.Test.YtklidpbdgliemaaGreatDoorQoI
set_option linter.unusedSimpArgs false
set_option linter.unusedVariables false
namespace Go.Proofs.YtklidpbdgliemaaGreatDoor.Limb
open Go.RowKit Go.Sort

set_option maxRecDepth 100000 in
set_option maxHeartbeats 8000000 in
theorem order_great (x1 x2 x3 : FV) (p1 p2 p3 : Rat) (w : World) (htab : Tab w) (h1 : AF w x1 p1) (h2 : AF w x2 p2) (h3 : AF w x3 p3) (hg : (10 < x1.t.n ∨ 10 < x1.l.n) ∨ (10 < x2.t.n ∨ 10 < x2.l.n) ∨ (10 < x3.t.n ∨ 10 < x3.l.n)) : Calls Tryz.prog 8 #[x1.v, x2.v, x3.v] w fun e w' => e = .returned (.bool true) ∧ Below w.heap.size w w' := by
  have HT := Lib.hid htab
  have KG := Lib.hid (Below.refl w.heap.size w)
  have N1 := Lib.hid h1
  have N2 := Lib.hid h2
  have N3 := Lib.hid h3
  have HG := Lib.hid hg
  clear hg
  clear htab h1 h2 h3
  go_enter Tryz.func8, Tryz.ntmps8
  go_upto_region 1 with (fail)
  obtain ⟨v4, hV⟩ : ∃ V, V = ((w.alloc (.cells #[.bool x1.t.s, .slice x1.t.a x1.t.n x1.t.c, .bool x1.l.s, .slice x1.l.a x1.l.n x1.l.c] 26)).alloc (.cells #[.bool x2.t.s, .slice x2.t.a x2.t.n x2.t.c, .bool x2.l.s, .slice x2.l.a x2.l.n x2.l.c] 26)).alloc (.cells #[.bool x3.t.s, .slice x3.t.a x3.t.n x3.t.c, .bool x3.l.s, .slice x3.l.a x3.l.n x3.l.c] 26) := ⟨_, rfl⟩
  have hbV : Below w.heap.size w v4 := by rw [hV]; exact ((((Below.refl _ _).alloc (Nat.le_refl _) _).alloc (by go_size) _).alloc (by go_size) _)
  have BX1 := Lib.hid (show Bxs v4 (w.heap.size) 26 [.bool x1.t.s, .slice x1.t.a x1.t.n x1.t.c, .bool x1.l.s, .slice x1.l.a x1.l.n x1.l.c] by have h := ((Bxs.new (w) 26 [.bool x1.t.s, .slice x1.t.a x1.t.n x1.t.c, .bool x1.l.s, .slice x1.l.a x1.l.n x1.l.c]).alloc (.cells #[.bool x2.t.s, .slice x2.t.a x2.t.n x2.t.c, .bool x2.l.s, .slice x2.l.a x2.l.n x2.l.c] 26)).alloc (.cells #[.bool x3.t.s, .slice x3.t.a x3.t.n x3.t.c, .bool x3.l.s, .slice x3.l.a x3.l.n x3.l.c] 26); rw [hV]; exact h)
  have BX2 := Lib.hid (show Bxs v4 (w.heap.size + 1) 26 [.bool x2.t.s, .slice x2.t.a x2.t.n x2.t.c, .bool x2.l.s, .slice x2.l.a x2.l.n x2.l.c] by have h := (Bxs.new (w.alloc (.cells #[.bool x1.t.s, .slice x1.t.a x1.t.n x1.t.c, .bool x1.l.s, .slice x1.l.a x1.l.n x1.l.c] 26)) 26 [.bool x2.t.s, .slice x2.t.a x2.t.n x2.t.c, .bool x2.l.s, .slice x2.l.a x2.l.n x2.l.c]).alloc (.cells #[.bool x3.t.s, .slice x3.t.a x3.t.n x3.t.c, .bool x3.l.s, .slice x3.l.a x3.l.n x3.l.c] 26); simp only [World.size_alloc] at h; rw [hV]; exact h)
  have BX3 := Lib.hid (show Bxs v4 (w.heap.size + 1 + 1) 26 [.bool x3.t.s, .slice x3.t.a x3.t.n x3.t.c, .bool x3.l.s, .slice x3.l.a x3.l.n x3.l.c] by have h := Bxs.new ((w.alloc (.cells #[.bool x1.t.s, .slice x1.t.a x1.t.n x1.t.c, .bool x1.l.s, .slice x1.l.a x1.l.n x1.l.c] 26)).alloc (.cells #[.bool x2.t.s, .slice x2.t.a x2.t.n x2.t.c, .bool x2.l.s, .slice x2.l.a x2.l.n x2.l.c] 26)) 26 [.bool x3.t.s, .slice x3.t.a x3.t.n x3.t.c, .bool x3.l.s, .slice x3.l.a x3.l.n x3.l.c]; simp only [World.size_alloc] at h; rw [hV]; exact h)
  rw [show ((w.alloc (.cells #[.bool x1.t.s, .slice x1.t.a x1.t.n x1.t.c, .bool x1.l.s, .slice x1.l.a x1.l.n x1.l.c] 26)).alloc (.cells #[.bool x2.t.s, .slice x2.t.a x2.t.n x2.t.c, .bool x2.l.s, .slice x2.l.a x2.l.n x2.l.c] 26)).alloc (.cells #[.bool x3.t.s, .slice x3.t.a x3.t.n x3.t.c, .bool x3.l.s, .slice x3.l.a x3.l.n x3.l.c] 26) = v4 from hV.symm]
  have KG := Lib.hid (KG.out.trans (hbV.mono KG.out.size))
  clear hV hbV
  go_wp2_with fail
  have CT := Lib.hid (qalive v4 (HT.out.on KG.out))
  with_reducible refine CT.out.mono ?_
  rintro e w5 ⟨rfl, hb⟩
  clear CT
  have BX1 := Lib.hid (BX1.out.below hb BX1.out.lt)
  have BX2 := Lib.hid (BX2.out.below hb BX2.out.lt)
  have BX3 := Lib.hid (BX3.out.below hb BX3.out.lt)
  have KG := Lib.hid (KG.out.trans (hb.mono KG.out.size))
  clear hb
  have cBX10 := BX1.out.cell (i := 0) rfl
  have cBX11 := BX1.out.cell (i := 1) rfl
  have cBX12 := BX1.out.cell (i := 2) rfl
  have cBX13 := BX1.out.cell (i := 3) rfl
  have cBX1f := BX1.out.fz
  have cBX1l := BX1.out.lt
  have cBX20 := BX2.out.cell (i := 0) rfl
  have cBX21 := BX2.out.cell (i := 1) rfl
  have cBX22 := BX2.out.cell (i := 2) rfl
  have cBX23 := BX2.out.cell (i := 3) rfl
  have cBX2f := BX2.out.fz
  have cBX2l := BX2.out.lt
  have cBX30 := BX3.out.cell (i := 0) rfl
  have cBX31 := BX3.out.cell (i := 1) rfl
  have cBX32 := BX3.out.cell (i := 2) rfl
  have cBX33 := BX3.out.cell (i := 3) rfl
  have cBX3f := BX3.out.fz
  have cBX3l := BX3.out.lt
  go_wp2_with fail
  clear cBX10 cBX11 cBX12 cBX13 cBX1f cBX1l
  clear cBX20 cBX21 cBX22 cBX23 cBX2f cBX2l
  clear cBX30 cBX31 cBX32 cBX33 cBX3f cBX3l
  obtain ⟨v7, hV⟩ : ∃ V, V = w5.alloc (.cells #[.bool x1.t.s, .slice x1.t.a x1.t.n x1.t.c, .bool x1.l.s, .slice x1.l.a x1.l.n x1.l.c, .bool x2.t.s, .slice x2.t.a x2.t.n x2.t.c, .bool x2.l.s, .slice x2.l.a x2.l.n x2.l.c, .bool x3.t.s, .slice x3.t.a x3.t.n x3.t.c, .bool x3.l.s, .slice x3.l.a x3.l.n x3.l.c] 26) := ⟨_, rfl⟩
  have hbV : Below w5.heap.size w5 v7 := by rw [hV]; exact ((Below.refl _ _).alloc (Nat.le_refl _) _)
  have BX6 := Lib.hid (show Bxs v7 (w5.heap.size) 26 [.bool x1.t.s, .slice x1.t.a x1.t.n x1.t.c, .bool x1.l.s, .slice x1.l.a x1.l.n x1.l.c, .bool x2.t.s, .slice x2.t.a x2.t.n x2.t.c, .bool x2.l.s, .slice x2.l.a x2.l.n x2.l.c, .bool x3.t.s, .slice x3.t.a x3.t.n x3.t.c, .bool x3.l.s, .slice x3.l.a x3.l.n x3.l.c] by have h := Bxs.new (w5) 26 [.bool x1.t.s, .slice x1.t.a x1.t.n x1.t.c, .bool x1.l.s, .slice x1.l.a x1.l.n x1.l.c, .bool x2.t.s, .slice x2.t.a x2.t.n x2.t.c, .bool x2.l.s, .slice x2.l.a x2.l.n x2.l.c, .bool x3.t.s, .slice x3.t.a x3.t.n x3.t.c, .bool x3.l.s, .slice x3.l.a x3.l.n x3.l.c]; rw [hV]; exact h)
  rw [show w5.alloc (.cells #[.bool x1.t.s, .slice x1.t.a x1.t.n x1.t.c, .bool x1.l.s, .slice x1.l.a x1.l.n x1.l.c, .bool x2.t.s, .slice x2.t.a x2.t.n x2.t.c, .bool x2.l.s, .slice x2.l.a x2.l.n x2.l.c, .bool x3.t.s, .slice x3.t.a x3.t.n x3.t.c, .bool x3.l.s, .slice x3.l.a x3.l.n x3.l.c] 26) = v7 from hV.symm]
  have BX1 := Lib.hid (BX1.out.below hbV BX1.out.lt)
  have BX2 := Lib.hid (BX2.out.below hbV BX2.out.lt)
  have BX3 := Lib.hid (BX3.out.below hbV BX3.out.lt)
  have KG := Lib.hid (KG.out.trans (hbV.mono KG.out.size))
  clear hV hbV
  have cBX10 := BX1.out.cell (i := 0) rfl
  have cBX11 := BX1.out.cell (i := 1) rfl
  have cBX12 := BX1.out.cell (i := 2) rfl
  have cBX13 := BX1.out.cell (i := 3) rfl
  have cBX1f := BX1.out.fz
  have cBX1l := BX1.out.lt
  have cBX20 := BX2.out.cell (i := 0) rfl
  have cBX21 := BX2.out.cell (i := 1) rfl
  have cBX22 := BX2.out.cell (i := 2) rfl
  have cBX23 := BX2.out.cell (i := 3) rfl
  have cBX2f := BX2.out.fz
  have cBX2l := BX2.out.lt
  have cBX30 := BX3.out.cell (i := 0) rfl
  have cBX31 := BX3.out.cell (i := 1) rfl
  have cBX32 := BX3.out.cell (i := 2) rfl
  have cBX33 := BX3.out.cell (i := 3) rfl
  have cBX3f := BX3.out.fz
  have cBX3l := BX3.out.lt
  have CT := Lib.hid (qgreat3 (M := 10) BX6.out)
  rw [show ((10 : Nat) : Int) = 10 from rfl, show decide ((10 < x1.t.n ∨ 10 < x1.l.n) ∨ (10 < x2.t.n ∨ 10 < x2.l.n) ∨ (10 < x3.t.n ∨ 10 < x3.l.n)) = true from decide_eq_true HG.out] at CT
  with_reducible refine CT.out.mono ?_
  rintro e w8 ⟨rfl, hb⟩
  clear CT
  clear cBX10 cBX11 cBX12 cBX13 cBX1f cBX1l
  clear cBX20 cBX21 cBX22 cBX23 cBX2f cBX2l
  clear cBX30 cBX31 cBX32 cBX33 cBX3f cBX3l
  clear BX1
  clear BX2
  clear BX3
  clear BX6
  have KG := Lib.hid (KG.out.trans (hb.mono KG.out.size))
  clear hb
  go_wp2_with fail
  have CT := Lib.hid (qalive w8 (HT.out.on KG.out))
  with_reducible refine CT.out.mono ?_
  rintro e w9 ⟨rfl, hb⟩
  clear CT
  have KG := Lib.hid (KG.out.trans (hb.mono KG.out.size))
  clear hb
  go_wp2_with fail
  go_ret
  exact ⟨rfl, KG.out⟩
set_option maxRecDepth 100000 in
set_option maxHeartbeats 8000000 in
theorem order_bad1 (x1 x2 x3 : FV) (p1 p2 p3 : Rat) (w : World) (htab : Tab w) (h1 : BF w x1) (h2 : AF w x2 p2) (h3 : AF w x3 p3) (b1 : LF x1 10) (b2 : LF x2 10) (b3 : LF x3 10) : Calls Tryz.prog 8 #[x1.v, x2.v, x3.v] w fun e w' => e = .returned (.bool true) ∧ Below w.heap.size w w' := by
  have HT := Lib.hid htab
  have KG := Lib.hid (Below.refl w.heap.size w)
  have N1 := Lib.hid h1
  have N2 := Lib.hid h2
  have N3 := Lib.hid h3
  have Bx1 := Lib.hid b1
  have Bx2 := Lib.hid b2
  have LQp2 := Lib.hid (h2.len b2)
  have Bx3 := Lib.hid b3
  have LQp3 := Lib.hid (h3.len b3)
  clear htab h1 h2 h3 b1 b2 b3
  go_enter Tryz.func8, Tryz.ntmps8
  go_upto_region 1 with (fail)
  obtain ⟨v4, hV⟩ : ∃ V, V = ((w.alloc (.cells #[.bool x1.t.s, .slice x1.t.a x1.t.n x1.t.c, .bool x1.l.s, .slice x1.l.a x1.l.n x1.l.c] 26)).alloc (.cells #[.bool x2.t.s, .slice x2.t.a x2.t.n x2.t.c, .bool x2.l.s, .slice x2.l.a x2.l.n x2.l.c] 26)).alloc (.cells #[.bool x3.t.s, .slice x3.t.a x3.t.n x3.t.c, .bool x3.l.s, .slice x3.l.a x3.l.n x3.l.c] 26) := ⟨_, rfl⟩
  have hbV : Below w.heap.size w v4 := by rw [hV]; exact ((((Below.refl _ _).alloc (Nat.le_refl _) _).alloc (by go_size) _).alloc (by go_size) _)
  have BX1 := Lib.hid (show Bxs v4 (w.heap.size) 26 [.bool x1.t.s, .slice x1.t.a x1.t.n x1.t.c, .bool x1.l.s, .slice x1.l.a x1.l.n x1.l.c] by have h := ((Bxs.new (w) 26 [.bool x1.t.s, .slice x1.t.a x1.t.n x1.t.c, .bool x1.l.s, .slice x1.l.a x1.l.n x1.l.c]).alloc (.cells #[.bool x2.t.s, .slice x2.t.a x2.t.n x2.t.c, .bool x2.l.s, .slice x2.l.a x2.l.n x2.l.c] 26)).alloc (.cells #[.bool x3.t.s, .slice x3.t.a x3.t.n x3.t.c, .bool x3.l.s, .slice x3.l.a x3.l.n x3.l.c] 26); rw [hV]; exact h)
  have BX2 := Lib.hid (show Bxs v4 (w.heap.size + 1) 26 [.bool x2.t.s, .slice x2.t.a x2.t.n x2.t.c, .bool x2.l.s, .slice x2.l.a x2.l.n x2.l.c] by have h := (Bxs.new (w.alloc (.cells #[.bool x1.t.s, .slice x1.t.a x1.t.n x1.t.c, .bool x1.l.s, .slice x1.l.a x1.l.n x1.l.c] 26)) 26 [.bool x2.t.s, .slice x2.t.a x2.t.n x2.t.c, .bool x2.l.s, .slice x2.l.a x2.l.n x2.l.c]).alloc (.cells #[.bool x3.t.s, .slice x3.t.a x3.t.n x3.t.c, .bool x3.l.s, .slice x3.l.a x3.l.n x3.l.c] 26); simp only [World.size_alloc] at h; rw [hV]; exact h)
  have BX3 := Lib.hid (show Bxs v4 (w.heap.size + 1 + 1) 26 [.bool x3.t.s, .slice x3.t.a x3.t.n x3.t.c, .bool x3.l.s, .slice x3.l.a x3.l.n x3.l.c] by have h := Bxs.new ((w.alloc (.cells #[.bool x1.t.s, .slice x1.t.a x1.t.n x1.t.c, .bool x1.l.s, .slice x1.l.a x1.l.n x1.l.c] 26)).alloc (.cells #[.bool x2.t.s, .slice x2.t.a x2.t.n x2.t.c, .bool x2.l.s, .slice x2.l.a x2.l.n x2.l.c] 26)) 26 [.bool x3.t.s, .slice x3.t.a x3.t.n x3.t.c, .bool x3.l.s, .slice x3.l.a x3.l.n x3.l.c]; simp only [World.size_alloc] at h; rw [hV]; exact h)
  rw [show ((w.alloc (.cells #[.bool x1.t.s, .slice x1.t.a x1.t.n x1.t.c, .bool x1.l.s, .slice x1.l.a x1.l.n x1.l.c] 26)).alloc (.cells #[.bool x2.t.s, .slice x2.t.a x2.t.n x2.t.c, .bool x2.l.s, .slice x2.l.a x2.l.n x2.l.c] 26)).alloc (.cells #[.bool x3.t.s, .slice x3.t.a x3.t.n x3.t.c, .bool x3.l.s, .slice x3.l.a x3.l.n x3.l.c] 26) = v4 from hV.symm]
  have KG := Lib.hid (KG.out.trans (hbV.mono KG.out.size))
  clear hV hbV
  go_wp2_with fail
  have CT := Lib.hid (qalive v4 (HT.out.on KG.out))
  with_reducible refine CT.out.mono ?_
  rintro e w5 ⟨rfl, hb⟩
  clear CT
  have BX1 := Lib.hid (BX1.out.below hb BX1.out.lt)
  have BX2 := Lib.hid (BX2.out.below hb BX2.out.lt)
  have BX3 := Lib.hid (BX3.out.below hb BX3.out.lt)
  have KG := Lib.hid (KG.out.trans (hb.mono KG.out.size))
  clear hb
  have cBX10 := BX1.out.cell (i := 0) rfl
  have cBX11 := BX1.out.cell (i := 1) rfl
  have cBX12 := BX1.out.cell (i := 2) rfl
  have cBX13 := BX1.out.cell (i := 3) rfl
  have cBX1f := BX1.out.fz
  have cBX1l := BX1.out.lt
  have cBX20 := BX2.out.cell (i := 0) rfl
  have cBX21 := BX2.out.cell (i := 1) rfl
  have cBX22 := BX2.out.cell (i := 2) rfl
  have cBX23 := BX2.out.cell (i := 3) rfl
  have cBX2f := BX2.out.fz
  have cBX2l := BX2.out.lt
  have cBX30 := BX3.out.cell (i := 0) rfl
  have cBX31 := BX3.out.cell (i := 1) rfl
  have cBX32 := BX3.out.cell (i := 2) rfl
  have cBX33 := BX3.out.cell (i := 3) rfl
  have cBX3f := BX3.out.fz
  have cBX3l := BX3.out.lt
  go_wp2_with fail
  clear cBX10 cBX11 cBX12 cBX13 cBX1f cBX1l
  clear cBX20 cBX21 cBX22 cBX23 cBX2f cBX2l
  clear cBX30 cBX31 cBX32 cBX33 cBX3f cBX3l
  obtain ⟨v7, hV⟩ : ∃ V, V = w5.alloc (.cells #[.bool x1.t.s, .slice x1.t.a x1.t.n x1.t.c, .bool x1.l.s, .slice x1.l.a x1.l.n x1.l.c, .bool x2.t.s, .slice x2.t.a x2.t.n x2.t.c, .bool x2.l.s, .slice x2.l.a x2.l.n x2.l.c, .bool x3.t.s, .slice x3.t.a x3.t.n x3.t.c, .bool x3.l.s, .slice x3.l.a x3.l.n x3.l.c] 26) := ⟨_, rfl⟩
  have hbV : Below w5.heap.size w5 v7 := by rw [hV]; exact ((Below.refl _ _).alloc (Nat.le_refl _) _)
  have BX6 := Lib.hid (show Bxs v7 (w5.heap.size) 26 [.bool x1.t.s, .slice x1.t.a x1.t.n x1.t.c, .bool x1.l.s, .slice x1.l.a x1.l.n x1.l.c, .bool x2.t.s, .slice x2.t.a x2.t.n x2.t.c, .bool x2.l.s, .slice x2.l.a x2.l.n x2.l.c, .bool x3.t.s, .slice x3.t.a x3.t.n x3.t.c, .bool x3.l.s, .slice x3.l.a x3.l.n x3.l.c] by have h := Bxs.new (w5) 26 [.bool x1.t.s, .slice x1.t.a x1.t.n x1.t.c, .bool x1.l.s, .slice x1.l.a x1.l.n x1.l.c, .bool x2.t.s, .slice x2.t.a x2.t.n x2.t.c, .bool x2.l.s, .slice x2.l.a x2.l.n x2.l.c, .bool x3.t.s, .slice x3.t.a x3.t.n x3.t.c, .bool x3.l.s, .slice x3.l.a x3.l.n x3.l.c]; rw [hV]; exact h)
  rw [show w5.alloc (.cells #[.bool x1.t.s, .slice x1.t.a x1.t.n x1.t.c, .bool x1.l.s, .slice x1.l.a x1.l.n x1.l.c, .bool x2.t.s, .slice x2.t.a x2.t.n x2.t.c, .bool x2.l.s, .slice x2.l.a x2.l.n x2.l.c, .bool x3.t.s, .slice x3.t.a x3.t.n x3.t.c, .bool x3.l.s, .slice x3.l.a x3.l.n x3.l.c] 26) = v7 from hV.symm]
  have BX1 := Lib.hid (BX1.out.below hbV BX1.out.lt)
  have BX2 := Lib.hid (BX2.out.below hbV BX2.out.lt)
  have BX3 := Lib.hid (BX3.out.below hbV BX3.out.lt)
  have KG := Lib.hid (KG.out.trans (hbV.mono KG.out.size))
  clear hV hbV
  have cBX10 := BX1.out.cell (i := 0) rfl
  have cBX11 := BX1.out.cell (i := 1) rfl
  have cBX12 := BX1.out.cell (i := 2) rfl
  have cBX13 := BX1.out.cell (i := 3) rfl
  have cBX1f := BX1.out.fz
  have cBX1l := BX1.out.lt
  have cBX20 := BX2.out.cell (i := 0) rfl
  have cBX21 := BX2.out.cell (i := 1) rfl
  have cBX22 := BX2.out.cell (i := 2) rfl
  have cBX23 := BX2.out.cell (i := 3) rfl
  have cBX2f := BX2.out.fz
  have cBX2l := BX2.out.lt
  have cBX30 := BX3.out.cell (i := 0) rfl
  have cBX31 := BX3.out.cell (i := 1) rfl
  have cBX32 := BX3.out.cell (i := 2) rfl
  have cBX33 := BX3.out.cell (i := 3) rfl
  have cBX3f := BX3.out.fz
  have cBX3l := BX3.out.lt
  have CT := Lib.hid (qgreat3 (M := 10) BX6.out)
  rw [show ((10 : Nat) : Int) = 10 from rfl, show decide ((10 < x1.t.n ∨ 10 < x1.l.n) ∨ (10 < x2.t.n ∨ 10 < x2.l.n) ∨ (10 < x3.t.n ∨ 10 < x3.l.n)) = false from decide_eq_false (by have g0 := Bx1.out; have g1 := Bx2.out; have g2 := Bx3.out; omega)] at CT
  with_reducible refine CT.out.mono ?_
  rintro e w8 ⟨rfl, hb⟩
  clear CT
  clear cBX10 cBX11 cBX12 cBX13 cBX1f cBX1l
  clear cBX20 cBX21 cBX22 cBX23 cBX2f cBX2l
  clear cBX30 cBX31 cBX32 cBX33 cBX3f cBX3l
  have BX1 := Lib.hid (BX1.out.below hb BX1.out.lt)
  clear BX2
  clear BX3
  clear BX6
  have KG := Lib.hid (KG.out.trans (hb.mono KG.out.size))
  clear hb
  have cBX10 := BX1.out.cell (i := 0) rfl
  have cBX11 := BX1.out.cell (i := 1) rfl
  have cBX12 := BX1.out.cell (i := 2) rfl
  have cBX13 := BX1.out.cell (i := 3) rfl
  have cBX1f := BX1.out.fz
  have cBX1l := BX1.out.lt
  go_wp2_with fail
  have CT := Lib.hid (qcheckB (N1.out.below KG.out) (LF.up Bx1.out (by decide : _ ≤ 900000)))
  with_reducible refine CT.out.mono ?_
  rintro e w9 ⟨rfl, hb⟩
  clear CT
  clear cBX10 cBX11 cBX12 cBX13 cBX1f cBX1l
  clear BX1
  have KG := Lib.hid (KG.out.trans (hb.mono KG.out.size))
  clear hb
  go_wp2_with fail
  have CT := Lib.hid (qalive w9 (HT.out.on KG.out))
  with_reducible refine CT.out.mono ?_
  rintro e w10 ⟨rfl, hb⟩
  clear CT
  have KG := Lib.hid (KG.out.trans (hb.mono KG.out.size))
  clear hb
  go_wp2_with fail
  go_ret
  exact ⟨rfl, KG.out⟩
set_option maxRecDepth 100000 in
set_option maxHeartbeats 8000000 in
theorem order_bad2 (x1 x2 x3 : FV) (p1 p2 p3 : Rat) (w : World) (htab : Tab w) (h1 : KF w x1 p1) (h2 : BF w x2) (h3 : AF w x3 p3) (b1 : LF x1 10) (b2 : LF x2 10) (b3 : LF x3 10) : Calls Tryz.prog 8 #[x1.v, x2.v, x3.v] w fun e w' => e = .returned (.bool true) ∧ Below w.heap.size w w' := by
  have HT := Lib.hid htab
  have KG := Lib.hid (Below.refl w.heap.size w)
  have N1 := Lib.hid h1
  have N2 := Lib.hid h2
  have N3 := Lib.hid h3
  have LQp1 := Lib.hid (h1.lq b1)
  have Bx2 := Lib.hid b2
  have Bx3 := Lib.hid b3
  have LQp3 := Lib.hid (h3.len b3)
  clear htab h1 h2 h3 b1 b2 b3
  go_enter Tryz.func8, Tryz.ntmps8
  go_upto_region 1 with (fail)
  obtain ⟨v4, hV⟩ : ∃ V, V = ((w.alloc (.cells #[.bool x1.t.s, .slice x1.t.a x1.t.n x1.t.c, .bool x1.l.s, .slice x1.l.a x1.l.n x1.l.c] 26)).alloc (.cells #[.bool x2.t.s, .slice x2.t.a x2.t.n x2.t.c, .bool x2.l.s, .slice x2.l.a x2.l.n x2.l.c] 26)).alloc (.cells #[.bool x3.t.s, .slice x3.t.a x3.t.n x3.t.c, .bool x3.l.s, .slice x3.l.a x3.l.n x3.l.c] 26) := ⟨_, rfl⟩
  have hbV : Below w.heap.size w v4 := by rw [hV]; exact ((((Below.refl _ _).alloc (Nat.le_refl _) _).alloc (by go_size) _).alloc (by go_size) _)
  have BX1 := Lib.hid (show Bxs v4 (w.heap.size) 26 [.bool x1.t.s, .slice x1.t.a x1.t.n x1.t.c, .bool x1.l.s, .slice x1.l.a x1.l.n x1.l.c] by have h := ((Bxs.new (w) 26 [.bool x1.t.s, .slice x1.t.a x1.t.n x1.t.c, .bool x1.l.s, .slice x1.l.a x1.l.n x1.l.c]).alloc (.cells #[.bool x2.t.s, .slice x2.t.a x2.t.n x2.t.c, .bool x2.l.s, .slice x2.l.a x2.l.n x2.l.c] 26)).alloc (.cells #[.bool x3.t.s, .slice x3.t.a x3.t.n x3.t.c, .bool x3.l.s, .slice x3.l.a x3.l.n x3.l.c] 26); rw [hV]; exact h)
  have BX2 := Lib.hid (show Bxs v4 (w.heap.size + 1) 26 [.bool x2.t.s, .slice x2.t.a x2.t.n x2.t.c, .bool x2.l.s, .slice x2.l.a x2.l.n x2.l.c] by have h := (Bxs.new (w.alloc (.cells #[.bool x1.t.s, .slice x1.t.a x1.t.n x1.t.c, .bool x1.l.s, .slice x1.l.a x1.l.n x1.l.c] 26)) 26 [.bool x2.t.s, .slice x2.t.a x2.t.n x2.t.c, .bool x2.l.s, .slice x2.l.a x2.l.n x2.l.c]).alloc (.cells #[.bool x3.t.s, .slice x3.t.a x3.t.n x3.t.c, .bool x3.l.s, .slice x3.l.a x3.l.n x3.l.c] 26); simp only [World.size_alloc] at h; rw [hV]; exact h)
  have BX3 := Lib.hid (show Bxs v4 (w.heap.size + 1 + 1) 26 [.bool x3.t.s, .slice x3.t.a x3.t.n x3.t.c, .bool x3.l.s, .slice x3.l.a x3.l.n x3.l.c] by have h := Bxs.new ((w.alloc (.cells #[.bool x1.t.s, .slice x1.t.a x1.t.n x1.t.c, .bool x1.l.s, .slice x1.l.a x1.l.n x1.l.c] 26)).alloc (.cells #[.bool x2.t.s, .slice x2.t.a x2.t.n x2.t.c, .bool x2.l.s, .slice x2.l.a x2.l.n x2.l.c] 26)) 26 [.bool x3.t.s, .slice x3.t.a x3.t.n x3.t.c, .bool x3.l.s, .slice x3.l.a x3.l.n x3.l.c]; simp only [World.size_alloc] at h; rw [hV]; exact h)
  rw [show ((w.alloc (.cells #[.bool x1.t.s, .slice x1.t.a x1.t.n x1.t.c, .bool x1.l.s, .slice x1.l.a x1.l.n x1.l.c] 26)).alloc (.cells #[.bool x2.t.s, .slice x2.t.a x2.t.n x2.t.c, .bool x2.l.s, .slice x2.l.a x2.l.n x2.l.c] 26)).alloc (.cells #[.bool x3.t.s, .slice x3.t.a x3.t.n x3.t.c, .bool x3.l.s, .slice x3.l.a x3.l.n x3.l.c] 26) = v4 from hV.symm]
  have KG := Lib.hid (KG.out.trans (hbV.mono KG.out.size))
  clear hV hbV
  go_wp2_with fail
  have CT := Lib.hid (qalive v4 (HT.out.on KG.out))
  with_reducible refine CT.out.mono ?_
  rintro e w5 ⟨rfl, hb⟩
  clear CT
  have BX1 := Lib.hid (BX1.out.below hb BX1.out.lt)
  have BX2 := Lib.hid (BX2.out.below hb BX2.out.lt)
  have BX3 := Lib.hid (BX3.out.below hb BX3.out.lt)
  have KG := Lib.hid (KG.out.trans (hb.mono KG.out.size))
  clear hb
  have cBX10 := BX1.out.cell (i := 0) rfl
  have cBX11 := BX1.out.cell (i := 1) rfl
  have cBX12 := BX1.out.cell (i := 2) rfl
  have cBX13 := BX1.out.cell (i := 3) rfl
  have cBX1f := BX1.out.fz
  have cBX1l := BX1.out.lt
  have cBX20 := BX2.out.cell (i := 0) rfl
  have cBX21 := BX2.out.cell (i := 1) rfl
  have cBX22 := BX2.out.cell (i := 2) rfl
  have cBX23 := BX2.out.cell (i := 3) rfl
  have cBX2f := BX2.out.fz
  have cBX2l := BX2.out.lt
  have cBX30 := BX3.out.cell (i := 0) rfl
  have cBX31 := BX3.out.cell (i := 1) rfl
  have cBX32 := BX3.out.cell (i := 2) rfl
  have cBX33 := BX3.out.cell (i := 3) rfl
  have cBX3f := BX3.out.fz
  have cBX3l := BX3.out.lt
  go_wp2_with fail
  clear cBX10 cBX11 cBX12 cBX13 cBX1f cBX1l
  clear cBX20 cBX21 cBX22 cBX23 cBX2f cBX2l
  clear cBX30 cBX31 cBX32 cBX33 cBX3f cBX3l
  obtain ⟨v7, hV⟩ : ∃ V, V = w5.alloc (.cells #[.bool x1.t.s, .slice x1.t.a x1.t.n x1.t.c, .bool x1.l.s, .slice x1.l.a x1.l.n x1.l.c, .bool x2.t.s, .slice x2.t.a x2.t.n x2.t.c, .bool x2.l.s, .slice x2.l.a x2.l.n x2.l.c, .bool x3.t.s, .slice x3.t.a x3.t.n x3.t.c, .bool x3.l.s, .slice x3.l.a x3.l.n x3.l.c] 26) := ⟨_, rfl⟩
  have hbV : Below w5.heap.size w5 v7 := by rw [hV]; exact ((Below.refl _ _).alloc (Nat.le_refl _) _)
  have BX6 := Lib.hid (show Bxs v7 (w5.heap.size) 26 [.bool x1.t.s, .slice x1.t.a x1.t.n x1.t.c, .bool x1.l.s, .slice x1.l.a x1.l.n x1.l.c, .bool x2.t.s, .slice x2.t.a x2.t.n x2.t.c, .bool x2.l.s, .slice x2.l.a x2.l.n x2.l.c, .bool x3.t.s, .slice x3.t.a x3.t.n x3.t.c, .bool x3.l.s, .slice x3.l.a x3.l.n x3.l.c] by have h := Bxs.new (w5) 26 [.bool x1.t.s, .slice x1.t.a x1.t.n x1.t.c, .bool x1.l.s, .slice x1.l.a x1.l.n x1.l.c, .bool x2.t.s, .slice x2.t.a x2.t.n x2.t.c, .bool x2.l.s, .slice x2.l.a x2.l.n x2.l.c, .bool x3.t.s, .slice x3.t.a x3.t.n x3.t.c, .bool x3.l.s, .slice x3.l.a x3.l.n x3.l.c]; rw [hV]; exact h)
  rw [show w5.alloc (.cells #[.bool x1.t.s, .slice x1.t.a x1.t.n x1.t.c, .bool x1.l.s, .slice x1.l.a x1.l.n x1.l.c, .bool x2.t.s, .slice x2.t.a x2.t.n x2.t.c, .bool x2.l.s, .slice x2.l.a x2.l.n x2.l.c, .bool x3.t.s, .slice x3.t.a x3.t.n x3.t.c, .bool x3.l.s, .slice x3.l.a x3.l.n x3.l.c] 26) = v7 from hV.symm]
  have BX1 := Lib.hid (BX1.out.below hbV BX1.out.lt)
  have BX2 := Lib.hid (BX2.out.below hbV BX2.out.lt)
  have BX3 := Lib.hid (BX3.out.below hbV BX3.out.lt)
  have KG := Lib.hid (KG.out.trans (hbV.mono KG.out.size))
  clear hV hbV
  have cBX10 := BX1.out.cell (i := 0) rfl
  have cBX11 := BX1.out.cell (i := 1) rfl
  have cBX12 := BX1.out.cell (i := 2) rfl
  have cBX13 := BX1.out.cell (i := 3) rfl
  have cBX1f := BX1.out.fz
  have cBX1l := BX1.out.lt
  have cBX20 := BX2.out.cell (i := 0) rfl
  have cBX21 := BX2.out.cell (i := 1) rfl
  have cBX22 := BX2.out.cell (i := 2) rfl
  have cBX23 := BX2.out.cell (i := 3) rfl
  have cBX2f := BX2.out.fz
  have cBX2l := BX2.out.lt
  have cBX30 := BX3.out.cell (i := 0) rfl
  have cBX31 := BX3.out.cell (i := 1) rfl
  have cBX32 := BX3.out.cell (i := 2) rfl
  have cBX33 := BX3.out.cell (i := 3) rfl
  have cBX3f := BX3.out.fz
  have cBX3l := BX3.out.lt
  have CT := Lib.hid (qgreat3 (M := 10) BX6.out)
  rw [show ((10 : Nat) : Int) = 10 from rfl, show decide ((10 < x1.t.n ∨ 10 < x1.l.n) ∨ (10 < x2.t.n ∨ 10 < x2.l.n) ∨ (10 < x3.t.n ∨ 10 < x3.l.n)) = false from decide_eq_false (by have g0 := (((N1.out.below KG.out)).len LQp1.out (by decide : _ ≤ 10)); have g1 := Bx2.out; have g2 := Bx3.out; omega)] at CT
  with_reducible refine CT.out.mono ?_
  rintro e w8 ⟨rfl, hb⟩
  clear CT
  clear cBX10 cBX11 cBX12 cBX13 cBX1f cBX1l
  clear cBX20 cBX21 cBX22 cBX23 cBX2f cBX2l
  clear cBX30 cBX31 cBX32 cBX33 cBX3f cBX3l
  have BX1 := Lib.hid (BX1.out.below hb BX1.out.lt)
  have BX2 := Lib.hid (BX2.out.below hb BX2.out.lt)
  clear BX3
  clear BX6
  have KG := Lib.hid (KG.out.trans (hb.mono KG.out.size))
  clear hb
  have cBX10 := BX1.out.cell (i := 0) rfl
  have cBX11 := BX1.out.cell (i := 1) rfl
  have cBX12 := BX1.out.cell (i := 2) rfl
  have cBX13 := BX1.out.cell (i := 3) rfl
  have cBX1f := BX1.out.fz
  have cBX1l := BX1.out.lt
  go_wp2_with fail
  have CT := Lib.hid (qcheck (N1.out.below KG.out) (((N1.out.below KG.out)).len LQp1.out (by decide : _ ≤ 900000)))
  with_reducible refine CT.out.mono ?_
  rintro e w9 ⟨rfl, hb⟩
  clear CT
  clear cBX10 cBX11 cBX12 cBX13 cBX1f cBX1l
  clear BX1
  have BX2 := Lib.hid (BX2.out.below hb BX2.out.lt)
  have KG := Lib.hid (KG.out.trans (hb.mono KG.out.size))
  clear hb
  have cBX20 := BX2.out.cell (i := 0) rfl
  have cBX21 := BX2.out.cell (i := 1) rfl
  have cBX22 := BX2.out.cell (i := 2) rfl
  have cBX23 := BX2.out.cell (i := 3) rfl
  have cBX2f := BX2.out.fz
  have cBX2l := BX2.out.lt
  go_wp2_with fail
  have CT := Lib.hid (qcheckB (N2.out.below KG.out) (LF.up Bx2.out (by decide : _ ≤ 900000)))
  with_reducible refine CT.out.mono ?_
  rintro e w10 ⟨rfl, hb⟩
  clear CT
  clear cBX20 cBX21 cBX22 cBX23 cBX2f cBX2l
  clear BX2
  have KG := Lib.hid (KG.out.trans (hb.mono KG.out.size))
  clear hb
  go_wp2_with fail
  have CT := Lib.hid (qalive w10 (HT.out.on KG.out))
  with_reducible refine CT.out.mono ?_
  rintro e w11 ⟨rfl, hb⟩
  clear CT
  have KG := Lib.hid (KG.out.trans (hb.mono KG.out.size))
  clear hb
  go_wp2_with fail
  go_ret
  exact ⟨rfl, KG.out⟩
set_option maxRecDepth 100000 in
set_option maxHeartbeats 8000000 in
theorem order_bad3 (x1 x2 x3 : FV) (p1 p2 p3 : Rat) (w : World) (htab : Tab w) (h1 : KF w x1 p1) (h2 : KF w x2 p2) (h3 : BF w x3) (b1 : LF x1 10) (b2 : LF x2 10) (b3 : LF x3 10) : Calls Tryz.prog 8 #[x1.v, x2.v, x3.v] w fun e w' => e = .returned (.bool true) ∧ Below w.heap.size w w' := by
  have HT := Lib.hid htab
  have KG := Lib.hid (Below.refl w.heap.size w)
  have N1 := Lib.hid h1
  have N2 := Lib.hid h2
  have N3 := Lib.hid h3
  have LQp1 := Lib.hid (h1.lq b1)
  have LQp2 := Lib.hid (h2.lq b2)
  have Bx3 := Lib.hid b3
  clear htab h1 h2 h3 b1 b2 b3
  go_enter Tryz.func8, Tryz.ntmps8
  go_upto_region 1 with (fail)
  obtain ⟨v4, hV⟩ : ∃ V, V = ((w.alloc (.cells #[.bool x1.t.s, .slice x1.t.a x1.t.n x1.t.c, .bool x1.l.s, .slice x1.l.a x1.l.n x1.l.c] 26)).alloc (.cells #[.bool x2.t.s, .slice x2.t.a x2.t.n x2.t.c, .bool x2.l.s, .slice x2.l.a x2.l.n x2.l.c] 26)).alloc (.cells #[.bool x3.t.s, .slice x3.t.a x3.t.n x3.t.c, .bool x3.l.s, .slice x3.l.a x3.l.n x3.l.c] 26) := ⟨_, rfl⟩
  have hbV : Below w.heap.size w v4 := by rw [hV]; exact ((((Below.refl _ _).alloc (Nat.le_refl _) _).alloc (by go_size) _).alloc (by go_size) _)
  have BX1 := Lib.hid (show Bxs v4 (w.heap.size) 26 [.bool x1.t.s, .slice x1.t.a x1.t.n x1.t.c, .bool x1.l.s, .slice x1.l.a x1.l.n x1.l.c] by have h := ((Bxs.new (w) 26 [.bool x1.t.s, .slice x1.t.a x1.t.n x1.t.c, .bool x1.l.s, .slice x1.l.a x1.l.n x1.l.c]).alloc (.cells #[.bool x2.t.s, .slice x2.t.a x2.t.n x2.t.c, .bool x2.l.s, .slice x2.l.a x2.l.n x2.l.c] 26)).alloc (.cells #[.bool x3.t.s, .slice x3.t.a x3.t.n x3.t.c, .bool x3.l.s, .slice x3.l.a x3.l.n x3.l.c] 26); rw [hV]; exact h)
  have BX2 := Lib.hid (show Bxs v4 (w.heap.size + 1) 26 [.bool x2.t.s, .slice x2.t.a x2.t.n x2.t.c, .bool x2.l.s, .slice x2.l.a x2.l.n x2.l.c] by have h := (Bxs.new (w.alloc (.cells #[.bool x1.t.s, .slice x1.t.a x1.t.n x1.t.c, .bool x1.l.s, .slice x1.l.a x1.l.n x1.l.c] 26)) 26 [.bool x2.t.s, .slice x2.t.a x2.t.n x2.t.c, .bool x2.l.s, .slice x2.l.a x2.l.n x2.l.c]).alloc (.cells #[.bool x3.t.s, .slice x3.t.a x3.t.n x3.t.c, .bool x3.l.s, .slice x3.l.a x3.l.n x3.l.c] 26); simp only [World.size_alloc] at h; rw [hV]; exact h)
  have BX3 := Lib.hid (show Bxs v4 (w.heap.size + 1 + 1) 26 [.bool x3.t.s, .slice x3.t.a x3.t.n x3.t.c, .bool x3.l.s, .slice x3.l.a x3.l.n x3.l.c] by have h := Bxs.new ((w.alloc (.cells #[.bool x1.t.s, .slice x1.t.a x1.t.n x1.t.c, .bool x1.l.s, .slice x1.l.a x1.l.n x1.l.c] 26)).alloc (.cells #[.bool x2.t.s, .slice x2.t.a x2.t.n x2.t.c, .bool x2.l.s, .slice x2.l.a x2.l.n x2.l.c] 26)) 26 [.bool x3.t.s, .slice x3.t.a x3.t.n x3.t.c, .bool x3.l.s, .slice x3.l.a x3.l.n x3.l.c]; simp only [World.size_alloc] at h; rw [hV]; exact h)
  rw [show ((w.alloc (.cells #[.bool x1.t.s, .slice x1.t.a x1.t.n x1.t.c, .bool x1.l.s, .slice x1.l.a x1.l.n x1.l.c] 26)).alloc (.cells #[.bool x2.t.s, .slice x2.t.a x2.t.n x2.t.c, .bool x2.l.s, .slice x2.l.a x2.l.n x2.l.c] 26)).alloc (.cells #[.bool x3.t.s, .slice x3.t.a x3.t.n x3.t.c, .bool x3.l.s, .slice x3.l.a x3.l.n x3.l.c] 26) = v4 from hV.symm]
  have KG := Lib.hid (KG.out.trans (hbV.mono KG.out.size))
  clear hV hbV
  go_wp2_with fail
  have CT := Lib.hid (qalive v4 (HT.out.on KG.out))
  with_reducible refine CT.out.mono ?_
  rintro e w5 ⟨rfl, hb⟩
  clear CT
  have BX1 := Lib.hid (BX1.out.below hb BX1.out.lt)
  have BX2 := Lib.hid (BX2.out.below hb BX2.out.lt)
  have BX3 := Lib.hid (BX3.out.below hb BX3.out.lt)
  have KG := Lib.hid (KG.out.trans (hb.mono KG.out.size))
  clear hb
  have cBX10 := BX1.out.cell (i := 0) rfl
  have cBX11 := BX1.out.cell (i := 1) rfl
  have cBX12 := BX1.out.cell (i := 2) rfl
  have cBX13 := BX1.out.cell (i := 3) rfl
  have cBX1f := BX1.out.fz
  have cBX1l := BX1.out.lt
  have cBX20 := BX2.out.cell (i := 0) rfl
  have cBX21 := BX2.out.cell (i := 1) rfl
  have cBX22 := BX2.out.cell (i := 2) rfl
  have cBX23 := BX2.out.cell (i := 3) rfl
  have cBX2f := BX2.out.fz
  have cBX2l := BX2.out.lt
  have cBX30 := BX3.out.cell (i := 0) rfl
  have cBX31 := BX3.out.cell (i := 1) rfl
  have cBX32 := BX3.out.cell (i := 2) rfl
  have cBX33 := BX3.out.cell (i := 3) rfl
  have cBX3f := BX3.out.fz
  have cBX3l := BX3.out.lt
  go_wp2_with fail
  clear cBX10 cBX11 cBX12 cBX13 cBX1f cBX1l
  clear cBX20 cBX21 cBX22 cBX23 cBX2f cBX2l
  clear cBX30 cBX31 cBX32 cBX33 cBX3f cBX3l
  obtain ⟨v7, hV⟩ : ∃ V, V = w5.alloc (.cells #[.bool x1.t.s, .slice x1.t.a x1.t.n x1.t.c, .bool x1.l.s, .slice x1.l.a x1.l.n x1.l.c, .bool x2.t.s, .slice x2.t.a x2.t.n x2.t.c, .bool x2.l.s, .slice x2.l.a x2.l.n x2.l.c, .bool x3.t.s, .slice x3.t.a x3.t.n x3.t.c, .bool x3.l.s, .slice x3.l.a x3.l.n x3.l.c] 26) := ⟨_, rfl⟩
  have hbV : Below w5.heap.size w5 v7 := by rw [hV]; exact ((Below.refl _ _).alloc (Nat.le_refl _) _)
  have BX6 := Lib.hid (show Bxs v7 (w5.heap.size) 26 [.bool x1.t.s, .slice x1.t.a x1.t.n x1.t.c, .bool x1.l.s, .slice x1.l.a x1.l.n x1.l.c, .bool x2.t.s, .slice x2.t.a x2.t.n x2.t.c, .bool x2.l.s, .slice x2.l.a x2.l.n x2.l.c, .bool x3.t.s, .slice x3.t.a x3.t.n x3.t.c, .bool x3.l.s, .slice x3.l.a x3.l.n x3.l.c] by have h := Bxs.new (w5) 26 [.bool x1.t.s, .slice x1.t.a x1.t.n x1.t.c, .bool x1.l.s, .slice x1.l.a x1.l.n x1.l.c, .bool x2.t.s, .slice x2.t.a x2.t.n x2.t.c, .bool x2.l.s, .slice x2.l.a x2.l.n x2.l.c, .bool x3.t.s, .slice x3.t.a x3.t.n x3.t.c, .bool x3.l.s, .slice x3.l.a x3.l.n x3.l.c]; rw [hV]; exact h)
  rw [show w5.alloc (.cells #[.bool x1.t.s, .slice x1.t.a x1.t.n x1.t.c, .bool x1.l.s, .slice x1.l.a x1.l.n x1.l.c, .bool x2.t.s, .slice x2.t.a x2.t.n x2.t.c, .bool x2.l.s, .slice x2.l.a x2.l.n x2.l.c, .bool x3.t.s, .slice x3.t.a x3.t.n x3.t.c, .bool x3.l.s, .slice x3.l.a x3.l.n x3.l.c] 26) = v7 from hV.symm]
  have BX1 := Lib.hid (BX1.out.below hbV BX1.out.lt)
  have BX2 := Lib.hid (BX2.out.below hbV BX2.out.lt)
  have BX3 := Lib.hid (BX3.out.below hbV BX3.out.lt)
  have KG := Lib.hid (KG.out.trans (hbV.mono KG.out.size))
  clear hV hbV
  have cBX10 := BX1.out.cell (i := 0) rfl
  have cBX11 := BX1.out.cell (i := 1) rfl
  have cBX12 := BX1.out.cell (i := 2) rfl
  have cBX13 := BX1.out.cell (i := 3) rfl
  have cBX1f := BX1.out.fz
  have cBX1l := BX1.out.lt
  have cBX20 := BX2.out.cell (i := 0) rfl
  have cBX21 := BX2.out.cell (i := 1) rfl
  have cBX22 := BX2.out.cell (i := 2) rfl
  have cBX23 := BX2.out.cell (i := 3) rfl
  have cBX2f := BX2.out.fz
  have cBX2l := BX2.out.lt
  have cBX30 := BX3.out.cell (i := 0) rfl
  have cBX31 := BX3.out.cell (i := 1) rfl
  have cBX32 := BX3.out.cell (i := 2) rfl
  have cBX33 := BX3.out.cell (i := 3) rfl
  have cBX3f := BX3.out.fz
  have cBX3l := BX3.out.lt
  have CT := Lib.hid (qgreat3 (M := 10) BX6.out)
  rw [show ((10 : Nat) : Int) = 10 from rfl, show decide ((10 < x1.t.n ∨ 10 < x1.l.n) ∨ (10 < x2.t.n ∨ 10 < x2.l.n) ∨ (10 < x3.t.n ∨ 10 < x3.l.n)) = false from decide_eq_false (by have g0 := (((N1.out.below KG.out)).len LQp1.out (by decide : _ ≤ 10)); have g1 := (((N2.out.below KG.out)).len LQp2.out (by decide : _ ≤ 10)); have g2 := Bx3.out; omega)] at CT
  with_reducible refine CT.out.mono ?_
  rintro e w8 ⟨rfl, hb⟩
  clear CT
  clear cBX10 cBX11 cBX12 cBX13 cBX1f cBX1l
  clear cBX20 cBX21 cBX22 cBX23 cBX2f cBX2l
  clear cBX30 cBX31 cBX32 cBX33 cBX3f cBX3l
  have BX1 := Lib.hid (BX1.out.below hb BX1.out.lt)
  have BX2 := Lib.hid (BX2.out.below hb BX2.out.lt)
  have BX3 := Lib.hid (BX3.out.below hb BX3.out.lt)
  clear BX6
  have KG := Lib.hid (KG.out.trans (hb.mono KG.out.size))
  clear hb
  have cBX10 := BX1.out.cell (i := 0) rfl
  have cBX11 := BX1.out.cell (i := 1) rfl
  have cBX12 := BX1.out.cell (i := 2) rfl
  have cBX13 := BX1.out.cell (i := 3) rfl
  have cBX1f := BX1.out.fz
  have cBX1l := BX1.out.lt
  go_wp2_with fail
  have CT := Lib.hid (qcheck (N1.out.below KG.out) (((N1.out.below KG.out)).len LQp1.out (by decide : _ ≤ 900000)))
  with_reducible refine CT.out.mono ?_
  rintro e w9 ⟨rfl, hb⟩
  clear CT
  clear cBX10 cBX11 cBX12 cBX13 cBX1f cBX1l
  clear BX1
  have BX2 := Lib.hid (BX2.out.below hb BX2.out.lt)
  have BX3 := Lib.hid (BX3.out.below hb BX3.out.lt)
  have KG := Lib.hid (KG.out.trans (hb.mono KG.out.size))
  clear hb
  have cBX20 := BX2.out.cell (i := 0) rfl
  have cBX21 := BX2.out.cell (i := 1) rfl
  have cBX22 := BX2.out.cell (i := 2) rfl
  have cBX23 := BX2.out.cell (i := 3) rfl
  have cBX2f := BX2.out.fz
  have cBX2l := BX2.out.lt
  go_wp2_with fail
  have CT := Lib.hid (qcheck (N2.out.below KG.out) (((N2.out.below KG.out)).len LQp2.out (by decide : _ ≤ 900000)))
  with_reducible refine CT.out.mono ?_
  rintro e w10 ⟨rfl, hb⟩
  clear CT
  clear cBX20 cBX21 cBX22 cBX23 cBX2f cBX2l
  clear BX2
  have BX3 := Lib.hid (BX3.out.below hb BX3.out.lt)
  have KG := Lib.hid (KG.out.trans (hb.mono KG.out.size))
  clear hb
  have cBX30 := BX3.out.cell (i := 0) rfl
  have cBX31 := BX3.out.cell (i := 1) rfl
  have cBX32 := BX3.out.cell (i := 2) rfl
  have cBX33 := BX3.out.cell (i := 3) rfl
  have cBX3f := BX3.out.fz
  have cBX3l := BX3.out.lt
  go_wp2_with fail
  have CT := Lib.hid (qcheckB (N3.out.below KG.out) (LF.up Bx3.out (by decide : _ ≤ 900000)))
  with_reducible refine CT.out.mono ?_
  rintro e w11 ⟨rfl, hb⟩
  clear CT
  clear cBX30 cBX31 cBX32 cBX33 cBX3f cBX3l
  clear BX3
  have KG := Lib.hid (KG.out.trans (hb.mono KG.out.size))
  clear hb
  go_wp2_with fail
  have CT := Lib.hid (qalive w11 (HT.out.on KG.out))
  with_reducible refine CT.out.mono ?_
  rintro e w12 ⟨rfl, hb⟩
  clear CT
  have KG := Lib.hid (KG.out.trans (hb.mono KG.out.size))
  clear hb
  go_wp2_with fail
  go_ret
  exact ⟨rfl, KG.out⟩
set_option maxRecDepth 100000 in
set_option maxHeartbeats 8000000 in
theorem order_1 (x1 x2 x3 : FV) (p1 p2 p3 : Rat) (w : World) (htab : Tab w) (h1 : KF w x1 p1) (h2 : KF w x2 p2) (h3 : KF w x3 p3) (b1 : LF x1 10) (b2 : LF x2 10) (b3 : LF x3 10) (hx : 0 < cmpQ p1 p2) : Calls Tryz.prog 8 #[x1.v, x2.v, x3.v] w fun e w' => e = .returned (.bool true) ∧ Below w.heap.size w w' := by
  have HT := Lib.hid htab
  have KG := Lib.hid (Below.refl w.heap.size w)
  have N1 := Lib.hid h1
  have N2 := Lib.hid h2
  have N3 := Lib.hid h3
  have LQp1 := Lib.hid (h1.lq b1)
  have LQp2 := Lib.hid (h2.lq b2)
  have LQp3 := Lib.hid (h3.lq b3)
  have HX := Lib.hid hx
  clear hx
  clear htab h1 h2 h3 b1 b2 b3
  obtain ⟨cn, hcn⟩ : ∃ s, s = cmpQ p1 p2 := ⟨_, rfl⟩
  obtain ⟨nn, hnn⟩ : ∃ s, s = cmpQ p2 p1 := ⟨_, rfl⟩
  obtain ⟨sc, hsc⟩ : ∃ s, s = cmpZ p3.num 0 := ⟨_, rfl⟩
  obtain ⟨pr, hpr⟩ : ∃ s, s = cmpQ (p1 * p3) (p2 * p3) := ⟨_, rfl⟩
  obtain ⟨bz, hbz⟩ : ∃ b, b = (cn == 0) := ⟨_, rfl⟩
  have R1 := cmpQ_range p1 p2
  have R2 := cmpQ_range (p1 * p3) (p2 * p3)
  rw [← hcn] at R1
  rw [← hpr] at R2
  have HW1 := Lib.hid (show IntKind.i64.wrap (-cn) = nn by rw [hnn, cmpQ_swap p1 p2, ← hcn]; exact IntWalk.i64_in _ (by omega))
  have HW2 := Lib.hid (show IntKind.i64.wrap (cn * sc) = pr by rw [show cn * sc = pr by rw [hpr, hcn, hsc]; exact (cmpQ_mul p1 p2 p3).symm]; exact IntWalk.i64_in _ (by omega))
  have HL1 := Lib.hid (show (decide (cn < -1)) = false from decide_eq_false (by omega))
  have HL2 := Lib.hid (show (decide (1 < cn)) = false from decide_eq_false (by omega))
  have HBZ := Lib.hid hbz
  have HBD := Lib.hid (show decide (p1 = p2) = bz by rw [hbz, hcn]; exact (cmpQ_same p1 p2).symm)
  have HAD := Lib.hid (show cmpQ (p1 + p3) (p2 + p3) = cn by rw [hcn]; exact cmpQ_add p1 p2 p3)
  have HSU := Lib.hid (show cmpZ (p1 - p2).num 0 = cn by rw [hcn]; exact sgQ_sub p1 p2)
  have Hcn := Lib.hid hcn
  have Hnn := Lib.hid hnn
  have Hsc := Lib.hid hsc
  have Hpr := Lib.hid hpr
  clear hcn hnn hsc hpr hbz R1 R2
  have HX1 := Lib.hid (show decide (0 < cn) = true from decide_eq_true (by rw [Hcn.out]; exact HX.out))
  obtain ⟨q13, hq13⟩ : ∃ z : Rat, z = p1 + p3 := ⟨_, rfl⟩
  have Hq13 := Lib.hid hq13
  have LQq13 := Lib.hid (show LQ q13 21 by rw [hq13]; exact LQ.add (LQp1.out.up (by decide : _ ≤ 10)) (LQp3.out.up (by decide : _ ≤ 10)) (by decide))
  clear hq13
  obtain ⟨q14, hq14⟩ : ∃ z : Rat, z = p2 + p3 := ⟨_, rfl⟩
  have Hq14 := Lib.hid hq14
  have LQq14 := Lib.hid (show LQ q14 21 by rw [hq14]; exact LQ.add (LQp2.out.up (by decide : _ ≤ 10)) (LQp3.out.up (by decide : _ ≤ 10)) (by decide))
  clear hq14
  obtain ⟨q15, hq15⟩ : ∃ z : Rat, z = p1 - p2 := ⟨_, rfl⟩
  have Hq15 := Lib.hid hq15
  have LQq15 := Lib.hid (show LQ q15 21 by rw [hq15]; exact LQ.sub (LQp1.out.up (by decide : _ ≤ 10)) (LQp2.out.up (by decide : _ ≤ 10)) (by decide))
  clear hq15
  obtain ⟨q16, hq16⟩ : ∃ z : Rat, z = p1 * p3 := ⟨_, rfl⟩
  have Hq16 := Lib.hid hq16
  have LQq16 := Lib.hid (show LQ q16 20 by rw [hq16]; exact LQ.mul (LQp1.out.up (by decide : _ ≤ 10)) (LQp3.out.up (by decide : _ ≤ 10)) (by decide))
  clear hq16
  obtain ⟨q17, hq17⟩ : ∃ z : Rat, z = p2 * p3 := ⟨_, rfl⟩
  have Hq17 := Lib.hid hq17
  have LQq17 := Lib.hid (show LQ q17 20 by rw [hq17]; exact LQ.mul (LQp2.out.up (by decide : _ ≤ 10)) (LQp3.out.up (by decide : _ ≤ 10)) (by decide))
  clear hq17
  go_enter Tryz.func8, Tryz.ntmps8
  go_upto_region 1 with (fail)
  obtain ⟨v4, hV⟩ : ∃ V, V = ((w.alloc (.cells #[.bool x1.t.s, .slice x1.t.a x1.t.n x1.t.c, .bool x1.l.s, .slice x1.l.a x1.l.n x1.l.c] 26)).alloc (.cells #[.bool x2.t.s, .slice x2.t.a x2.t.n x2.t.c, .bool x2.l.s, .slice x2.l.a x2.l.n x2.l.c] 26)).alloc (.cells #[.bool x3.t.s, .slice x3.t.a x3.t.n x3.t.c, .bool x3.l.s, .slice x3.l.a x3.l.n x3.l.c] 26) := ⟨_, rfl⟩
  have hbV : Below w.heap.size w v4 := by rw [hV]; exact ((((Below.refl _ _).alloc (Nat.le_refl _) _).alloc (by go_size) _).alloc (by go_size) _)
  have BX1 := Lib.hid (show Bxs v4 (w.heap.size) 26 [.bool x1.t.s, .slice x1.t.a x1.t.n x1.t.c, .bool x1.l.s, .slice x1.l.a x1.l.n x1.l.c] by have h := ((Bxs.new (w) 26 [.bool x1.t.s, .slice x1.t.a x1.t.n x1.t.c, .bool x1.l.s, .slice x1.l.a x1.l.n x1.l.c]).alloc (.cells #[.bool x2.t.s, .slice x2.t.a x2.t.n x2.t.c, .bool x2.l.s, .slice x2.l.a x2.l.n x2.l.c] 26)).alloc (.cells #[.bool x3.t.s, .slice x3.t.a x3.t.n x3.t.c, .bool x3.l.s, .slice x3.l.a x3.l.n x3.l.c] 26); rw [hV]; exact h)
  have BX2 := Lib.hid (show Bxs v4 (w.heap.size + 1) 26 [.bool x2.t.s, .slice x2.t.a x2.t.n x2.t.c, .bool x2.l.s, .slice x2.l.a x2.l.n x2.l.c] by have h := (Bxs.new (w.alloc (.cells #[.bool x1.t.s, .slice x1.t.a x1.t.n x1.t.c, .bool x1.l.s, .slice x1.l.a x1.l.n x1.l.c] 26)) 26 [.bool x2.t.s, .slice x2.t.a x2.t.n x2.t.c, .bool x2.l.s, .slice x2.l.a x2.l.n x2.l.c]).alloc (.cells #[.bool x3.t.s, .slice x3.t.a x3.t.n x3.t.c, .bool x3.l.s, .slice x3.l.a x3.l.n x3.l.c] 26); simp only [World.size_alloc] at h; rw [hV]; exact h)
  have BX3 := Lib.hid (show Bxs v4 (w.heap.size + 1 + 1) 26 [.bool x3.t.s, .slice x3.t.a x3.t.n x3.t.c, .bool x3.l.s, .slice x3.l.a x3.l.n x3.l.c] by have h := Bxs.new ((w.alloc (.cells #[.bool x1.t.s, .slice x1.t.a x1.t.n x1.t.c, .bool x1.l.s, .slice x1.l.a x1.l.n x1.l.c] 26)).alloc (.cells #[.bool x2.t.s, .slice x2.t.a x2.t.n x2.t.c, .bool x2.l.s, .slice x2.l.a x2.l.n x2.l.c] 26)) 26 [.bool x3.t.s, .slice x3.t.a x3.t.n x3.t.c, .bool x3.l.s, .slice x3.l.a x3.l.n x3.l.c]; simp only [World.size_alloc] at h; rw [hV]; exact h)
  rw [show ((w.alloc (.cells #[.bool x1.t.s, .slice x1.t.a x1.t.n x1.t.c, .bool x1.l.s, .slice x1.l.a x1.l.n x1.l.c] 26)).alloc (.cells #[.bool x2.t.s, .slice x2.t.a x2.t.n x2.t.c, .bool x2.l.s, .slice x2.l.a x2.l.n x2.l.c] 26)).alloc (.cells #[.bool x3.t.s, .slice x3.t.a x3.t.n x3.t.c, .bool x3.l.s, .slice x3.l.a x3.l.n x3.l.c] 26) = v4 from hV.symm]
  have KG := Lib.hid (KG.out.trans (hbV.mono KG.out.size))
  clear hV hbV
  go_wp2_with fail
  have CT := Lib.hid (qalive v4 (HT.out.on KG.out))
  with_reducible refine CT.out.mono ?_
  rintro e w5 ⟨rfl, hb⟩
  clear CT
  have BX1 := Lib.hid (BX1.out.below hb BX1.out.lt)
  have BX2 := Lib.hid (BX2.out.below hb BX2.out.lt)
  have BX3 := Lib.hid (BX3.out.below hb BX3.out.lt)
  have KG := Lib.hid (KG.out.trans (hb.mono KG.out.size))
  clear hb
  have cBX10 := BX1.out.cell (i := 0) rfl
  have cBX11 := BX1.out.cell (i := 1) rfl
  have cBX12 := BX1.out.cell (i := 2) rfl
  have cBX13 := BX1.out.cell (i := 3) rfl
  have cBX1f := BX1.out.fz
  have cBX1l := BX1.out.lt
  have cBX20 := BX2.out.cell (i := 0) rfl
  have cBX21 := BX2.out.cell (i := 1) rfl
  have cBX22 := BX2.out.cell (i := 2) rfl
  have cBX23 := BX2.out.cell (i := 3) rfl
  have cBX2f := BX2.out.fz
  have cBX2l := BX2.out.lt
  have cBX30 := BX3.out.cell (i := 0) rfl
  have cBX31 := BX3.out.cell (i := 1) rfl
  have cBX32 := BX3.out.cell (i := 2) rfl
  have cBX33 := BX3.out.cell (i := 3) rfl
  have cBX3f := BX3.out.fz
  have cBX3l := BX3.out.lt
  go_wp2_with fail
  clear cBX10 cBX11 cBX12 cBX13 cBX1f cBX1l
  clear cBX20 cBX21 cBX22 cBX23 cBX2f cBX2l
  clear cBX30 cBX31 cBX32 cBX33 cBX3f cBX3l
  obtain ⟨v7, hV⟩ : ∃ V, V = w5.alloc (.cells #[.bool x1.t.s, .slice x1.t.a x1.t.n x1.t.c, .bool x1.l.s, .slice x1.l.a x1.l.n x1.l.c, .bool x2.t.s, .slice x2.t.a x2.t.n x2.t.c, .bool x2.l.s, .slice x2.l.a x2.l.n x2.l.c, .bool x3.t.s, .slice x3.t.a x3.t.n x3.t.c, .bool x3.l.s, .slice x3.l.a x3.l.n x3.l.c] 26) := ⟨_, rfl⟩
  have hbV : Below w5.heap.size w5 v7 := by rw [hV]; exact ((Below.refl _ _).alloc (Nat.le_refl _) _)
  have BX6 := Lib.hid (show Bxs v7 (w5.heap.size) 26 [.bool x1.t.s, .slice x1.t.a x1.t.n x1.t.c, .bool x1.l.s, .slice x1.l.a x1.l.n x1.l.c, .bool x2.t.s, .slice x2.t.a x2.t.n x2.t.c, .bool x2.l.s, .slice x2.l.a x2.l.n x2.l.c, .bool x3.t.s, .slice x3.t.a x3.t.n x3.t.c, .bool x3.l.s, .slice x3.l.a x3.l.n x3.l.c] by have h := Bxs.new (w5) 26 [.bool x1.t.s, .slice x1.t.a x1.t.n x1.t.c, .bool x1.l.s, .slice x1.l.a x1.l.n x1.l.c, .bool x2.t.s, .slice x2.t.a x2.t.n x2.t.c, .bool x2.l.s, .slice x2.l.a x2.l.n x2.l.c, .bool x3.t.s, .slice x3.t.a x3.t.n x3.t.c, .bool x3.l.s, .slice x3.l.a x3.l.n x3.l.c]; rw [hV]; exact h)
  rw [show w5.alloc (.cells #[.bool x1.t.s, .slice x1.t.a x1.t.n x1.t.c, .bool x1.l.s, .slice x1.l.a x1.l.n x1.l.c, .bool x2.t.s, .slice x2.t.a x2.t.n x2.t.c, .bool x2.l.s, .slice x2.l.a x2.l.n x2.l.c, .bool x3.t.s, .slice x3.t.a x3.t.n x3.t.c, .bool x3.l.s, .slice x3.l.a x3.l.n x3.l.c] 26) = v7 from hV.symm]
  have BX1 := Lib.hid (BX1.out.below hbV BX1.out.lt)
  have BX2 := Lib.hid (BX2.out.below hbV BX2.out.lt)
  have BX3 := Lib.hid (BX3.out.below hbV BX3.out.lt)
  have KG := Lib.hid (KG.out.trans (hbV.mono KG.out.size))
  clear hV hbV
  have cBX10 := BX1.out.cell (i := 0) rfl
  have cBX11 := BX1.out.cell (i := 1) rfl
  have cBX12 := BX1.out.cell (i := 2) rfl
  have cBX13 := BX1.out.cell (i := 3) rfl
  have cBX1f := BX1.out.fz
  have cBX1l := BX1.out.lt
  have cBX20 := BX2.out.cell (i := 0) rfl
  have cBX21 := BX2.out.cell (i := 1) rfl
  have cBX22 := BX2.out.cell (i := 2) rfl
  have cBX23 := BX2.out.cell (i := 3) rfl
  have cBX2f := BX2.out.fz
  have cBX2l := BX2.out.lt
  have cBX30 := BX3.out.cell (i := 0) rfl
  have cBX31 := BX3.out.cell (i := 1) rfl
  have cBX32 := BX3.out.cell (i := 2) rfl
  have cBX33 := BX3.out.cell (i := 3) rfl
  have cBX3f := BX3.out.fz
  have cBX3l := BX3.out.lt
  have CT := Lib.hid (qgreat3 (M := 10) BX6.out)
  rw [show ((10 : Nat) : Int) = 10 from rfl, show decide ((10 < x1.t.n ∨ 10 < x1.l.n) ∨ (10 < x2.t.n ∨ 10 < x2.l.n) ∨ (10 < x3.t.n ∨ 10 < x3.l.n)) = false from decide_eq_false (by have g0 := (((N1.out.below KG.out)).len LQp1.out (by decide : _ ≤ 10)); have g1 := (((N2.out.below KG.out)).len LQp2.out (by decide : _ ≤ 10)); have g2 := (((N3.out.below KG.out)).len LQp3.out (by decide : _ ≤ 10)); omega)] at CT
  with_reducible refine CT.out.mono ?_
  rintro e w8 ⟨rfl, hb⟩
  clear CT
  clear cBX10 cBX11 cBX12 cBX13 cBX1f cBX1l
  clear cBX20 cBX21 cBX22 cBX23 cBX2f cBX2l
  clear cBX30 cBX31 cBX32 cBX33 cBX3f cBX3l
  have BX1 := Lib.hid (BX1.out.below hb BX1.out.lt)
  have BX2 := Lib.hid (BX2.out.below hb BX2.out.lt)
  have BX3 := Lib.hid (BX3.out.below hb BX3.out.lt)
  clear BX6
  have KG := Lib.hid (KG.out.trans (hb.mono KG.out.size))
  clear hb
  have cBX10 := BX1.out.cell (i := 0) rfl
  have cBX11 := BX1.out.cell (i := 1) rfl
  have cBX12 := BX1.out.cell (i := 2) rfl
  have cBX13 := BX1.out.cell (i := 3) rfl
  have cBX1f := BX1.out.fz
  have cBX1l := BX1.out.lt
  go_wp2_with fail
  have CT := Lib.hid (qcheck (N1.out.below KG.out) (((N1.out.below KG.out)).len LQp1.out (by decide : _ ≤ 900000)))
  with_reducible refine CT.out.mono ?_
  rintro e w9 ⟨rfl, hb⟩
  clear CT
  clear cBX10 cBX11 cBX12 cBX13 cBX1f cBX1l
  have BX1 := Lib.hid (BX1.out.below hb BX1.out.lt)
  have BX2 := Lib.hid (BX2.out.below hb BX2.out.lt)
  have BX3 := Lib.hid (BX3.out.below hb BX3.out.lt)
  have KG := Lib.hid (KG.out.trans (hb.mono KG.out.size))
  clear hb
  have cBX20 := BX2.out.cell (i := 0) rfl
  have cBX21 := BX2.out.cell (i := 1) rfl
  have cBX22 := BX2.out.cell (i := 2) rfl
  have cBX23 := BX2.out.cell (i := 3) rfl
  have cBX2f := BX2.out.fz
  have cBX2l := BX2.out.lt
  go_wp2_with fail
  have CT := Lib.hid (qcheck (N2.out.below KG.out) (((N2.out.below KG.out)).len LQp2.out (by decide : _ ≤ 900000)))
  with_reducible refine CT.out.mono ?_
  rintro e w10 ⟨rfl, hb⟩
  clear CT
  clear cBX20 cBX21 cBX22 cBX23 cBX2f cBX2l
  have BX1 := Lib.hid (BX1.out.below hb BX1.out.lt)
  have BX2 := Lib.hid (BX2.out.below hb BX2.out.lt)
  have BX3 := Lib.hid (BX3.out.below hb BX3.out.lt)
  have KG := Lib.hid (KG.out.trans (hb.mono KG.out.size))
  clear hb
  have cBX30 := BX3.out.cell (i := 0) rfl
  have cBX31 := BX3.out.cell (i := 1) rfl
  have cBX32 := BX3.out.cell (i := 2) rfl
  have cBX33 := BX3.out.cell (i := 3) rfl
  have cBX3f := BX3.out.fz
  have cBX3l := BX3.out.lt
  go_wp2_with fail
  have CT := Lib.hid (qcheck (N3.out.below KG.out) (((N3.out.below KG.out)).len LQp3.out (by decide : _ ≤ 900000)))
  with_reducible refine CT.out.mono ?_
  rintro e w11 ⟨rfl, hb⟩
  clear CT
  clear cBX30 cBX31 cBX32 cBX33 cBX3f cBX3l
  have BX1 := Lib.hid (BX1.out.below hb BX1.out.lt)
  have BX2 := Lib.hid (BX2.out.below hb BX2.out.lt)
  have BX3 := Lib.hid (BX3.out.below hb BX3.out.lt)
  have KG := Lib.hid (KG.out.trans (hb.mono KG.out.size))
  clear hb
  have cBX10 := BX1.out.cell (i := 0) rfl
  have cBX11 := BX1.out.cell (i := 1) rfl
  have cBX12 := BX1.out.cell (i := 2) rfl
  have cBX13 := BX1.out.cell (i := 3) rfl
  have cBX1f := BX1.out.fz
  have cBX1l := BX1.out.lt
  have cBX20 := BX2.out.cell (i := 0) rfl
  have cBX21 := BX2.out.cell (i := 1) rfl
  have cBX22 := BX2.out.cell (i := 2) rfl
  have cBX23 := BX2.out.cell (i := 3) rfl
  have cBX2f := BX2.out.fz
  have cBX2l := BX2.out.lt
  go_wp2_with fail
  have CT := Lib.hid (qcmp ((N1.out.below KG.out)).any (((N1.out.below KG.out)).len LQp1.out (by decide : _ ≤ 900000)) ((N2.out.below KG.out)).any (((N2.out.below KG.out)).len LQp2.out (by decide : _ ≤ 900000)))
  rw [show cmpQ p1 p2 = cn from Hcn.out.symm] at CT
  with_reducible refine CT.out.mono ?_
  rintro e w12 ⟨rfl, hb⟩
  clear CT
  clear cBX10 cBX11 cBX12 cBX13 cBX1f cBX1l
  clear cBX20 cBX21 cBX22 cBX23 cBX2f cBX2l
  have BX1 := Lib.hid (BX1.out.below hb BX1.out.lt)
  have BX2 := Lib.hid (BX2.out.below hb BX2.out.lt)
  have BX3 := Lib.hid (BX3.out.below hb BX3.out.lt)
  have KG := Lib.hid (KG.out.trans (hb.mono KG.out.size))
  clear hb
  go_upto_region 4 with (fail)
  refine Go.FreshS.wp_region_fresh 54 [] (Go.FreshS.spOf [(9, Go.FreshS.Sp.know (.int .i64 nn)), (19, Go.FreshS.Sp.know (.bool bz)), (25, Go.FreshS.Sp.made (fun x : FV => x.v) (fun x w' => DF w' w12.heap.size x q13) FV.blk), (28, Go.FreshS.Sp.made (fun x : FV => x.v) (fun x w' => DF w' w12.heap.size x q14) FV.blk), (29, Go.FreshS.Sp.know (.int .i64 cn)), (36, Go.FreshS.Sp.made (fun x : FV => x.v) (fun x w' => DF w' w12.heap.size x q15) FV.blk), (37, Go.FreshS.Sp.know (.int .i64 cn)), (44, Go.FreshS.Sp.made (fun x : FV => x.v) (fun x w' => DF w' w12.heap.size x q16) FV.blk), (47, Go.FreshS.Sp.made (fun x : FV => x.v) (fun x w' => DF w' w12.heap.size x q17) FV.blk), (48, Go.FreshS.Sp.know (.int .i64 pr)), (51, Go.FreshS.Sp.know (.int .i64 sc))])
    (fun w' => Below w12.heap.size w12 w') (by kernel_rfl) (by kernel_rfl) (by kernel_rfl)
    (Go.FreshS.spOf_cons (Go.FreshS.Sp.know_keeps _ _) (Go.FreshS.spOf_cons (Go.FreshS.Sp.know_keeps _ _) (Go.FreshS.spOf_cons (Go.FreshS.Sp.made_keeps _ (fun _ _ _ h _ hk => h.kept hk) (Go.FreshS.notTaken (by kernel_rfl))) (Go.FreshS.spOf_cons (Go.FreshS.Sp.made_keeps _ (fun _ _ _ h _ hk => h.kept hk) (Go.FreshS.notTaken (by kernel_rfl))) (Go.FreshS.spOf_cons (Go.FreshS.Sp.know_keeps _ _) (Go.FreshS.spOf_cons (Go.FreshS.Sp.made_keeps _ (fun _ _ _ h _ hk => h.kept hk) (Go.FreshS.notTaken (by kernel_rfl))) (Go.FreshS.spOf_cons (Go.FreshS.Sp.know_keeps _ _) (Go.FreshS.spOf_cons (Go.FreshS.Sp.made_keeps _ (fun _ _ _ h _ hk => h.kept hk) (Go.FreshS.notTaken (by kernel_rfl))) (Go.FreshS.spOf_cons (Go.FreshS.Sp.made_keeps _ (fun _ _ _ h _ hk => h.kept hk) (Go.FreshS.notTaken (by kernel_rfl))) (Go.FreshS.spOf_cons (Go.FreshS.Sp.know_keeps _ _) (Go.FreshS.spOf_cons (Go.FreshS.Sp.know_keeps _ _) (Go.FreshS.spOf_nil)))))))))))) (fun _ _ h hb => h.trans (hb.mono h.size)) ((Below.refl _ _).drew) ?_
  simp only [List.append_eq, List.cons_append, List.nil_append, List.take_succ_cons, List.take_zero, List.drop_succ_cons, List.drop_zero]
  refine Go.FreshS.wpF_reads rfl rfl rfl ?_ (fun w' hw' => ?_) ?_
  rotate_left
  · have hb' := hw'.world
    skip
    clear hw'
    go_simp
    try rfl
  conv => arg 10; simp only [Act.put, List.setIfInBounds_toArray, List.set_cons_succ, List.set_cons_zero]
  refine Go.FreshS.wpF_reads rfl rfl rfl ?_ (fun w' hw' => ?_) ?_
  rotate_left
  · have hb' := hw'.world
    have hq0 := HL1.out
    clear hw'
    go_simp
    try rfl
  conv => arg 10; simp only [Act.put, List.setIfInBounds_toArray, List.set_cons_succ, List.set_cons_zero]
  refine Go.FreshS.wpF_reads rfl rfl rfl ?_ (fun w' hw' => ?_) ?_
  rotate_left
  · have hb' := hw'.world
    skip
    clear hw'
    go_simp
    try rfl
  conv => arg 10; simp only [Act.put, List.setIfInBounds_toArray, List.set_cons_succ, List.set_cons_zero]
  refine Go.FreshS.wpF_readsG (by rfl) rfl rfl ?_ (fun w' hw' => ?_) ?_
  rotate_left
  · have hb' := hw'.world
    skip
    clear hw'
    go_simp
    try rfl
  conv => arg 10; simp only [Act.put, List.setIfInBounds_toArray, List.set_cons_succ, List.set_cons_zero]
  refine Go.FreshS.wpF_readsG (by rfl) rfl rfl ?_ (fun w' hw' => ?_) ?_
  rotate_left
  · have hb' := hw'.world
    have hq0 := HL2.out
    clear hw'
    go_simp
    try rfl
  conv => arg 10; simp only [Act.put, List.setIfInBounds_toArray, List.set_cons_succ, List.set_cons_zero]
  refine Go.FreshS.wpF_reads rfl rfl rfl ?_ (fun w' hw' => ?_) ?_
  rotate_left
  · have hb' := hw'.world
    skip
    clear hw'
    go_simp
    try rfl
  conv => arg 10; simp only [Act.put, List.setIfInBounds_toArray, List.set_cons_succ, List.set_cons_zero]
  refine Go.FreshS.wpF_reads rfl rfl rfl ?_ (fun w' hw' => ?_) ?_
  rotate_left
  · have hb' := hw'.world
    skip
    clear hw'
    go_simp
    try rfl
  conv => arg 10; simp only [Act.put, List.setIfInBounds_toArray, List.set_cons_succ, List.set_cons_zero]
  refine Go.FreshS.wpF_readsG (by rfl) rfl rfl ?_ (fun w' hw' => ?_) ?_
  rotate_left
  · have hb' := hw'.world
    have hs0 := (BX2.out.below hb' BX2.out.lt).cell (i := 0) rfl
    have hs1 := (BX2.out.below hb' BX2.out.lt).cell (i := 1) rfl
    have hs2 := (BX2.out.below hb' BX2.out.lt).cell (i := 2) rfl
    have hs3 := (BX2.out.below hb' BX2.out.lt).cell (i := 3) rfl
    have hsf := (BX2.out.below hb' BX2.out.lt).fz
    have hsl := (BX2.out.below hb' BX2.out.lt).lt
    clear hw'
    go_simp
    try rfl
  conv => arg 10; simp only [Act.put, List.setIfInBounds_toArray, List.set_cons_succ, List.set_cons_zero]
  refine Go.FreshS.wpF_readsG (by rfl) rfl rfl ?_ (fun w' hw' => ?_) ?_
  rotate_left
  · have hb' := hw'.world
    have hs0 := (BX1.out.below hb' BX1.out.lt).cell (i := 0) rfl
    have hs1 := (BX1.out.below hb' BX1.out.lt).cell (i := 1) rfl
    have hs2 := (BX1.out.below hb' BX1.out.lt).cell (i := 2) rfl
    have hs3 := (BX1.out.below hb' BX1.out.lt).cell (i := 3) rfl
    have hsf := (BX1.out.below hb' BX1.out.lt).fz
    have hsl := (BX1.out.below hb' BX1.out.lt).lt
    clear hw'
    go_simp
    try rfl
  conv => arg 10; simp only [Act.put, List.setIfInBounds_toArray, List.set_cons_succ, List.set_cons_zero]
  refine Go.FreshS.wpF_gspec (by rfl) rfl rfl (fun w' hw' => ?_) ?_
  · have hb' := hw'.world
    refine Go.FreshS.gives_of (Go.FreshS.PK (.int .i64 nn)) ?_ (fun _ _ h => h.post)
    go_simp
    have CT := qcmp ((N2.out.below (KG.out.trans (hb'.mono KG.out.size)))).any (((N2.out.below (KG.out.trans (hb'.mono KG.out.size)))).len LQp2.out (by decide : _ ≤ 900000)) ((N1.out.below (KG.out.trans (hb'.mono KG.out.size)))).any (((N1.out.below (KG.out.trans (hb'.mono KG.out.size)))).len LQp1.out (by decide : _ ≤ 900000))
    rw [show cmpQ p2 p1 = nn from Hnn.out.symm] at CT
    refine CT.mono ?_
    rintro e w'' ⟨rfl, hb⟩
    exact ⟨_, rfl, rfl, hb⟩
  rintro _ rfl
  conv => arg 10; simp only [Act.put, List.setIfInBounds_toArray, List.set_cons_succ, List.set_cons_zero]
  refine Go.FreshS.wpF_readsG (by rfl) rfl rfl ?_ (fun w' hw' => ?_) ?_
  rotate_left
  · have hb' := hw'.world
    skip
    clear hw'
    go_simp
    try rfl
  conv => arg 10; simp only [Act.put, List.setIfInBounds_toArray, List.set_cons_succ, List.set_cons_zero]
  refine Go.FreshS.wpF_readsG (by rfl) rfl rfl ?_ (fun w' hw' => ?_) ?_
  rotate_left
  · have hb' := hw'.world
    have hq0 := HW1.out
    clear hw'
    go_simp
    try rfl
  conv => arg 10; simp only [Act.put, List.setIfInBounds_toArray, List.set_cons_succ, List.set_cons_zero]
  refine Go.FreshS.wpF_readsG (by rfl) rfl rfl ?_ (fun w' hw' => ?_) ?_
  rotate_left
  · have hb' := hw'.world
    skip
    clear hw'
    go_simp
    try rfl
  conv => arg 10; simp only [Act.put, List.setIfInBounds_toArray, List.set_cons_succ, List.set_cons_zero]
  refine Go.FreshS.wpF_reads rfl rfl rfl ?_ (fun w' hw' => ?_) ?_
  rotate_left
  · have hb' := hw'.world
    skip
    clear hw'
    go_simp
    try rfl
  conv => arg 10; simp only [Act.put, List.setIfInBounds_toArray, List.set_cons_succ, List.set_cons_zero]
  refine Go.FreshS.wpF_reads rfl rfl rfl ?_ (fun w' hw' => ?_) ?_
  rotate_left
  · have hb' := hw'.world
    skip
    clear hw'
    go_simp
    try rfl
  conv => arg 10; simp only [Act.put, List.setIfInBounds_toArray, List.set_cons_succ, List.set_cons_zero]
  refine Go.FreshS.wpF_readsG (by rfl) rfl rfl ?_ (fun w' hw' => ?_) ?_
  rotate_left
  · have hb' := hw'.world
    skip
    clear hw'
    go_simp
    try rfl
  conv => arg 10; simp only [Act.put, List.setIfInBounds_toArray, List.set_cons_succ, List.set_cons_zero]
  refine Go.FreshS.wpF_readsG (by rfl) rfl rfl ?_ (fun w' hw' => ?_) ?_
  rotate_left
  · have hb' := hw'.world
    have hq0 := HBZ.out.symm
    clear hw'
    go_simp
    try rfl
  conv => arg 10; simp only [Act.put, List.setIfInBounds_toArray, List.set_cons_succ, List.set_cons_zero]
  refine Go.FreshS.wpF_readsG (by rfl) rfl rfl ?_ (fun w' hw' => ?_) ?_
  rotate_left
  · have hb' := hw'.world
    have hs0 := (BX1.out.below hb' BX1.out.lt).cell (i := 0) rfl
    have hs1 := (BX1.out.below hb' BX1.out.lt).cell (i := 1) rfl
    have hs2 := (BX1.out.below hb' BX1.out.lt).cell (i := 2) rfl
    have hs3 := (BX1.out.below hb' BX1.out.lt).cell (i := 3) rfl
    have hsf := (BX1.out.below hb' BX1.out.lt).fz
    have hsl := (BX1.out.below hb' BX1.out.lt).lt
    clear hw'
    go_simp
    try rfl
  conv => arg 10; simp only [Act.put, List.setIfInBounds_toArray, List.set_cons_succ, List.set_cons_zero]
  refine Go.FreshS.wpF_readsG (by rfl) rfl rfl ?_ (fun w' hw' => ?_) ?_
  rotate_left
  · have hb' := hw'.world
    have hs0 := (BX2.out.below hb' BX2.out.lt).cell (i := 0) rfl
    have hs1 := (BX2.out.below hb' BX2.out.lt).cell (i := 1) rfl
    have hs2 := (BX2.out.below hb' BX2.out.lt).cell (i := 2) rfl
    have hs3 := (BX2.out.below hb' BX2.out.lt).cell (i := 3) rfl
    have hsf := (BX2.out.below hb' BX2.out.lt).fz
    have hsl := (BX2.out.below hb' BX2.out.lt).lt
    clear hw'
    go_simp
    try rfl
  conv => arg 10; simp only [Act.put, List.setIfInBounds_toArray, List.set_cons_succ, List.set_cons_zero]
  refine Go.FreshS.wpF_gspec (by rfl) rfl rfl (fun w' hw' => ?_) ?_
  · have hb' := hw'.world
    refine Go.FreshS.gives_of (Go.FreshS.PK (.bool bz)) ?_ (fun _ _ h => h.post)
    go_simp
    have CT := qsameD (N1.out.below (KG.out.trans (hb'.mono KG.out.size))) (((N1.out.below (KG.out.trans (hb'.mono KG.out.size)))).len LQp1.out (by decide : _ ≤ 900000)) (N2.out.below (KG.out.trans (hb'.mono KG.out.size))) (((N2.out.below (KG.out.trans (hb'.mono KG.out.size)))).len LQp2.out (by decide : _ ≤ 900000))
    rw [show decide (p1 = p2) = bz from HBD.out] at CT
    refine CT.mono ?_
    rintro e w'' ⟨rfl, hb⟩
    exact ⟨_, rfl, rfl, hb⟩
  rintro _ rfl
  conv => arg 10; simp only [Act.put, List.setIfInBounds_toArray, List.set_cons_succ, List.set_cons_zero]
  refine Go.FreshS.wpF_readsG (by rfl) rfl rfl ?_ (fun w' hw' => ?_) ?_
  rotate_left
  · have hb' := hw'.world
    skip
    clear hw'
    go_simp
    try rfl
  conv => arg 10; simp only [Act.put, List.setIfInBounds_toArray, List.set_cons_succ, List.set_cons_zero]
  refine Go.FreshS.wpF_reads rfl rfl rfl ?_ (fun w' hw' => ?_) ?_
  rotate_left
  · have hb' := hw'.world
    skip
    clear hw'
    go_simp
    try rfl
  conv => arg 10; simp only [Act.put, List.setIfInBounds_toArray, List.set_cons_succ, List.set_cons_zero]
  refine Go.FreshS.wpF_reads rfl rfl rfl ?_ (fun w' hw' => ?_) ?_
  rotate_left
  · have hb' := hw'.world
    skip
    clear hw'
    go_simp
    try rfl
  conv => arg 10; simp only [Act.put, List.setIfInBounds_toArray, List.set_cons_succ, List.set_cons_zero]
  refine Go.FreshS.wpF_readsG (by rfl) rfl rfl ?_ (fun w' hw' => ?_) ?_
  rotate_left
  · have hb' := hw'.world
    have hs0 := (BX1.out.below hb' BX1.out.lt).cell (i := 0) rfl
    have hs1 := (BX1.out.below hb' BX1.out.lt).cell (i := 1) rfl
    have hs2 := (BX1.out.below hb' BX1.out.lt).cell (i := 2) rfl
    have hs3 := (BX1.out.below hb' BX1.out.lt).cell (i := 3) rfl
    have hsf := (BX1.out.below hb' BX1.out.lt).fz
    have hsl := (BX1.out.below hb' BX1.out.lt).lt
    clear hw'
    go_simp
    try rfl
  conv => arg 10; simp only [Act.put, List.setIfInBounds_toArray, List.set_cons_succ, List.set_cons_zero]
  refine Go.FreshS.wpF_readsG (by rfl) rfl rfl ?_ (fun w' hw' => ?_) ?_
  rotate_left
  · have hb' := hw'.world
    have hs0 := (BX3.out.below hb' BX3.out.lt).cell (i := 0) rfl
    have hs1 := (BX3.out.below hb' BX3.out.lt).cell (i := 1) rfl
    have hs2 := (BX3.out.below hb' BX3.out.lt).cell (i := 2) rfl
    have hs3 := (BX3.out.below hb' BX3.out.lt).cell (i := 3) rfl
    have hsf := (BX3.out.below hb' BX3.out.lt).fz
    have hsl := (BX3.out.below hb' BX3.out.lt).lt
    clear hw'
    go_simp
    try rfl
  conv => arg 10; simp only [Act.put, List.setIfInBounds_toArray, List.set_cons_succ, List.set_cons_zero]
  refine Go.FreshS.wpF_gspec (by rfl) rfl rfl (fun w' hw' => ?_) ?_
  · have hb' := hw'.world
    refine Go.FreshS.gives_of (Go.FreshS.PM (fun x : FV => x.v) (fun x w' => DF w' w12.heap.size x q13) FV.blk w'.heap.size) ?_ (fun _ _ h => h.post (fun _ _ => FV.inj))
    go_simp
    have CT := qadd ((N1.out.below (KG.out.trans (hb'.mono KG.out.size)))).any (((N1.out.below (KG.out.trans (hb'.mono KG.out.size)))).len LQp1.out (by decide : _ ≤ 900000)) ((N3.out.below (KG.out.trans (hb'.mono KG.out.size)))).any (((N3.out.below (KG.out.trans (hb'.mono KG.out.size)))).len LQp3.out (by decide : _ ≤ 900000))
    rw [show p1 + p3 = q13 from Hq13.out.symm] at CT
    refine CT.mono ?_
    rintro e w'' ⟨za, rfl, ho, hb⟩
    exact ⟨_, rfl, ⟨za, rfl, ho.mono hb'.size, ho.blks⟩, hb⟩
  rintro _ ⟨y25, rfl⟩
  conv => arg 10; simp only [Act.put, List.setIfInBounds_toArray, List.set_cons_succ, List.set_cons_zero]
  refine Go.FreshS.wpF_readsG (by rfl) rfl rfl ?_ (fun w' hw' => ?_) ?_
  rotate_left
  · have hb' := hw'.world
    have hs0 := (BX2.out.below hb' BX2.out.lt).cell (i := 0) rfl
    have hs1 := (BX2.out.below hb' BX2.out.lt).cell (i := 1) rfl
    have hs2 := (BX2.out.below hb' BX2.out.lt).cell (i := 2) rfl
    have hs3 := (BX2.out.below hb' BX2.out.lt).cell (i := 3) rfl
    have hsf := (BX2.out.below hb' BX2.out.lt).fz
    have hsl := (BX2.out.below hb' BX2.out.lt).lt
    clear hw'
    go_simp
    try rfl
  conv => arg 10; simp only [Act.put, List.setIfInBounds_toArray, List.set_cons_succ, List.set_cons_zero]
  refine Go.FreshS.wpF_readsG (by rfl) rfl rfl ?_ (fun w' hw' => ?_) ?_
  rotate_left
  · have hb' := hw'.world
    have hs0 := (BX3.out.below hb' BX3.out.lt).cell (i := 0) rfl
    have hs1 := (BX3.out.below hb' BX3.out.lt).cell (i := 1) rfl
    have hs2 := (BX3.out.below hb' BX3.out.lt).cell (i := 2) rfl
    have hs3 := (BX3.out.below hb' BX3.out.lt).cell (i := 3) rfl
    have hsf := (BX3.out.below hb' BX3.out.lt).fz
    have hsl := (BX3.out.below hb' BX3.out.lt).lt
    clear hw'
    go_simp
    try rfl
  conv => arg 10; simp only [Act.put, List.setIfInBounds_toArray, List.set_cons_succ, List.set_cons_zero]
  refine Go.FreshS.wpF_gspec (by rfl) rfl rfl (fun w' hw' => ?_) ?_
  · have hb' := hw'.world
    refine Go.FreshS.gives_of (Go.FreshS.PM (fun x : FV => x.v) (fun x w' => DF w' w12.heap.size x q14) FV.blk w'.heap.size) ?_ (fun _ _ h => h.post (fun _ _ => FV.inj))
    go_simp
    have CT := qadd ((N2.out.below (KG.out.trans (hb'.mono KG.out.size)))).any (((N2.out.below (KG.out.trans (hb'.mono KG.out.size)))).len LQp2.out (by decide : _ ≤ 900000)) ((N3.out.below (KG.out.trans (hb'.mono KG.out.size)))).any (((N3.out.below (KG.out.trans (hb'.mono KG.out.size)))).len LQp3.out (by decide : _ ≤ 900000))
    rw [show p2 + p3 = q14 from Hq14.out.symm] at CT
    refine CT.mono ?_
    rintro e w'' ⟨za, rfl, ho, hb⟩
    exact ⟨_, rfl, ⟨za, rfl, ho.mono hb'.size, ho.blks⟩, hb⟩
  rintro _ ⟨y28, rfl⟩
  conv => arg 10; simp only [Act.put, List.setIfInBounds_toArray, List.set_cons_succ, List.set_cons_zero]
  refine Go.FreshS.wpF_gspec (by rfl) rfl rfl (fun w' hw' => ?_) ?_
  · have hb' := hw'.world
    refine Go.FreshS.gives_of (Go.FreshS.PK (.int .i64 cn)) ?_ (fun _ _ h => h.post)
    go_simp
    have f25 := Go.FreshS.made_of (val := (fun x : FV => x.v)) (Φ := fun x w' => DF w' w12.heap.size x q13) (fun _ _ => FV.inj) (hw'.fact 25 (by kernel_rfl))
    have f28 := Go.FreshS.made_of (val := (fun x : FV => x.v)) (Φ := fun x w' => DF w' w12.heap.size x q14) (fun _ _ => FV.inj) (hw'.fact 28 (by kernel_rfl))
    have CT := qcmp (f25).k.any (((f25).k).len LQq13.out (by decide : _ ≤ 900000)) (f28).k.any (((f28).k).len LQq14.out (by decide : _ ≤ 900000))
    rw [show cmpQ q13 q14 = cn from by simp only [Hq14.out, Hq13.out]; exact HAD.out] at CT
    refine CT.mono ?_
    rintro e w'' ⟨rfl, hb⟩
    exact ⟨_, rfl, rfl, hb⟩
  rintro _ rfl
  conv => arg 10; simp only [Act.put, List.setIfInBounds_toArray, List.set_cons_succ, List.set_cons_zero]
  refine Go.FreshS.wpF_readsG (by rfl) rfl rfl ?_ (fun w' hw' => ?_) ?_
  rotate_left
  · have hb' := hw'.world
    skip
    clear hw'
    go_simp
    try rfl
  conv => arg 10; simp only [Act.put, List.setIfInBounds_toArray, List.set_cons_succ, List.set_cons_zero]
  refine Go.FreshS.wpF_readsG (by rfl) rfl rfl ?_ (fun w' hw' => ?_) ?_
  rotate_left
  · have hb' := hw'.world
    skip
    clear hw'
    go_simp
    try rfl
  conv => arg 10; simp only [Act.put, List.setIfInBounds_toArray, List.set_cons_succ, List.set_cons_zero]
  refine Go.FreshS.wpF_reads rfl rfl rfl ?_ (fun w' hw' => ?_) ?_
  rotate_left
  · have hb' := hw'.world
    skip
    clear hw'
    go_simp
    try rfl
  conv => arg 10; simp only [Act.put, List.setIfInBounds_toArray, List.set_cons_succ, List.set_cons_zero]
  refine Go.FreshS.wpF_reads rfl rfl rfl ?_ (fun w' hw' => ?_) ?_
  rotate_left
  · have hb' := hw'.world
    skip
    clear hw'
    go_simp
    try rfl
  conv => arg 10; simp only [Act.put, List.setIfInBounds_toArray, List.set_cons_succ, List.set_cons_zero]
  refine Go.FreshS.wpF_readsG (by rfl) rfl rfl ?_ (fun w' hw' => ?_) ?_
  rotate_left
  · have hb' := hw'.world
    have hs0 := (BX1.out.below hb' BX1.out.lt).cell (i := 0) rfl
    have hs1 := (BX1.out.below hb' BX1.out.lt).cell (i := 1) rfl
    have hs2 := (BX1.out.below hb' BX1.out.lt).cell (i := 2) rfl
    have hs3 := (BX1.out.below hb' BX1.out.lt).cell (i := 3) rfl
    have hsf := (BX1.out.below hb' BX1.out.lt).fz
    have hsl := (BX1.out.below hb' BX1.out.lt).lt
    clear hw'
    go_simp
    try rfl
  conv => arg 10; simp only [Act.put, List.setIfInBounds_toArray, List.set_cons_succ, List.set_cons_zero]
  refine Go.FreshS.wpF_readsG (by rfl) rfl rfl ?_ (fun w' hw' => ?_) ?_
  rotate_left
  · have hb' := hw'.world
    have hs0 := (BX2.out.below hb' BX2.out.lt).cell (i := 0) rfl
    have hs1 := (BX2.out.below hb' BX2.out.lt).cell (i := 1) rfl
    have hs2 := (BX2.out.below hb' BX2.out.lt).cell (i := 2) rfl
    have hs3 := (BX2.out.below hb' BX2.out.lt).cell (i := 3) rfl
    have hsf := (BX2.out.below hb' BX2.out.lt).fz
    have hsl := (BX2.out.below hb' BX2.out.lt).lt
    clear hw'
    go_simp
    try rfl
  conv => arg 10; simp only [Act.put, List.setIfInBounds_toArray, List.set_cons_succ, List.set_cons_zero]
  refine Go.FreshS.wpF_gspec (by rfl) rfl rfl (fun w' hw' => ?_) ?_
  · have hb' := hw'.world
    refine Go.FreshS.gives_of (Go.FreshS.PM (fun x : FV => x.v) (fun x w' => DF w' w12.heap.size x q15) FV.blk w'.heap.size) ?_ (fun _ _ h => h.post (fun _ _ => FV.inj))
    go_simp
    have CT := qsub ((N1.out.below (KG.out.trans (hb'.mono KG.out.size)))).any (((N1.out.below (KG.out.trans (hb'.mono KG.out.size)))).len LQp1.out (by decide : _ ≤ 900000)) ((N2.out.below (KG.out.trans (hb'.mono KG.out.size)))).any (((N2.out.below (KG.out.trans (hb'.mono KG.out.size)))).len LQp2.out (by decide : _ ≤ 900000))
    rw [show p1 - p2 = q15 from Hq15.out.symm] at CT
    refine CT.mono ?_
    rintro e w'' ⟨za, rfl, ho, hb⟩
    exact ⟨_, rfl, ⟨za, rfl, ho.mono hb'.size, ho.blks⟩, hb⟩
  rintro _ ⟨y36, rfl⟩
  conv => arg 10; simp only [Act.put, List.setIfInBounds_toArray, List.set_cons_succ, List.set_cons_zero]
  refine Go.FreshS.wpF_gspec (by rfl) rfl rfl (fun w' hw' => ?_) ?_
  · have hb' := hw'.world
    refine Go.FreshS.gives_of (Go.FreshS.PK (.int .i64 cn)) ?_ (fun _ _ h => h.post)
    go_simp
    have f36 := Go.FreshS.made_of (val := (fun x : FV => x.v)) (Φ := fun x w' => DF w' w12.heap.size x q15) (fun _ _ => FV.inj) (hw'.fact 36 (by kernel_rfl))
    have CT := qsign (f36).k.any (((f36).k).len LQq15.out (by decide : _ ≤ 900000))
    rw [show cmpZ q15.num 0 = cn from by simp only [Hq15.out, Hq14.out, Hq13.out]; exact HSU.out] at CT
    refine CT.mono ?_
    rintro e w'' ⟨rfl, hb⟩
    exact ⟨_, rfl, rfl, hb⟩
  rintro _ rfl
  conv => arg 10; simp only [Act.put, List.setIfInBounds_toArray, List.set_cons_succ, List.set_cons_zero]
  refine Go.FreshS.wpF_readsG (by rfl) rfl rfl ?_ (fun w' hw' => ?_) ?_
  rotate_left
  · have hb' := hw'.world
    skip
    clear hw'
    go_simp
    try rfl
  conv => arg 10; simp only [Act.put, List.setIfInBounds_toArray, List.set_cons_succ, List.set_cons_zero]
  refine Go.FreshS.wpF_readsG (by rfl) rfl rfl ?_ (fun w' hw' => ?_) ?_
  rotate_left
  · have hb' := hw'.world
    skip
    clear hw'
    go_simp
    try rfl
  conv => arg 10; simp only [Act.put, List.setIfInBounds_toArray, List.set_cons_succ, List.set_cons_zero]
  refine Go.FreshS.wpF_reads rfl rfl rfl ?_ (fun w' hw' => ?_) ?_
  rotate_left
  · have hb' := hw'.world
    skip
    clear hw'
    go_simp
    try rfl
  conv => arg 10; simp only [Act.put, List.setIfInBounds_toArray, List.set_cons_succ, List.set_cons_zero]
  refine Go.FreshS.wpF_reads rfl rfl rfl ?_ (fun w' hw' => ?_) ?_
  rotate_left
  · have hb' := hw'.world
    skip
    clear hw'
    go_simp
    try rfl
  conv => arg 10; simp only [Act.put, List.setIfInBounds_toArray, List.set_cons_succ, List.set_cons_zero]
  refine Go.FreshS.wpF_readsG (by rfl) rfl rfl ?_ (fun w' hw' => ?_) ?_
  rotate_left
  · have hb' := hw'.world
    have hs0 := (BX1.out.below hb' BX1.out.lt).cell (i := 0) rfl
    have hs1 := (BX1.out.below hb' BX1.out.lt).cell (i := 1) rfl
    have hs2 := (BX1.out.below hb' BX1.out.lt).cell (i := 2) rfl
    have hs3 := (BX1.out.below hb' BX1.out.lt).cell (i := 3) rfl
    have hsf := (BX1.out.below hb' BX1.out.lt).fz
    have hsl := (BX1.out.below hb' BX1.out.lt).lt
    clear hw'
    go_simp
    try rfl
  conv => arg 10; simp only [Act.put, List.setIfInBounds_toArray, List.set_cons_succ, List.set_cons_zero]
  refine Go.FreshS.wpF_readsG (by rfl) rfl rfl ?_ (fun w' hw' => ?_) ?_
  rotate_left
  · have hb' := hw'.world
    have hs0 := (BX3.out.below hb' BX3.out.lt).cell (i := 0) rfl
    have hs1 := (BX3.out.below hb' BX3.out.lt).cell (i := 1) rfl
    have hs2 := (BX3.out.below hb' BX3.out.lt).cell (i := 2) rfl
    have hs3 := (BX3.out.below hb' BX3.out.lt).cell (i := 3) rfl
    have hsf := (BX3.out.below hb' BX3.out.lt).fz
    have hsl := (BX3.out.below hb' BX3.out.lt).lt
    clear hw'
    go_simp
    try rfl
  conv => arg 10; simp only [Act.put, List.setIfInBounds_toArray, List.set_cons_succ, List.set_cons_zero]
  refine Go.FreshS.wpF_gspec (by rfl) rfl rfl (fun w' hw' => ?_) ?_
  · have hb' := hw'.world
    refine Go.FreshS.gives_of (Go.FreshS.PM (fun x : FV => x.v) (fun x w' => DF w' w12.heap.size x q16) FV.blk w'.heap.size) ?_ (fun _ _ h => h.post (fun _ _ => FV.inj))
    go_simp
    have CT := qmul ((N1.out.below (KG.out.trans (hb'.mono KG.out.size)))).any (((N1.out.below (KG.out.trans (hb'.mono KG.out.size)))).len LQp1.out (by decide : _ ≤ 900000)) ((N3.out.below (KG.out.trans (hb'.mono KG.out.size)))).any (((N3.out.below (KG.out.trans (hb'.mono KG.out.size)))).len LQp3.out (by decide : _ ≤ 900000))
    rw [show p1 * p3 = q16 from Hq16.out.symm] at CT
    refine CT.mono ?_
    rintro e w'' ⟨za, rfl, ho, hb⟩
    exact ⟨_, rfl, ⟨za, rfl, ho.mono hb'.size, ho.blks⟩, hb⟩
  rintro _ ⟨y44, rfl⟩
  conv => arg 10; simp only [Act.put, List.setIfInBounds_toArray, List.set_cons_succ, List.set_cons_zero]
  refine Go.FreshS.wpF_readsG (by rfl) rfl rfl ?_ (fun w' hw' => ?_) ?_
  rotate_left
  · have hb' := hw'.world
    have hs0 := (BX2.out.below hb' BX2.out.lt).cell (i := 0) rfl
    have hs1 := (BX2.out.below hb' BX2.out.lt).cell (i := 1) rfl
    have hs2 := (BX2.out.below hb' BX2.out.lt).cell (i := 2) rfl
    have hs3 := (BX2.out.below hb' BX2.out.lt).cell (i := 3) rfl
    have hsf := (BX2.out.below hb' BX2.out.lt).fz
    have hsl := (BX2.out.below hb' BX2.out.lt).lt
    clear hw'
    go_simp
    try rfl
  conv => arg 10; simp only [Act.put, List.setIfInBounds_toArray, List.set_cons_succ, List.set_cons_zero]
  refine Go.FreshS.wpF_readsG (by rfl) rfl rfl ?_ (fun w' hw' => ?_) ?_
  rotate_left
  · have hb' := hw'.world
    have hs0 := (BX3.out.below hb' BX3.out.lt).cell (i := 0) rfl
    have hs1 := (BX3.out.below hb' BX3.out.lt).cell (i := 1) rfl
    have hs2 := (BX3.out.below hb' BX3.out.lt).cell (i := 2) rfl
    have hs3 := (BX3.out.below hb' BX3.out.lt).cell (i := 3) rfl
    have hsf := (BX3.out.below hb' BX3.out.lt).fz
    have hsl := (BX3.out.below hb' BX3.out.lt).lt
    clear hw'
    go_simp
    try rfl
  conv => arg 10; simp only [Act.put, List.setIfInBounds_toArray, List.set_cons_succ, List.set_cons_zero]
  refine Go.FreshS.wpF_gspec (by rfl) rfl rfl (fun w' hw' => ?_) ?_
  · have hb' := hw'.world
    refine Go.FreshS.gives_of (Go.FreshS.PM (fun x : FV => x.v) (fun x w' => DF w' w12.heap.size x q17) FV.blk w'.heap.size) ?_ (fun _ _ h => h.post (fun _ _ => FV.inj))
    go_simp
    have CT := qmul ((N2.out.below (KG.out.trans (hb'.mono KG.out.size)))).any (((N2.out.below (KG.out.trans (hb'.mono KG.out.size)))).len LQp2.out (by decide : _ ≤ 900000)) ((N3.out.below (KG.out.trans (hb'.mono KG.out.size)))).any (((N3.out.below (KG.out.trans (hb'.mono KG.out.size)))).len LQp3.out (by decide : _ ≤ 900000))
    rw [show p2 * p3 = q17 from Hq17.out.symm] at CT
    refine CT.mono ?_
    rintro e w'' ⟨za, rfl, ho, hb⟩
    exact ⟨_, rfl, ⟨za, rfl, ho.mono hb'.size, ho.blks⟩, hb⟩
  rintro _ ⟨y47, rfl⟩
  conv => arg 10; simp only [Act.put, List.setIfInBounds_toArray, List.set_cons_succ, List.set_cons_zero]
  refine Go.FreshS.wpF_gspec (by rfl) rfl rfl (fun w' hw' => ?_) ?_
  · have hb' := hw'.world
    refine Go.FreshS.gives_of (Go.FreshS.PK (.int .i64 pr)) ?_ (fun _ _ h => h.post)
    go_simp
    have f44 := Go.FreshS.made_of (val := (fun x : FV => x.v)) (Φ := fun x w' => DF w' w12.heap.size x q16) (fun _ _ => FV.inj) (hw'.fact 44 (by kernel_rfl))
    have f47 := Go.FreshS.made_of (val := (fun x : FV => x.v)) (Φ := fun x w' => DF w' w12.heap.size x q17) (fun _ _ => FV.inj) (hw'.fact 47 (by kernel_rfl))
    have CT := qcmp (f44).k.any (((f44).k).len LQq16.out (by decide : _ ≤ 900000)) (f47).k.any (((f47).k).len LQq17.out (by decide : _ ≤ 900000))
    rw [show cmpQ q16 q17 = pr from by simp only [Hq17.out, Hq16.out, Hq15.out, Hq14.out, Hq13.out]; exact Hpr.out.symm] at CT
    refine CT.mono ?_
    rintro e w'' ⟨rfl, hb⟩
    exact ⟨_, rfl, rfl, hb⟩
  rintro _ rfl
  conv => arg 10; simp only [Act.put, List.setIfInBounds_toArray, List.set_cons_succ, List.set_cons_zero]
  refine Go.FreshS.wpF_readsG (by rfl) rfl rfl ?_ (fun w' hw' => ?_) ?_
  rotate_left
  · have hb' := hw'.world
    skip
    clear hw'
    go_simp
    try rfl
  conv => arg 10; simp only [Act.put, List.setIfInBounds_toArray, List.set_cons_succ, List.set_cons_zero]
  refine Go.FreshS.wpF_readsG (by rfl) rfl rfl ?_ (fun w' hw' => ?_) ?_
  rotate_left
  · have hb' := hw'.world
    have hs0 := (BX3.out.below hb' BX3.out.lt).cell (i := 0) rfl
    have hs1 := (BX3.out.below hb' BX3.out.lt).cell (i := 1) rfl
    have hs2 := (BX3.out.below hb' BX3.out.lt).cell (i := 2) rfl
    have hs3 := (BX3.out.below hb' BX3.out.lt).cell (i := 3) rfl
    have hsf := (BX3.out.below hb' BX3.out.lt).fz
    have hsl := (BX3.out.below hb' BX3.out.lt).lt
    clear hw'
    go_simp
    try rfl
  conv => arg 10; simp only [Act.put, List.setIfInBounds_toArray, List.set_cons_succ, List.set_cons_zero]
  refine Go.FreshS.wpF_gspec (by rfl) rfl rfl (fun w' hw' => ?_) ?_
  · have hb' := hw'.world
    refine Go.FreshS.gives_of (Go.FreshS.PK (.int .i64 sc)) ?_ (fun _ _ h => h.post)
    go_simp
    have CT := qsign ((N3.out.below (KG.out.trans (hb'.mono KG.out.size)))).any (((N3.out.below (KG.out.trans (hb'.mono KG.out.size)))).len LQp3.out (by decide : _ ≤ 900000))
    rw [show cmpZ p3.num 0 = sc from Hsc.out.symm] at CT
    refine CT.mono ?_
    rintro e w'' ⟨rfl, hb⟩
    exact ⟨_, rfl, rfl, hb⟩
  rintro _ rfl
  conv => arg 10; simp only [Act.put, List.setIfInBounds_toArray, List.set_cons_succ, List.set_cons_zero]
  refine Go.FreshS.wpF_readsG (by rfl) rfl rfl ?_ (fun w' hw' => ?_) ?_
  rotate_left
  · have hb' := hw'.world
    have hq0 := HW2.out
    clear hw'
    go_simp
    try rfl
  conv => arg 10; simp only [Act.put, List.setIfInBounds_toArray, List.set_cons_succ, List.set_cons_zero]
  refine Go.FreshS.wpF_readsG (by rfl) rfl rfl ?_ (fun w' hw' => ?_) ?_
  rotate_left
  · have hb' := hw'.world
    skip
    clear hw'
    go_simp
    try rfl
  conv => arg 10; simp only [Act.put, List.setIfInBounds_toArray, List.set_cons_succ, List.set_cons_zero]
  refine Go.FreshS.wpF_nil (fun w18 hb hF => ?_)
  clear hF
  clear BX1
  clear BX2
  clear BX3
  have KG := Lib.hid (KG.out.trans (hb.mono KG.out.size))
  clear hb
  have hq0 := HX1.out
  go_wp2_with fail
  go_ret
  exact ⟨rfl, KG.out⟩
set_option maxRecDepth 100000 in
set_option maxHeartbeats 8000000 in
theorem order_2 (x1 x2 x3 : FV) (p1 p2 p3 : Rat) (w : World) (htab : Tab w) (h1 : KF w x1 p1) (h2 : KF w x2 p2) (h3 : KF w x3 p3) (b1 : LF x1 10) (b2 : LF x2 10) (b3 : LF x3 10) (hx : cmpQ p1 p2 ≤ 0 ∧ 0 < cmpQ p2 p3) : Calls Tryz.prog 8 #[x1.v, x2.v, x3.v] w fun e w' => e = .returned (.bool true) ∧ Below w.heap.size w w' := by
  have HT := Lib.hid htab
  have KG := Lib.hid (Below.refl w.heap.size w)
  have N1 := Lib.hid h1
  have N2 := Lib.hid h2
  have N3 := Lib.hid h3
  have LQp1 := Lib.hid (h1.lq b1)
  have LQp2 := Lib.hid (h2.lq b2)
  have LQp3 := Lib.hid (h3.lq b3)
  have HX := Lib.hid hx
  clear hx
  clear htab h1 h2 h3 b1 b2 b3
  obtain ⟨cn, hcn⟩ : ∃ s, s = cmpQ p1 p2 := ⟨_, rfl⟩
  obtain ⟨nn, hnn⟩ : ∃ s, s = cmpQ p2 p1 := ⟨_, rfl⟩
  obtain ⟨sc, hsc⟩ : ∃ s, s = cmpZ p3.num 0 := ⟨_, rfl⟩
  obtain ⟨pr, hpr⟩ : ∃ s, s = cmpQ (p1 * p3) (p2 * p3) := ⟨_, rfl⟩
  obtain ⟨bz, hbz⟩ : ∃ b, b = (cn == 0) := ⟨_, rfl⟩
  have R1 := cmpQ_range p1 p2
  have R2 := cmpQ_range (p1 * p3) (p2 * p3)
  rw [← hcn] at R1
  rw [← hpr] at R2
  have HW1 := Lib.hid (show IntKind.i64.wrap (-cn) = nn by rw [hnn, cmpQ_swap p1 p2, ← hcn]; exact IntWalk.i64_in _ (by omega))
  have HW2 := Lib.hid (show IntKind.i64.wrap (cn * sc) = pr by rw [show cn * sc = pr by rw [hpr, hcn, hsc]; exact (cmpQ_mul p1 p2 p3).symm]; exact IntWalk.i64_in _ (by omega))
  have HL1 := Lib.hid (show (decide (cn < -1)) = false from decide_eq_false (by omega))
  have HL2 := Lib.hid (show (decide (1 < cn)) = false from decide_eq_false (by omega))
  have HBZ := Lib.hid hbz
  have HBD := Lib.hid (show decide (p1 = p2) = bz by rw [hbz, hcn]; exact (cmpQ_same p1 p2).symm)
  have HAD := Lib.hid (show cmpQ (p1 + p3) (p2 + p3) = cn by rw [hcn]; exact cmpQ_add p1 p2 p3)
  have HSU := Lib.hid (show cmpZ (p1 - p2).num 0 = cn by rw [hcn]; exact sgQ_sub p1 p2)
  have Hcn := Lib.hid hcn
  have Hnn := Lib.hid hnn
  have Hsc := Lib.hid hsc
  have Hpr := Lib.hid hpr
  clear hcn hnn hsc hpr hbz R1 R2
  obtain ⟨cb, hcb⟩ : ∃ s, s = cmpQ p2 p3 := ⟨_, rfl⟩
  have Hcb := Lib.hid hcb
  clear hcb
  have HX1 := Lib.hid (show decide (0 < cn) = false from decide_eq_false (by rw [Hcn.out]; have := HX.out; omega))
  have HX2 := Lib.hid (show decide (0 < cb) = true from decide_eq_true (by rw [Hcb.out]; exact HX.out.2))
  obtain ⟨q13, hq13⟩ : ∃ z : Rat, z = p1 + p3 := ⟨_, rfl⟩
  have Hq13 := Lib.hid hq13
  have LQq13 := Lib.hid (show LQ q13 21 by rw [hq13]; exact LQ.add (LQp1.out.up (by decide : _ ≤ 10)) (LQp3.out.up (by decide : _ ≤ 10)) (by decide))
  clear hq13
  obtain ⟨q14, hq14⟩ : ∃ z : Rat, z = p2 + p3 := ⟨_, rfl⟩
  have Hq14 := Lib.hid hq14
  have LQq14 := Lib.hid (show LQ q14 21 by rw [hq14]; exact LQ.add (LQp2.out.up (by decide : _ ≤ 10)) (LQp3.out.up (by decide : _ ≤ 10)) (by decide))
  clear hq14
  obtain ⟨q15, hq15⟩ : ∃ z : Rat, z = p1 - p2 := ⟨_, rfl⟩
  have Hq15 := Lib.hid hq15
  have LQq15 := Lib.hid (show LQ q15 21 by rw [hq15]; exact LQ.sub (LQp1.out.up (by decide : _ ≤ 10)) (LQp2.out.up (by decide : _ ≤ 10)) (by decide))
  clear hq15
  obtain ⟨q16, hq16⟩ : ∃ z : Rat, z = p1 * p3 := ⟨_, rfl⟩
  have Hq16 := Lib.hid hq16
  have LQq16 := Lib.hid (show LQ q16 20 by rw [hq16]; exact LQ.mul (LQp1.out.up (by decide : _ ≤ 10)) (LQp3.out.up (by decide : _ ≤ 10)) (by decide))
  clear hq16
  obtain ⟨q17, hq17⟩ : ∃ z : Rat, z = p2 * p3 := ⟨_, rfl⟩
  have Hq17 := Lib.hid hq17
  have LQq17 := Lib.hid (show LQ q17 20 by rw [hq17]; exact LQ.mul (LQp2.out.up (by decide : _ ≤ 10)) (LQp3.out.up (by decide : _ ≤ 10)) (by decide))
  clear hq17
  go_enter Tryz.func8, Tryz.ntmps8
  go_upto_region 1 with (fail)
  obtain ⟨v4, hV⟩ : ∃ V, V = ((w.alloc (.cells #[.bool x1.t.s, .slice x1.t.a x1.t.n x1.t.c, .bool x1.l.s, .slice x1.l.a x1.l.n x1.l.c] 26)).alloc (.cells #[.bool x2.t.s, .slice x2.t.a x2.t.n x2.t.c, .bool x2.l.s, .slice x2.l.a x2.l.n x2.l.c] 26)).alloc (.cells #[.bool x3.t.s, .slice x3.t.a x3.t.n x3.t.c, .bool x3.l.s, .slice x3.l.a x3.l.n x3.l.c] 26) := ⟨_, rfl⟩
  have hbV : Below w.heap.size w v4 := by rw [hV]; exact ((((Below.refl _ _).alloc (Nat.le_refl _) _).alloc (by go_size) _).alloc (by go_size) _)
  have BX1 := Lib.hid (show Bxs v4 (w.heap.size) 26 [.bool x1.t.s, .slice x1.t.a x1.t.n x1.t.c, .bool x1.l.s, .slice x1.l.a x1.l.n x1.l.c] by have h := ((Bxs.new (w) 26 [.bool x1.t.s, .slice x1.t.a x1.t.n x1.t.c, .bool x1.l.s, .slice x1.l.a x1.l.n x1.l.c]).alloc (.cells #[.bool x2.t.s, .slice x2.t.a x2.t.n x2.t.c, .bool x2.l.s, .slice x2.l.a x2.l.n x2.l.c] 26)).alloc (.cells #[.bool x3.t.s, .slice x3.t.a x3.t.n x3.t.c, .bool x3.l.s, .slice x3.l.a x3.l.n x3.l.c] 26); rw [hV]; exact h)
  have BX2 := Lib.hid (show Bxs v4 (w.heap.size + 1) 26 [.bool x2.t.s, .slice x2.t.a x2.t.n x2.t.c, .bool x2.l.s, .slice x2.l.a x2.l.n x2.l.c] by have h := (Bxs.new (w.alloc (.cells #[.bool x1.t.s, .slice x1.t.a x1.t.n x1.t.c, .bool x1.l.s, .slice x1.l.a x1.l.n x1.l.c] 26)) 26 [.bool x2.t.s, .slice x2.t.a x2.t.n x2.t.c, .bool x2.l.s, .slice x2.l.a x2.l.n x2.l.c]).alloc (.cells #[.bool x3.t.s, .slice x3.t.a x3.t.n x3.t.c, .bool x3.l.s, .slice x3.l.a x3.l.n x3.l.c] 26); simp only [World.size_alloc] at h; rw [hV]; exact h)
  have BX3 := Lib.hid (show Bxs v4 (w.heap.size + 1 + 1) 26 [.bool x3.t.s, .slice x3.t.a x3.t.n x3.t.c, .bool x3.l.s, .slice x3.l.a x3.l.n x3.l.c] by have h := Bxs.new ((w.alloc (.cells #[.bool x1.t.s, .slice x1.t.a x1.t.n x1.t.c, .bool x1.l.s, .slice x1.l.a x1.l.n x1.l.c] 26)).alloc (.cells #[.bool x2.t.s, .slice x2.t.a x2.t.n x2.t.c, .bool x2.l.s, .slice x2.l.a x2.l.n x2.l.c] 26)) 26 [.bool x3.t.s, .slice x3.t.a x3.t.n x3.t.c, .bool x3.l.s, .slice x3.l.a x3.l.n x3.l.c]; simp only [World.size_alloc] at h; rw [hV]; exact h)
  rw [show ((w.alloc (.cells #[.bool x1.t.s, .slice x1.t.a x1.t.n x1.t.c, .bool x1.l.s, .slice x1.l.a x1.l.n x1.l.c] 26)).alloc (.cells #[.bool x2.t.s, .slice x2.t.a x2.t.n x2.t.c, .bool x2.l.s, .slice x2.l.a x2.l.n x2.l.c] 26)).alloc (.cells #[.bool x3.t.s, .slice x3.t.a x3.t.n x3.t.c, .bool x3.l.s, .slice x3.l.a x3.l.n x3.l.c] 26) = v4 from hV.symm]
  have KG := Lib.hid (KG.out.trans (hbV.mono KG.out.size))
  clear hV hbV
  go_wp2_with fail
  have CT := Lib.hid (qalive v4 (HT.out.on KG.out))
  with_reducible refine CT.out.mono ?_
  rintro e w5 ⟨rfl, hb⟩
  clear CT
  have BX1 := Lib.hid (BX1.out.below hb BX1.out.lt)
  have BX2 := Lib.hid (BX2.out.below hb BX2.out.lt)
  have BX3 := Lib.hid (BX3.out.below hb BX3.out.lt)
  have KG := Lib.hid (KG.out.trans (hb.mono KG.out.size))
  clear hb
  have cBX10 := BX1.out.cell (i := 0) rfl
  have cBX11 := BX1.out.cell (i := 1) rfl
  have cBX12 := BX1.out.cell (i := 2) rfl
  have cBX13 := BX1.out.cell (i := 3) rfl
  have cBX1f := BX1.out.fz
  have cBX1l := BX1.out.lt
  have cBX20 := BX2.out.cell (i := 0) rfl
  have cBX21 := BX2.out.cell (i := 1) rfl
  have cBX22 := BX2.out.cell (i := 2) rfl
  have cBX23 := BX2.out.cell (i := 3) rfl
  have cBX2f := BX2.out.fz
  have cBX2l := BX2.out.lt
  have cBX30 := BX3.out.cell (i := 0) rfl
  have cBX31 := BX3.out.cell (i := 1) rfl
  have cBX32 := BX3.out.cell (i := 2) rfl
  have cBX33 := BX3.out.cell (i := 3) rfl
  have cBX3f := BX3.out.fz
  have cBX3l := BX3.out.lt
  go_wp2_with fail
  clear cBX10 cBX11 cBX12 cBX13 cBX1f cBX1l
  clear cBX20 cBX21 cBX22 cBX23 cBX2f cBX2l
  clear cBX30 cBX31 cBX32 cBX33 cBX3f cBX3l
  obtain ⟨v7, hV⟩ : ∃ V, V = w5.alloc (.cells #[.bool x1.t.s, .slice x1.t.a x1.t.n x1.t.c, .bool x1.l.s, .slice x1.l.a x1.l.n x1.l.c, .bool x2.t.s, .slice x2.t.a x2.t.n x2.t.c, .bool x2.l.s, .slice x2.l.a x2.l.n x2.l.c, .bool x3.t.s, .slice x3.t.a x3.t.n x3.t.c, .bool x3.l.s, .slice x3.l.a x3.l.n x3.l.c] 26) := ⟨_, rfl⟩
  have hbV : Below w5.heap.size w5 v7 := by rw [hV]; exact ((Below.refl _ _).alloc (Nat.le_refl _) _)
  have BX6 := Lib.hid (show Bxs v7 (w5.heap.size) 26 [.bool x1.t.s, .slice x1.t.a x1.t.n x1.t.c, .bool x1.l.s, .slice x1.l.a x1.l.n x1.l.c, .bool x2.t.s, .slice x2.t.a x2.t.n x2.t.c, .bool x2.l.s, .slice x2.l.a x2.l.n x2.l.c, .bool x3.t.s, .slice x3.t.a x3.t.n x3.t.c, .bool x3.l.s, .slice x3.l.a x3.l.n x3.l.c] by have h := Bxs.new (w5) 26 [.bool x1.t.s, .slice x1.t.a x1.t.n x1.t.c, .bool x1.l.s, .slice x1.l.a x1.l.n x1.l.c, .bool x2.t.s, .slice x2.t.a x2.t.n x2.t.c, .bool x2.l.s, .slice x2.l.a x2.l.n x2.l.c, .bool x3.t.s, .slice x3.t.a x3.t.n x3.t.c, .bool x3.l.s, .slice x3.l.a x3.l.n x3.l.c]; rw [hV]; exact h)
  rw [show w5.alloc (.cells #[.bool x1.t.s, .slice x1.t.a x1.t.n x1.t.c, .bool x1.l.s, .slice x1.l.a x1.l.n x1.l.c, .bool x2.t.s, .slice x2.t.a x2.t.n x2.t.c, .bool x2.l.s, .slice x2.l.a x2.l.n x2.l.c, .bool x3.t.s, .slice x3.t.a x3.t.n x3.t.c, .bool x3.l.s, .slice x3.l.a x3.l.n x3.l.c] 26) = v7 from hV.symm]
  have BX1 := Lib.hid (BX1.out.below hbV BX1.out.lt)
  have BX2 := Lib.hid (BX2.out.below hbV BX2.out.lt)
  have BX3 := Lib.hid (BX3.out.below hbV BX3.out.lt)
  have KG := Lib.hid (KG.out.trans (hbV.mono KG.out.size))
  clear hV hbV
  have cBX10 := BX1.out.cell (i := 0) rfl
  have cBX11 := BX1.out.cell (i := 1) rfl
  have cBX12 := BX1.out.cell (i := 2) rfl
  have cBX13 := BX1.out.cell (i := 3) rfl
  have cBX1f := BX1.out.fz
  have cBX1l := BX1.out.lt
  have cBX20 := BX2.out.cell (i := 0) rfl
  have cBX21 := BX2.out.cell (i := 1) rfl
  have cBX22 := BX2.out.cell (i := 2) rfl
  have cBX23 := BX2.out.cell (i := 3) rfl
  have cBX2f := BX2.out.fz
  have cBX2l := BX2.out.lt
  have cBX30 := BX3.out.cell (i := 0) rfl
  have cBX31 := BX3.out.cell (i := 1) rfl
  have cBX32 := BX3.out.cell (i := 2) rfl
  have cBX33 := BX3.out.cell (i := 3) rfl
  have cBX3f := BX3.out.fz
  have cBX3l := BX3.out.lt
  have CT := Lib.hid (qgreat3 (M := 10) BX6.out)
  rw [show ((10 : Nat) : Int) = 10 from rfl, show decide ((10 < x1.t.n ∨ 10 < x1.l.n) ∨ (10 < x2.t.n ∨ 10 < x2.l.n) ∨ (10 < x3.t.n ∨ 10 < x3.l.n)) = false from decide_eq_false (by have g0 := (((N1.out.below KG.out)).len LQp1.out (by decide : _ ≤ 10)); have g1 := (((N2.out.below KG.out)).len LQp2.out (by decide : _ ≤ 10)); have g2 := (((N3.out.below KG.out)).len LQp3.out (by decide : _ ≤ 10)); omega)] at CT
  with_reducible refine CT.out.mono ?_
  rintro e w8 ⟨rfl, hb⟩
  clear CT
  clear cBX10 cBX11 cBX12 cBX13 cBX1f cBX1l
  clear cBX20 cBX21 cBX22 cBX23 cBX2f cBX2l
  clear cBX30 cBX31 cBX32 cBX33 cBX3f cBX3l
  have BX1 := Lib.hid (BX1.out.below hb BX1.out.lt)
  have BX2 := Lib.hid (BX2.out.below hb BX2.out.lt)
  have BX3 := Lib.hid (BX3.out.below hb BX3.out.lt)
  clear BX6
  have KG := Lib.hid (KG.out.trans (hb.mono KG.out.size))
  clear hb
  have cBX10 := BX1.out.cell (i := 0) rfl
  have cBX11 := BX1.out.cell (i := 1) rfl
  have cBX12 := BX1.out.cell (i := 2) rfl
  have cBX13 := BX1.out.cell (i := 3) rfl
  have cBX1f := BX1.out.fz
  have cBX1l := BX1.out.lt
  go_wp2_with fail
  have CT := Lib.hid (qcheck (N1.out.below KG.out) (((N1.out.below KG.out)).len LQp1.out (by decide : _ ≤ 900000)))
  with_reducible refine CT.out.mono ?_
  rintro e w9 ⟨rfl, hb⟩
  clear CT
  clear cBX10 cBX11 cBX12 cBX13 cBX1f cBX1l
  have BX1 := Lib.hid (BX1.out.below hb BX1.out.lt)
  have BX2 := Lib.hid (BX2.out.below hb BX2.out.lt)
  have BX3 := Lib.hid (BX3.out.below hb BX3.out.lt)
  have KG := Lib.hid (KG.out.trans (hb.mono KG.out.size))
  clear hb
  have cBX20 := BX2.out.cell (i := 0) rfl
  have cBX21 := BX2.out.cell (i := 1) rfl
  have cBX22 := BX2.out.cell (i := 2) rfl
  have cBX23 := BX2.out.cell (i := 3) rfl
  have cBX2f := BX2.out.fz
  have cBX2l := BX2.out.lt
  go_wp2_with fail
  have CT := Lib.hid (qcheck (N2.out.below KG.out) (((N2.out.below KG.out)).len LQp2.out (by decide : _ ≤ 900000)))
  with_reducible refine CT.out.mono ?_
  rintro e w10 ⟨rfl, hb⟩
  clear CT
  clear cBX20 cBX21 cBX22 cBX23 cBX2f cBX2l
  have BX1 := Lib.hid (BX1.out.below hb BX1.out.lt)
  have BX2 := Lib.hid (BX2.out.below hb BX2.out.lt)
  have BX3 := Lib.hid (BX3.out.below hb BX3.out.lt)
  have KG := Lib.hid (KG.out.trans (hb.mono KG.out.size))
  clear hb
  have cBX30 := BX3.out.cell (i := 0) rfl
  have cBX31 := BX3.out.cell (i := 1) rfl
  have cBX32 := BX3.out.cell (i := 2) rfl
  have cBX33 := BX3.out.cell (i := 3) rfl
  have cBX3f := BX3.out.fz
  have cBX3l := BX3.out.lt
  go_wp2_with fail
  have CT := Lib.hid (qcheck (N3.out.below KG.out) (((N3.out.below KG.out)).len LQp3.out (by decide : _ ≤ 900000)))
  with_reducible refine CT.out.mono ?_
  rintro e w11 ⟨rfl, hb⟩
  clear CT
  clear cBX30 cBX31 cBX32 cBX33 cBX3f cBX3l
  have BX1 := Lib.hid (BX1.out.below hb BX1.out.lt)
  have BX2 := Lib.hid (BX2.out.below hb BX2.out.lt)
  have BX3 := Lib.hid (BX3.out.below hb BX3.out.lt)
  have KG := Lib.hid (KG.out.trans (hb.mono KG.out.size))
  clear hb
  have cBX10 := BX1.out.cell (i := 0) rfl
  have cBX11 := BX1.out.cell (i := 1) rfl
  have cBX12 := BX1.out.cell (i := 2) rfl
  have cBX13 := BX1.out.cell (i := 3) rfl
  have cBX1f := BX1.out.fz
  have cBX1l := BX1.out.lt
  have cBX20 := BX2.out.cell (i := 0) rfl
  have cBX21 := BX2.out.cell (i := 1) rfl
  have cBX22 := BX2.out.cell (i := 2) rfl
  have cBX23 := BX2.out.cell (i := 3) rfl
  have cBX2f := BX2.out.fz
  have cBX2l := BX2.out.lt
  go_wp2_with fail
  have CT := Lib.hid (qcmp ((N1.out.below KG.out)).any (((N1.out.below KG.out)).len LQp1.out (by decide : _ ≤ 900000)) ((N2.out.below KG.out)).any (((N2.out.below KG.out)).len LQp2.out (by decide : _ ≤ 900000)))
  rw [show cmpQ p1 p2 = cn from Hcn.out.symm] at CT
  with_reducible refine CT.out.mono ?_
  rintro e w12 ⟨rfl, hb⟩
  clear CT
  clear cBX10 cBX11 cBX12 cBX13 cBX1f cBX1l
  clear cBX20 cBX21 cBX22 cBX23 cBX2f cBX2l
  have BX1 := Lib.hid (BX1.out.below hb BX1.out.lt)
  have BX2 := Lib.hid (BX2.out.below hb BX2.out.lt)
  have BX3 := Lib.hid (BX3.out.below hb BX3.out.lt)
  have KG := Lib.hid (KG.out.trans (hb.mono KG.out.size))
  clear hb
  go_upto_region 4 with (fail)
  refine Go.FreshS.wp_region_fresh 54 [] (Go.FreshS.spOf [(9, Go.FreshS.Sp.know (.int .i64 nn)), (19, Go.FreshS.Sp.know (.bool bz)), (25, Go.FreshS.Sp.made (fun x : FV => x.v) (fun x w' => DF w' w12.heap.size x q13) FV.blk), (28, Go.FreshS.Sp.made (fun x : FV => x.v) (fun x w' => DF w' w12.heap.size x q14) FV.blk), (29, Go.FreshS.Sp.know (.int .i64 cn)), (36, Go.FreshS.Sp.made (fun x : FV => x.v) (fun x w' => DF w' w12.heap.size x q15) FV.blk), (37, Go.FreshS.Sp.know (.int .i64 cn)), (44, Go.FreshS.Sp.made (fun x : FV => x.v) (fun x w' => DF w' w12.heap.size x q16) FV.blk), (47, Go.FreshS.Sp.made (fun x : FV => x.v) (fun x w' => DF w' w12.heap.size x q17) FV.blk), (48, Go.FreshS.Sp.know (.int .i64 pr)), (51, Go.FreshS.Sp.know (.int .i64 sc))])
    (fun w' => Below w12.heap.size w12 w') (by kernel_rfl) (by kernel_rfl) (by kernel_rfl)
    (Go.FreshS.spOf_cons (Go.FreshS.Sp.know_keeps _ _) (Go.FreshS.spOf_cons (Go.FreshS.Sp.know_keeps _ _) (Go.FreshS.spOf_cons (Go.FreshS.Sp.made_keeps _ (fun _ _ _ h _ hk => h.kept hk) (Go.FreshS.notTaken (by kernel_rfl))) (Go.FreshS.spOf_cons (Go.FreshS.Sp.made_keeps _ (fun _ _ _ h _ hk => h.kept hk) (Go.FreshS.notTaken (by kernel_rfl))) (Go.FreshS.spOf_cons (Go.FreshS.Sp.know_keeps _ _) (Go.FreshS.spOf_cons (Go.FreshS.Sp.made_keeps _ (fun _ _ _ h _ hk => h.kept hk) (Go.FreshS.notTaken (by kernel_rfl))) (Go.FreshS.spOf_cons (Go.FreshS.Sp.know_keeps _ _) (Go.FreshS.spOf_cons (Go.FreshS.Sp.made_keeps _ (fun _ _ _ h _ hk => h.kept hk) (Go.FreshS.notTaken (by kernel_rfl))) (Go.FreshS.spOf_cons (Go.FreshS.Sp.made_keeps _ (fun _ _ _ h _ hk => h.kept hk) (Go.FreshS.notTaken (by kernel_rfl))) (Go.FreshS.spOf_cons (Go.FreshS.Sp.know_keeps _ _) (Go.FreshS.spOf_cons (Go.FreshS.Sp.know_keeps _ _) (Go.FreshS.spOf_nil)))))))))))) (fun _ _ h hb => h.trans (hb.mono h.size)) ((Below.refl _ _).drew) ?_
  simp only [List.append_eq, List.cons_append, List.nil_append, List.take_succ_cons, List.take_zero, List.drop_succ_cons, List.drop_zero]
  refine Go.FreshS.wpF_reads rfl rfl rfl ?_ (fun w' hw' => ?_) ?_
  rotate_left
  · have hb' := hw'.world
    skip
    clear hw'
    go_simp
    try rfl
  conv => arg 10; simp only [Act.put, List.setIfInBounds_toArray, List.set_cons_succ, List.set_cons_zero]
  refine Go.FreshS.wpF_reads rfl rfl rfl ?_ (fun w' hw' => ?_) ?_
  rotate_left
  · have hb' := hw'.world
    have hq0 := HL1.out
    clear hw'
    go_simp
    try rfl
  conv => arg 10; simp only [Act.put, List.setIfInBounds_toArray, List.set_cons_succ, List.set_cons_zero]
  refine Go.FreshS.wpF_reads rfl rfl rfl ?_ (fun w' hw' => ?_) ?_
  rotate_left
  · have hb' := hw'.world
    skip
    clear hw'
    go_simp
    try rfl
  conv => arg 10; simp only [Act.put, List.setIfInBounds_toArray, List.set_cons_succ, List.set_cons_zero]
  refine Go.FreshS.wpF_readsG (by rfl) rfl rfl ?_ (fun w' hw' => ?_) ?_
  rotate_left
  · have hb' := hw'.world
    skip
    clear hw'
    go_simp
    try rfl
  conv => arg 10; simp only [Act.put, List.setIfInBounds_toArray, List.set_cons_succ, List.set_cons_zero]
  refine Go.FreshS.wpF_readsG (by rfl) rfl rfl ?_ (fun w' hw' => ?_) ?_
  rotate_left
  · have hb' := hw'.world
    have hq0 := HL2.out
    clear hw'
    go_simp
    try rfl
  conv => arg 10; simp only [Act.put, List.setIfInBounds_toArray, List.set_cons_succ, List.set_cons_zero]
  refine Go.FreshS.wpF_reads rfl rfl rfl ?_ (fun w' hw' => ?_) ?_
  rotate_left
  · have hb' := hw'.world
    skip
    clear hw'
    go_simp
    try rfl
  conv => arg 10; simp only [Act.put, List.setIfInBounds_toArray, List.set_cons_succ, List.set_cons_zero]
  refine Go.FreshS.wpF_reads rfl rfl rfl ?_ (fun w' hw' => ?_) ?_
  rotate_left
  · have hb' := hw'.world
    skip
    clear hw'
    go_simp
    try rfl
  conv => arg 10; simp only [Act.put, List.setIfInBounds_toArray, List.set_cons_succ, List.set_cons_zero]
  refine Go.FreshS.wpF_readsG (by rfl) rfl rfl ?_ (fun w' hw' => ?_) ?_
  rotate_left
  · have hb' := hw'.world
    have hs0 := (BX2.out.below hb' BX2.out.lt).cell (i := 0) rfl
    have hs1 := (BX2.out.below hb' BX2.out.lt).cell (i := 1) rfl
    have hs2 := (BX2.out.below hb' BX2.out.lt).cell (i := 2) rfl
    have hs3 := (BX2.out.below hb' BX2.out.lt).cell (i := 3) rfl
    have hsf := (BX2.out.below hb' BX2.out.lt).fz
    have hsl := (BX2.out.below hb' BX2.out.lt).lt
    clear hw'
    go_simp
    try rfl
  conv => arg 10; simp only [Act.put, List.setIfInBounds_toArray, List.set_cons_succ, List.set_cons_zero]
  refine Go.FreshS.wpF_readsG (by rfl) rfl rfl ?_ (fun w' hw' => ?_) ?_
  rotate_left
  · have hb' := hw'.world
    have hs0 := (BX1.out.below hb' BX1.out.lt).cell (i := 0) rfl
    have hs1 := (BX1.out.below hb' BX1.out.lt).cell (i := 1) rfl
    have hs2 := (BX1.out.below hb' BX1.out.lt).cell (i := 2) rfl
    have hs3 := (BX1.out.below hb' BX1.out.lt).cell (i := 3) rfl
    have hsf := (BX1.out.below hb' BX1.out.lt).fz
    have hsl := (BX1.out.below hb' BX1.out.lt).lt
    clear hw'
    go_simp
    try rfl
  conv => arg 10; simp only [Act.put, List.setIfInBounds_toArray, List.set_cons_succ, List.set_cons_zero]
  refine Go.FreshS.wpF_gspec (by rfl) rfl rfl (fun w' hw' => ?_) ?_
  · have hb' := hw'.world
    refine Go.FreshS.gives_of (Go.FreshS.PK (.int .i64 nn)) ?_ (fun _ _ h => h.post)
    go_simp
    have CT := qcmp ((N2.out.below (KG.out.trans (hb'.mono KG.out.size)))).any (((N2.out.below (KG.out.trans (hb'.mono KG.out.size)))).len LQp2.out (by decide : _ ≤ 900000)) ((N1.out.below (KG.out.trans (hb'.mono KG.out.size)))).any (((N1.out.below (KG.out.trans (hb'.mono KG.out.size)))).len LQp1.out (by decide : _ ≤ 900000))
    rw [show cmpQ p2 p1 = nn from Hnn.out.symm] at CT
    refine CT.mono ?_
    rintro e w'' ⟨rfl, hb⟩
    exact ⟨_, rfl, rfl, hb⟩
  rintro _ rfl
  conv => arg 10; simp only [Act.put, List.setIfInBounds_toArray, List.set_cons_succ, List.set_cons_zero]
  refine Go.FreshS.wpF_readsG (by rfl) rfl rfl ?_ (fun w' hw' => ?_) ?_
  rotate_left
  · have hb' := hw'.world
    skip
    clear hw'
    go_simp
    try rfl
  conv => arg 10; simp only [Act.put, List.setIfInBounds_toArray, List.set_cons_succ, List.set_cons_zero]
  refine Go.FreshS.wpF_readsG (by rfl) rfl rfl ?_ (fun w' hw' => ?_) ?_
  rotate_left
  · have hb' := hw'.world
    have hq0 := HW1.out
    clear hw'
    go_simp
    try rfl
  conv => arg 10; simp only [Act.put, List.setIfInBounds_toArray, List.set_cons_succ, List.set_cons_zero]
  refine Go.FreshS.wpF_readsG (by rfl) rfl rfl ?_ (fun w' hw' => ?_) ?_
  rotate_left
  · have hb' := hw'.world
    skip
    clear hw'
    go_simp
    try rfl
  conv => arg 10; simp only [Act.put, List.setIfInBounds_toArray, List.set_cons_succ, List.set_cons_zero]
  refine Go.FreshS.wpF_reads rfl rfl rfl ?_ (fun w' hw' => ?_) ?_
  rotate_left
  · have hb' := hw'.world
    skip
    clear hw'
    go_simp
    try rfl
  conv => arg 10; simp only [Act.put, List.setIfInBounds_toArray, List.set_cons_succ, List.set_cons_zero]
  refine Go.FreshS.wpF_reads rfl rfl rfl ?_ (fun w' hw' => ?_) ?_
  rotate_left
  · have hb' := hw'.world
    skip
    clear hw'
    go_simp
    try rfl
  conv => arg 10; simp only [Act.put, List.setIfInBounds_toArray, List.set_cons_succ, List.set_cons_zero]
  refine Go.FreshS.wpF_readsG (by rfl) rfl rfl ?_ (fun w' hw' => ?_) ?_
  rotate_left
  · have hb' := hw'.world
    skip
    clear hw'
    go_simp
    try rfl
  conv => arg 10; simp only [Act.put, List.setIfInBounds_toArray, List.set_cons_succ, List.set_cons_zero]
  refine Go.FreshS.wpF_readsG (by rfl) rfl rfl ?_ (fun w' hw' => ?_) ?_
  rotate_left
  · have hb' := hw'.world
    have hq0 := HBZ.out.symm
    clear hw'
    go_simp
    try rfl
  conv => arg 10; simp only [Act.put, List.setIfInBounds_toArray, List.set_cons_succ, List.set_cons_zero]
  refine Go.FreshS.wpF_readsG (by rfl) rfl rfl ?_ (fun w' hw' => ?_) ?_
  rotate_left
  · have hb' := hw'.world
    have hs0 := (BX1.out.below hb' BX1.out.lt).cell (i := 0) rfl
    have hs1 := (BX1.out.below hb' BX1.out.lt).cell (i := 1) rfl
    have hs2 := (BX1.out.below hb' BX1.out.lt).cell (i := 2) rfl
    have hs3 := (BX1.out.below hb' BX1.out.lt).cell (i := 3) rfl
    have hsf := (BX1.out.below hb' BX1.out.lt).fz
    have hsl := (BX1.out.below hb' BX1.out.lt).lt
    clear hw'
    go_simp
    try rfl
  conv => arg 10; simp only [Act.put, List.setIfInBounds_toArray, List.set_cons_succ, List.set_cons_zero]
  refine Go.FreshS.wpF_readsG (by rfl) rfl rfl ?_ (fun w' hw' => ?_) ?_
  rotate_left
  · have hb' := hw'.world
    have hs0 := (BX2.out.below hb' BX2.out.lt).cell (i := 0) rfl
    have hs1 := (BX2.out.below hb' BX2.out.lt).cell (i := 1) rfl
    have hs2 := (BX2.out.below hb' BX2.out.lt).cell (i := 2) rfl
    have hs3 := (BX2.out.below hb' BX2.out.lt).cell (i := 3) rfl
    have hsf := (BX2.out.below hb' BX2.out.lt).fz
    have hsl := (BX2.out.below hb' BX2.out.lt).lt
    clear hw'
    go_simp
    try rfl
  conv => arg 10; simp only [Act.put, List.setIfInBounds_toArray, List.set_cons_succ, List.set_cons_zero]
  refine Go.FreshS.wpF_gspec (by rfl) rfl rfl (fun w' hw' => ?_) ?_
  · have hb' := hw'.world
    refine Go.FreshS.gives_of (Go.FreshS.PK (.bool bz)) ?_ (fun _ _ h => h.post)
    go_simp
    have CT := qsameD (N1.out.below (KG.out.trans (hb'.mono KG.out.size))) (((N1.out.below (KG.out.trans (hb'.mono KG.out.size)))).len LQp1.out (by decide : _ ≤ 900000)) (N2.out.below (KG.out.trans (hb'.mono KG.out.size))) (((N2.out.below (KG.out.trans (hb'.mono KG.out.size)))).len LQp2.out (by decide : _ ≤ 900000))
    rw [show decide (p1 = p2) = bz from HBD.out] at CT
    refine CT.mono ?_
    rintro e w'' ⟨rfl, hb⟩
    exact ⟨_, rfl, rfl, hb⟩
  rintro _ rfl
  conv => arg 10; simp only [Act.put, List.setIfInBounds_toArray, List.set_cons_succ, List.set_cons_zero]
  refine Go.FreshS.wpF_readsG (by rfl) rfl rfl ?_ (fun w' hw' => ?_) ?_
  rotate_left
  · have hb' := hw'.world
    skip
    clear hw'
    go_simp
    try rfl
  conv => arg 10; simp only [Act.put, List.setIfInBounds_toArray, List.set_cons_succ, List.set_cons_zero]
  refine Go.FreshS.wpF_reads rfl rfl rfl ?_ (fun w' hw' => ?_) ?_
  rotate_left
  · have hb' := hw'.world
    skip
    clear hw'
    go_simp
    try rfl
  conv => arg 10; simp only [Act.put, List.setIfInBounds_toArray, List.set_cons_succ, List.set_cons_zero]
  refine Go.FreshS.wpF_reads rfl rfl rfl ?_ (fun w' hw' => ?_) ?_
  rotate_left
  · have hb' := hw'.world
    skip
    clear hw'
    go_simp
    try rfl
  conv => arg 10; simp only [Act.put, List.setIfInBounds_toArray, List.set_cons_succ, List.set_cons_zero]
  refine Go.FreshS.wpF_readsG (by rfl) rfl rfl ?_ (fun w' hw' => ?_) ?_
  rotate_left
  · have hb' := hw'.world
    have hs0 := (BX1.out.below hb' BX1.out.lt).cell (i := 0) rfl
    have hs1 := (BX1.out.below hb' BX1.out.lt).cell (i := 1) rfl
    have hs2 := (BX1.out.below hb' BX1.out.lt).cell (i := 2) rfl
    have hs3 := (BX1.out.below hb' BX1.out.lt).cell (i := 3) rfl
    have hsf := (BX1.out.below hb' BX1.out.lt).fz
    have hsl := (BX1.out.below hb' BX1.out.lt).lt
    clear hw'
    go_simp
    try rfl
  conv => arg 10; simp only [Act.put, List.setIfInBounds_toArray, List.set_cons_succ, List.set_cons_zero]
  refine Go.FreshS.wpF_readsG (by rfl) rfl rfl ?_ (fun w' hw' => ?_) ?_
  rotate_left
  · have hb' := hw'.world
    have hs0 := (BX3.out.below hb' BX3.out.lt).cell (i := 0) rfl
    have hs1 := (BX3.out.below hb' BX3.out.lt).cell (i := 1) rfl
    have hs2 := (BX3.out.below hb' BX3.out.lt).cell (i := 2) rfl
    have hs3 := (BX3.out.below hb' BX3.out.lt).cell (i := 3) rfl
    have hsf := (BX3.out.below hb' BX3.out.lt).fz
    have hsl := (BX3.out.below hb' BX3.out.lt).lt
    clear hw'
    go_simp
    try rfl
  conv => arg 10; simp only [Act.put, List.setIfInBounds_toArray, List.set_cons_succ, List.set_cons_zero]
  refine Go.FreshS.wpF_gspec (by rfl) rfl rfl (fun w' hw' => ?_) ?_
  · have hb' := hw'.world
    refine Go.FreshS.gives_of (Go.FreshS.PM (fun x : FV => x.v) (fun x w' => DF w' w12.heap.size x q13) FV.blk w'.heap.size) ?_ (fun _ _ h => h.post (fun _ _ => FV.inj))
    go_simp
    have CT := qadd ((N1.out.below (KG.out.trans (hb'.mono KG.out.size)))).any (((N1.out.below (KG.out.trans (hb'.mono KG.out.size)))).len LQp1.out (by decide : _ ≤ 900000)) ((N3.out.below (KG.out.trans (hb'.mono KG.out.size)))).any (((N3.out.below (KG.out.trans (hb'.mono KG.out.size)))).len LQp3.out (by decide : _ ≤ 900000))
    rw [show p1 + p3 = q13 from Hq13.out.symm] at CT
    refine CT.mono ?_
    rintro e w'' ⟨za, rfl, ho, hb⟩
    exact ⟨_, rfl, ⟨za, rfl, ho.mono hb'.size, ho.blks⟩, hb⟩
  rintro _ ⟨y25, rfl⟩
  conv => arg 10; simp only [Act.put, List.setIfInBounds_toArray, List.set_cons_succ, List.set_cons_zero]
  refine Go.FreshS.wpF_readsG (by rfl) rfl rfl ?_ (fun w' hw' => ?_) ?_
  rotate_left
  · have hb' := hw'.world
    have hs0 := (BX2.out.below hb' BX2.out.lt).cell (i := 0) rfl
    have hs1 := (BX2.out.below hb' BX2.out.lt).cell (i := 1) rfl
    have hs2 := (BX2.out.below hb' BX2.out.lt).cell (i := 2) rfl
    have hs3 := (BX2.out.below hb' BX2.out.lt).cell (i := 3) rfl
    have hsf := (BX2.out.below hb' BX2.out.lt).fz
    have hsl := (BX2.out.below hb' BX2.out.lt).lt
    clear hw'
    go_simp
    try rfl
  conv => arg 10; simp only [Act.put, List.setIfInBounds_toArray, List.set_cons_succ, List.set_cons_zero]
  refine Go.FreshS.wpF_readsG (by rfl) rfl rfl ?_ (fun w' hw' => ?_) ?_
  rotate_left
  · have hb' := hw'.world
    have hs0 := (BX3.out.below hb' BX3.out.lt).cell (i := 0) rfl
    have hs1 := (BX3.out.below hb' BX3.out.lt).cell (i := 1) rfl
    have hs2 := (BX3.out.below hb' BX3.out.lt).cell (i := 2) rfl
    have hs3 := (BX3.out.below hb' BX3.out.lt).cell (i := 3) rfl
    have hsf := (BX3.out.below hb' BX3.out.lt).fz
    have hsl := (BX3.out.below hb' BX3.out.lt).lt
    clear hw'
    go_simp
    try rfl
  conv => arg 10; simp only [Act.put, List.setIfInBounds_toArray, List.set_cons_succ, List.set_cons_zero]
  refine Go.FreshS.wpF_gspec (by rfl) rfl rfl (fun w' hw' => ?_) ?_
  · have hb' := hw'.world
    refine Go.FreshS.gives_of (Go.FreshS.PM (fun x : FV => x.v) (fun x w' => DF w' w12.heap.size x q14) FV.blk w'.heap.size) ?_ (fun _ _ h => h.post (fun _ _ => FV.inj))
    go_simp
    have CT := qadd ((N2.out.below (KG.out.trans (hb'.mono KG.out.size)))).any (((N2.out.below (KG.out.trans (hb'.mono KG.out.size)))).len LQp2.out (by decide : _ ≤ 900000)) ((N3.out.below (KG.out.trans (hb'.mono KG.out.size)))).any (((N3.out.below (KG.out.trans (hb'.mono KG.out.size)))).len LQp3.out (by decide : _ ≤ 900000))
    rw [show p2 + p3 = q14 from Hq14.out.symm] at CT
    refine CT.mono ?_
    rintro e w'' ⟨za, rfl, ho, hb⟩
    exact ⟨_, rfl, ⟨za, rfl, ho.mono hb'.size, ho.blks⟩, hb⟩
  rintro _ ⟨y28, rfl⟩
  conv => arg 10; simp only [Act.put, List.setIfInBounds_toArray, List.set_cons_succ, List.set_cons_zero]
  refine Go.FreshS.wpF_gspec (by rfl) rfl rfl (fun w' hw' => ?_) ?_
  · have hb' := hw'.world
    refine Go.FreshS.gives_of (Go.FreshS.PK (.int .i64 cn)) ?_ (fun _ _ h => h.post)
    go_simp
    have f25 := Go.FreshS.made_of (val := (fun x : FV => x.v)) (Φ := fun x w' => DF w' w12.heap.size x q13) (fun _ _ => FV.inj) (hw'.fact 25 (by kernel_rfl))
    have f28 := Go.FreshS.made_of (val := (fun x : FV => x.v)) (Φ := fun x w' => DF w' w12.heap.size x q14) (fun _ _ => FV.inj) (hw'.fact 28 (by kernel_rfl))
    have CT := qcmp (f25).k.any (((f25).k).len LQq13.out (by decide : _ ≤ 900000)) (f28).k.any (((f28).k).len LQq14.out (by decide : _ ≤ 900000))
    rw [show cmpQ q13 q14 = cn from by simp only [Hq14.out, Hq13.out]; exact HAD.out] at CT
    refine CT.mono ?_
    rintro e w'' ⟨rfl, hb⟩
    exact ⟨_, rfl, rfl, hb⟩
  rintro _ rfl
  conv => arg 10; simp only [Act.put, List.setIfInBounds_toArray, List.set_cons_succ, List.set_cons_zero]
  refine Go.FreshS.wpF_readsG (by rfl) rfl rfl ?_ (fun w' hw' => ?_) ?_
  rotate_left
  · have hb' := hw'.world
    skip
    clear hw'
    go_simp
    try rfl
  conv => arg 10; simp only [Act.put, List.setIfInBounds_toArray, List.set_cons_succ, List.set_cons_zero]
  refine Go.FreshS.wpF_readsG (by rfl) rfl rfl ?_ (fun w' hw' => ?_) ?_
  rotate_left
  · have hb' := hw'.world
    skip
    clear hw'
    go_simp
    try rfl
  conv => arg 10; simp only [Act.put, List.setIfInBounds_toArray, List.set_cons_succ, List.set_cons_zero]
  refine Go.FreshS.wpF_reads rfl rfl rfl ?_ (fun w' hw' => ?_) ?_
  rotate_left
  · have hb' := hw'.world
    skip
    clear hw'
    go_simp
    try rfl
  conv => arg 10; simp only [Act.put, List.setIfInBounds_toArray, List.set_cons_succ, List.set_cons_zero]
  refine Go.FreshS.wpF_reads rfl rfl rfl ?_ (fun w' hw' => ?_) ?_
  rotate_left
  · have hb' := hw'.world
    skip
    clear hw'
    go_simp
    try rfl
  conv => arg 10; simp only [Act.put, List.setIfInBounds_toArray, List.set_cons_succ, List.set_cons_zero]
  refine Go.FreshS.wpF_readsG (by rfl) rfl rfl ?_ (fun w' hw' => ?_) ?_
  rotate_left
  · have hb' := hw'.world
    have hs0 := (BX1.out.below hb' BX1.out.lt).cell (i := 0) rfl
    have hs1 := (BX1.out.below hb' BX1.out.lt).cell (i := 1) rfl
    have hs2 := (BX1.out.below hb' BX1.out.lt).cell (i := 2) rfl
    have hs3 := (BX1.out.below hb' BX1.out.lt).cell (i := 3) rfl
    have hsf := (BX1.out.below hb' BX1.out.lt).fz
    have hsl := (BX1.out.below hb' BX1.out.lt).lt
    clear hw'
    go_simp
    try rfl
  conv => arg 10; simp only [Act.put, List.setIfInBounds_toArray, List.set_cons_succ, List.set_cons_zero]
  refine Go.FreshS.wpF_readsG (by rfl) rfl rfl ?_ (fun w' hw' => ?_) ?_
  rotate_left
  · have hb' := hw'.world
    have hs0 := (BX2.out.below hb' BX2.out.lt).cell (i := 0) rfl
    have hs1 := (BX2.out.below hb' BX2.out.lt).cell (i := 1) rfl
    have hs2 := (BX2.out.below hb' BX2.out.lt).cell (i := 2) rfl
    have hs3 := (BX2.out.below hb' BX2.out.lt).cell (i := 3) rfl
    have hsf := (BX2.out.below hb' BX2.out.lt).fz
    have hsl := (BX2.out.below hb' BX2.out.lt).lt
    clear hw'
    go_simp
    try rfl
  conv => arg 10; simp only [Act.put, List.setIfInBounds_toArray, List.set_cons_succ, List.set_cons_zero]
  refine Go.FreshS.wpF_gspec (by rfl) rfl rfl (fun w' hw' => ?_) ?_
  · have hb' := hw'.world
    refine Go.FreshS.gives_of (Go.FreshS.PM (fun x : FV => x.v) (fun x w' => DF w' w12.heap.size x q15) FV.blk w'.heap.size) ?_ (fun _ _ h => h.post (fun _ _ => FV.inj))
    go_simp
    have CT := qsub ((N1.out.below (KG.out.trans (hb'.mono KG.out.size)))).any (((N1.out.below (KG.out.trans (hb'.mono KG.out.size)))).len LQp1.out (by decide : _ ≤ 900000)) ((N2.out.below (KG.out.trans (hb'.mono KG.out.size)))).any (((N2.out.below (KG.out.trans (hb'.mono KG.out.size)))).len LQp2.out (by decide : _ ≤ 900000))
    rw [show p1 - p2 = q15 from Hq15.out.symm] at CT
    refine CT.mono ?_
    rintro e w'' ⟨za, rfl, ho, hb⟩
    exact ⟨_, rfl, ⟨za, rfl, ho.mono hb'.size, ho.blks⟩, hb⟩
  rintro _ ⟨y36, rfl⟩
  conv => arg 10; simp only [Act.put, List.setIfInBounds_toArray, List.set_cons_succ, List.set_cons_zero]
  refine Go.FreshS.wpF_gspec (by rfl) rfl rfl (fun w' hw' => ?_) ?_
  · have hb' := hw'.world
    refine Go.FreshS.gives_of (Go.FreshS.PK (.int .i64 cn)) ?_ (fun _ _ h => h.post)
    go_simp
    have f36 := Go.FreshS.made_of (val := (fun x : FV => x.v)) (Φ := fun x w' => DF w' w12.heap.size x q15) (fun _ _ => FV.inj) (hw'.fact 36 (by kernel_rfl))
    have CT := qsign (f36).k.any (((f36).k).len LQq15.out (by decide : _ ≤ 900000))
    rw [show cmpZ q15.num 0 = cn from by simp only [Hq15.out, Hq14.out, Hq13.out]; exact HSU.out] at CT
    refine CT.mono ?_
    rintro e w'' ⟨rfl, hb⟩
    exact ⟨_, rfl, rfl, hb⟩
  rintro _ rfl
  conv => arg 10; simp only [Act.put, List.setIfInBounds_toArray, List.set_cons_succ, List.set_cons_zero]
  refine Go.FreshS.wpF_readsG (by rfl) rfl rfl ?_ (fun w' hw' => ?_) ?_
  rotate_left
  · have hb' := hw'.world
    skip
    clear hw'
    go_simp
    try rfl
  conv => arg 10; simp only [Act.put, List.setIfInBounds_toArray, List.set_cons_succ, List.set_cons_zero]
  refine Go.FreshS.wpF_readsG (by rfl) rfl rfl ?_ (fun w' hw' => ?_) ?_
  rotate_left
  · have hb' := hw'.world
    skip
    clear hw'
    go_simp
    try rfl
  conv => arg 10; simp only [Act.put, List.setIfInBounds_toArray, List.set_cons_succ, List.set_cons_zero]
  refine Go.FreshS.wpF_reads rfl rfl rfl ?_ (fun w' hw' => ?_) ?_
  rotate_left
  · have hb' := hw'.world
    skip
    clear hw'
    go_simp
    try rfl
  conv => arg 10; simp only [Act.put, List.setIfInBounds_toArray, List.set_cons_succ, List.set_cons_zero]
  refine Go.FreshS.wpF_reads rfl rfl rfl ?_ (fun w' hw' => ?_) ?_
  rotate_left
  · have hb' := hw'.world
    skip
    clear hw'
    go_simp
    try rfl
  conv => arg 10; simp only [Act.put, List.setIfInBounds_toArray, List.set_cons_succ, List.set_cons_zero]
  refine Go.FreshS.wpF_readsG (by rfl) rfl rfl ?_ (fun w' hw' => ?_) ?_
  rotate_left
  · have hb' := hw'.world
    have hs0 := (BX1.out.below hb' BX1.out.lt).cell (i := 0) rfl
    have hs1 := (BX1.out.below hb' BX1.out.lt).cell (i := 1) rfl
    have hs2 := (BX1.out.below hb' BX1.out.lt).cell (i := 2) rfl
    have hs3 := (BX1.out.below hb' BX1.out.lt).cell (i := 3) rfl
    have hsf := (BX1.out.below hb' BX1.out.lt).fz
    have hsl := (BX1.out.below hb' BX1.out.lt).lt
    clear hw'
    go_simp
    try rfl
  conv => arg 10; simp only [Act.put, List.setIfInBounds_toArray, List.set_cons_succ, List.set_cons_zero]
  refine Go.FreshS.wpF_readsG (by rfl) rfl rfl ?_ (fun w' hw' => ?_) ?_
  rotate_left
  · have hb' := hw'.world
    have hs0 := (BX3.out.below hb' BX3.out.lt).cell (i := 0) rfl
    have hs1 := (BX3.out.below hb' BX3.out.lt).cell (i := 1) rfl
    have hs2 := (BX3.out.below hb' BX3.out.lt).cell (i := 2) rfl
    have hs3 := (BX3.out.below hb' BX3.out.lt).cell (i := 3) rfl
    have hsf := (BX3.out.below hb' BX3.out.lt).fz
    have hsl := (BX3.out.below hb' BX3.out.lt).lt
    clear hw'
    go_simp
    try rfl
  conv => arg 10; simp only [Act.put, List.setIfInBounds_toArray, List.set_cons_succ, List.set_cons_zero]
  refine Go.FreshS.wpF_gspec (by rfl) rfl rfl (fun w' hw' => ?_) ?_
  · have hb' := hw'.world
    refine Go.FreshS.gives_of (Go.FreshS.PM (fun x : FV => x.v) (fun x w' => DF w' w12.heap.size x q16) FV.blk w'.heap.size) ?_ (fun _ _ h => h.post (fun _ _ => FV.inj))
    go_simp
    have CT := qmul ((N1.out.below (KG.out.trans (hb'.mono KG.out.size)))).any (((N1.out.below (KG.out.trans (hb'.mono KG.out.size)))).len LQp1.out (by decide : _ ≤ 900000)) ((N3.out.below (KG.out.trans (hb'.mono KG.out.size)))).any (((N3.out.below (KG.out.trans (hb'.mono KG.out.size)))).len LQp3.out (by decide : _ ≤ 900000))
    rw [show p1 * p3 = q16 from Hq16.out.symm] at CT
    refine CT.mono ?_
    rintro e w'' ⟨za, rfl, ho, hb⟩
    exact ⟨_, rfl, ⟨za, rfl, ho.mono hb'.size, ho.blks⟩, hb⟩
  rintro _ ⟨y44, rfl⟩
  conv => arg 10; simp only [Act.put, List.setIfInBounds_toArray, List.set_cons_succ, List.set_cons_zero]
  refine Go.FreshS.wpF_readsG (by rfl) rfl rfl ?_ (fun w' hw' => ?_) ?_
  rotate_left
  · have hb' := hw'.world
    have hs0 := (BX2.out.below hb' BX2.out.lt).cell (i := 0) rfl
    have hs1 := (BX2.out.below hb' BX2.out.lt).cell (i := 1) rfl
    have hs2 := (BX2.out.below hb' BX2.out.lt).cell (i := 2) rfl
    have hs3 := (BX2.out.below hb' BX2.out.lt).cell (i := 3) rfl
    have hsf := (BX2.out.below hb' BX2.out.lt).fz
    have hsl := (BX2.out.below hb' BX2.out.lt).lt
    clear hw'
    go_simp
    try rfl
  conv => arg 10; simp only [Act.put, List.setIfInBounds_toArray, List.set_cons_succ, List.set_cons_zero]
  refine Go.FreshS.wpF_readsG (by rfl) rfl rfl ?_ (fun w' hw' => ?_) ?_
  rotate_left
  · have hb' := hw'.world
    have hs0 := (BX3.out.below hb' BX3.out.lt).cell (i := 0) rfl
    have hs1 := (BX3.out.below hb' BX3.out.lt).cell (i := 1) rfl
    have hs2 := (BX3.out.below hb' BX3.out.lt).cell (i := 2) rfl
    have hs3 := (BX3.out.below hb' BX3.out.lt).cell (i := 3) rfl
    have hsf := (BX3.out.below hb' BX3.out.lt).fz
    have hsl := (BX3.out.below hb' BX3.out.lt).lt
    clear hw'
    go_simp
    try rfl
  conv => arg 10; simp only [Act.put, List.setIfInBounds_toArray, List.set_cons_succ, List.set_cons_zero]
  refine Go.FreshS.wpF_gspec (by rfl) rfl rfl (fun w' hw' => ?_) ?_
  · have hb' := hw'.world
    refine Go.FreshS.gives_of (Go.FreshS.PM (fun x : FV => x.v) (fun x w' => DF w' w12.heap.size x q17) FV.blk w'.heap.size) ?_ (fun _ _ h => h.post (fun _ _ => FV.inj))
    go_simp
    have CT := qmul ((N2.out.below (KG.out.trans (hb'.mono KG.out.size)))).any (((N2.out.below (KG.out.trans (hb'.mono KG.out.size)))).len LQp2.out (by decide : _ ≤ 900000)) ((N3.out.below (KG.out.trans (hb'.mono KG.out.size)))).any (((N3.out.below (KG.out.trans (hb'.mono KG.out.size)))).len LQp3.out (by decide : _ ≤ 900000))
    rw [show p2 * p3 = q17 from Hq17.out.symm] at CT
    refine CT.mono ?_
    rintro e w'' ⟨za, rfl, ho, hb⟩
    exact ⟨_, rfl, ⟨za, rfl, ho.mono hb'.size, ho.blks⟩, hb⟩
  rintro _ ⟨y47, rfl⟩
  conv => arg 10; simp only [Act.put, List.setIfInBounds_toArray, List.set_cons_succ, List.set_cons_zero]
  refine Go.FreshS.wpF_gspec (by rfl) rfl rfl (fun w' hw' => ?_) ?_
  · have hb' := hw'.world
    refine Go.FreshS.gives_of (Go.FreshS.PK (.int .i64 pr)) ?_ (fun _ _ h => h.post)
    go_simp
    have f44 := Go.FreshS.made_of (val := (fun x : FV => x.v)) (Φ := fun x w' => DF w' w12.heap.size x q16) (fun _ _ => FV.inj) (hw'.fact 44 (by kernel_rfl))
    have f47 := Go.FreshS.made_of (val := (fun x : FV => x.v)) (Φ := fun x w' => DF w' w12.heap.size x q17) (fun _ _ => FV.inj) (hw'.fact 47 (by kernel_rfl))
    have CT := qcmp (f44).k.any (((f44).k).len LQq16.out (by decide : _ ≤ 900000)) (f47).k.any (((f47).k).len LQq17.out (by decide : _ ≤ 900000))
    rw [show cmpQ q16 q17 = pr from by simp only [Hq17.out, Hq16.out, Hq15.out, Hq14.out, Hq13.out]; exact Hpr.out.symm] at CT
    refine CT.mono ?_
    rintro e w'' ⟨rfl, hb⟩
    exact ⟨_, rfl, rfl, hb⟩
  rintro _ rfl
  conv => arg 10; simp only [Act.put, List.setIfInBounds_toArray, List.set_cons_succ, List.set_cons_zero]
  refine Go.FreshS.wpF_readsG (by rfl) rfl rfl ?_ (fun w' hw' => ?_) ?_
  rotate_left
  · have hb' := hw'.world
    skip
    clear hw'
    go_simp
    try rfl
  conv => arg 10; simp only [Act.put, List.setIfInBounds_toArray, List.set_cons_succ, List.set_cons_zero]
  refine Go.FreshS.wpF_readsG (by rfl) rfl rfl ?_ (fun w' hw' => ?_) ?_
  rotate_left
  · have hb' := hw'.world
    have hs0 := (BX3.out.below hb' BX3.out.lt).cell (i := 0) rfl
    have hs1 := (BX3.out.below hb' BX3.out.lt).cell (i := 1) rfl
    have hs2 := (BX3.out.below hb' BX3.out.lt).cell (i := 2) rfl
    have hs3 := (BX3.out.below hb' BX3.out.lt).cell (i := 3) rfl
    have hsf := (BX3.out.below hb' BX3.out.lt).fz
    have hsl := (BX3.out.below hb' BX3.out.lt).lt
    clear hw'
    go_simp
    try rfl
  conv => arg 10; simp only [Act.put, List.setIfInBounds_toArray, List.set_cons_succ, List.set_cons_zero]
  refine Go.FreshS.wpF_gspec (by rfl) rfl rfl (fun w' hw' => ?_) ?_
  · have hb' := hw'.world
    refine Go.FreshS.gives_of (Go.FreshS.PK (.int .i64 sc)) ?_ (fun _ _ h => h.post)
    go_simp
    have CT := qsign ((N3.out.below (KG.out.trans (hb'.mono KG.out.size)))).any (((N3.out.below (KG.out.trans (hb'.mono KG.out.size)))).len LQp3.out (by decide : _ ≤ 900000))
    rw [show cmpZ p3.num 0 = sc from Hsc.out.symm] at CT
    refine CT.mono ?_
    rintro e w'' ⟨rfl, hb⟩
    exact ⟨_, rfl, rfl, hb⟩
  rintro _ rfl
  conv => arg 10; simp only [Act.put, List.setIfInBounds_toArray, List.set_cons_succ, List.set_cons_zero]
  refine Go.FreshS.wpF_readsG (by rfl) rfl rfl ?_ (fun w' hw' => ?_) ?_
  rotate_left
  · have hb' := hw'.world
    have hq0 := HW2.out
    clear hw'
    go_simp
    try rfl
  conv => arg 10; simp only [Act.put, List.setIfInBounds_toArray, List.set_cons_succ, List.set_cons_zero]
  refine Go.FreshS.wpF_readsG (by rfl) rfl rfl ?_ (fun w' hw' => ?_) ?_
  rotate_left
  · have hb' := hw'.world
    skip
    clear hw'
    go_simp
    try rfl
  conv => arg 10; simp only [Act.put, List.setIfInBounds_toArray, List.set_cons_succ, List.set_cons_zero]
  refine Go.FreshS.wpF_nil (fun w18 hb hF => ?_)
  clear hF
  clear BX1
  have BX2 := Lib.hid (BX2.out.below hb BX2.out.lt)
  have BX3 := Lib.hid (BX3.out.below hb BX3.out.lt)
  have KG := Lib.hid (KG.out.trans (hb.mono KG.out.size))
  clear hb
  have hq0 := HX1.out
  have cBX20 := BX2.out.cell (i := 0) rfl
  have cBX21 := BX2.out.cell (i := 1) rfl
  have cBX22 := BX2.out.cell (i := 2) rfl
  have cBX23 := BX2.out.cell (i := 3) rfl
  have cBX2f := BX2.out.fz
  have cBX2l := BX2.out.lt
  have cBX30 := BX3.out.cell (i := 0) rfl
  have cBX31 := BX3.out.cell (i := 1) rfl
  have cBX32 := BX3.out.cell (i := 2) rfl
  have cBX33 := BX3.out.cell (i := 3) rfl
  have cBX3f := BX3.out.fz
  have cBX3l := BX3.out.lt
  go_wp2_with fail
  have CT := Lib.hid (qcmp ((N2.out.below KG.out)).any (((N2.out.below KG.out)).len LQp2.out (by decide : _ ≤ 900000)) ((N3.out.below KG.out)).any (((N3.out.below KG.out)).len LQp3.out (by decide : _ ≤ 900000)))
  rw [show cmpQ p2 p3 = cb from Hcb.out.symm] at CT
  with_reducible refine CT.out.mono ?_
  rintro e w19 ⟨rfl, hb⟩
  clear CT
  clear cBX20 cBX21 cBX22 cBX23 cBX2f cBX2l
  clear cBX30 cBX31 cBX32 cBX33 cBX3f cBX3l
  clear BX2
  clear BX3
  have KG := Lib.hid (KG.out.trans (hb.mono KG.out.size))
  clear hb
  have hq0 := HX2.out
  go_wp2_with fail
  go_ret
  exact ⟨rfl, KG.out⟩
set_option maxRecDepth 100000 in
set_option maxHeartbeats 8000000 in
theorem order_3 (x1 x2 x3 : FV) (p1 p2 p3 : Rat) (w : World) (htab : Tab w) (h1 : KF w x1 p1) (h2 : KF w x2 p2) (h3 : KF w x3 p3) (b1 : LF x1 10) (b2 : LF x2 10) (b3 : LF x3 10) (hx : cmpQ p1 p2 ≤ 0 ∧ cmpQ p2 p3 ≤ 0) : Calls Tryz.prog 8 #[x1.v, x2.v, x3.v] w fun e w' => e = .returned (.bool true) ∧ Below w.heap.size w w' := by
  have HT := Lib.hid htab
  have KG := Lib.hid (Below.refl w.heap.size w)
  have N1 := Lib.hid h1
  have N2 := Lib.hid h2
  have N3 := Lib.hid h3
  have LQp1 := Lib.hid (h1.lq b1)
  have LQp2 := Lib.hid (h2.lq b2)
  have LQp3 := Lib.hid (h3.lq b3)
  have HX := Lib.hid hx
  clear hx
  clear htab h1 h2 h3 b1 b2 b3
  obtain ⟨cn, hcn⟩ : ∃ s, s = cmpQ p1 p2 := ⟨_, rfl⟩
  obtain ⟨nn, hnn⟩ : ∃ s, s = cmpQ p2 p1 := ⟨_, rfl⟩
  obtain ⟨sc, hsc⟩ : ∃ s, s = cmpZ p3.num 0 := ⟨_, rfl⟩
  obtain ⟨pr, hpr⟩ : ∃ s, s = cmpQ (p1 * p3) (p2 * p3) := ⟨_, rfl⟩
  obtain ⟨bz, hbz⟩ : ∃ b, b = (cn == 0) := ⟨_, rfl⟩
  have R1 := cmpQ_range p1 p2
  have R2 := cmpQ_range (p1 * p3) (p2 * p3)
  rw [← hcn] at R1
  rw [← hpr] at R2
  have HW1 := Lib.hid (show IntKind.i64.wrap (-cn) = nn by rw [hnn, cmpQ_swap p1 p2, ← hcn]; exact IntWalk.i64_in _ (by omega))
  have HW2 := Lib.hid (show IntKind.i64.wrap (cn * sc) = pr by rw [show cn * sc = pr by rw [hpr, hcn, hsc]; exact (cmpQ_mul p1 p2 p3).symm]; exact IntWalk.i64_in _ (by omega))
  have HL1 := Lib.hid (show (decide (cn < -1)) = false from decide_eq_false (by omega))
  have HL2 := Lib.hid (show (decide (1 < cn)) = false from decide_eq_false (by omega))
  have HBZ := Lib.hid hbz
  have HBD := Lib.hid (show decide (p1 = p2) = bz by rw [hbz, hcn]; exact (cmpQ_same p1 p2).symm)
  have HAD := Lib.hid (show cmpQ (p1 + p3) (p2 + p3) = cn by rw [hcn]; exact cmpQ_add p1 p2 p3)
  have HSU := Lib.hid (show cmpZ (p1 - p2).num 0 = cn by rw [hcn]; exact sgQ_sub p1 p2)
  have Hcn := Lib.hid hcn
  have Hnn := Lib.hid hnn
  have Hsc := Lib.hid hsc
  have Hpr := Lib.hid hpr
  clear hcn hnn hsc hpr hbz R1 R2
  obtain ⟨cb, hcb⟩ : ∃ s, s = cmpQ p2 p3 := ⟨_, rfl⟩
  have Hcb := Lib.hid hcb
  clear hcb
  have HX1 := Lib.hid (show decide (0 < cn) = false from decide_eq_false (by rw [Hcn.out]; have := HX.out; omega))
  obtain ⟨ca, hca⟩ : ∃ s, s = cmpQ p1 p3 := ⟨_, rfl⟩
  have Hca := Lib.hid hca
  clear hca
  have HX2 := Lib.hid (show decide (0 < cb) = false from decide_eq_false (by rw [Hcb.out]; have := HX.out; omega))
  have HX3 := Lib.hid (show decide (ca ≤ 0) = true from decide_eq_true (by rw [Hca.out]; exact cmpQ_trans HX.out.1 HX.out.2))
  obtain ⟨q13, hq13⟩ : ∃ z : Rat, z = p1 + p3 := ⟨_, rfl⟩
  have Hq13 := Lib.hid hq13
  have LQq13 := Lib.hid (show LQ q13 21 by rw [hq13]; exact LQ.add (LQp1.out.up (by decide : _ ≤ 10)) (LQp3.out.up (by decide : _ ≤ 10)) (by decide))
  clear hq13
  obtain ⟨q14, hq14⟩ : ∃ z : Rat, z = p2 + p3 := ⟨_, rfl⟩
  have Hq14 := Lib.hid hq14
  have LQq14 := Lib.hid (show LQ q14 21 by rw [hq14]; exact LQ.add (LQp2.out.up (by decide : _ ≤ 10)) (LQp3.out.up (by decide : _ ≤ 10)) (by decide))
  clear hq14
  obtain ⟨q15, hq15⟩ : ∃ z : Rat, z = p1 - p2 := ⟨_, rfl⟩
  have Hq15 := Lib.hid hq15
  have LQq15 := Lib.hid (show LQ q15 21 by rw [hq15]; exact LQ.sub (LQp1.out.up (by decide : _ ≤ 10)) (LQp2.out.up (by decide : _ ≤ 10)) (by decide))
  clear hq15
  obtain ⟨q16, hq16⟩ : ∃ z : Rat, z = p1 * p3 := ⟨_, rfl⟩
  have Hq16 := Lib.hid hq16
  have LQq16 := Lib.hid (show LQ q16 20 by rw [hq16]; exact LQ.mul (LQp1.out.up (by decide : _ ≤ 10)) (LQp3.out.up (by decide : _ ≤ 10)) (by decide))
  clear hq16
  obtain ⟨q17, hq17⟩ : ∃ z : Rat, z = p2 * p3 := ⟨_, rfl⟩
  have Hq17 := Lib.hid hq17
  have LQq17 := Lib.hid (show LQ q17 20 by rw [hq17]; exact LQ.mul (LQp2.out.up (by decide : _ ≤ 10)) (LQp3.out.up (by decide : _ ≤ 10)) (by decide))
  clear hq17
  go_enter Tryz.func8, Tryz.ntmps8
  go_upto_region 1 with (fail)
  obtain ⟨v4, hV⟩ : ∃ V, V = ((w.alloc (.cells #[.bool x1.t.s, .slice x1.t.a x1.t.n x1.t.c, .bool x1.l.s, .slice x1.l.a x1.l.n x1.l.c] 26)).alloc (.cells #[.bool x2.t.s, .slice x2.t.a x2.t.n x2.t.c, .bool x2.l.s, .slice x2.l.a x2.l.n x2.l.c] 26)).alloc (.cells #[.bool x3.t.s, .slice x3.t.a x3.t.n x3.t.c, .bool x3.l.s, .slice x3.l.a x3.l.n x3.l.c] 26) := ⟨_, rfl⟩
  have hbV : Below w.heap.size w v4 := by rw [hV]; exact ((((Below.refl _ _).alloc (Nat.le_refl _) _).alloc (by go_size) _).alloc (by go_size) _)
  have BX1 := Lib.hid (show Bxs v4 (w.heap.size) 26 [.bool x1.t.s, .slice x1.t.a x1.t.n x1.t.c, .bool x1.l.s, .slice x1.l.a x1.l.n x1.l.c] by have h := ((Bxs.new (w) 26 [.bool x1.t.s, .slice x1.t.a x1.t.n x1.t.c, .bool x1.l.s, .slice x1.l.a x1.l.n x1.l.c]).alloc (.cells #[.bool x2.t.s, .slice x2.t.a x2.t.n x2.t.c, .bool x2.l.s, .slice x2.l.a x2.l.n x2.l.c] 26)).alloc (.cells #[.bool x3.t.s, .slice x3.t.a x3.t.n x3.t.c, .bool x3.l.s, .slice x3.l.a x3.l.n x3.l.c] 26); rw [hV]; exact h)
  have BX2 := Lib.hid (show Bxs v4 (w.heap.size + 1) 26 [.bool x2.t.s, .slice x2.t.a x2.t.n x2.t.c, .bool x2.l.s, .slice x2.l.a x2.l.n x2.l.c] by have h := (Bxs.new (w.alloc (.cells #[.bool x1.t.s, .slice x1.t.a x1.t.n x1.t.c, .bool x1.l.s, .slice x1.l.a x1.l.n x1.l.c] 26)) 26 [.bool x2.t.s, .slice x2.t.a x2.t.n x2.t.c, .bool x2.l.s, .slice x2.l.a x2.l.n x2.l.c]).alloc (.cells #[.bool x3.t.s, .slice x3.t.a x3.t.n x3.t.c, .bool x3.l.s, .slice x3.l.a x3.l.n x3.l.c] 26); simp only [World.size_alloc] at h; rw [hV]; exact h)
  have BX3 := Lib.hid (show Bxs v4 (w.heap.size + 1 + 1) 26 [.bool x3.t.s, .slice x3.t.a x3.t.n x3.t.c, .bool x3.l.s, .slice x3.l.a x3.l.n x3.l.c] by have h := Bxs.new ((w.alloc (.cells #[.bool x1.t.s, .slice x1.t.a x1.t.n x1.t.c, .bool x1.l.s, .slice x1.l.a x1.l.n x1.l.c] 26)).alloc (.cells #[.bool x2.t.s, .slice x2.t.a x2.t.n x2.t.c, .bool x2.l.s, .slice x2.l.a x2.l.n x2.l.c] 26)) 26 [.bool x3.t.s, .slice x3.t.a x3.t.n x3.t.c, .bool x3.l.s, .slice x3.l.a x3.l.n x3.l.c]; simp only [World.size_alloc] at h; rw [hV]; exact h)
  rw [show ((w.alloc (.cells #[.bool x1.t.s, .slice x1.t.a x1.t.n x1.t.c, .bool x1.l.s, .slice x1.l.a x1.l.n x1.l.c] 26)).alloc (.cells #[.bool x2.t.s, .slice x2.t.a x2.t.n x2.t.c, .bool x2.l.s, .slice x2.l.a x2.l.n x2.l.c] 26)).alloc (.cells #[.bool x3.t.s, .slice x3.t.a x3.t.n x3.t.c, .bool x3.l.s, .slice x3.l.a x3.l.n x3.l.c] 26) = v4 from hV.symm]
  have KG := Lib.hid (KG.out.trans (hbV.mono KG.out.size))
  clear hV hbV
  go_wp2_with fail
  have CT := Lib.hid (qalive v4 (HT.out.on KG.out))
  with_reducible refine CT.out.mono ?_
  rintro e w5 ⟨rfl, hb⟩
  clear CT
  have BX1 := Lib.hid (BX1.out.below hb BX1.out.lt)
  have BX2 := Lib.hid (BX2.out.below hb BX2.out.lt)
  have BX3 := Lib.hid (BX3.out.below hb BX3.out.lt)
  have KG := Lib.hid (KG.out.trans (hb.mono KG.out.size))
  clear hb
  have cBX10 := BX1.out.cell (i := 0) rfl
  have cBX11 := BX1.out.cell (i := 1) rfl
  have cBX12 := BX1.out.cell (i := 2) rfl
  have cBX13 := BX1.out.cell (i := 3) rfl
  have cBX1f := BX1.out.fz
  have cBX1l := BX1.out.lt
  have cBX20 := BX2.out.cell (i := 0) rfl
  have cBX21 := BX2.out.cell (i := 1) rfl
  have cBX22 := BX2.out.cell (i := 2) rfl
  have cBX23 := BX2.out.cell (i := 3) rfl
  have cBX2f := BX2.out.fz
  have cBX2l := BX2.out.lt
  have cBX30 := BX3.out.cell (i := 0) rfl
  have cBX31 := BX3.out.cell (i := 1) rfl
  have cBX32 := BX3.out.cell (i := 2) rfl
  have cBX33 := BX3.out.cell (i := 3) rfl
  have cBX3f := BX3.out.fz
  have cBX3l := BX3.out.lt
  go_wp2_with fail
  clear cBX10 cBX11 cBX12 cBX13 cBX1f cBX1l
  clear cBX20 cBX21 cBX22 cBX23 cBX2f cBX2l
  clear cBX30 cBX31 cBX32 cBX33 cBX3f cBX3l
  obtain ⟨v7, hV⟩ : ∃ V, V = w5.alloc (.cells #[.bool x1.t.s, .slice x1.t.a x1.t.n x1.t.c, .bool x1.l.s, .slice x1.l.a x1.l.n x1.l.c, .bool x2.t.s, .slice x2.t.a x2.t.n x2.t.c, .bool x2.l.s, .slice x2.l.a x2.l.n x2.l.c, .bool x3.t.s, .slice x3.t.a x3.t.n x3.t.c, .bool x3.l.s, .slice x3.l.a x3.l.n x3.l.c] 26) := ⟨_, rfl⟩
  have hbV : Below w5.heap.size w5 v7 := by rw [hV]; exact ((Below.refl _ _).alloc (Nat.le_refl _) _)
  have BX6 := Lib.hid (show Bxs v7 (w5.heap.size) 26 [.bool x1.t.s, .slice x1.t.a x1.t.n x1.t.c, .bool x1.l.s, .slice x1.l.a x1.l.n x1.l.c, .bool x2.t.s, .slice x2.t.a x2.t.n x2.t.c, .bool x2.l.s, .slice x2.l.a x2.l.n x2.l.c, .bool x3.t.s, .slice x3.t.a x3.t.n x3.t.c, .bool x3.l.s, .slice x3.l.a x3.l.n x3.l.c] by have h := Bxs.new (w5) 26 [.bool x1.t.s, .slice x1.t.a x1.t.n x1.t.c, .bool x1.l.s, .slice x1.l.a x1.l.n x1.l.c, .bool x2.t.s, .slice x2.t.a x2.t.n x2.t.c, .bool x2.l.s, .slice x2.l.a x2.l.n x2.l.c, .bool x3.t.s, .slice x3.t.a x3.t.n x3.t.c, .bool x3.l.s, .slice x3.l.a x3.l.n x3.l.c]; rw [hV]; exact h)
  rw [show w5.alloc (.cells #[.bool x1.t.s, .slice x1.t.a x1.t.n x1.t.c, .bool x1.l.s, .slice x1.l.a x1.l.n x1.l.c, .bool x2.t.s, .slice x2.t.a x2.t.n x2.t.c, .bool x2.l.s, .slice x2.l.a x2.l.n x2.l.c, .bool x3.t.s, .slice x3.t.a x3.t.n x3.t.c, .bool x3.l.s, .slice x3.l.a x3.l.n x3.l.c] 26) = v7 from hV.symm]
  have BX1 := Lib.hid (BX1.out.below hbV BX1.out.lt)
  have BX2 := Lib.hid (BX2.out.below hbV BX2.out.lt)
  have BX3 := Lib.hid (BX3.out.below hbV BX3.out.lt)
  have KG := Lib.hid (KG.out.trans (hbV.mono KG.out.size))
  clear hV hbV
  have cBX10 := BX1.out.cell (i := 0) rfl
  have cBX11 := BX1.out.cell (i := 1) rfl
  have cBX12 := BX1.out.cell (i := 2) rfl
  have cBX13 := BX1.out.cell (i := 3) rfl
  have cBX1f := BX1.out.fz
  have cBX1l := BX1.out.lt
  have cBX20 := BX2.out.cell (i := 0) rfl
  have cBX21 := BX2.out.cell (i := 1) rfl
  have cBX22 := BX2.out.cell (i := 2) rfl
  have cBX23 := BX2.out.cell (i := 3) rfl
  have cBX2f := BX2.out.fz
  have cBX2l := BX2.out.lt
  have cBX30 := BX3.out.cell (i := 0) rfl
  have cBX31 := BX3.out.cell (i := 1) rfl
  have cBX32 := BX3.out.cell (i := 2) rfl
  have cBX33 := BX3.out.cell (i := 3) rfl
  have cBX3f := BX3.out.fz
  have cBX3l := BX3.out.lt
  have CT := Lib.hid (qgreat3 (M := 10) BX6.out)
  rw [show ((10 : Nat) : Int) = 10 from rfl, show decide ((10 < x1.t.n ∨ 10 < x1.l.n) ∨ (10 < x2.t.n ∨ 10 < x2.l.n) ∨ (10 < x3.t.n ∨ 10 < x3.l.n)) = false from decide_eq_false (by have g0 := (((N1.out.below KG.out)).len LQp1.out (by decide : _ ≤ 10)); have g1 := (((N2.out.below KG.out)).len LQp2.out (by decide : _ ≤ 10)); have g2 := (((N3.out.below KG.out)).len LQp3.out (by decide : _ ≤ 10)); omega)] at CT
  with_reducible refine CT.out.mono ?_
  rintro e w8 ⟨rfl, hb⟩
  clear CT
  clear cBX10 cBX11 cBX12 cBX13 cBX1f cBX1l
  clear cBX20 cBX21 cBX22 cBX23 cBX2f cBX2l
  clear cBX30 cBX31 cBX32 cBX33 cBX3f cBX3l
  have BX1 := Lib.hid (BX1.out.below hb BX1.out.lt)
  have BX2 := Lib.hid (BX2.out.below hb BX2.out.lt)
  have BX3 := Lib.hid (BX3.out.below hb BX3.out.lt)
  clear BX6
  have KG := Lib.hid (KG.out.trans (hb.mono KG.out.size))
  clear hb
  have cBX10 := BX1.out.cell (i := 0) rfl
  have cBX11 := BX1.out.cell (i := 1) rfl
  have cBX12 := BX1.out.cell (i := 2) rfl
  have cBX13 := BX1.out.cell (i := 3) rfl
  have cBX1f := BX1.out.fz
  have cBX1l := BX1.out.lt
  go_wp2_with fail
  have CT := Lib.hid (qcheck (N1.out.below KG.out) (((N1.out.below KG.out)).len LQp1.out (by decide : _ ≤ 900000)))
  with_reducible refine CT.out.mono ?_
  rintro e w9 ⟨rfl, hb⟩
  clear CT
  clear cBX10 cBX11 cBX12 cBX13 cBX1f cBX1l
  have BX1 := Lib.hid (BX1.out.below hb BX1.out.lt)
  have BX2 := Lib.hid (BX2.out.below hb BX2.out.lt)
  have BX3 := Lib.hid (BX3.out.below hb BX3.out.lt)
  have KG := Lib.hid (KG.out.trans (hb.mono KG.out.size))
  clear hb
  have cBX20 := BX2.out.cell (i := 0) rfl
  have cBX21 := BX2.out.cell (i := 1) rfl
  have cBX22 := BX2.out.cell (i := 2) rfl
  have cBX23 := BX2.out.cell (i := 3) rfl
  have cBX2f := BX2.out.fz
  have cBX2l := BX2.out.lt
  go_wp2_with fail
  have CT := Lib.hid (qcheck (N2.out.below KG.out) (((N2.out.below KG.out)).len LQp2.out (by decide : _ ≤ 900000)))
  with_reducible refine CT.out.mono ?_
  rintro e w10 ⟨rfl, hb⟩
  clear CT
  clear cBX20 cBX21 cBX22 cBX23 cBX2f cBX2l
  have BX1 := Lib.hid (BX1.out.below hb BX1.out.lt)
  have BX2 := Lib.hid (BX2.out.below hb BX2.out.lt)
  have BX3 := Lib.hid (BX3.out.below hb BX3.out.lt)
  have KG := Lib.hid (KG.out.trans (hb.mono KG.out.size))
  clear hb
  have cBX30 := BX3.out.cell (i := 0) rfl
  have cBX31 := BX3.out.cell (i := 1) rfl
  have cBX32 := BX3.out.cell (i := 2) rfl
  have cBX33 := BX3.out.cell (i := 3) rfl
  have cBX3f := BX3.out.fz
  have cBX3l := BX3.out.lt
  go_wp2_with fail
  have CT := Lib.hid (qcheck (N3.out.below KG.out) (((N3.out.below KG.out)).len LQp3.out (by decide : _ ≤ 900000)))
  with_reducible refine CT.out.mono ?_
  rintro e w11 ⟨rfl, hb⟩
  clear CT
  clear cBX30 cBX31 cBX32 cBX33 cBX3f cBX3l
  have BX1 := Lib.hid (BX1.out.below hb BX1.out.lt)
  have BX2 := Lib.hid (BX2.out.below hb BX2.out.lt)
  have BX3 := Lib.hid (BX3.out.below hb BX3.out.lt)
  have KG := Lib.hid (KG.out.trans (hb.mono KG.out.size))
  clear hb
  have cBX10 := BX1.out.cell (i := 0) rfl
  have cBX11 := BX1.out.cell (i := 1) rfl
  have cBX12 := BX1.out.cell (i := 2) rfl
  have cBX13 := BX1.out.cell (i := 3) rfl
  have cBX1f := BX1.out.fz
  have cBX1l := BX1.out.lt
  have cBX20 := BX2.out.cell (i := 0) rfl
  have cBX21 := BX2.out.cell (i := 1) rfl
  have cBX22 := BX2.out.cell (i := 2) rfl
  have cBX23 := BX2.out.cell (i := 3) rfl
  have cBX2f := BX2.out.fz
  have cBX2l := BX2.out.lt
  go_wp2_with fail
  have CT := Lib.hid (qcmp ((N1.out.below KG.out)).any (((N1.out.below KG.out)).len LQp1.out (by decide : _ ≤ 900000)) ((N2.out.below KG.out)).any (((N2.out.below KG.out)).len LQp2.out (by decide : _ ≤ 900000)))
  rw [show cmpQ p1 p2 = cn from Hcn.out.symm] at CT
  with_reducible refine CT.out.mono ?_
  rintro e w12 ⟨rfl, hb⟩
  clear CT
  clear cBX10 cBX11 cBX12 cBX13 cBX1f cBX1l
  clear cBX20 cBX21 cBX22 cBX23 cBX2f cBX2l
  have BX1 := Lib.hid (BX1.out.below hb BX1.out.lt)
  have BX2 := Lib.hid (BX2.out.below hb BX2.out.lt)
  have BX3 := Lib.hid (BX3.out.below hb BX3.out.lt)
  have KG := Lib.hid (KG.out.trans (hb.mono KG.out.size))
  clear hb
  go_upto_region 4 with (fail)
  refine Go.FreshS.wp_region_fresh 54 [] (Go.FreshS.spOf [(9, Go.FreshS.Sp.know (.int .i64 nn)), (19, Go.FreshS.Sp.know (.bool bz)), (25, Go.FreshS.Sp.made (fun x : FV => x.v) (fun x w' => DF w' w12.heap.size x q13) FV.blk), (28, Go.FreshS.Sp.made (fun x : FV => x.v) (fun x w' => DF w' w12.heap.size x q14) FV.blk), (29, Go.FreshS.Sp.know (.int .i64 cn)), (36, Go.FreshS.Sp.made (fun x : FV => x.v) (fun x w' => DF w' w12.heap.size x q15) FV.blk), (37, Go.FreshS.Sp.know (.int .i64 cn)), (44, Go.FreshS.Sp.made (fun x : FV => x.v) (fun x w' => DF w' w12.heap.size x q16) FV.blk), (47, Go.FreshS.Sp.made (fun x : FV => x.v) (fun x w' => DF w' w12.heap.size x q17) FV.blk), (48, Go.FreshS.Sp.know (.int .i64 pr)), (51, Go.FreshS.Sp.know (.int .i64 sc))])
    (fun w' => Below w12.heap.size w12 w') (by kernel_rfl) (by kernel_rfl) (by kernel_rfl)
    (Go.FreshS.spOf_cons (Go.FreshS.Sp.know_keeps _ _) (Go.FreshS.spOf_cons (Go.FreshS.Sp.know_keeps _ _) (Go.FreshS.spOf_cons (Go.FreshS.Sp.made_keeps _ (fun _ _ _ h _ hk => h.kept hk) (Go.FreshS.notTaken (by kernel_rfl))) (Go.FreshS.spOf_cons (Go.FreshS.Sp.made_keeps _ (fun _ _ _ h _ hk => h.kept hk) (Go.FreshS.notTaken (by kernel_rfl))) (Go.FreshS.spOf_cons (Go.FreshS.Sp.know_keeps _ _) (Go.FreshS.spOf_cons (Go.FreshS.Sp.made_keeps _ (fun _ _ _ h _ hk => h.kept hk) (Go.FreshS.notTaken (by kernel_rfl))) (Go.FreshS.spOf_cons (Go.FreshS.Sp.know_keeps _ _) (Go.FreshS.spOf_cons (Go.FreshS.Sp.made_keeps _ (fun _ _ _ h _ hk => h.kept hk) (Go.FreshS.notTaken (by kernel_rfl))) (Go.FreshS.spOf_cons (Go.FreshS.Sp.made_keeps _ (fun _ _ _ h _ hk => h.kept hk) (Go.FreshS.notTaken (by kernel_rfl))) (Go.FreshS.spOf_cons (Go.FreshS.Sp.know_keeps _ _) (Go.FreshS.spOf_cons (Go.FreshS.Sp.know_keeps _ _) (Go.FreshS.spOf_nil)))))))))))) (fun _ _ h hb => h.trans (hb.mono h.size)) ((Below.refl _ _).drew) ?_
  simp only [List.append_eq, List.cons_append, List.nil_append, List.take_succ_cons, List.take_zero, List.drop_succ_cons, List.drop_zero]
  refine Go.FreshS.wpF_reads rfl rfl rfl ?_ (fun w' hw' => ?_) ?_
  rotate_left
  · have hb' := hw'.world
    skip
    clear hw'
    go_simp
    try rfl
  conv => arg 10; simp only [Act.put, List.setIfInBounds_toArray, List.set_cons_succ, List.set_cons_zero]
  refine Go.FreshS.wpF_reads rfl rfl rfl ?_ (fun w' hw' => ?_) ?_
  rotate_left
  · have hb' := hw'.world
    have hq0 := HL1.out
    clear hw'
    go_simp
    try rfl
  conv => arg 10; simp only [Act.put, List.setIfInBounds_toArray, List.set_cons_succ, List.set_cons_zero]
  refine Go.FreshS.wpF_reads rfl rfl rfl ?_ (fun w' hw' => ?_) ?_
  rotate_left
  · have hb' := hw'.world
    skip
    clear hw'
    go_simp
    try rfl
  conv => arg 10; simp only [Act.put, List.setIfInBounds_toArray, List.set_cons_succ, List.set_cons_zero]
  refine Go.FreshS.wpF_readsG (by rfl) rfl rfl ?_ (fun w' hw' => ?_) ?_
  rotate_left
  · have hb' := hw'.world
    skip
    clear hw'
    go_simp
    try rfl
  conv => arg 10; simp only [Act.put, List.setIfInBounds_toArray, List.set_cons_succ, List.set_cons_zero]
  refine Go.FreshS.wpF_readsG (by rfl) rfl rfl ?_ (fun w' hw' => ?_) ?_
  rotate_left
  · have hb' := hw'.world
    have hq0 := HL2.out
    clear hw'
    go_simp
    try rfl
  conv => arg 10; simp only [Act.put, List.setIfInBounds_toArray, List.set_cons_succ, List.set_cons_zero]
  refine Go.FreshS.wpF_reads rfl rfl rfl ?_ (fun w' hw' => ?_) ?_
  rotate_left
  · have hb' := hw'.world
    skip
    clear hw'
    go_simp
    try rfl
  conv => arg 10; simp only [Act.put, List.setIfInBounds_toArray, List.set_cons_succ, List.set_cons_zero]
  refine Go.FreshS.wpF_reads rfl rfl rfl ?_ (fun w' hw' => ?_) ?_
  rotate_left
  · have hb' := hw'.world
    skip
    clear hw'
    go_simp
    try rfl
  conv => arg 10; simp only [Act.put, List.setIfInBounds_toArray, List.set_cons_succ, List.set_cons_zero]
  refine Go.FreshS.wpF_readsG (by rfl) rfl rfl ?_ (fun w' hw' => ?_) ?_
  rotate_left
  · have hb' := hw'.world
    have hs0 := (BX2.out.below hb' BX2.out.lt).cell (i := 0) rfl
    have hs1 := (BX2.out.below hb' BX2.out.lt).cell (i := 1) rfl
    have hs2 := (BX2.out.below hb' BX2.out.lt).cell (i := 2) rfl
    have hs3 := (BX2.out.below hb' BX2.out.lt).cell (i := 3) rfl
    have hsf := (BX2.out.below hb' BX2.out.lt).fz
    have hsl := (BX2.out.below hb' BX2.out.lt).lt
    clear hw'
    go_simp
    try rfl
  conv => arg 10; simp only [Act.put, List.setIfInBounds_toArray, List.set_cons_succ, List.set_cons_zero]
  refine Go.FreshS.wpF_readsG (by rfl) rfl rfl ?_ (fun w' hw' => ?_) ?_
  rotate_left
  · have hb' := hw'.world
    have hs0 := (BX1.out.below hb' BX1.out.lt).cell (i := 0) rfl
    have hs1 := (BX1.out.below hb' BX1.out.lt).cell (i := 1) rfl
    have hs2 := (BX1.out.below hb' BX1.out.lt).cell (i := 2) rfl
    have hs3 := (BX1.out.below hb' BX1.out.lt).cell (i := 3) rfl
    have hsf := (BX1.out.below hb' BX1.out.lt).fz
    have hsl := (BX1.out.below hb' BX1.out.lt).lt
    clear hw'
    go_simp
    try rfl
  conv => arg 10; simp only [Act.put, List.setIfInBounds_toArray, List.set_cons_succ, List.set_cons_zero]
  refine Go.FreshS.wpF_gspec (by rfl) rfl rfl (fun w' hw' => ?_) ?_
  · have hb' := hw'.world
    refine Go.FreshS.gives_of (Go.FreshS.PK (.int .i64 nn)) ?_ (fun _ _ h => h.post)
    go_simp
    have CT := qcmp ((N2.out.below (KG.out.trans (hb'.mono KG.out.size)))).any (((N2.out.below (KG.out.trans (hb'.mono KG.out.size)))).len LQp2.out (by decide : _ ≤ 900000)) ((N1.out.below (KG.out.trans (hb'.mono KG.out.size)))).any (((N1.out.below (KG.out.trans (hb'.mono KG.out.size)))).len LQp1.out (by decide : _ ≤ 900000))
    rw [show cmpQ p2 p1 = nn from Hnn.out.symm] at CT
    refine CT.mono ?_
    rintro e w'' ⟨rfl, hb⟩
    exact ⟨_, rfl, rfl, hb⟩
  rintro _ rfl
  conv => arg 10; simp only [Act.put, List.setIfInBounds_toArray, List.set_cons_succ, List.set_cons_zero]
  refine Go.FreshS.wpF_readsG (by rfl) rfl rfl ?_ (fun w' hw' => ?_) ?_
  rotate_left
  · have hb' := hw'.world
    skip
    clear hw'
    go_simp
    try rfl
  conv => arg 10; simp only [Act.put, List.setIfInBounds_toArray, List.set_cons_succ, List.set_cons_zero]
  refine Go.FreshS.wpF_readsG (by rfl) rfl rfl ?_ (fun w' hw' => ?_) ?_
  rotate_left
  · have hb' := hw'.world
    have hq0 := HW1.out
    clear hw'
    go_simp
    try rfl
  conv => arg 10; simp only [Act.put, List.setIfInBounds_toArray, List.set_cons_succ, List.set_cons_zero]
  refine Go.FreshS.wpF_readsG (by rfl) rfl rfl ?_ (fun w' hw' => ?_) ?_
  rotate_left
  · have hb' := hw'.world
    skip
    clear hw'
    go_simp
    try rfl
  conv => arg 10; simp only [Act.put, List.setIfInBounds_toArray, List.set_cons_succ, List.set_cons_zero]
  refine Go.FreshS.wpF_reads rfl rfl rfl ?_ (fun w' hw' => ?_) ?_
  rotate_left
  · have hb' := hw'.world
    skip
    clear hw'
    go_simp
    try rfl
  conv => arg 10; simp only [Act.put, List.setIfInBounds_toArray, List.set_cons_succ, List.set_cons_zero]
  refine Go.FreshS.wpF_reads rfl rfl rfl ?_ (fun w' hw' => ?_) ?_
  rotate_left
  · have hb' := hw'.world
    skip
    clear hw'
    go_simp
    try rfl
  conv => arg 10; simp only [Act.put, List.setIfInBounds_toArray, List.set_cons_succ, List.set_cons_zero]
  refine Go.FreshS.wpF_readsG (by rfl) rfl rfl ?_ (fun w' hw' => ?_) ?_
  rotate_left
  · have hb' := hw'.world
    skip
    clear hw'
    go_simp
    try rfl
  conv => arg 10; simp only [Act.put, List.setIfInBounds_toArray, List.set_cons_succ, List.set_cons_zero]
  refine Go.FreshS.wpF_readsG (by rfl) rfl rfl ?_ (fun w' hw' => ?_) ?_
  rotate_left
  · have hb' := hw'.world
    have hq0 := HBZ.out.symm
    clear hw'
    go_simp
    try rfl
  conv => arg 10; simp only [Act.put, List.setIfInBounds_toArray, List.set_cons_succ, List.set_cons_zero]
  refine Go.FreshS.wpF_readsG (by rfl) rfl rfl ?_ (fun w' hw' => ?_) ?_
  rotate_left
  · have hb' := hw'.world
    have hs0 := (BX1.out.below hb' BX1.out.lt).cell (i := 0) rfl
    have hs1 := (BX1.out.below hb' BX1.out.lt).cell (i := 1) rfl
    have hs2 := (BX1.out.below hb' BX1.out.lt).cell (i := 2) rfl
    have hs3 := (BX1.out.below hb' BX1.out.lt).cell (i := 3) rfl
    have hsf := (BX1.out.below hb' BX1.out.lt).fz
    have hsl := (BX1.out.below hb' BX1.out.lt).lt
    clear hw'
    go_simp
    try rfl
  conv => arg 10; simp only [Act.put, List.setIfInBounds_toArray, List.set_cons_succ, List.set_cons_zero]
  refine Go.FreshS.wpF_readsG (by rfl) rfl rfl ?_ (fun w' hw' => ?_) ?_
  rotate_left
  · have hb' := hw'.world
    have hs0 := (BX2.out.below hb' BX2.out.lt).cell (i := 0) rfl
    have hs1 := (BX2.out.below hb' BX2.out.lt).cell (i := 1) rfl
    have hs2 := (BX2.out.below hb' BX2.out.lt).cell (i := 2) rfl
    have hs3 := (BX2.out.below hb' BX2.out.lt).cell (i := 3) rfl
    have hsf := (BX2.out.below hb' BX2.out.lt).fz
    have hsl := (BX2.out.below hb' BX2.out.lt).lt
    clear hw'
    go_simp
    try rfl
  conv => arg 10; simp only [Act.put, List.setIfInBounds_toArray, List.set_cons_succ, List.set_cons_zero]
  refine Go.FreshS.wpF_gspec (by rfl) rfl rfl (fun w' hw' => ?_) ?_
  · have hb' := hw'.world
    refine Go.FreshS.gives_of (Go.FreshS.PK (.bool bz)) ?_ (fun _ _ h => h.post)
    go_simp
    have CT := qsameD (N1.out.below (KG.out.trans (hb'.mono KG.out.size))) (((N1.out.below (KG.out.trans (hb'.mono KG.out.size)))).len LQp1.out (by decide : _ ≤ 900000)) (N2.out.below (KG.out.trans (hb'.mono KG.out.size))) (((N2.out.below (KG.out.trans (hb'.mono KG.out.size)))).len LQp2.out (by decide : _ ≤ 900000))
    rw [show decide (p1 = p2) = bz from HBD.out] at CT
    refine CT.mono ?_
    rintro e w'' ⟨rfl, hb⟩
    exact ⟨_, rfl, rfl, hb⟩
  rintro _ rfl
  conv => arg 10; simp only [Act.put, List.setIfInBounds_toArray, List.set_cons_succ, List.set_cons_zero]
  refine Go.FreshS.wpF_readsG (by rfl) rfl rfl ?_ (fun w' hw' => ?_) ?_
  rotate_left
  · have hb' := hw'.world
    skip
    clear hw'
    go_simp
    try rfl
  conv => arg 10; simp only [Act.put, List.setIfInBounds_toArray, List.set_cons_succ, List.set_cons_zero]
  refine Go.FreshS.wpF_reads rfl rfl rfl ?_ (fun w' hw' => ?_) ?_
  rotate_left
  · have hb' := hw'.world
    skip
    clear hw'
    go_simp
    try rfl
  conv => arg 10; simp only [Act.put, List.setIfInBounds_toArray, List.set_cons_succ, List.set_cons_zero]
  refine Go.FreshS.wpF_reads rfl rfl rfl ?_ (fun w' hw' => ?_) ?_
  rotate_left
  · have hb' := hw'.world
    skip
    clear hw'
    go_simp
    try rfl
  conv => arg 10; simp only [Act.put, List.setIfInBounds_toArray, List.set_cons_succ, List.set_cons_zero]
  refine Go.FreshS.wpF_readsG (by rfl) rfl rfl ?_ (fun w' hw' => ?_) ?_
  rotate_left
  · have hb' := hw'.world
    have hs0 := (BX1.out.below hb' BX1.out.lt).cell (i := 0) rfl
    have hs1 := (BX1.out.below hb' BX1.out.lt).cell (i := 1) rfl
    have hs2 := (BX1.out.below hb' BX1.out.lt).cell (i := 2) rfl
    have hs3 := (BX1.out.below hb' BX1.out.lt).cell (i := 3) rfl
    have hsf := (BX1.out.below hb' BX1.out.lt).fz
    have hsl := (BX1.out.below hb' BX1.out.lt).lt
    clear hw'
    go_simp
    try rfl
  conv => arg 10; simp only [Act.put, List.setIfInBounds_toArray, List.set_cons_succ, List.set_cons_zero]
  refine Go.FreshS.wpF_readsG (by rfl) rfl rfl ?_ (fun w' hw' => ?_) ?_
  rotate_left
  · have hb' := hw'.world
    have hs0 := (BX3.out.below hb' BX3.out.lt).cell (i := 0) rfl
    have hs1 := (BX3.out.below hb' BX3.out.lt).cell (i := 1) rfl
    have hs2 := (BX3.out.below hb' BX3.out.lt).cell (i := 2) rfl
    have hs3 := (BX3.out.below hb' BX3.out.lt).cell (i := 3) rfl
    have hsf := (BX3.out.below hb' BX3.out.lt).fz
    have hsl := (BX3.out.below hb' BX3.out.lt).lt
    clear hw'
    go_simp
    try rfl
  conv => arg 10; simp only [Act.put, List.setIfInBounds_toArray, List.set_cons_succ, List.set_cons_zero]
  refine Go.FreshS.wpF_gspec (by rfl) rfl rfl (fun w' hw' => ?_) ?_
  · have hb' := hw'.world
    refine Go.FreshS.gives_of (Go.FreshS.PM (fun x : FV => x.v) (fun x w' => DF w' w12.heap.size x q13) FV.blk w'.heap.size) ?_ (fun _ _ h => h.post (fun _ _ => FV.inj))
    go_simp
    have CT := qadd ((N1.out.below (KG.out.trans (hb'.mono KG.out.size)))).any (((N1.out.below (KG.out.trans (hb'.mono KG.out.size)))).len LQp1.out (by decide : _ ≤ 900000)) ((N3.out.below (KG.out.trans (hb'.mono KG.out.size)))).any (((N3.out.below (KG.out.trans (hb'.mono KG.out.size)))).len LQp3.out (by decide : _ ≤ 900000))
    rw [show p1 + p3 = q13 from Hq13.out.symm] at CT
    refine CT.mono ?_
    rintro e w'' ⟨za, rfl, ho, hb⟩
    exact ⟨_, rfl, ⟨za, rfl, ho.mono hb'.size, ho.blks⟩, hb⟩
  rintro _ ⟨y25, rfl⟩
  conv => arg 10; simp only [Act.put, List.setIfInBounds_toArray, List.set_cons_succ, List.set_cons_zero]
  refine Go.FreshS.wpF_readsG (by rfl) rfl rfl ?_ (fun w' hw' => ?_) ?_
  rotate_left
  · have hb' := hw'.world
    have hs0 := (BX2.out.below hb' BX2.out.lt).cell (i := 0) rfl
    have hs1 := (BX2.out.below hb' BX2.out.lt).cell (i := 1) rfl
    have hs2 := (BX2.out.below hb' BX2.out.lt).cell (i := 2) rfl
    have hs3 := (BX2.out.below hb' BX2.out.lt).cell (i := 3) rfl
    have hsf := (BX2.out.below hb' BX2.out.lt).fz
    have hsl := (BX2.out.below hb' BX2.out.lt).lt
    clear hw'
    go_simp
    try rfl
  conv => arg 10; simp only [Act.put, List.setIfInBounds_toArray, List.set_cons_succ, List.set_cons_zero]
  refine Go.FreshS.wpF_readsG (by rfl) rfl rfl ?_ (fun w' hw' => ?_) ?_
  rotate_left
  · have hb' := hw'.world
    have hs0 := (BX3.out.below hb' BX3.out.lt).cell (i := 0) rfl
    have hs1 := (BX3.out.below hb' BX3.out.lt).cell (i := 1) rfl
    have hs2 := (BX3.out.below hb' BX3.out.lt).cell (i := 2) rfl
    have hs3 := (BX3.out.below hb' BX3.out.lt).cell (i := 3) rfl
    have hsf := (BX3.out.below hb' BX3.out.lt).fz
    have hsl := (BX3.out.below hb' BX3.out.lt).lt
    clear hw'
    go_simp
    try rfl
  conv => arg 10; simp only [Act.put, List.setIfInBounds_toArray, List.set_cons_succ, List.set_cons_zero]
  refine Go.FreshS.wpF_gspec (by rfl) rfl rfl (fun w' hw' => ?_) ?_
  · have hb' := hw'.world
    refine Go.FreshS.gives_of (Go.FreshS.PM (fun x : FV => x.v) (fun x w' => DF w' w12.heap.size x q14) FV.blk w'.heap.size) ?_ (fun _ _ h => h.post (fun _ _ => FV.inj))
    go_simp
    have CT := qadd ((N2.out.below (KG.out.trans (hb'.mono KG.out.size)))).any (((N2.out.below (KG.out.trans (hb'.mono KG.out.size)))).len LQp2.out (by decide : _ ≤ 900000)) ((N3.out.below (KG.out.trans (hb'.mono KG.out.size)))).any (((N3.out.below (KG.out.trans (hb'.mono KG.out.size)))).len LQp3.out (by decide : _ ≤ 900000))
    rw [show p2 + p3 = q14 from Hq14.out.symm] at CT
    refine CT.mono ?_
    rintro e w'' ⟨za, rfl, ho, hb⟩
    exact ⟨_, rfl, ⟨za, rfl, ho.mono hb'.size, ho.blks⟩, hb⟩
  rintro _ ⟨y28, rfl⟩
  conv => arg 10; simp only [Act.put, List.setIfInBounds_toArray, List.set_cons_succ, List.set_cons_zero]
  refine Go.FreshS.wpF_gspec (by rfl) rfl rfl (fun w' hw' => ?_) ?_
  · have hb' := hw'.world
    refine Go.FreshS.gives_of (Go.FreshS.PK (.int .i64 cn)) ?_ (fun _ _ h => h.post)
    go_simp
    have f25 := Go.FreshS.made_of (val := (fun x : FV => x.v)) (Φ := fun x w' => DF w' w12.heap.size x q13) (fun _ _ => FV.inj) (hw'.fact 25 (by kernel_rfl))
    have f28 := Go.FreshS.made_of (val := (fun x : FV => x.v)) (Φ := fun x w' => DF w' w12.heap.size x q14) (fun _ _ => FV.inj) (hw'.fact 28 (by kernel_rfl))
    have CT := qcmp (f25).k.any (((f25).k).len LQq13.out (by decide : _ ≤ 900000)) (f28).k.any (((f28).k).len LQq14.out (by decide : _ ≤ 900000))
    rw [show cmpQ q13 q14 = cn from by simp only [Hq14.out, Hq13.out]; exact HAD.out] at CT
    refine CT.mono ?_
    rintro e w'' ⟨rfl, hb⟩
    exact ⟨_, rfl, rfl, hb⟩
  rintro _ rfl
  conv => arg 10; simp only [Act.put, List.setIfInBounds_toArray, List.set_cons_succ, List.set_cons_zero]
  refine Go.FreshS.wpF_readsG (by rfl) rfl rfl ?_ (fun w' hw' => ?_) ?_
  rotate_left
  · have hb' := hw'.world
    skip
    clear hw'
    go_simp
    try rfl
  conv => arg 10; simp only [Act.put, List.setIfInBounds_toArray, List.set_cons_succ, List.set_cons_zero]
  refine Go.FreshS.wpF_readsG (by rfl) rfl rfl ?_ (fun w' hw' => ?_) ?_
  rotate_left
  · have hb' := hw'.world
    skip
    clear hw'
    go_simp
    try rfl
  conv => arg 10; simp only [Act.put, List.setIfInBounds_toArray, List.set_cons_succ, List.set_cons_zero]
  refine Go.FreshS.wpF_reads rfl rfl rfl ?_ (fun w' hw' => ?_) ?_
  rotate_left
  · have hb' := hw'.world
    skip
    clear hw'
    go_simp
    try rfl
  conv => arg 10; simp only [Act.put, List.setIfInBounds_toArray, List.set_cons_succ, List.set_cons_zero]
  refine Go.FreshS.wpF_reads rfl rfl rfl ?_ (fun w' hw' => ?_) ?_
  rotate_left
  · have hb' := hw'.world
    skip
    clear hw'
    go_simp
    try rfl
  conv => arg 10; simp only [Act.put, List.setIfInBounds_toArray, List.set_cons_succ, List.set_cons_zero]
  refine Go.FreshS.wpF_readsG (by rfl) rfl rfl ?_ (fun w' hw' => ?_) ?_
  rotate_left
  · have hb' := hw'.world
    have hs0 := (BX1.out.below hb' BX1.out.lt).cell (i := 0) rfl
    have hs1 := (BX1.out.below hb' BX1.out.lt).cell (i := 1) rfl
    have hs2 := (BX1.out.below hb' BX1.out.lt).cell (i := 2) rfl
    have hs3 := (BX1.out.below hb' BX1.out.lt).cell (i := 3) rfl
    have hsf := (BX1.out.below hb' BX1.out.lt).fz
    have hsl := (BX1.out.below hb' BX1.out.lt).lt
    clear hw'
    go_simp
    try rfl
  conv => arg 10; simp only [Act.put, List.setIfInBounds_toArray, List.set_cons_succ, List.set_cons_zero]
  refine Go.FreshS.wpF_readsG (by rfl) rfl rfl ?_ (fun w' hw' => ?_) ?_
  rotate_left
  · have hb' := hw'.world
    have hs0 := (BX2.out.below hb' BX2.out.lt).cell (i := 0) rfl
    have hs1 := (BX2.out.below hb' BX2.out.lt).cell (i := 1) rfl
    have hs2 := (BX2.out.below hb' BX2.out.lt).cell (i := 2) rfl
    have hs3 := (BX2.out.below hb' BX2.out.lt).cell (i := 3) rfl
    have hsf := (BX2.out.below hb' BX2.out.lt).fz
    have hsl := (BX2.out.below hb' BX2.out.lt).lt
    clear hw'
    go_simp
    try rfl
  conv => arg 10; simp only [Act.put, List.setIfInBounds_toArray, List.set_cons_succ, List.set_cons_zero]
  refine Go.FreshS.wpF_gspec (by rfl) rfl rfl (fun w' hw' => ?_) ?_
  · have hb' := hw'.world
    refine Go.FreshS.gives_of (Go.FreshS.PM (fun x : FV => x.v) (fun x w' => DF w' w12.heap.size x q15) FV.blk w'.heap.size) ?_ (fun _ _ h => h.post (fun _ _ => FV.inj))
    go_simp
    have CT := qsub ((N1.out.below (KG.out.trans (hb'.mono KG.out.size)))).any (((N1.out.below (KG.out.trans (hb'.mono KG.out.size)))).len LQp1.out (by decide : _ ≤ 900000)) ((N2.out.below (KG.out.trans (hb'.mono KG.out.size)))).any (((N2.out.below (KG.out.trans (hb'.mono KG.out.size)))).len LQp2.out (by decide : _ ≤ 900000))
    rw [show p1 - p2 = q15 from Hq15.out.symm] at CT
    refine CT.mono ?_
    rintro e w'' ⟨za, rfl, ho, hb⟩
    exact ⟨_, rfl, ⟨za, rfl, ho.mono hb'.size, ho.blks⟩, hb⟩
  rintro _ ⟨y36, rfl⟩
  conv => arg 10; simp only [Act.put, List.setIfInBounds_toArray, List.set_cons_succ, List.set_cons_zero]
  refine Go.FreshS.wpF_gspec (by rfl) rfl rfl (fun w' hw' => ?_) ?_
  · have hb' := hw'.world
    refine Go.FreshS.gives_of (Go.FreshS.PK (.int .i64 cn)) ?_ (fun _ _ h => h.post)
    go_simp
    have f36 := Go.FreshS.made_of (val := (fun x : FV => x.v)) (Φ := fun x w' => DF w' w12.heap.size x q15) (fun _ _ => FV.inj) (hw'.fact 36 (by kernel_rfl))
    have CT := qsign (f36).k.any (((f36).k).len LQq15.out (by decide : _ ≤ 900000))
    rw [show cmpZ q15.num 0 = cn from by simp only [Hq15.out, Hq14.out, Hq13.out]; exact HSU.out] at CT
    refine CT.mono ?_
    rintro e w'' ⟨rfl, hb⟩
    exact ⟨_, rfl, rfl, hb⟩
  rintro _ rfl
  conv => arg 10; simp only [Act.put, List.setIfInBounds_toArray, List.set_cons_succ, List.set_cons_zero]
  refine Go.FreshS.wpF_readsG (by rfl) rfl rfl ?_ (fun w' hw' => ?_) ?_
  rotate_left
  · have hb' := hw'.world
    skip
    clear hw'
    go_simp
    try rfl
  conv => arg 10; simp only [Act.put, List.setIfInBounds_toArray, List.set_cons_succ, List.set_cons_zero]
  refine Go.FreshS.wpF_readsG (by rfl) rfl rfl ?_ (fun w' hw' => ?_) ?_
  rotate_left
  · have hb' := hw'.world
    skip
    clear hw'
    go_simp
    try rfl
  conv => arg 10; simp only [Act.put, List.setIfInBounds_toArray, List.set_cons_succ, List.set_cons_zero]
  refine Go.FreshS.wpF_reads rfl rfl rfl ?_ (fun w' hw' => ?_) ?_
  rotate_left
  · have hb' := hw'.world
    skip
    clear hw'
    go_simp
    try rfl
  conv => arg 10; simp only [Act.put, List.setIfInBounds_toArray, List.set_cons_succ, List.set_cons_zero]
  refine Go.FreshS.wpF_reads rfl rfl rfl ?_ (fun w' hw' => ?_) ?_
  rotate_left
  · have hb' := hw'.world
    skip
    clear hw'
    go_simp
    try rfl
  conv => arg 10; simp only [Act.put, List.setIfInBounds_toArray, List.set_cons_succ, List.set_cons_zero]
  refine Go.FreshS.wpF_readsG (by rfl) rfl rfl ?_ (fun w' hw' => ?_) ?_
  rotate_left
  · have hb' := hw'.world
    have hs0 := (BX1.out.below hb' BX1.out.lt).cell (i := 0) rfl
    have hs1 := (BX1.out.below hb' BX1.out.lt).cell (i := 1) rfl
    have hs2 := (BX1.out.below hb' BX1.out.lt).cell (i := 2) rfl
    have hs3 := (BX1.out.below hb' BX1.out.lt).cell (i := 3) rfl
    have hsf := (BX1.out.below hb' BX1.out.lt).fz
    have hsl := (BX1.out.below hb' BX1.out.lt).lt
    clear hw'
    go_simp
    try rfl
  conv => arg 10; simp only [Act.put, List.setIfInBounds_toArray, List.set_cons_succ, List.set_cons_zero]
  refine Go.FreshS.wpF_readsG (by rfl) rfl rfl ?_ (fun w' hw' => ?_) ?_
  rotate_left
  · have hb' := hw'.world
    have hs0 := (BX3.out.below hb' BX3.out.lt).cell (i := 0) rfl
    have hs1 := (BX3.out.below hb' BX3.out.lt).cell (i := 1) rfl
    have hs2 := (BX3.out.below hb' BX3.out.lt).cell (i := 2) rfl
    have hs3 := (BX3.out.below hb' BX3.out.lt).cell (i := 3) rfl
    have hsf := (BX3.out.below hb' BX3.out.lt).fz
    have hsl := (BX3.out.below hb' BX3.out.lt).lt
    clear hw'
    go_simp
    try rfl
  conv => arg 10; simp only [Act.put, List.setIfInBounds_toArray, List.set_cons_succ, List.set_cons_zero]
  refine Go.FreshS.wpF_gspec (by rfl) rfl rfl (fun w' hw' => ?_) ?_
  · have hb' := hw'.world
    refine Go.FreshS.gives_of (Go.FreshS.PM (fun x : FV => x.v) (fun x w' => DF w' w12.heap.size x q16) FV.blk w'.heap.size) ?_ (fun _ _ h => h.post (fun _ _ => FV.inj))
    go_simp
    have CT := qmul ((N1.out.below (KG.out.trans (hb'.mono KG.out.size)))).any (((N1.out.below (KG.out.trans (hb'.mono KG.out.size)))).len LQp1.out (by decide : _ ≤ 900000)) ((N3.out.below (KG.out.trans (hb'.mono KG.out.size)))).any (((N3.out.below (KG.out.trans (hb'.mono KG.out.size)))).len LQp3.out (by decide : _ ≤ 900000))
    rw [show p1 * p3 = q16 from Hq16.out.symm] at CT
    refine CT.mono ?_
    rintro e w'' ⟨za, rfl, ho, hb⟩
    exact ⟨_, rfl, ⟨za, rfl, ho.mono hb'.size, ho.blks⟩, hb⟩
  rintro _ ⟨y44, rfl⟩
  conv => arg 10; simp only [Act.put, List.setIfInBounds_toArray, List.set_cons_succ, List.set_cons_zero]
  refine Go.FreshS.wpF_readsG (by rfl) rfl rfl ?_ (fun w' hw' => ?_) ?_
  rotate_left
  · have hb' := hw'.world
    have hs0 := (BX2.out.below hb' BX2.out.lt).cell (i := 0) rfl
    have hs1 := (BX2.out.below hb' BX2.out.lt).cell (i := 1) rfl
    have hs2 := (BX2.out.below hb' BX2.out.lt).cell (i := 2) rfl
    have hs3 := (BX2.out.below hb' BX2.out.lt).cell (i := 3) rfl
    have hsf := (BX2.out.below hb' BX2.out.lt).fz
    have hsl := (BX2.out.below hb' BX2.out.lt).lt
    clear hw'
    go_simp
    try rfl
  conv => arg 10; simp only [Act.put, List.setIfInBounds_toArray, List.set_cons_succ, List.set_cons_zero]
  refine Go.FreshS.wpF_readsG (by rfl) rfl rfl ?_ (fun w' hw' => ?_) ?_
  rotate_left
  · have hb' := hw'.world
    have hs0 := (BX3.out.below hb' BX3.out.lt).cell (i := 0) rfl
    have hs1 := (BX3.out.below hb' BX3.out.lt).cell (i := 1) rfl
    have hs2 := (BX3.out.below hb' BX3.out.lt).cell (i := 2) rfl
    have hs3 := (BX3.out.below hb' BX3.out.lt).cell (i := 3) rfl
    have hsf := (BX3.out.below hb' BX3.out.lt).fz
    have hsl := (BX3.out.below hb' BX3.out.lt).lt
    clear hw'
    go_simp
    try rfl
  conv => arg 10; simp only [Act.put, List.setIfInBounds_toArray, List.set_cons_succ, List.set_cons_zero]
  refine Go.FreshS.wpF_gspec (by rfl) rfl rfl (fun w' hw' => ?_) ?_
  · have hb' := hw'.world
    refine Go.FreshS.gives_of (Go.FreshS.PM (fun x : FV => x.v) (fun x w' => DF w' w12.heap.size x q17) FV.blk w'.heap.size) ?_ (fun _ _ h => h.post (fun _ _ => FV.inj))
    go_simp
    have CT := qmul ((N2.out.below (KG.out.trans (hb'.mono KG.out.size)))).any (((N2.out.below (KG.out.trans (hb'.mono KG.out.size)))).len LQp2.out (by decide : _ ≤ 900000)) ((N3.out.below (KG.out.trans (hb'.mono KG.out.size)))).any (((N3.out.below (KG.out.trans (hb'.mono KG.out.size)))).len LQp3.out (by decide : _ ≤ 900000))
    rw [show p2 * p3 = q17 from Hq17.out.symm] at CT
    refine CT.mono ?_
    rintro e w'' ⟨za, rfl, ho, hb⟩
    exact ⟨_, rfl, ⟨za, rfl, ho.mono hb'.size, ho.blks⟩, hb⟩
  rintro _ ⟨y47, rfl⟩
  conv => arg 10; simp only [Act.put, List.setIfInBounds_toArray, List.set_cons_succ, List.set_cons_zero]
  refine Go.FreshS.wpF_gspec (by rfl) rfl rfl (fun w' hw' => ?_) ?_
  · have hb' := hw'.world
    refine Go.FreshS.gives_of (Go.FreshS.PK (.int .i64 pr)) ?_ (fun _ _ h => h.post)
    go_simp
    have f44 := Go.FreshS.made_of (val := (fun x : FV => x.v)) (Φ := fun x w' => DF w' w12.heap.size x q16) (fun _ _ => FV.inj) (hw'.fact 44 (by kernel_rfl))
    have f47 := Go.FreshS.made_of (val := (fun x : FV => x.v)) (Φ := fun x w' => DF w' w12.heap.size x q17) (fun _ _ => FV.inj) (hw'.fact 47 (by kernel_rfl))
    have CT := qcmp (f44).k.any (((f44).k).len LQq16.out (by decide : _ ≤ 900000)) (f47).k.any (((f47).k).len LQq17.out (by decide : _ ≤ 900000))
    rw [show cmpQ q16 q17 = pr from by simp only [Hq17.out, Hq16.out, Hq15.out, Hq14.out, Hq13.out]; exact Hpr.out.symm] at CT
    refine CT.mono ?_
    rintro e w'' ⟨rfl, hb⟩
    exact ⟨_, rfl, rfl, hb⟩
  rintro _ rfl
  conv => arg 10; simp only [Act.put, List.setIfInBounds_toArray, List.set_cons_succ, List.set_cons_zero]
  refine Go.FreshS.wpF_readsG (by rfl) rfl rfl ?_ (fun w' hw' => ?_) ?_
  rotate_left
  · have hb' := hw'.world
    skip
    clear hw'
    go_simp
    try rfl
  conv => arg 10; simp only [Act.put, List.setIfInBounds_toArray, List.set_cons_succ, List.set_cons_zero]
  refine Go.FreshS.wpF_readsG (by rfl) rfl rfl ?_ (fun w' hw' => ?_) ?_
  rotate_left
  · have hb' := hw'.world
    have hs0 := (BX3.out.below hb' BX3.out.lt).cell (i := 0) rfl
    have hs1 := (BX3.out.below hb' BX3.out.lt).cell (i := 1) rfl
    have hs2 := (BX3.out.below hb' BX3.out.lt).cell (i := 2) rfl
    have hs3 := (BX3.out.below hb' BX3.out.lt).cell (i := 3) rfl
    have hsf := (BX3.out.below hb' BX3.out.lt).fz
    have hsl := (BX3.out.below hb' BX3.out.lt).lt
    clear hw'
    go_simp
    try rfl
  conv => arg 10; simp only [Act.put, List.setIfInBounds_toArray, List.set_cons_succ, List.set_cons_zero]
  refine Go.FreshS.wpF_gspec (by rfl) rfl rfl (fun w' hw' => ?_) ?_
  · have hb' := hw'.world
    refine Go.FreshS.gives_of (Go.FreshS.PK (.int .i64 sc)) ?_ (fun _ _ h => h.post)
    go_simp
    have CT := qsign ((N3.out.below (KG.out.trans (hb'.mono KG.out.size)))).any (((N3.out.below (KG.out.trans (hb'.mono KG.out.size)))).len LQp3.out (by decide : _ ≤ 900000))
    rw [show cmpZ p3.num 0 = sc from Hsc.out.symm] at CT
    refine CT.mono ?_
    rintro e w'' ⟨rfl, hb⟩
    exact ⟨_, rfl, rfl, hb⟩
  rintro _ rfl
  conv => arg 10; simp only [Act.put, List.setIfInBounds_toArray, List.set_cons_succ, List.set_cons_zero]
  refine Go.FreshS.wpF_readsG (by rfl) rfl rfl ?_ (fun w' hw' => ?_) ?_
  rotate_left
  · have hb' := hw'.world
    have hq0 := HW2.out
    clear hw'
    go_simp
    try rfl
  conv => arg 10; simp only [Act.put, List.setIfInBounds_toArray, List.set_cons_succ, List.set_cons_zero]
  refine Go.FreshS.wpF_readsG (by rfl) rfl rfl ?_ (fun w' hw' => ?_) ?_
  rotate_left
  · have hb' := hw'.world
    skip
    clear hw'
    go_simp
    try rfl
  conv => arg 10; simp only [Act.put, List.setIfInBounds_toArray, List.set_cons_succ, List.set_cons_zero]
  refine Go.FreshS.wpF_nil (fun w18 hb hF => ?_)
  clear hF
  have BX1 := Lib.hid (BX1.out.below hb BX1.out.lt)
  have BX2 := Lib.hid (BX2.out.below hb BX2.out.lt)
  have BX3 := Lib.hid (BX3.out.below hb BX3.out.lt)
  have KG := Lib.hid (KG.out.trans (hb.mono KG.out.size))
  clear hb
  have hq0 := HX1.out
  have cBX20 := BX2.out.cell (i := 0) rfl
  have cBX21 := BX2.out.cell (i := 1) rfl
  have cBX22 := BX2.out.cell (i := 2) rfl
  have cBX23 := BX2.out.cell (i := 3) rfl
  have cBX2f := BX2.out.fz
  have cBX2l := BX2.out.lt
  have cBX30 := BX3.out.cell (i := 0) rfl
  have cBX31 := BX3.out.cell (i := 1) rfl
  have cBX32 := BX3.out.cell (i := 2) rfl
  have cBX33 := BX3.out.cell (i := 3) rfl
  have cBX3f := BX3.out.fz
  have cBX3l := BX3.out.lt
  go_wp2_with fail
  have CT := Lib.hid (qcmp ((N2.out.below KG.out)).any (((N2.out.below KG.out)).len LQp2.out (by decide : _ ≤ 900000)) ((N3.out.below KG.out)).any (((N3.out.below KG.out)).len LQp3.out (by decide : _ ≤ 900000)))
  rw [show cmpQ p2 p3 = cb from Hcb.out.symm] at CT
  with_reducible refine CT.out.mono ?_
  rintro e w19 ⟨rfl, hb⟩
  clear CT
  clear cBX20 cBX21 cBX22 cBX23 cBX2f cBX2l
  clear cBX30 cBX31 cBX32 cBX33 cBX3f cBX3l
  have BX1 := Lib.hid (BX1.out.below hb BX1.out.lt)
  clear BX2
  have BX3 := Lib.hid (BX3.out.below hb BX3.out.lt)
  have KG := Lib.hid (KG.out.trans (hb.mono KG.out.size))
  clear hb
  have hq0 := HX2.out
  have cBX10 := BX1.out.cell (i := 0) rfl
  have cBX11 := BX1.out.cell (i := 1) rfl
  have cBX12 := BX1.out.cell (i := 2) rfl
  have cBX13 := BX1.out.cell (i := 3) rfl
  have cBX1f := BX1.out.fz
  have cBX1l := BX1.out.lt
  have cBX30 := BX3.out.cell (i := 0) rfl
  have cBX31 := BX3.out.cell (i := 1) rfl
  have cBX32 := BX3.out.cell (i := 2) rfl
  have cBX33 := BX3.out.cell (i := 3) rfl
  have cBX3f := BX3.out.fz
  have cBX3l := BX3.out.lt
  go_wp2_with fail
  have CT := Lib.hid (qcmp ((N1.out.below KG.out)).any (((N1.out.below KG.out)).len LQp1.out (by decide : _ ≤ 900000)) ((N3.out.below KG.out)).any (((N3.out.below KG.out)).len LQp3.out (by decide : _ ≤ 900000)))
  rw [show cmpQ p1 p3 = ca from Hca.out.symm] at CT
  with_reducible refine CT.out.mono ?_
  rintro e w20 ⟨rfl, hb⟩
  clear CT
  clear cBX10 cBX11 cBX12 cBX13 cBX1f cBX1l
  clear cBX30 cBX31 cBX32 cBX33 cBX3f cBX3l
  clear BX1
  clear BX3
  have KG := Lib.hid (KG.out.trans (hb.mono KG.out.size))
  clear hb
  have hq0 := HX3.out
  go_wp2_with fail
  go_ret
  exact ⟨rfl, KG.out⟩
theorem fracsOrder_law (s1 : Bool) (a1 : Option Addr) (n1 c1 : Nat) (o1 : Nat → Int) (s2 : Bool) (a2 : Option Addr) (n2 c2 : Nat) (o2 : Nat → Int) (s3 : Bool) (a3 : Option Addr) (n3 c3 : Nat) (o3 : Nat → Int) (s4 : Bool) (a4 : Option Addr) (n4 c4 : Nat) (o4 : Nat → Int) (s5 : Bool) (a5 : Option Addr) (n5 c5 : Nat) (o5 : Nat → Int) (s6 : Bool) (a6 : Option Addr) (n6 c6 : Nat) (o6 : Nat → Int) (w : World) (htab : Tab w) (h1 : Rd w a1 n1 o1) (hc1 : n1 ≤ c1) (h2 : Rd w a2 n2 o2) (hc2 : n2 ≤ c2) (h3 : Rd w a3 n3 o3) (hc3 : n3 ≤ c3) (h4 : Rd w a4 n4 o4) (hc4 : n4 ≤ c4) (h5 : Rd w a5 n5 o5) (hc5 : n5 ≤ c5) (h6 : Rd w a6 n6 o6) (hc6 : n6 ≤ c6) :
    Calls Tryz.prog 8 #[.agg #[.bool s1, .slice a1 n1 c1, .bool s2, .slice a2 n2 c2], .agg #[.bool s3, .slice a3 n3 c3, .bool s4, .slice a4 n4 c4], .agg #[.bool s5, .slice a5 n5 c5, .bool s6, .slice a6 n6 c6]] w fun e w' => e = .returned (.bool true) ∧ Below w.heap.size w w' := by
  by_cases hg : (10 < n1 ∨ 10 < n2) ∨ (10 < n3 ∨ 10 < n4) ∨ (10 < n5 ∨ 10 < n6)
  · exact order_great ⟨⟨s1, a1, n1, c1⟩, ⟨s2, a2, n2, c2⟩⟩ ⟨⟨s3, a3, n3, c3⟩, ⟨s4, a4, n4, c4⟩⟩ ⟨⟨s5, a5, n5, c5⟩, ⟨s6, a6, n6, c6⟩⟩ _ _ _ w htab (AF.raw h1 hc1 h2 hc2) (AF.raw h3 hc3 h4 hc4) (AF.raw h5 hc5 h6 hc6) hg
  · have b1 : n1 ≤ 10 ∧ n2 ≤ 10 := by omega
    have b2 : n3 ≤ 10 ∧ n4 ≤ 10 := by omega
    have b3 : n5 ≤ 10 ∧ n6 ≤ 10 := by omega
    by_cases k1 : okF s1 n1 o1 s2 n2 o2
    · by_cases k2 : okF s3 n3 o3 s4 n4 o4
      · by_cases k3 : okF s5 n5 o5 s6 n6 o6
        · by_cases hx : 0 < cmpQ (valF s1 n1 o1 s2 n2 o2) (valF s3 n3 o3 s4 n4 o4)
          · exact order_1 ⟨⟨s1, a1, n1, c1⟩, ⟨s2, a2, n2, c2⟩⟩ ⟨⟨s3, a3, n3, c3⟩, ⟨s4, a4, n4, c4⟩⟩ ⟨⟨s5, a5, n5, c5⟩, ⟨s6, a6, n6, c6⟩⟩ _ _ _ w htab (KF.raw h1 hc1 h2 hc2 k1) (KF.raw h3 hc3 h4 hc4 k2) (KF.raw h5 hc5 h6 hc6 k3) b1 b2 b3 hx
          · by_cases hy : 0 < cmpQ (valF s3 n3 o3 s4 n4 o4) (valF s5 n5 o5 s6 n6 o6)
            · exact order_2 ⟨⟨s1, a1, n1, c1⟩, ⟨s2, a2, n2, c2⟩⟩ ⟨⟨s3, a3, n3, c3⟩, ⟨s4, a4, n4, c4⟩⟩ ⟨⟨s5, a5, n5, c5⟩, ⟨s6, a6, n6, c6⟩⟩ _ _ _ w htab (KF.raw h1 hc1 h2 hc2 k1) (KF.raw h3 hc3 h4 hc4 k2) (KF.raw h5 hc5 h6 hc6 k3) b1 b2 b3 ⟨by omega, hy⟩
            · exact order_3 ⟨⟨s1, a1, n1, c1⟩, ⟨s2, a2, n2, c2⟩⟩ ⟨⟨s3, a3, n3, c3⟩, ⟨s4, a4, n4, c4⟩⟩ ⟨⟨s5, a5, n5, c5⟩, ⟨s6, a6, n6, c6⟩⟩ _ _ _ w htab (KF.raw h1 hc1 h2 hc2 k1) (KF.raw h3 hc3 h4 hc4 k2) (KF.raw h5 hc5 h6 hc6 k3) b1 b2 b3 ⟨by omega, by omega⟩
        · exact order_bad3 ⟨⟨s1, a1, n1, c1⟩, ⟨s2, a2, n2, c2⟩⟩ ⟨⟨s3, a3, n3, c3⟩, ⟨s4, a4, n4, c4⟩⟩ ⟨⟨s5, a5, n5, c5⟩, ⟨s6, a6, n6, c6⟩⟩ _ _ 0 w htab (KF.raw h1 hc1 h2 hc2 k1) (KF.raw h3 hc3 h4 hc4 k2) (BF.raw h5 hc5 h6 hc6 k3) b1 b2 b3
      · exact order_bad2 ⟨⟨s1, a1, n1, c1⟩, ⟨s2, a2, n2, c2⟩⟩ ⟨⟨s3, a3, n3, c3⟩, ⟨s4, a4, n4, c4⟩⟩ ⟨⟨s5, a5, n5, c5⟩, ⟨s6, a6, n6, c6⟩⟩ _ 0 _ w htab (KF.raw h1 hc1 h2 hc2 k1) (BF.raw h3 hc3 h4 hc4 k2) (AF.raw h5 hc5 h6 hc6) b1 b2 b3
    · exact order_bad1 ⟨⟨s1, a1, n1, c1⟩, ⟨s2, a2, n2, c2⟩⟩ ⟨⟨s3, a3, n3, c3⟩, ⟨s4, a4, n4, c4⟩⟩ ⟨⟨s5, a5, n5, c5⟩, ⟨s6, a6, n6, c6⟩⟩ 0 _ _ w htab (BF.raw h1 hc1 h2 hc2 k1) (AF.raw h3 hc3 h4 hc4) (AF.raw h5 hc5 h6 hc6) b1 b2 b3
end Go.Proofs.YtklidpbdgliemaaGreatDoor.Limb
