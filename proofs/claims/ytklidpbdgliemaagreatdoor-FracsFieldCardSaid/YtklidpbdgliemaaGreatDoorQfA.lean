/-
  The law FracsField: whatever it is handed, it returns true, and what it was handed reads behind the call as it read before; the card ties the listed tables to the program's text.
-/
import Derived.Test.YtklidpbdgliemaaGreatDoorQoI
import Derived.Test.YtklidpbdgliemaaGreatDoorCards
import Derived.Test.YtklidpbdgliemaaGreatDoorTie
import Derived.Lay
import Derived.MakeChecks
import Derived.Stop.LaidErr
import Derived.Deep.DeepWitnessRowRef
import Derived.WalkKit
import Derived.ProofKit
import Derived.OpenShut
import Derived.Deep.DeepHandedRow
import Derived.Lib.LaidTab
set_option linter.unusedSimpArgs false
set_option linter.unusedVariables false
namespace Go.Proofs.YtklidpbdgliemaaGreatDoor.Limb
open Go.RowKit Go.Sort

set_option maxRecDepth 100000 in
set_option maxHeartbeats 8000000 in
theorem field_great (x1 x2 x3 : FV) (p1 p2 p3 : Rat) (w : World) (htab : Tab w) (h1 : AF w x1 p1) (h2 : AF w x2 p2) (h3 : AF w x3 p3) (hg : (8 < x1.t.n ∨ 8 < x1.l.n) ∨ (8 < x2.t.n ∨ 8 < x2.l.n) ∨ (8 < x3.t.n ∨ 8 < x3.l.n)) : Calls Tryz.prog 5 #[x1.v, x2.v, x3.v] w fun e w' => e = .returned (.bool true) ∧ Below w.heap.size w w' := by
  have HT := Lib.hid htab
  have KG := Lib.hid (Below.refl w.heap.size w)
  have N1 := Lib.hid h1
  have N2 := Lib.hid h2
  have N3 := Lib.hid h3
  have HG := Lib.hid hg
  clear hg
  clear htab h1 h2 h3
  go_enter Tryz.func5, Tryz.ntmps5
  go_upto_region 1 with (fail)
  obtain ⟨v4, hV⟩ : ∃ V, V = ((w.alloc (.cells #[.bool x1.t.s, .slice x1.t.a x1.t.n x1.t.c, .bool x1.l.s, .slice x1.l.a x1.l.n x1.l.c] 26)).alloc (.cells #[.bool x2.t.s, .slice x2.t.a x2.t.n x2.t.c, .bool x2.l.s, .slice x2.l.a x2.l.n x2.l.c] 26)).alloc (.cells #[.bool x3.t.s, .slice x3.t.a x3.t.n x3.t.c, .bool x3.l.s, .slice x3.l.a x3.l.n x3.l.c] 26) := ⟨_, rfl⟩
  have hbV : Below w.heap.size w v4 := by rw [hV]; exact ((((Below.refl _ _).alloc (Nat.le_refl _) _).alloc (by go_size) _).alloc (by go_size) _)
  have BX1 := Lib.hid (show Bxs v4 (w.heap.size) 26 [.bool x1.t.s, .slice x1.t.a x1.t.n x1.t.c, .bool x1.l.s, .slice x1.l.a x1.l.n x1.l.c] by have h := ((Bxs.new (w) 26 [.bool x1.t.s, .slice x1.t.a x1.t.n x1.t.c, .bool x1.l.s, .slice x1.l.a x1.l.n x1.l.c]).alloc (.cells #[.bool x2.t.s, .slice x2.t.a x2.t.n x2.t.c, .bool x2.l.s, .slice x2.l.a x2.l.n x2.l.c] 26)).alloc (.cells #[.bool x3.t.s, .slice x3.t.a x3.t.n x3.t.c, .bool x3.l.s, .slice x3.l.a x3.l.n x3.l.c] 26); rw [hV]; exact h)
  have BX2 := Lib.hid (show Bxs v4 (w.heap.size + 1) 26 [.bool x2.t.s, .slice x2.t.a x2.t.n x2.t.c, .bool x2.l.s, .slice x2.l.a x2.l.n x2.l.c] by have h := (Bxs.new (w.alloc (.cells #[.bool x1.t.s, .slice x1.t.a x1.t.n x1.t.c, .bool x1.l.s, .slice x1.l.a x1.l.n x1.l.c] 26)) 26 [.bool x2.t.s, .slice x2.t.a x2.t.n x2.t.c, .bool x2.l.s, .slice x2.l.a x2.l.n x2.l.c]).alloc (.cells #[.bool x3.t.s, .slice x3.t.a x3.t.n x3.t.c, .bool x3.l.s, .slice x3.l.a x3.l.n x3.l.c] 26); simp only [World.size_alloc] at h; rw [hV]; exact h)
  have BX3 := Lib.hid (show Bxs v4 (w.heap.size + 1 + 1) 26 [.bool x3.t.s, .slice x3.t.a x3.t.n x3.t.c, .bool x3.l.s, .slice x3.l.a x3.l.n x3.l.c] by have h := Bxs.new ((w.alloc (.cells #[.bool x1.t.s, .slice x1.t.a x1.t.n x1.t.c, .bool x1.l.s, .slice x1.l.a x1.l.n x1.l.c] 26)).alloc (.cells #[.bool x2.t.s, .slice x2.t.a x2.t.n x2.t.c, .bool x2.l.s, .slice x2.l.a x2.l.n x2.l.c] 26)) 26 [.bool x3.t.s, .slice x3.t.a x3.t.n x3.t.c, .bool x3.l.s, .slice x3.l.a x3.l.n x3.l.c]; simp only [World.size_alloc] at h; rw [hV]; exact h)
  rw [show ((w.alloc (.cells #[.bool x1.t.s, .slice x1.t.a x1.t.n x1.t.c, .bool x1.l.s, .slice x1.l.a x1.l.n x1.l.c] 26)).alloc (.cells #[.bool x2.t.s, .slice x2.t.a x2.t.n x2.t.c, .bool x2.l.s, .slice x2.l.a x2.l.n x2.l.c] 26)).alloc (.cells #[.bool x3.t.s, .slice x3.t.a x3.t.n x3.t.c, .bool x3.l.s, .slice x3.l.a x3.l.n x3.l.c] 26) = v4 from hV.symm]
  have KG := Lib.hid (KG.out.trans (hbV.mono KG.out.size))
  clear hV hbV
  go_wp2_with fail
  have CT := Lib.hid (qalive v4 (HT.out.on KG.out))
  with_reducible refine CT.out.mono ?_
  rintro e w5 ⟨rfl, hb⟩
  clear CT
  have BX1 := Lib.hid (BX1.out.below hb BX1.out.lt)
  have BX2 := Lib.hid (BX2.out.below hb BX2.out.lt)
  have BX3 := Lib.hid (BX3.out.below hb BX3.out.lt)
  have KG := Lib.hid (KG.out.trans (hb.mono KG.out.size))
  clear hb
  have cBX10 := BX1.out.cell (i := 0) rfl
  have cBX11 := BX1.out.cell (i := 1) rfl
  have cBX12 := BX1.out.cell (i := 2) rfl
  have cBX13 := BX1.out.cell (i := 3) rfl
  have cBX1f := BX1.out.fz
  have cBX1l := BX1.out.lt
  have cBX20 := BX2.out.cell (i := 0) rfl
  have cBX21 := BX2.out.cell (i := 1) rfl
  have cBX22 := BX2.out.cell (i := 2) rfl
  have cBX23 := BX2.out.cell (i := 3) rfl
  have cBX2f := BX2.out.fz
  have cBX2l := BX2.out.lt
  have cBX30 := BX3.out.cell (i := 0) rfl
  have cBX31 := BX3.out.cell (i := 1) rfl
  have cBX32 := BX3.out.cell (i := 2) rfl
  have cBX33 := BX3.out.cell (i := 3) rfl
  have cBX3f := BX3.out.fz
  have cBX3l := BX3.out.lt
  go_wp2_with fail
  clear cBX10 cBX11 cBX12 cBX13 cBX1f cBX1l
  clear cBX20 cBX21 cBX22 cBX23 cBX2f cBX2l
  clear cBX30 cBX31 cBX32 cBX33 cBX3f cBX3l
  obtain ⟨v7, hV⟩ : ∃ V, V = w5.alloc (.cells #[.bool x1.t.s, .slice x1.t.a x1.t.n x1.t.c, .bool x1.l.s, .slice x1.l.a x1.l.n x1.l.c, .bool x2.t.s, .slice x2.t.a x2.t.n x2.t.c, .bool x2.l.s, .slice x2.l.a x2.l.n x2.l.c, .bool x3.t.s, .slice x3.t.a x3.t.n x3.t.c, .bool x3.l.s, .slice x3.l.a x3.l.n x3.l.c] 26) := ⟨_, rfl⟩
  have hbV : Below w5.heap.size w5 v7 := by rw [hV]; exact ((Below.refl _ _).alloc (Nat.le_refl _) _)
  have BX6 := Lib.hid (show Bxs v7 (w5.heap.size) 26 [.bool x1.t.s, .slice x1.t.a x1.t.n x1.t.c, .bool x1.l.s, .slice x1.l.a x1.l.n x1.l.c, .bool x2.t.s, .slice x2.t.a x2.t.n x2.t.c, .bool x2.l.s, .slice x2.l.a x2.l.n x2.l.c, .bool x3.t.s, .slice x3.t.a x3.t.n x3.t.c, .bool x3.l.s, .slice x3.l.a x3.l.n x3.l.c] by have h := Bxs.new (w5) 26 [.bool x1.t.s, .slice x1.t.a x1.t.n x1.t.c, .bool x1.l.s, .slice x1.l.a x1.l.n x1.l.c, .bool x2.t.s, .slice x2.t.a x2.t.n x2.t.c, .bool x2.l.s, .slice x2.l.a x2.l.n x2.l.c, .bool x3.t.s, .slice x3.t.a x3.t.n x3.t.c, .bool x3.l.s, .slice x3.l.a x3.l.n x3.l.c]; rw [hV]; exact h)
  rw [show w5.alloc (.cells #[.bool x1.t.s, .slice x1.t.a x1.t.n x1.t.c, .bool x1.l.s, .slice x1.l.a x1.l.n x1.l.c, .bool x2.t.s, .slice x2.t.a x2.t.n x2.t.c, .bool x2.l.s, .slice x2.l.a x2.l.n x2.l.c, .bool x3.t.s, .slice x3.t.a x3.t.n x3.t.c, .bool x3.l.s, .slice x3.l.a x3.l.n x3.l.c] 26) = v7 from hV.symm]
  have BX1 := Lib.hid (BX1.out.below hbV BX1.out.lt)
  have BX2 := Lib.hid (BX2.out.below hbV BX2.out.lt)
  have BX3 := Lib.hid (BX3.out.below hbV BX3.out.lt)
  have KG := Lib.hid (KG.out.trans (hbV.mono KG.out.size))
  clear hV hbV
  have cBX10 := BX1.out.cell (i := 0) rfl
  have cBX11 := BX1.out.cell (i := 1) rfl
  have cBX12 := BX1.out.cell (i := 2) rfl
  have cBX13 := BX1.out.cell (i := 3) rfl
  have cBX1f := BX1.out.fz
  have cBX1l := BX1.out.lt
  have cBX20 := BX2.out.cell (i := 0) rfl
  have cBX21 := BX2.out.cell (i := 1) rfl
  have cBX22 := BX2.out.cell (i := 2) rfl
  have cBX23 := BX2.out.cell (i := 3) rfl
  have cBX2f := BX2.out.fz
  have cBX2l := BX2.out.lt
  have cBX30 := BX3.out.cell (i := 0) rfl
  have cBX31 := BX3.out.cell (i := 1) rfl
  have cBX32 := BX3.out.cell (i := 2) rfl
  have cBX33 := BX3.out.cell (i := 3) rfl
  have cBX3f := BX3.out.fz
  have cBX3l := BX3.out.lt
  have CT := Lib.hid (qgreat3 (M := 8) BX6.out)
  rw [show ((8 : Nat) : Int) = 8 from rfl, show decide ((8 < x1.t.n ∨ 8 < x1.l.n) ∨ (8 < x2.t.n ∨ 8 < x2.l.n) ∨ (8 < x3.t.n ∨ 8 < x3.l.n)) = true from decide_eq_true HG.out] at CT
  with_reducible refine CT.out.mono ?_
  rintro e w8 ⟨rfl, hb⟩
  clear CT
  clear cBX10 cBX11 cBX12 cBX13 cBX1f cBX1l
  clear cBX20 cBX21 cBX22 cBX23 cBX2f cBX2l
  clear cBX30 cBX31 cBX32 cBX33 cBX3f cBX3l
  clear BX1
  clear BX2
  clear BX3
  clear BX6
  have KG := Lib.hid (KG.out.trans (hb.mono KG.out.size))
  clear hb
  go_wp2_with fail
  have CT := Lib.hid (qalive w8 (HT.out.on KG.out))
  with_reducible refine CT.out.mono ?_
  rintro e w9 ⟨rfl, hb⟩
  clear CT
  have KG := Lib.hid (KG.out.trans (hb.mono KG.out.size))
  clear hb
  go_wp2_with fail
  go_ret
  exact ⟨rfl, KG.out⟩
set_option maxRecDepth 100000 in
set_option maxHeartbeats 8000000 in
theorem field_ok (x1 x2 x3 : FV) (p1 p2 p3 : Rat) (w : World) (htab : Tab w) (h1 : AF w x1 p1) (h2 : AF w x2 p2) (h3 : AF w x3 p3) (b1 : LF x1 8) (b2 : LF x2 8) (b3 : LF x3 8) : Calls Tryz.prog 5 #[x1.v, x2.v, x3.v] w fun e w' => e = .returned (.bool true) ∧ Below w.heap.size w w' := by
  have HT := Lib.hid htab
  have KG := Lib.hid (Below.refl w.heap.size w)
  have N1 := Lib.hid h1
  have N2 := Lib.hid h2
  have N3 := Lib.hid h3
  have Bx1 := Lib.hid b1
  have LQp1 := Lib.hid (h1.len b1)
  have Bx2 := Lib.hid b2
  have LQp2 := Lib.hid (h2.len b2)
  have Bx3 := Lib.hid b3
  have LQp3 := Lib.hid (h3.len b3)
  clear htab h1 h2 h3 b1 b2 b3
  obtain ⟨q9, hq9⟩ : ∃ z : Rat, z = p1 + p2 := ⟨_, rfl⟩
  have Hq9 := Lib.hid hq9
  have LQq9 := Lib.hid (show LQ q9 19 by rw [hq9]; exact LQ.add (LQp1.out.up (by decide : _ ≤ 9)) (LQp2.out.up (by decide : _ ≤ 9)) (by decide))
  clear hq9
  obtain ⟨q15, hq15⟩ : ∃ z : Rat, z = p1 * p2 := ⟨_, rfl⟩
  have Hq15 := Lib.hid hq15
  have LQq15 := Lib.hid (show LQ q15 18 by rw [hq15]; exact LQ.mul (LQp1.out.up (by decide : _ ≤ 9)) (LQp2.out.up (by decide : _ ≤ 9)) (by decide))
  clear hq15
  obtain ⟨q21, hq21⟩ : ∃ z : Rat, z = p2 + p1 := ⟨_, rfl⟩
  have Hq21 := Lib.hid hq21
  have LQq21 := Lib.hid (show LQ q21 19 by rw [hq21]; exact LQ.add (LQp2.out.up (by decide : _ ≤ 9)) (LQp1.out.up (by decide : _ ≤ 9)) (by decide))
  clear hq21
  obtain ⟨q22, hq22⟩ : ∃ z : Rat, z = p2 * p1 := ⟨_, rfl⟩
  have Hq22 := Lib.hid hq22
  have LQq22 := Lib.hid (show LQ q22 18 by rw [hq22]; exact LQ.mul (LQp2.out.up (by decide : _ ≤ 9)) (LQp1.out.up (by decide : _ ≤ 9)) (by decide))
  clear hq22
  obtain ⟨q23, hq23⟩ : ∃ z : Rat, z = q9 + p3 := ⟨_, rfl⟩
  have Hq23 := Lib.hid hq23
  have LQq23 := Lib.hid (show LQ q23 39 by rw [hq23]; exact LQ.add (LQq9.out.up (by decide : _ ≤ 19)) (LQp3.out.up (by decide : _ ≤ 19)) (by decide))
  clear hq23
  obtain ⟨q24, hq24⟩ : ∃ z : Rat, z = p2 + p3 := ⟨_, rfl⟩
  have Hq24 := Lib.hid hq24
  have LQq24 := Lib.hid (show LQ q24 19 by rw [hq24]; exact LQ.add (LQp2.out.up (by decide : _ ≤ 9)) (LQp3.out.up (by decide : _ ≤ 9)) (by decide))
  clear hq24
  obtain ⟨q25, hq25⟩ : ∃ z : Rat, z = p1 + q24 := ⟨_, rfl⟩
  have Hq25 := Lib.hid hq25
  have LQq25 := Lib.hid (show LQ q25 39 by rw [hq25]; exact LQ.add (LQp1.out.up (by decide : _ ≤ 19)) (LQq24.out.up (by decide : _ ≤ 19)) (by decide))
  clear hq25
  obtain ⟨q26, hq26⟩ : ∃ z : Rat, z = q15 * p3 := ⟨_, rfl⟩
  have Hq26 := Lib.hid hq26
  have LQq26 := Lib.hid (show LQ q26 36 by rw [hq26]; exact LQ.mul (LQq15.out.up (by decide : _ ≤ 18)) (LQp3.out.up (by decide : _ ≤ 18)) (by decide))
  clear hq26
  obtain ⟨q27, hq27⟩ : ∃ z : Rat, z = p2 * p3 := ⟨_, rfl⟩
  have Hq27 := Lib.hid hq27
  have LQq27 := Lib.hid (show LQ q27 18 by rw [hq27]; exact LQ.mul (LQp2.out.up (by decide : _ ≤ 9)) (LQp3.out.up (by decide : _ ≤ 9)) (by decide))
  clear hq27
  obtain ⟨q28, hq28⟩ : ∃ z : Rat, z = p1 * q27 := ⟨_, rfl⟩
  have Hq28 := Lib.hid hq28
  have LQq28 := Lib.hid (show LQ q28 36 by rw [hq28]; exact LQ.mul (LQp1.out.up (by decide : _ ≤ 18)) (LQq27.out.up (by decide : _ ≤ 18)) (by decide))
  clear hq28
  obtain ⟨q29, hq29⟩ : ∃ z : Rat, z = q9 * p3 := ⟨_, rfl⟩
  have Hq29 := Lib.hid hq29
  have LQq29 := Lib.hid (show LQ q29 38 by rw [hq29]; exact LQ.mul (LQq9.out.up (by decide : _ ≤ 19)) (LQp3.out.up (by decide : _ ≤ 19)) (by decide))
  clear hq29
  obtain ⟨q30, hq30⟩ : ∃ z : Rat, z = p1 * p3 := ⟨_, rfl⟩
  have Hq30 := Lib.hid hq30
  have LQq30 := Lib.hid (show LQ q30 18 by rw [hq30]; exact LQ.mul (LQp1.out.up (by decide : _ ≤ 9)) (LQp3.out.up (by decide : _ ≤ 9)) (by decide))
  clear hq30
  obtain ⟨q31, hq31⟩ : ∃ z : Rat, z = q30 + q27 := ⟨_, rfl⟩
  have Hq31 := Lib.hid hq31
  have LQq31 := Lib.hid (show LQ q31 37 by rw [hq31]; exact LQ.add (LQq30.out.up (by decide : _ ≤ 18)) (LQq27.out.up (by decide : _ ≤ 18)) (by decide))
  clear hq31
  go_enter Tryz.func5, Tryz.ntmps5
  go_upto_region 1 with (fail)
  obtain ⟨v4, hV⟩ : ∃ V, V = ((w.alloc (.cells #[.bool x1.t.s, .slice x1.t.a x1.t.n x1.t.c, .bool x1.l.s, .slice x1.l.a x1.l.n x1.l.c] 26)).alloc (.cells #[.bool x2.t.s, .slice x2.t.a x2.t.n x2.t.c, .bool x2.l.s, .slice x2.l.a x2.l.n x2.l.c] 26)).alloc (.cells #[.bool x3.t.s, .slice x3.t.a x3.t.n x3.t.c, .bool x3.l.s, .slice x3.l.a x3.l.n x3.l.c] 26) := ⟨_, rfl⟩
  have hbV : Below w.heap.size w v4 := by rw [hV]; exact ((((Below.refl _ _).alloc (Nat.le_refl _) _).alloc (by go_size) _).alloc (by go_size) _)
  have BX1 := Lib.hid (show Bxs v4 (w.heap.size) 26 [.bool x1.t.s, .slice x1.t.a x1.t.n x1.t.c, .bool x1.l.s, .slice x1.l.a x1.l.n x1.l.c] by have h := ((Bxs.new (w) 26 [.bool x1.t.s, .slice x1.t.a x1.t.n x1.t.c, .bool x1.l.s, .slice x1.l.a x1.l.n x1.l.c]).alloc (.cells #[.bool x2.t.s, .slice x2.t.a x2.t.n x2.t.c, .bool x2.l.s, .slice x2.l.a x2.l.n x2.l.c] 26)).alloc (.cells #[.bool x3.t.s, .slice x3.t.a x3.t.n x3.t.c, .bool x3.l.s, .slice x3.l.a x3.l.n x3.l.c] 26); rw [hV]; exact h)
  have BX2 := Lib.hid (show Bxs v4 (w.heap.size + 1) 26 [.bool x2.t.s, .slice x2.t.a x2.t.n x2.t.c, .bool x2.l.s, .slice x2.l.a x2.l.n x2.l.c] by have h := (Bxs.new (w.alloc (.cells #[.bool x1.t.s, .slice x1.t.a x1.t.n x1.t.c, .bool x1.l.s, .slice x1.l.a x1.l.n x1.l.c] 26)) 26 [.bool x2.t.s, .slice x2.t.a x2.t.n x2.t.c, .bool x2.l.s, .slice x2.l.a x2.l.n x2.l.c]).alloc (.cells #[.bool x3.t.s, .slice x3.t.a x3.t.n x3.t.c, .bool x3.l.s, .slice x3.l.a x3.l.n x3.l.c] 26); simp only [World.size_alloc] at h; rw [hV]; exact h)
  have BX3 := Lib.hid (show Bxs v4 (w.heap.size + 1 + 1) 26 [.bool x3.t.s, .slice x3.t.a x3.t.n x3.t.c, .bool x3.l.s, .slice x3.l.a x3.l.n x3.l.c] by have h := Bxs.new ((w.alloc (.cells #[.bool x1.t.s, .slice x1.t.a x1.t.n x1.t.c, .bool x1.l.s, .slice x1.l.a x1.l.n x1.l.c] 26)).alloc (.cells #[.bool x2.t.s, .slice x2.t.a x2.t.n x2.t.c, .bool x2.l.s, .slice x2.l.a x2.l.n x2.l.c] 26)) 26 [.bool x3.t.s, .slice x3.t.a x3.t.n x3.t.c, .bool x3.l.s, .slice x3.l.a x3.l.n x3.l.c]; simp only [World.size_alloc] at h; rw [hV]; exact h)
  rw [show ((w.alloc (.cells #[.bool x1.t.s, .slice x1.t.a x1.t.n x1.t.c, .bool x1.l.s, .slice x1.l.a x1.l.n x1.l.c] 26)).alloc (.cells #[.bool x2.t.s, .slice x2.t.a x2.t.n x2.t.c, .bool x2.l.s, .slice x2.l.a x2.l.n x2.l.c] 26)).alloc (.cells #[.bool x3.t.s, .slice x3.t.a x3.t.n x3.t.c, .bool x3.l.s, .slice x3.l.a x3.l.n x3.l.c] 26) = v4 from hV.symm]
  have KG := Lib.hid (KG.out.trans (hbV.mono KG.out.size))
  clear hV hbV
  go_wp2_with fail
  have CT := Lib.hid (qalive v4 (HT.out.on KG.out))
  with_reducible refine CT.out.mono ?_
  rintro e w5 ⟨rfl, hb⟩
  clear CT
  have BX1 := Lib.hid (BX1.out.below hb BX1.out.lt)
  have BX2 := Lib.hid (BX2.out.below hb BX2.out.lt)
  have BX3 := Lib.hid (BX3.out.below hb BX3.out.lt)
  have KG := Lib.hid (KG.out.trans (hb.mono KG.out.size))
  clear hb
  have cBX10 := BX1.out.cell (i := 0) rfl
  have cBX11 := BX1.out.cell (i := 1) rfl
  have cBX12 := BX1.out.cell (i := 2) rfl
  have cBX13 := BX1.out.cell (i := 3) rfl
  have cBX1f := BX1.out.fz
  have cBX1l := BX1.out.lt
  have cBX20 := BX2.out.cell (i := 0) rfl
  have cBX21 := BX2.out.cell (i := 1) rfl
  have cBX22 := BX2.out.cell (i := 2) rfl
  have cBX23 := BX2.out.cell (i := 3) rfl
  have cBX2f := BX2.out.fz
  have cBX2l := BX2.out.lt
  have cBX30 := BX3.out.cell (i := 0) rfl
  have cBX31 := BX3.out.cell (i := 1) rfl
  have cBX32 := BX3.out.cell (i := 2) rfl
  have cBX33 := BX3.out.cell (i := 3) rfl
  have cBX3f := BX3.out.fz
  have cBX3l := BX3.out.lt
  go_wp2_with fail
  clear cBX10 cBX11 cBX12 cBX13 cBX1f cBX1l
  clear cBX20 cBX21 cBX22 cBX23 cBX2f cBX2l
  clear cBX30 cBX31 cBX32 cBX33 cBX3f cBX3l
  obtain ⟨v7, hV⟩ : ∃ V, V = w5.alloc (.cells #[.bool x1.t.s, .slice x1.t.a x1.t.n x1.t.c, .bool x1.l.s, .slice x1.l.a x1.l.n x1.l.c, .bool x2.t.s, .slice x2.t.a x2.t.n x2.t.c, .bool x2.l.s, .slice x2.l.a x2.l.n x2.l.c, .bool x3.t.s, .slice x3.t.a x3.t.n x3.t.c, .bool x3.l.s, .slice x3.l.a x3.l.n x3.l.c] 26) := ⟨_, rfl⟩
  have hbV : Below w5.heap.size w5 v7 := by rw [hV]; exact ((Below.refl _ _).alloc (Nat.le_refl _) _)
  have BX6 := Lib.hid (show Bxs v7 (w5.heap.size) 26 [.bool x1.t.s, .slice x1.t.a x1.t.n x1.t.c, .bool x1.l.s, .slice x1.l.a x1.l.n x1.l.c, .bool x2.t.s, .slice x2.t.a x2.t.n x2.t.c, .bool x2.l.s, .slice x2.l.a x2.l.n x2.l.c, .bool x3.t.s, .slice x3.t.a x3.t.n x3.t.c, .bool x3.l.s, .slice x3.l.a x3.l.n x3.l.c] by have h := Bxs.new (w5) 26 [.bool x1.t.s, .slice x1.t.a x1.t.n x1.t.c, .bool x1.l.s, .slice x1.l.a x1.l.n x1.l.c, .bool x2.t.s, .slice x2.t.a x2.t.n x2.t.c, .bool x2.l.s, .slice x2.l.a x2.l.n x2.l.c, .bool x3.t.s, .slice x3.t.a x3.t.n x3.t.c, .bool x3.l.s, .slice x3.l.a x3.l.n x3.l.c]; rw [hV]; exact h)
  rw [show w5.alloc (.cells #[.bool x1.t.s, .slice x1.t.a x1.t.n x1.t.c, .bool x1.l.s, .slice x1.l.a x1.l.n x1.l.c, .bool x2.t.s, .slice x2.t.a x2.t.n x2.t.c, .bool x2.l.s, .slice x2.l.a x2.l.n x2.l.c, .bool x3.t.s, .slice x3.t.a x3.t.n x3.t.c, .bool x3.l.s, .slice x3.l.a x3.l.n x3.l.c] 26) = v7 from hV.symm]
  have BX1 := Lib.hid (BX1.out.below hbV BX1.out.lt)
  have BX2 := Lib.hid (BX2.out.below hbV BX2.out.lt)
  have BX3 := Lib.hid (BX3.out.below hbV BX3.out.lt)
  have KG := Lib.hid (KG.out.trans (hbV.mono KG.out.size))
  clear hV hbV
  have cBX10 := BX1.out.cell (i := 0) rfl
  have cBX11 := BX1.out.cell (i := 1) rfl
  have cBX12 := BX1.out.cell (i := 2) rfl
  have cBX13 := BX1.out.cell (i := 3) rfl
  have cBX1f := BX1.out.fz
  have cBX1l := BX1.out.lt
  have cBX20 := BX2.out.cell (i := 0) rfl
  have cBX21 := BX2.out.cell (i := 1) rfl
  have cBX22 := BX2.out.cell (i := 2) rfl
  have cBX23 := BX2.out.cell (i := 3) rfl
  have cBX2f := BX2.out.fz
  have cBX2l := BX2.out.lt
  have cBX30 := BX3.out.cell (i := 0) rfl
  have cBX31 := BX3.out.cell (i := 1) rfl
  have cBX32 := BX3.out.cell (i := 2) rfl
  have cBX33 := BX3.out.cell (i := 3) rfl
  have cBX3f := BX3.out.fz
  have cBX3l := BX3.out.lt
  have CT := Lib.hid (qgreat3 (M := 8) BX6.out)
  rw [show ((8 : Nat) : Int) = 8 from rfl, show decide ((8 < x1.t.n ∨ 8 < x1.l.n) ∨ (8 < x2.t.n ∨ 8 < x2.l.n) ∨ (8 < x3.t.n ∨ 8 < x3.l.n)) = false from decide_eq_false (by have g0 := Bx1.out; have g1 := Bx2.out; have g2 := Bx3.out; omega)] at CT
  with_reducible refine CT.out.mono ?_
  rintro e w8 ⟨rfl, hb⟩
  clear CT
  clear cBX10 cBX11 cBX12 cBX13 cBX1f cBX1l
  clear cBX20 cBX21 cBX22 cBX23 cBX2f cBX2l
  clear cBX30 cBX31 cBX32 cBX33 cBX3f cBX3l
  have BX1 := Lib.hid (BX1.out.below hb BX1.out.lt)
  have BX2 := Lib.hid (BX2.out.below hb BX2.out.lt)
  have BX3 := Lib.hid (BX3.out.below hb BX3.out.lt)
  clear BX6
  have KG := Lib.hid (KG.out.trans (hb.mono KG.out.size))
  clear hb
  have cBX10 := BX1.out.cell (i := 0) rfl
  have cBX11 := BX1.out.cell (i := 1) rfl
  have cBX12 := BX1.out.cell (i := 2) rfl
  have cBX13 := BX1.out.cell (i := 3) rfl
  have cBX1f := BX1.out.fz
  have cBX1l := BX1.out.lt
  have cBX20 := BX2.out.cell (i := 0) rfl
  have cBX21 := BX2.out.cell (i := 1) rfl
  have cBX22 := BX2.out.cell (i := 2) rfl
  have cBX23 := BX2.out.cell (i := 3) rfl
  have cBX2f := BX2.out.fz
  have cBX2l := BX2.out.lt
  go_wp2_with fail
  have CT := Lib.hid (qadd (N1.out.below KG.out) (LF.up Bx1.out (by decide : _ ≤ 900000)) (N2.out.below KG.out) (LF.up Bx2.out (by decide : _ ≤ 900000)))
  rw [show p1 + p2 = q9 from Hq9.out.symm] at CT
  with_reducible refine CT.out.mono ?_
  rintro e w10 ⟨x11, rfl, hN12, hb⟩
  have N12 := Lib.hid hN12
  clear hN12
  clear CT
  clear cBX10 cBX11 cBX12 cBX13 cBX1f cBX1l
  clear cBX20 cBX21 cBX22 cBX23 cBX2f cBX2l
  have BX1 := Lib.hid (BX1.out.below hb BX1.out.lt)
  have BX2 := Lib.hid (BX2.out.below hb BX2.out.lt)
  have BX3 := Lib.hid (BX3.out.below hb BX3.out.lt)
  have KG := Lib.hid (KG.out.trans (hb.mono KG.out.size))
  clear hb
  go_upto_region 4 with (fail)
  obtain ⟨v14, hV⟩ : ∃ V, V = w10.alloc (.cells #[.bool x11.t.s, .slice x11.t.a x11.t.n x11.t.c, .bool x11.l.s, .slice x11.l.a x11.l.n x11.l.c] 26) := ⟨_, rfl⟩
  have hbV : Below w10.heap.size w10 v14 := by rw [hV]; exact ((Below.refl _ _).alloc (Nat.le_refl _) _)
  have BX13 := Lib.hid (show Bxs v14 (w10.heap.size) 26 [.bool x11.t.s, .slice x11.t.a x11.t.n x11.t.c, .bool x11.l.s, .slice x11.l.a x11.l.n x11.l.c] by have h := Bxs.new (w10) 26 [.bool x11.t.s, .slice x11.t.a x11.t.n x11.t.c, .bool x11.l.s, .slice x11.l.a x11.l.n x11.l.c]; rw [hV]; exact h)
  rw [show w10.alloc (.cells #[.bool x11.t.s, .slice x11.t.a x11.t.n x11.t.c, .bool x11.l.s, .slice x11.l.a x11.l.n x11.l.c] 26) = v14 from hV.symm]
  have N12 := Lib.hid (N12.out.below hbV)
  have BX1 := Lib.hid (BX1.out.below hbV BX1.out.lt)
  have BX2 := Lib.hid (BX2.out.below hbV BX2.out.lt)
  have BX3 := Lib.hid (BX3.out.below hbV BX3.out.lt)
  have KG := Lib.hid (KG.out.trans (hbV.mono KG.out.size))
  clear hV hbV
  have cBX10 := BX1.out.cell (i := 0) rfl
  have cBX11 := BX1.out.cell (i := 1) rfl
  have cBX12 := BX1.out.cell (i := 2) rfl
  have cBX13 := BX1.out.cell (i := 3) rfl
  have cBX1f := BX1.out.fz
  have cBX1l := BX1.out.lt
  have cBX20 := BX2.out.cell (i := 0) rfl
  have cBX21 := BX2.out.cell (i := 1) rfl
  have cBX22 := BX2.out.cell (i := 2) rfl
  have cBX23 := BX2.out.cell (i := 3) rfl
  have cBX2f := BX2.out.fz
  have cBX2l := BX2.out.lt
  go_wp2_with fail
  have CT := Lib.hid (qmul (N1.out.below KG.out) (LF.up Bx1.out (by decide : _ ≤ 900000)) (N2.out.below KG.out) (LF.up Bx2.out (by decide : _ ≤ 900000)))
  rw [show p1 * p2 = q15 from Hq15.out.symm] at CT
  with_reducible refine CT.out.mono ?_
  rintro e w16 ⟨x17, rfl, hN18, hb⟩
  have N18 := Lib.hid hN18
  clear hN18
  clear CT
  clear cBX10 cBX11 cBX12 cBX13 cBX1f cBX1l
  clear cBX20 cBX21 cBX22 cBX23 cBX2f cBX2l
  have N12 := Lib.hid (N12.out.below hb)
  have BX1 := Lib.hid (BX1.out.below hb BX1.out.lt)
  have BX2 := Lib.hid (BX2.out.below hb BX2.out.lt)
  have BX3 := Lib.hid (BX3.out.below hb BX3.out.lt)
  have BX13 := Lib.hid (BX13.out.below hb BX13.out.lt)
  have KG := Lib.hid (KG.out.trans (hb.mono KG.out.size))
  clear hb
  go_upto_region 5 with (fail)
  obtain ⟨v20, hV⟩ : ∃ V, V = w16.alloc (.cells #[.bool x17.t.s, .slice x17.t.a x17.t.n x17.t.c, .bool x17.l.s, .slice x17.l.a x17.l.n x17.l.c] 26) := ⟨_, rfl⟩
  have hbV : Below w16.heap.size w16 v20 := by rw [hV]; exact ((Below.refl _ _).alloc (Nat.le_refl _) _)
  have BX19 := Lib.hid (show Bxs v20 (w16.heap.size) 26 [.bool x17.t.s, .slice x17.t.a x17.t.n x17.t.c, .bool x17.l.s, .slice x17.l.a x17.l.n x17.l.c] by have h := Bxs.new (w16) 26 [.bool x17.t.s, .slice x17.t.a x17.t.n x17.t.c, .bool x17.l.s, .slice x17.l.a x17.l.n x17.l.c]; rw [hV]; exact h)
  rw [show w16.alloc (.cells #[.bool x17.t.s, .slice x17.t.a x17.t.n x17.t.c, .bool x17.l.s, .slice x17.l.a x17.l.n x17.l.c] 26) = v20 from hV.symm]
  have N12 := Lib.hid (N12.out.below hbV)
  have N18 := Lib.hid (N18.out.below hbV)
  have BX1 := Lib.hid (BX1.out.below hbV BX1.out.lt)
  have BX2 := Lib.hid (BX2.out.below hbV BX2.out.lt)
  have BX3 := Lib.hid (BX3.out.below hbV BX3.out.lt)
  have BX13 := Lib.hid (BX13.out.below hbV BX13.out.lt)
  have KG := Lib.hid (KG.out.trans (hbV.mono KG.out.size))
  clear hV hbV
  go_upto_region 5 with (fail)
  refine Go.FreshS.wp_region_fresh 55 [] (Go.FreshS.spOf [(1, Go.FreshS.Sp.know (.bool true)), (4, Go.FreshS.Sp.know (.bool true)), (10, Go.FreshS.Sp.made (fun x : FV => x.v) (fun x w' => DF w' v20.heap.size x q21) FV.blk), (11, Go.FreshS.Sp.know (.bool true)), (17, Go.FreshS.Sp.made (fun x : FV => x.v) (fun x w' => DF w' v20.heap.size x q22) FV.blk), (18, Go.FreshS.Sp.know (.bool true)), (23, Go.FreshS.Sp.made (fun x : FV => x.v) (fun x w' => DF w' v20.heap.size x q23) FV.blk), (27, Go.FreshS.Sp.made (fun x : FV => x.v) (fun x w' => DF w' v20.heap.size x q24) FV.blk), (28, Go.FreshS.Sp.made (fun x : FV => x.v) (fun x w' => DF w' v20.heap.size x q25) FV.blk), (29, Go.FreshS.Sp.know (.bool true)), (34, Go.FreshS.Sp.made (fun x : FV => x.v) (fun x w' => DF w' v20.heap.size x q26) FV.blk), (38, Go.FreshS.Sp.made (fun x : FV => x.v) (fun x w' => DF w' v20.heap.size x q27) FV.blk), (39, Go.FreshS.Sp.made (fun x : FV => x.v) (fun x w' => DF w' v20.heap.size x q28) FV.blk), (40, Go.FreshS.Sp.know (.bool true)), (45, Go.FreshS.Sp.made (fun x : FV => x.v) (fun x w' => DF w' v20.heap.size x q29) FV.blk), (48, Go.FreshS.Sp.made (fun x : FV => x.v) (fun x w' => DF w' v20.heap.size x q30) FV.blk), (51, Go.FreshS.Sp.made (fun x : FV => x.v) (fun x w' => DF w' v20.heap.size x q27) FV.blk), (52, Go.FreshS.Sp.made (fun x : FV => x.v) (fun x w' => DF w' v20.heap.size x q31) FV.blk), (53, Go.FreshS.Sp.know (.bool true))])
    (fun w' => Below v20.heap.size v20 w') (by kernel_rfl) (by kernel_rfl) (by kernel_rfl)
    (Go.FreshS.spOf_cons (Go.FreshS.Sp.know_keeps _ _) (Go.FreshS.spOf_cons (Go.FreshS.Sp.know_keeps _ _) (Go.FreshS.spOf_cons (Go.FreshS.Sp.made_keeps _ (fun _ _ _ h _ hk => h.kept hk) (Go.FreshS.notTaken (by kernel_rfl))) (Go.FreshS.spOf_cons (Go.FreshS.Sp.know_keeps _ _) (Go.FreshS.spOf_cons (Go.FreshS.Sp.made_keeps _ (fun _ _ _ h _ hk => h.kept hk) (Go.FreshS.notTaken (by kernel_rfl))) (Go.FreshS.spOf_cons (Go.FreshS.Sp.know_keeps _ _) (Go.FreshS.spOf_cons (Go.FreshS.Sp.made_keeps _ (fun _ _ _ h _ hk => h.kept hk) (Go.FreshS.notTaken (by kernel_rfl))) (Go.FreshS.spOf_cons (Go.FreshS.Sp.made_keeps _ (fun _ _ _ h _ hk => h.kept hk) (Go.FreshS.notTaken (by kernel_rfl))) (Go.FreshS.spOf_cons (Go.FreshS.Sp.made_keeps _ (fun _ _ _ h _ hk => h.kept hk) (Go.FreshS.notTaken (by kernel_rfl))) (Go.FreshS.spOf_cons (Go.FreshS.Sp.know_keeps _ _) (Go.FreshS.spOf_cons (Go.FreshS.Sp.made_keeps _ (fun _ _ _ h _ hk => h.kept hk) (Go.FreshS.notTaken (by kernel_rfl))) (Go.FreshS.spOf_cons (Go.FreshS.Sp.made_keeps _ (fun _ _ _ h _ hk => h.kept hk) (Go.FreshS.notTaken (by kernel_rfl))) (Go.FreshS.spOf_cons (Go.FreshS.Sp.made_keeps _ (fun _ _ _ h _ hk => h.kept hk) (Go.FreshS.notTaken (by kernel_rfl))) (Go.FreshS.spOf_cons (Go.FreshS.Sp.know_keeps _ _) (Go.FreshS.spOf_cons (Go.FreshS.Sp.made_keeps _ (fun _ _ _ h _ hk => h.kept hk) (Go.FreshS.notTaken (by kernel_rfl))) (Go.FreshS.spOf_cons (Go.FreshS.Sp.made_keeps _ (fun _ _ _ h _ hk => h.kept hk) (Go.FreshS.notTaken (by kernel_rfl))) (Go.FreshS.spOf_cons (Go.FreshS.Sp.made_keeps _ (fun _ _ _ h _ hk => h.kept hk) (Go.FreshS.notTaken (by kernel_rfl))) (Go.FreshS.spOf_cons (Go.FreshS.Sp.made_keeps _ (fun _ _ _ h _ hk => h.kept hk) (Go.FreshS.notTaken (by kernel_rfl))) (Go.FreshS.spOf_cons (Go.FreshS.Sp.know_keeps _ _) (Go.FreshS.spOf_nil)))))))))))))))))))) (fun _ _ h hb => h.trans (hb.mono h.size)) ((Below.refl _ _).drew) ?_
  simp only [List.append_eq, List.cons_append, List.nil_append, List.take_succ_cons, List.take_zero, List.drop_succ_cons, List.drop_zero]
  refine Go.FreshS.wpF_reads rfl rfl rfl ?_ (fun w' hw' => ?_) ?_
  rotate_left
  · have hb' := hw'.world
    have hs0 := (BX13.out.below hb' BX13.out.lt).cell (i := 0) rfl
    have hs1 := (BX13.out.below hb' BX13.out.lt).cell (i := 1) rfl
    have hs2 := (BX13.out.below hb' BX13.out.lt).cell (i := 2) rfl
    have hs3 := (BX13.out.below hb' BX13.out.lt).cell (i := 3) rfl
    have hsf := (BX13.out.below hb' BX13.out.lt).fz
    have hsl := (BX13.out.below hb' BX13.out.lt).lt
    clear hw'
    go_simp
    try rfl
  conv => arg 10; simp only [Act.put, List.setIfInBounds_toArray, List.set_cons_succ, List.set_cons_zero]
  refine Go.FreshS.wpF_spec rfl rfl rfl (fun w' hw' => ?_) ?_
  · have hb' := hw'.world
    refine Go.FreshS.gives_of (Go.FreshS.PK (.bool true)) ?_ (fun _ _ h => h.post)
    go_simp
    have CT := qcheck ((N12.out.below hb')).k ((((N12.out.below hb')).k).len LQq9.out (by decide : _ ≤ 900000))
    refine CT.mono ?_
    rintro e w'' ⟨rfl, hb⟩
    exact ⟨_, rfl, rfl, hb⟩
  rintro _ rfl
  conv => arg 10; simp only [Act.put, List.setIfInBounds_toArray, List.set_cons_succ, List.set_cons_zero]
  refine Go.FreshS.wpF_reads rfl rfl rfl ?_ (fun w' hw' => ?_) ?_
  rotate_left
  · have hb' := hw'.world
    skip
    clear hw'
    go_simp
    try rfl
  conv => arg 10; simp only [Act.put, List.setIfInBounds_toArray, List.set_cons_succ, List.set_cons_zero]
  refine Go.FreshS.wpF_readsG (by rfl) rfl rfl ?_ (fun w' hw' => ?_) ?_
  rotate_left
  · have hb' := hw'.world
    have hs0 := (BX19.out.below hb' BX19.out.lt).cell (i := 0) rfl
    have hs1 := (BX19.out.below hb' BX19.out.lt).cell (i := 1) rfl
    have hs2 := (BX19.out.below hb' BX19.out.lt).cell (i := 2) rfl
    have hs3 := (BX19.out.below hb' BX19.out.lt).cell (i := 3) rfl
    have hsf := (BX19.out.below hb' BX19.out.lt).fz
    have hsl := (BX19.out.below hb' BX19.out.lt).lt
    clear hw'
    go_simp
    try rfl
  conv => arg 10; simp only [Act.put, List.setIfInBounds_toArray, List.set_cons_succ, List.set_cons_zero]
  refine Go.FreshS.wpF_gspec (by rfl) rfl rfl (fun w' hw' => ?_) ?_
  · have hb' := hw'.world
    refine Go.FreshS.gives_of (Go.FreshS.PK (.bool true)) ?_ (fun _ _ h => h.post)
    go_simp
    have CT := qcheck ((N18.out.below hb')).k ((((N18.out.below hb')).k).len LQq15.out (by decide : _ ≤ 900000))
    refine CT.mono ?_
    rintro e w'' ⟨rfl, hb⟩
    exact ⟨_, rfl, rfl, hb⟩
  rintro _ rfl
  conv => arg 10; simp only [Act.put, List.setIfInBounds_toArray, List.set_cons_succ, List.set_cons_zero]
  refine Go.FreshS.wpF_reads rfl rfl rfl ?_ (fun w' hw' => ?_) ?_
  rotate_left
  · have hb' := hw'.world
    skip
    clear hw'
    go_simp
    try rfl
  conv => arg 10; simp only [Act.put, List.setIfInBounds_toArray, List.set_cons_succ, List.set_cons_zero]
  refine Go.FreshS.wpF_reads rfl rfl rfl ?_ (fun w' hw' => ?_) ?_
  rotate_left
  · have hb' := hw'.world
    skip
    clear hw'
    go_simp
    try rfl
  conv => arg 10; simp only [Act.put, List.setIfInBounds_toArray, List.set_cons_succ, List.set_cons_zero]
  refine Go.FreshS.wpF_readsG (by rfl) rfl rfl ?_ (fun w' hw' => ?_) ?_
  rotate_left
  · have hb' := hw'.world
    have hs0 := (BX13.out.below hb' BX13.out.lt).cell (i := 0) rfl
    have hs1 := (BX13.out.below hb' BX13.out.lt).cell (i := 1) rfl
    have hs2 := (BX13.out.below hb' BX13.out.lt).cell (i := 2) rfl
    have hs3 := (BX13.out.below hb' BX13.out.lt).cell (i := 3) rfl
    have hsf := (BX13.out.below hb' BX13.out.lt).fz
    have hsl := (BX13.out.below hb' BX13.out.lt).lt
    clear hw'
    go_simp
    try rfl
  conv => arg 10; simp only [Act.put, List.setIfInBounds_toArray, List.set_cons_succ, List.set_cons_zero]
  refine Go.FreshS.wpF_readsG (by rfl) rfl rfl ?_ (fun w' hw' => ?_) ?_
  rotate_left
  · have hb' := hw'.world
    have hs0 := (BX2.out.below hb' BX2.out.lt).cell (i := 0) rfl
    have hs1 := (BX2.out.below hb' BX2.out.lt).cell (i := 1) rfl
    have hs2 := (BX2.out.below hb' BX2.out.lt).cell (i := 2) rfl
    have hs3 := (BX2.out.below hb' BX2.out.lt).cell (i := 3) rfl
    have hsf := (BX2.out.below hb' BX2.out.lt).fz
    have hsl := (BX2.out.below hb' BX2.out.lt).lt
    clear hw'
    go_simp
    try rfl
  conv => arg 10; simp only [Act.put, List.setIfInBounds_toArray, List.set_cons_succ, List.set_cons_zero]
  refine Go.FreshS.wpF_readsG (by rfl) rfl rfl ?_ (fun w' hw' => ?_) ?_
  rotate_left
  · have hb' := hw'.world
    have hs0 := (BX1.out.below hb' BX1.out.lt).cell (i := 0) rfl
    have hs1 := (BX1.out.below hb' BX1.out.lt).cell (i := 1) rfl
    have hs2 := (BX1.out.below hb' BX1.out.lt).cell (i := 2) rfl
    have hs3 := (BX1.out.below hb' BX1.out.lt).cell (i := 3) rfl
    have hsf := (BX1.out.below hb' BX1.out.lt).fz
    have hsl := (BX1.out.below hb' BX1.out.lt).lt
    clear hw'
    go_simp
    try rfl
  conv => arg 10; simp only [Act.put, List.setIfInBounds_toArray, List.set_cons_succ, List.set_cons_zero]
  refine Go.FreshS.wpF_gspec (by rfl) rfl rfl (fun w' hw' => ?_) ?_
  · have hb' := hw'.world
    refine Go.FreshS.gives_of (Go.FreshS.PM (fun x : FV => x.v) (fun x w' => DF w' v20.heap.size x q21) FV.blk w'.heap.size) ?_ (fun _ _ h => h.post (fun _ _ => FV.inj))
    go_simp
    have CT := qadd (N2.out.below (KG.out.trans (hb'.mono KG.out.size))) (LF.up Bx2.out (by decide : _ ≤ 900000)) (N1.out.below (KG.out.trans (hb'.mono KG.out.size))) (LF.up Bx1.out (by decide : _ ≤ 900000))
    rw [show p2 + p1 = q21 from Hq21.out.symm] at CT
    refine CT.mono ?_
    rintro e w'' ⟨za, rfl, ho, hb⟩
    exact ⟨_, rfl, ⟨za, rfl, ho.mono hb'.size, ho.blks⟩, hb⟩
  rintro _ ⟨y10, rfl⟩
  conv => arg 10; simp only [Act.put, List.setIfInBounds_toArray, List.set_cons_succ, List.set_cons_zero]
  refine Go.FreshS.wpF_gspec (by rfl) rfl rfl (fun w' hw' => ?_) ?_
  · have hb' := hw'.world
    refine Go.FreshS.gives_of (Go.FreshS.PK (.bool true)) ?_ (fun _ _ h => h.post)
    go_simp
    have f10 := Go.FreshS.made_of (val := (fun x : FV => x.v)) (Φ := fun x w' => DF w' v20.heap.size x q21) (fun _ _ => FV.inj) (hw'.fact 10 (by kernel_rfl))
    have CT := qsame ((N12.out.below hb')).k ((((N12.out.below hb')).k).len LQq9.out (by decide : _ ≤ 900000)) (f10).k (((f10).k).len LQq21.out (by decide : _ ≤ 900000)) (by simp only [Hq21.out, Hq15.out, Hq9.out]; (try simp only [qc01, qc11, qci1]); grind)
    refine CT.mono ?_
    rintro e w'' ⟨rfl, hb⟩
    exact ⟨_, rfl, rfl, hb⟩
  rintro _ rfl
  conv => arg 10; simp only [Act.put, List.setIfInBounds_toArray, List.set_cons_succ, List.set_cons_zero]
  refine Go.FreshS.wpF_reads rfl rfl rfl ?_ (fun w' hw' => ?_) ?_
  rotate_left
  · have hb' := hw'.world
    skip
    clear hw'
    go_simp
    try rfl
  conv => arg 10; simp only [Act.put, List.setIfInBounds_toArray, List.set_cons_succ, List.set_cons_zero]
  refine Go.FreshS.wpF_reads rfl rfl rfl ?_ (fun w' hw' => ?_) ?_
  rotate_left
  · have hb' := hw'.world
    skip
    clear hw'
    go_simp
    try rfl
  conv => arg 10; simp only [Act.put, List.setIfInBounds_toArray, List.set_cons_succ, List.set_cons_zero]
  refine Go.FreshS.wpF_readsG (by rfl) rfl rfl ?_ (fun w' hw' => ?_) ?_
  rotate_left
  · have hb' := hw'.world
    have hs0 := (BX19.out.below hb' BX19.out.lt).cell (i := 0) rfl
    have hs1 := (BX19.out.below hb' BX19.out.lt).cell (i := 1) rfl
    have hs2 := (BX19.out.below hb' BX19.out.lt).cell (i := 2) rfl
    have hs3 := (BX19.out.below hb' BX19.out.lt).cell (i := 3) rfl
    have hsf := (BX19.out.below hb' BX19.out.lt).fz
    have hsl := (BX19.out.below hb' BX19.out.lt).lt
    clear hw'
    go_simp
    try rfl
  conv => arg 10; simp only [Act.put, List.setIfInBounds_toArray, List.set_cons_succ, List.set_cons_zero]
  refine Go.FreshS.wpF_readsG (by rfl) rfl rfl ?_ (fun w' hw' => ?_) ?_
  rotate_left
  · have hb' := hw'.world
    have hs0 := (BX2.out.below hb' BX2.out.lt).cell (i := 0) rfl
    have hs1 := (BX2.out.below hb' BX2.out.lt).cell (i := 1) rfl
    have hs2 := (BX2.out.below hb' BX2.out.lt).cell (i := 2) rfl
    have hs3 := (BX2.out.below hb' BX2.out.lt).cell (i := 3) rfl
    have hsf := (BX2.out.below hb' BX2.out.lt).fz
    have hsl := (BX2.out.below hb' BX2.out.lt).lt
    clear hw'
    go_simp
    try rfl
  conv => arg 10; simp only [Act.put, List.setIfInBounds_toArray, List.set_cons_succ, List.set_cons_zero]
  refine Go.FreshS.wpF_readsG (by rfl) rfl rfl ?_ (fun w' hw' => ?_) ?_
  rotate_left
  · have hb' := hw'.world
    have hs0 := (BX1.out.below hb' BX1.out.lt).cell (i := 0) rfl
    have hs1 := (BX1.out.below hb' BX1.out.lt).cell (i := 1) rfl
    have hs2 := (BX1.out.below hb' BX1.out.lt).cell (i := 2) rfl
    have hs3 := (BX1.out.below hb' BX1.out.lt).cell (i := 3) rfl
    have hsf := (BX1.out.below hb' BX1.out.lt).fz
    have hsl := (BX1.out.below hb' BX1.out.lt).lt
    clear hw'
    go_simp
    try rfl
  conv => arg 10; simp only [Act.put, List.setIfInBounds_toArray, List.set_cons_succ, List.set_cons_zero]
  refine Go.FreshS.wpF_gspec (by rfl) rfl rfl (fun w' hw' => ?_) ?_
  · have hb' := hw'.world
    refine Go.FreshS.gives_of (Go.FreshS.PM (fun x : FV => x.v) (fun x w' => DF w' v20.heap.size x q22) FV.blk w'.heap.size) ?_ (fun _ _ h => h.post (fun _ _ => FV.inj))
    go_simp
    have CT := qmul (N2.out.below (KG.out.trans (hb'.mono KG.out.size))) (LF.up Bx2.out (by decide : _ ≤ 900000)) (N1.out.below (KG.out.trans (hb'.mono KG.out.size))) (LF.up Bx1.out (by decide : _ ≤ 900000))
    rw [show p2 * p1 = q22 from Hq22.out.symm] at CT
    refine CT.mono ?_
    rintro e w'' ⟨za, rfl, ho, hb⟩
    exact ⟨_, rfl, ⟨za, rfl, ho.mono hb'.size, ho.blks⟩, hb⟩
  rintro _ ⟨y17, rfl⟩
  conv => arg 10; simp only [Act.put, List.setIfInBounds_toArray, List.set_cons_succ, List.set_cons_zero]
  refine Go.FreshS.wpF_gspec (by rfl) rfl rfl (fun w' hw' => ?_) ?_
  · have hb' := hw'.world
    refine Go.FreshS.gives_of (Go.FreshS.PK (.bool true)) ?_ (fun _ _ h => h.post)
    go_simp
    have f17 := Go.FreshS.made_of (val := (fun x : FV => x.v)) (Φ := fun x w' => DF w' v20.heap.size x q22) (fun _ _ => FV.inj) (hw'.fact 17 (by kernel_rfl))
    have CT := qsame ((N18.out.below hb')).k ((((N18.out.below hb')).k).len LQq15.out (by decide : _ ≤ 900000)) (f17).k (((f17).k).len LQq22.out (by decide : _ ≤ 900000)) (by simp only [Hq22.out, Hq21.out, Hq15.out, Hq9.out]; (try simp only [qc01, qc11, qci1]); grind)
    refine CT.mono ?_
    rintro e w'' ⟨rfl, hb⟩
    exact ⟨_, rfl, rfl, hb⟩
  rintro _ rfl
  conv => arg 10; simp only [Act.put, List.setIfInBounds_toArray, List.set_cons_succ, List.set_cons_zero]
  refine Go.FreshS.wpF_reads rfl rfl rfl ?_ (fun w' hw' => ?_) ?_
  rotate_left
  · have hb' := hw'.world
    skip
    clear hw'
    go_simp
    try rfl
  conv => arg 10; simp only [Act.put, List.setIfInBounds_toArray, List.set_cons_succ, List.set_cons_zero]
  refine Go.FreshS.wpF_reads rfl rfl rfl ?_ (fun w' hw' => ?_) ?_
  rotate_left
  · have hb' := hw'.world
    skip
    clear hw'
    go_simp
    try rfl
  conv => arg 10; simp only [Act.put, List.setIfInBounds_toArray, List.set_cons_succ, List.set_cons_zero]
  refine Go.FreshS.wpF_readsG (by rfl) rfl rfl ?_ (fun w' hw' => ?_) ?_
  rotate_left
  · have hb' := hw'.world
    have hs0 := (BX13.out.below hb' BX13.out.lt).cell (i := 0) rfl
    have hs1 := (BX13.out.below hb' BX13.out.lt).cell (i := 1) rfl
    have hs2 := (BX13.out.below hb' BX13.out.lt).cell (i := 2) rfl
    have hs3 := (BX13.out.below hb' BX13.out.lt).cell (i := 3) rfl
    have hsf := (BX13.out.below hb' BX13.out.lt).fz
    have hsl := (BX13.out.below hb' BX13.out.lt).lt
    clear hw'
    go_simp
    try rfl
  conv => arg 10; simp only [Act.put, List.setIfInBounds_toArray, List.set_cons_succ, List.set_cons_zero]
  refine Go.FreshS.wpF_readsG (by rfl) rfl rfl ?_ (fun w' hw' => ?_) ?_
  rotate_left
  · have hb' := hw'.world
    have hs0 := (BX3.out.below hb' BX3.out.lt).cell (i := 0) rfl
    have hs1 := (BX3.out.below hb' BX3.out.lt).cell (i := 1) rfl
    have hs2 := (BX3.out.below hb' BX3.out.lt).cell (i := 2) rfl
    have hs3 := (BX3.out.below hb' BX3.out.lt).cell (i := 3) rfl
    have hsf := (BX3.out.below hb' BX3.out.lt).fz
    have hsl := (BX3.out.below hb' BX3.out.lt).lt
    clear hw'
    go_simp
    try rfl
  conv => arg 10; simp only [Act.put, List.setIfInBounds_toArray, List.set_cons_succ, List.set_cons_zero]
  refine Go.FreshS.wpF_gspec (by rfl) rfl rfl (fun w' hw' => ?_) ?_
  · have hb' := hw'.world
    refine Go.FreshS.gives_of (Go.FreshS.PM (fun x : FV => x.v) (fun x w' => DF w' v20.heap.size x q23) FV.blk w'.heap.size) ?_ (fun _ _ h => h.post (fun _ _ => FV.inj))
    go_simp
    have CT := qadd ((N12.out.below hb')).k.any ((((N12.out.below hb')).k).len LQq9.out (by decide : _ ≤ 900000)) (N3.out.below (KG.out.trans (hb'.mono KG.out.size))) (LF.up Bx3.out (by decide : _ ≤ 900000))
    rw [show q9 + p3 = q23 from Hq23.out.symm] at CT
    refine CT.mono ?_
    rintro e w'' ⟨za, rfl, ho, hb⟩
    exact ⟨_, rfl, ⟨za, rfl, ho.mono hb'.size, ho.blks⟩, hb⟩
  rintro _ ⟨y23, rfl⟩
  conv => arg 10; simp only [Act.put, List.setIfInBounds_toArray, List.set_cons_succ, List.set_cons_zero]
  refine Go.FreshS.wpF_readsG (by rfl) rfl rfl ?_ (fun w' hw' => ?_) ?_
  rotate_left
  · have hb' := hw'.world
    have hs0 := (BX1.out.below hb' BX1.out.lt).cell (i := 0) rfl
    have hs1 := (BX1.out.below hb' BX1.out.lt).cell (i := 1) rfl
    have hs2 := (BX1.out.below hb' BX1.out.lt).cell (i := 2) rfl
    have hs3 := (BX1.out.below hb' BX1.out.lt).cell (i := 3) rfl
    have hsf := (BX1.out.below hb' BX1.out.lt).fz
    have hsl := (BX1.out.below hb' BX1.out.lt).lt
    clear hw'
    go_simp
    try rfl
  conv => arg 10; simp only [Act.put, List.setIfInBounds_toArray, List.set_cons_succ, List.set_cons_zero]
  refine Go.FreshS.wpF_readsG (by rfl) rfl rfl ?_ (fun w' hw' => ?_) ?_
  rotate_left
  · have hb' := hw'.world
    have hs0 := (BX2.out.below hb' BX2.out.lt).cell (i := 0) rfl
    have hs1 := (BX2.out.below hb' BX2.out.lt).cell (i := 1) rfl
    have hs2 := (BX2.out.below hb' BX2.out.lt).cell (i := 2) rfl
    have hs3 := (BX2.out.below hb' BX2.out.lt).cell (i := 3) rfl
    have hsf := (BX2.out.below hb' BX2.out.lt).fz
    have hsl := (BX2.out.below hb' BX2.out.lt).lt
    clear hw'
    go_simp
    try rfl
  conv => arg 10; simp only [Act.put, List.setIfInBounds_toArray, List.set_cons_succ, List.set_cons_zero]
  refine Go.FreshS.wpF_readsG (by rfl) rfl rfl ?_ (fun w' hw' => ?_) ?_
  rotate_left
  · have hb' := hw'.world
    have hs0 := (BX3.out.below hb' BX3.out.lt).cell (i := 0) rfl
    have hs1 := (BX3.out.below hb' BX3.out.lt).cell (i := 1) rfl
    have hs2 := (BX3.out.below hb' BX3.out.lt).cell (i := 2) rfl
    have hs3 := (BX3.out.below hb' BX3.out.lt).cell (i := 3) rfl
    have hsf := (BX3.out.below hb' BX3.out.lt).fz
    have hsl := (BX3.out.below hb' BX3.out.lt).lt
    clear hw'
    go_simp
    try rfl
  conv => arg 10; simp only [Act.put, List.setIfInBounds_toArray, List.set_cons_succ, List.set_cons_zero]
  refine Go.FreshS.wpF_gspec (by rfl) rfl rfl (fun w' hw' => ?_) ?_
  · have hb' := hw'.world
    refine Go.FreshS.gives_of (Go.FreshS.PM (fun x : FV => x.v) (fun x w' => DF w' v20.heap.size x q24) FV.blk w'.heap.size) ?_ (fun _ _ h => h.post (fun _ _ => FV.inj))
    go_simp
    have CT := qadd (N2.out.below (KG.out.trans (hb'.mono KG.out.size))) (LF.up Bx2.out (by decide : _ ≤ 900000)) (N3.out.below (KG.out.trans (hb'.mono KG.out.size))) (LF.up Bx3.out (by decide : _ ≤ 900000))
    rw [show p2 + p3 = q24 from Hq24.out.symm] at CT
    refine CT.mono ?_
    rintro e w'' ⟨za, rfl, ho, hb⟩
    exact ⟨_, rfl, ⟨za, rfl, ho.mono hb'.size, ho.blks⟩, hb⟩
  rintro _ ⟨y27, rfl⟩
  conv => arg 10; simp only [Act.put, List.setIfInBounds_toArray, List.set_cons_succ, List.set_cons_zero]
  refine Go.FreshS.wpF_gspec (by rfl) rfl rfl (fun w' hw' => ?_) ?_
  · have hb' := hw'.world
    refine Go.FreshS.gives_of (Go.FreshS.PM (fun x : FV => x.v) (fun x w' => DF w' v20.heap.size x q25) FV.blk w'.heap.size) ?_ (fun _ _ h => h.post (fun _ _ => FV.inj))
    go_simp
    have f27 := Go.FreshS.made_of (val := (fun x : FV => x.v)) (Φ := fun x w' => DF w' v20.heap.size x q24) (fun _ _ => FV.inj) (hw'.fact 27 (by kernel_rfl))
    have CT := qadd (N1.out.below (KG.out.trans (hb'.mono KG.out.size))) (LF.up Bx1.out (by decide : _ ≤ 900000)) (f27).k.any (((f27).k).len LQq24.out (by decide : _ ≤ 900000))
    rw [show p1 + q24 = q25 from Hq25.out.symm] at CT
    refine CT.mono ?_
    rintro e w'' ⟨za, rfl, ho, hb⟩
    exact ⟨_, rfl, ⟨za, rfl, ho.mono hb'.size, ho.blks⟩, hb⟩
  rintro _ ⟨y28, rfl⟩
  conv => arg 10; simp only [Act.put, List.setIfInBounds_toArray, List.set_cons_succ, List.set_cons_zero]
  refine Go.FreshS.wpF_gspec (by rfl) rfl rfl (fun w' hw' => ?_) ?_
  · have hb' := hw'.world
    refine Go.FreshS.gives_of (Go.FreshS.PK (.bool true)) ?_ (fun _ _ h => h.post)
    go_simp
    have f23 := Go.FreshS.made_of (val := (fun x : FV => x.v)) (Φ := fun x w' => DF w' v20.heap.size x q23) (fun _ _ => FV.inj) (hw'.fact 23 (by kernel_rfl))
    have f28 := Go.FreshS.made_of (val := (fun x : FV => x.v)) (Φ := fun x w' => DF w' v20.heap.size x q25) (fun _ _ => FV.inj) (hw'.fact 28 (by kernel_rfl))
    have CT := qsame (f23).k (((f23).k).len LQq23.out (by decide : _ ≤ 900000)) (f28).k (((f28).k).len LQq25.out (by decide : _ ≤ 900000)) (by simp only [Hq25.out, Hq24.out, Hq23.out, Hq22.out, Hq21.out, Hq15.out, Hq9.out]; (try simp only [qc01, qc11, qci1]); grind)
    refine CT.mono ?_
    rintro e w'' ⟨rfl, hb⟩
    exact ⟨_, rfl, rfl, hb⟩
  rintro _ rfl
  conv => arg 10; simp only [Act.put, List.setIfInBounds_toArray, List.set_cons_succ, List.set_cons_zero]
  refine Go.FreshS.wpF_reads rfl rfl rfl ?_ (fun w' hw' => ?_) ?_
  rotate_left
  · have hb' := hw'.world
    skip
    clear hw'
    go_simp
    try rfl
  conv => arg 10; simp only [Act.put, List.setIfInBounds_toArray, List.set_cons_succ, List.set_cons_zero]
  refine Go.FreshS.wpF_reads rfl rfl rfl ?_ (fun w' hw' => ?_) ?_
  rotate_left
  · have hb' := hw'.world
    skip
    clear hw'
    go_simp
    try rfl
  conv => arg 10; simp only [Act.put, List.setIfInBounds_toArray, List.set_cons_succ, List.set_cons_zero]
  refine Go.FreshS.wpF_readsG (by rfl) rfl rfl ?_ (fun w' hw' => ?_) ?_
  rotate_left
  · have hb' := hw'.world
    have hs0 := (BX19.out.below hb' BX19.out.lt).cell (i := 0) rfl
    have hs1 := (BX19.out.below hb' BX19.out.lt).cell (i := 1) rfl
    have hs2 := (BX19.out.below hb' BX19.out.lt).cell (i := 2) rfl
    have hs3 := (BX19.out.below hb' BX19.out.lt).cell (i := 3) rfl
    have hsf := (BX19.out.below hb' BX19.out.lt).fz
    have hsl := (BX19.out.below hb' BX19.out.lt).lt
    clear hw'
    go_simp
    try rfl
  conv => arg 10; simp only [Act.put, List.setIfInBounds_toArray, List.set_cons_succ, List.set_cons_zero]
  refine Go.FreshS.wpF_readsG (by rfl) rfl rfl ?_ (fun w' hw' => ?_) ?_
  rotate_left
  · have hb' := hw'.world
    have hs0 := (BX3.out.below hb' BX3.out.lt).cell (i := 0) rfl
    have hs1 := (BX3.out.below hb' BX3.out.lt).cell (i := 1) rfl
    have hs2 := (BX3.out.below hb' BX3.out.lt).cell (i := 2) rfl
    have hs3 := (BX3.out.below hb' BX3.out.lt).cell (i := 3) rfl
    have hsf := (BX3.out.below hb' BX3.out.lt).fz
    have hsl := (BX3.out.below hb' BX3.out.lt).lt
    clear hw'
    go_simp
    try rfl
  conv => arg 10; simp only [Act.put, List.setIfInBounds_toArray, List.set_cons_succ, List.set_cons_zero]
  refine Go.FreshS.wpF_gspec (by rfl) rfl rfl (fun w' hw' => ?_) ?_
  · have hb' := hw'.world
    refine Go.FreshS.gives_of (Go.FreshS.PM (fun x : FV => x.v) (fun x w' => DF w' v20.heap.size x q26) FV.blk w'.heap.size) ?_ (fun _ _ h => h.post (fun _ _ => FV.inj))
    go_simp
    have CT := qmul ((N18.out.below hb')).k.any ((((N18.out.below hb')).k).len LQq15.out (by decide : _ ≤ 900000)) (N3.out.below (KG.out.trans (hb'.mono KG.out.size))) (LF.up Bx3.out (by decide : _ ≤ 900000))
    rw [show q15 * p3 = q26 from Hq26.out.symm] at CT
    refine CT.mono ?_
    rintro e w'' ⟨za, rfl, ho, hb⟩
    exact ⟨_, rfl, ⟨za, rfl, ho.mono hb'.size, ho.blks⟩, hb⟩
  rintro _ ⟨y34, rfl⟩
  conv => arg 10; simp only [Act.put, List.setIfInBounds_toArray, List.set_cons_succ, List.set_cons_zero]
  refine Go.FreshS.wpF_readsG (by rfl) rfl rfl ?_ (fun w' hw' => ?_) ?_
  rotate_left
  · have hb' := hw'.world
    have hs0 := (BX1.out.below hb' BX1.out.lt).cell (i := 0) rfl
    have hs1 := (BX1.out.below hb' BX1.out.lt).cell (i := 1) rfl
    have hs2 := (BX1.out.below hb' BX1.out.lt).cell (i := 2) rfl
    have hs3 := (BX1.out.below hb' BX1.out.lt).cell (i := 3) rfl
    have hsf := (BX1.out.below hb' BX1.out.lt).fz
    have hsl := (BX1.out.below hb' BX1.out.lt).lt
    clear hw'
    go_simp
    try rfl
  conv => arg 10; simp only [Act.put, List.setIfInBounds_toArray, List.set_cons_succ, List.set_cons_zero]
  refine Go.FreshS.wpF_readsG (by rfl) rfl rfl ?_ (fun w' hw' => ?_) ?_
  rotate_left
  · have hb' := hw'.world
    have hs0 := (BX2.out.below hb' BX2.out.lt).cell (i := 0) rfl
    have hs1 := (BX2.out.below hb' BX2.out.lt).cell (i := 1) rfl
    have hs2 := (BX2.out.below hb' BX2.out.lt).cell (i := 2) rfl
    have hs3 := (BX2.out.below hb' BX2.out.lt).cell (i := 3) rfl
    have hsf := (BX2.out.below hb' BX2.out.lt).fz
    have hsl := (BX2.out.below hb' BX2.out.lt).lt
    clear hw'
    go_simp
    try rfl
  conv => arg 10; simp only [Act.put, List.setIfInBounds_toArray, List.set_cons_succ, List.set_cons_zero]
  refine Go.FreshS.wpF_readsG (by rfl) rfl rfl ?_ (fun w' hw' => ?_) ?_
  rotate_left
  · have hb' := hw'.world
    have hs0 := (BX3.out.below hb' BX3.out.lt).cell (i := 0) rfl
    have hs1 := (BX3.out.below hb' BX3.out.lt).cell (i := 1) rfl
    have hs2 := (BX3.out.below hb' BX3.out.lt).cell (i := 2) rfl
    have hs3 := (BX3.out.below hb' BX3.out.lt).cell (i := 3) rfl
    have hsf := (BX3.out.below hb' BX3.out.lt).fz
    have hsl := (BX3.out.below hb' BX3.out.lt).lt
    clear hw'
    go_simp
    try rfl
  conv => arg 10; simp only [Act.put, List.setIfInBounds_toArray, List.set_cons_succ, List.set_cons_zero]
  refine Go.FreshS.wpF_gspec (by rfl) rfl rfl (fun w' hw' => ?_) ?_
  · have hb' := hw'.world
    refine Go.FreshS.gives_of (Go.FreshS.PM (fun x : FV => x.v) (fun x w' => DF w' v20.heap.size x q27) FV.blk w'.heap.size) ?_ (fun _ _ h => h.post (fun _ _ => FV.inj))
    go_simp
    have CT := qmul (N2.out.below (KG.out.trans (hb'.mono KG.out.size))) (LF.up Bx2.out (by decide : _ ≤ 900000)) (N3.out.below (KG.out.trans (hb'.mono KG.out.size))) (LF.up Bx3.out (by decide : _ ≤ 900000))
    rw [show p2 * p3 = q27 from Hq27.out.symm] at CT
    refine CT.mono ?_
    rintro e w'' ⟨za, rfl, ho, hb⟩
    exact ⟨_, rfl, ⟨za, rfl, ho.mono hb'.size, ho.blks⟩, hb⟩
  rintro _ ⟨y38, rfl⟩
  conv => arg 10; simp only [Act.put, List.setIfInBounds_toArray, List.set_cons_succ, List.set_cons_zero]
  refine Go.FreshS.wpF_gspec (by rfl) rfl rfl (fun w' hw' => ?_) ?_
  · have hb' := hw'.world
    refine Go.FreshS.gives_of (Go.FreshS.PM (fun x : FV => x.v) (fun x w' => DF w' v20.heap.size x q28) FV.blk w'.heap.size) ?_ (fun _ _ h => h.post (fun _ _ => FV.inj))
    go_simp
    have f38 := Go.FreshS.made_of (val := (fun x : FV => x.v)) (Φ := fun x w' => DF w' v20.heap.size x q27) (fun _ _ => FV.inj) (hw'.fact 38 (by kernel_rfl))
    have CT := qmul (N1.out.below (KG.out.trans (hb'.mono KG.out.size))) (LF.up Bx1.out (by decide : _ ≤ 900000)) (f38).k.any (((f38).k).len LQq27.out (by decide : _ ≤ 900000))
    rw [show p1 * q27 = q28 from Hq28.out.symm] at CT
    refine CT.mono ?_
    rintro e w'' ⟨za, rfl, ho, hb⟩
    exact ⟨_, rfl, ⟨za, rfl, ho.mono hb'.size, ho.blks⟩, hb⟩
  rintro _ ⟨y39, rfl⟩
  conv => arg 10; simp only [Act.put, List.setIfInBounds_toArray, List.set_cons_succ, List.set_cons_zero]
  refine Go.FreshS.wpF_gspec (by rfl) rfl rfl (fun w' hw' => ?_) ?_
  · have hb' := hw'.world
    refine Go.FreshS.gives_of (Go.FreshS.PK (.bool true)) ?_ (fun _ _ h => h.post)
    go_simp
    have f34 := Go.FreshS.made_of (val := (fun x : FV => x.v)) (Φ := fun x w' => DF w' v20.heap.size x q26) (fun _ _ => FV.inj) (hw'.fact 34 (by kernel_rfl))
    have f39 := Go.FreshS.made_of (val := (fun x : FV => x.v)) (Φ := fun x w' => DF w' v20.heap.size x q28) (fun _ _ => FV.inj) (hw'.fact 39 (by kernel_rfl))
    have CT := qsame (f34).k (((f34).k).len LQq26.out (by decide : _ ≤ 900000)) (f39).k (((f39).k).len LQq28.out (by decide : _ ≤ 900000)) (by simp only [Hq28.out, Hq27.out, Hq26.out, Hq25.out, Hq24.out, Hq23.out, Hq22.out, Hq21.out, Hq15.out, Hq9.out]; (try simp only [qc01, qc11, qci1]); grind)
    refine CT.mono ?_
    rintro e w'' ⟨rfl, hb⟩
    exact ⟨_, rfl, rfl, hb⟩
  rintro _ rfl
  conv => arg 10; simp only [Act.put, List.setIfInBounds_toArray, List.set_cons_succ, List.set_cons_zero]
  refine Go.FreshS.wpF_reads rfl rfl rfl ?_ (fun w' hw' => ?_) ?_
  rotate_left
  · have hb' := hw'.world
    skip
    clear hw'
    go_simp
    try rfl
  conv => arg 10; simp only [Act.put, List.setIfInBounds_toArray, List.set_cons_succ, List.set_cons_zero]
  refine Go.FreshS.wpF_reads rfl rfl rfl ?_ (fun w' hw' => ?_) ?_
  rotate_left
  · have hb' := hw'.world
    skip
    clear hw'
    go_simp
    try rfl
  conv => arg 10; simp only [Act.put, List.setIfInBounds_toArray, List.set_cons_succ, List.set_cons_zero]
  refine Go.FreshS.wpF_readsG (by rfl) rfl rfl ?_ (fun w' hw' => ?_) ?_
  rotate_left
  · have hb' := hw'.world
    have hs0 := (BX13.out.below hb' BX13.out.lt).cell (i := 0) rfl
    have hs1 := (BX13.out.below hb' BX13.out.lt).cell (i := 1) rfl
    have hs2 := (BX13.out.below hb' BX13.out.lt).cell (i := 2) rfl
    have hs3 := (BX13.out.below hb' BX13.out.lt).cell (i := 3) rfl
    have hsf := (BX13.out.below hb' BX13.out.lt).fz
    have hsl := (BX13.out.below hb' BX13.out.lt).lt
    clear hw'
    go_simp
    try rfl
  conv => arg 10; simp only [Act.put, List.setIfInBounds_toArray, List.set_cons_succ, List.set_cons_zero]
  refine Go.FreshS.wpF_readsG (by rfl) rfl rfl ?_ (fun w' hw' => ?_) ?_
  rotate_left
  · have hb' := hw'.world
    have hs0 := (BX3.out.below hb' BX3.out.lt).cell (i := 0) rfl
    have hs1 := (BX3.out.below hb' BX3.out.lt).cell (i := 1) rfl
    have hs2 := (BX3.out.below hb' BX3.out.lt).cell (i := 2) rfl
    have hs3 := (BX3.out.below hb' BX3.out.lt).cell (i := 3) rfl
    have hsf := (BX3.out.below hb' BX3.out.lt).fz
    have hsl := (BX3.out.below hb' BX3.out.lt).lt
    clear hw'
    go_simp
    try rfl
  conv => arg 10; simp only [Act.put, List.setIfInBounds_toArray, List.set_cons_succ, List.set_cons_zero]
  refine Go.FreshS.wpF_gspec (by rfl) rfl rfl (fun w' hw' => ?_) ?_
  · have hb' := hw'.world
    refine Go.FreshS.gives_of (Go.FreshS.PM (fun x : FV => x.v) (fun x w' => DF w' v20.heap.size x q29) FV.blk w'.heap.size) ?_ (fun _ _ h => h.post (fun _ _ => FV.inj))
    go_simp
    have CT := qmul ((N12.out.below hb')).k.any ((((N12.out.below hb')).k).len LQq9.out (by decide : _ ≤ 900000)) (N3.out.below (KG.out.trans (hb'.mono KG.out.size))) (LF.up Bx3.out (by decide : _ ≤ 900000))
    rw [show q9 * p3 = q29 from Hq29.out.symm] at CT
    refine CT.mono ?_
    rintro e w'' ⟨za, rfl, ho, hb⟩
    exact ⟨_, rfl, ⟨za, rfl, ho.mono hb'.size, ho.blks⟩, hb⟩
  rintro _ ⟨y45, rfl⟩
  conv => arg 10; simp only [Act.put, List.setIfInBounds_toArray, List.set_cons_succ, List.set_cons_zero]
  refine Go.FreshS.wpF_readsG (by rfl) rfl rfl ?_ (fun w' hw' => ?_) ?_
  rotate_left
  · have hb' := hw'.world
    have hs0 := (BX1.out.below hb' BX1.out.lt).cell (i := 0) rfl
    have hs1 := (BX1.out.below hb' BX1.out.lt).cell (i := 1) rfl
    have hs2 := (BX1.out.below hb' BX1.out.lt).cell (i := 2) rfl
    have hs3 := (BX1.out.below hb' BX1.out.lt).cell (i := 3) rfl
    have hsf := (BX1.out.below hb' BX1.out.lt).fz
    have hsl := (BX1.out.below hb' BX1.out.lt).lt
    clear hw'
    go_simp
    try rfl
  conv => arg 10; simp only [Act.put, List.setIfInBounds_toArray, List.set_cons_succ, List.set_cons_zero]
  refine Go.FreshS.wpF_readsG (by rfl) rfl rfl ?_ (fun w' hw' => ?_) ?_
  rotate_left
  · have hb' := hw'.world
    have hs0 := (BX3.out.below hb' BX3.out.lt).cell (i := 0) rfl
    have hs1 := (BX3.out.below hb' BX3.out.lt).cell (i := 1) rfl
    have hs2 := (BX3.out.below hb' BX3.out.lt).cell (i := 2) rfl
    have hs3 := (BX3.out.below hb' BX3.out.lt).cell (i := 3) rfl
    have hsf := (BX3.out.below hb' BX3.out.lt).fz
    have hsl := (BX3.out.below hb' BX3.out.lt).lt
    clear hw'
    go_simp
    try rfl
  conv => arg 10; simp only [Act.put, List.setIfInBounds_toArray, List.set_cons_succ, List.set_cons_zero]
  refine Go.FreshS.wpF_gspec (by rfl) rfl rfl (fun w' hw' => ?_) ?_
  · have hb' := hw'.world
    refine Go.FreshS.gives_of (Go.FreshS.PM (fun x : FV => x.v) (fun x w' => DF w' v20.heap.size x q30) FV.blk w'.heap.size) ?_ (fun _ _ h => h.post (fun _ _ => FV.inj))
    go_simp
    have CT := qmul (N1.out.below (KG.out.trans (hb'.mono KG.out.size))) (LF.up Bx1.out (by decide : _ ≤ 900000)) (N3.out.below (KG.out.trans (hb'.mono KG.out.size))) (LF.up Bx3.out (by decide : _ ≤ 900000))
    rw [show p1 * p3 = q30 from Hq30.out.symm] at CT
    refine CT.mono ?_
    rintro e w'' ⟨za, rfl, ho, hb⟩
    exact ⟨_, rfl, ⟨za, rfl, ho.mono hb'.size, ho.blks⟩, hb⟩
  rintro _ ⟨y48, rfl⟩
  conv => arg 10; simp only [Act.put, List.setIfInBounds_toArray, List.set_cons_succ, List.set_cons_zero]
  refine Go.FreshS.wpF_readsG (by rfl) rfl rfl ?_ (fun w' hw' => ?_) ?_
  rotate_left
  · have hb' := hw'.world
    have hs0 := (BX2.out.below hb' BX2.out.lt).cell (i := 0) rfl
    have hs1 := (BX2.out.below hb' BX2.out.lt).cell (i := 1) rfl
    have hs2 := (BX2.out.below hb' BX2.out.lt).cell (i := 2) rfl
    have hs3 := (BX2.out.below hb' BX2.out.lt).cell (i := 3) rfl
    have hsf := (BX2.out.below hb' BX2.out.lt).fz
    have hsl := (BX2.out.below hb' BX2.out.lt).lt
    clear hw'
    go_simp
    try rfl
  conv => arg 10; simp only [Act.put, List.setIfInBounds_toArray, List.set_cons_succ, List.set_cons_zero]
  refine Go.FreshS.wpF_readsG (by rfl) rfl rfl ?_ (fun w' hw' => ?_) ?_
  rotate_left
  · have hb' := hw'.world
    have hs0 := (BX3.out.below hb' BX3.out.lt).cell (i := 0) rfl
    have hs1 := (BX3.out.below hb' BX3.out.lt).cell (i := 1) rfl
    have hs2 := (BX3.out.below hb' BX3.out.lt).cell (i := 2) rfl
    have hs3 := (BX3.out.below hb' BX3.out.lt).cell (i := 3) rfl
    have hsf := (BX3.out.below hb' BX3.out.lt).fz
    have hsl := (BX3.out.below hb' BX3.out.lt).lt
    clear hw'
    go_simp
    try rfl
  conv => arg 10; simp only [Act.put, List.setIfInBounds_toArray, List.set_cons_succ, List.set_cons_zero]
  refine Go.FreshS.wpF_gspec (by rfl) rfl rfl (fun w' hw' => ?_) ?_
  · have hb' := hw'.world
    refine Go.FreshS.gives_of (Go.FreshS.PM (fun x : FV => x.v) (fun x w' => DF w' v20.heap.size x q27) FV.blk w'.heap.size) ?_ (fun _ _ h => h.post (fun _ _ => FV.inj))
    go_simp
    have CT := qmul (N2.out.below (KG.out.trans (hb'.mono KG.out.size))) (LF.up Bx2.out (by decide : _ ≤ 900000)) (N3.out.below (KG.out.trans (hb'.mono KG.out.size))) (LF.up Bx3.out (by decide : _ ≤ 900000))
    rw [show p2 * p3 = q27 from Hq27.out.symm] at CT
    refine CT.mono ?_
    rintro e w'' ⟨za, rfl, ho, hb⟩
    exact ⟨_, rfl, ⟨za, rfl, ho.mono hb'.size, ho.blks⟩, hb⟩
  rintro _ ⟨y51, rfl⟩
  conv => arg 10; simp only [Act.put, List.setIfInBounds_toArray, List.set_cons_succ, List.set_cons_zero]
  refine Go.FreshS.wpF_gspec (by rfl) rfl rfl (fun w' hw' => ?_) ?_
  · have hb' := hw'.world
    refine Go.FreshS.gives_of (Go.FreshS.PM (fun x : FV => x.v) (fun x w' => DF w' v20.heap.size x q31) FV.blk w'.heap.size) ?_ (fun _ _ h => h.post (fun _ _ => FV.inj))
    go_simp
    have f48 := Go.FreshS.made_of (val := (fun x : FV => x.v)) (Φ := fun x w' => DF w' v20.heap.size x q30) (fun _ _ => FV.inj) (hw'.fact 48 (by kernel_rfl))
    have f51 := Go.FreshS.made_of (val := (fun x : FV => x.v)) (Φ := fun x w' => DF w' v20.heap.size x q27) (fun _ _ => FV.inj) (hw'.fact 51 (by kernel_rfl))
    have CT := qadd (f48).k.any (((f48).k).len LQq30.out (by decide : _ ≤ 900000)) (f51).k.any (((f51).k).len LQq27.out (by decide : _ ≤ 900000))
    rw [show q30 + q27 = q31 from Hq31.out.symm] at CT
    refine CT.mono ?_
    rintro e w'' ⟨za, rfl, ho, hb⟩
    exact ⟨_, rfl, ⟨za, rfl, ho.mono hb'.size, ho.blks⟩, hb⟩
  rintro _ ⟨y52, rfl⟩
  conv => arg 10; simp only [Act.put, List.setIfInBounds_toArray, List.set_cons_succ, List.set_cons_zero]
  refine Go.FreshS.wpF_gspec (by rfl) rfl rfl (fun w' hw' => ?_) ?_
  · have hb' := hw'.world
    refine Go.FreshS.gives_of (Go.FreshS.PK (.bool true)) ?_ (fun _ _ h => h.post)
    go_simp
    have f45 := Go.FreshS.made_of (val := (fun x : FV => x.v)) (Φ := fun x w' => DF w' v20.heap.size x q29) (fun _ _ => FV.inj) (hw'.fact 45 (by kernel_rfl))
    have f52 := Go.FreshS.made_of (val := (fun x : FV => x.v)) (Φ := fun x w' => DF w' v20.heap.size x q31) (fun _ _ => FV.inj) (hw'.fact 52 (by kernel_rfl))
    have CT := qsame (f45).k (((f45).k).len LQq29.out (by decide : _ ≤ 900000)) (f52).k (((f52).k).len LQq31.out (by decide : _ ≤ 900000)) (by simp only [Hq31.out, Hq30.out, Hq29.out, Hq28.out, Hq27.out, Hq26.out, Hq25.out, Hq24.out, Hq23.out, Hq22.out, Hq21.out, Hq15.out, Hq9.out]; (try simp only [qc01, qc11, qci1]); grind)
    refine CT.mono ?_
    rintro e w'' ⟨rfl, hb⟩
    exact ⟨_, rfl, rfl, hb⟩
  rintro _ rfl
  conv => arg 10; simp only [Act.put, List.setIfInBounds_toArray, List.set_cons_succ, List.set_cons_zero]
  refine Go.FreshS.wpF_reads rfl rfl rfl ?_ (fun w' hw' => ?_) ?_
  rotate_left
  · have hb' := hw'.world
    skip
    clear hw'
    go_simp
    try rfl
  conv => arg 10; simp only [Act.put, List.setIfInBounds_toArray, List.set_cons_succ, List.set_cons_zero]
  refine Go.FreshS.wpF_nil (fun w32 hb hF => ?_)
  clear hF
  clear N12
  clear N18
  clear BX1
  clear BX2
  clear BX3
  clear BX13
  clear BX19
  have KG := Lib.hid (KG.out.trans (hb.mono KG.out.size))
  clear hb
  go_wp2_with fail
  go_ret
  exact ⟨rfl, KG.out⟩
theorem fracsField_law (s1 : Bool) (a1 : Option Addr) (n1 c1 : Nat) (o1 : Nat → Int) (s2 : Bool) (a2 : Option Addr) (n2 c2 : Nat) (o2 : Nat → Int) (s3 : Bool) (a3 : Option Addr) (n3 c3 : Nat) (o3 : Nat → Int) (s4 : Bool) (a4 : Option Addr) (n4 c4 : Nat) (o4 : Nat → Int) (s5 : Bool) (a5 : Option Addr) (n5 c5 : Nat) (o5 : Nat → Int) (s6 : Bool) (a6 : Option Addr) (n6 c6 : Nat) (o6 : Nat → Int) (w : World) (htab : Tab w) (h1 : Rd w a1 n1 o1) (hc1 : n1 ≤ c1) (h2 : Rd w a2 n2 o2) (hc2 : n2 ≤ c2) (h3 : Rd w a3 n3 o3) (hc3 : n3 ≤ c3) (h4 : Rd w a4 n4 o4) (hc4 : n4 ≤ c4) (h5 : Rd w a5 n5 o5) (hc5 : n5 ≤ c5) (h6 : Rd w a6 n6 o6) (hc6 : n6 ≤ c6) :
    Calls Tryz.prog 5 #[.agg #[.bool s1, .slice a1 n1 c1, .bool s2, .slice a2 n2 c2], .agg #[.bool s3, .slice a3 n3 c3, .bool s4, .slice a4 n4 c4], .agg #[.bool s5, .slice a5 n5 c5, .bool s6, .slice a6 n6 c6]] w fun e w' => e = .returned (.bool true) ∧ Below w.heap.size w w' := by
  by_cases hg : (8 < n1 ∨ 8 < n2) ∨ (8 < n3 ∨ 8 < n4) ∨ (8 < n5 ∨ 8 < n6)
  · exact field_great ⟨⟨s1, a1, n1, c1⟩, ⟨s2, a2, n2, c2⟩⟩ ⟨⟨s3, a3, n3, c3⟩, ⟨s4, a4, n4, c4⟩⟩ ⟨⟨s5, a5, n5, c5⟩, ⟨s6, a6, n6, c6⟩⟩ _ _ _ w htab (AF.raw h1 hc1 h2 hc2) (AF.raw h3 hc3 h4 hc4) (AF.raw h5 hc5 h6 hc6) hg
  · have b1 : n1 ≤ 8 ∧ n2 ≤ 8 := by omega
    have b2 : n3 ≤ 8 ∧ n4 ≤ 8 := by omega
    have b3 : n5 ≤ 8 ∧ n6 ≤ 8 := by omega
    exact field_ok ⟨⟨s1, a1, n1, c1⟩, ⟨s2, a2, n2, c2⟩⟩ ⟨⟨s3, a3, n3, c3⟩, ⟨s4, a4, n4, c4⟩⟩ ⟨⟨s5, a5, n5, c5⟩, ⟨s6, a6, n6, c6⟩⟩ _ _ _ w htab (AF.raw h1 hc1 h2 hc2) (AF.raw h3 hc3 h4 hc4) (AF.raw h5 hc5 h6 hc6) b1 b2 b3
end Go.Proofs.YtklidpbdgliemaaGreatDoor.Limb
namespace Go.Proofs.YtklidpbdgliemaaGreatDoor.Limb
open Go.RowKit Go.Sort

/-! ### The row and the card -/
open Go.ChangeShapes Go.WideShapes Go.ChangeAt
namespace FracsFieldC
theorem own : ownKnob Tryz.prog.godebug = none := by kernel_rfl
theorem laidOut : laidOutB Tryz.prog = true := by kernel_rfl

theorem tab_of_laid (W : World) (hL : laidMet Tryz.prog Rows.fracsFieldRow.laid W) : Tab W :=
  Lib.tabIs_of_head (g := 3) (by kernel_rfl) (by kernel_rfl) (t := 259) (n := 20) (e := 84) Tryz.underlying259 Tryz.underlying84 (by kernel_rfl) (by kernel_rfl) hL.tail.tail
/-- A WORLD FOR THE WITNESS: the settled one, the tables holding what their initialisers lay. -/
noncomputable def laidWorld (os : Os) : World := World.laidAll Tryz.prog os Rows.fracsFieldRow.laid
noncomputable def witArgs : Array Value := #[fracV false none 0 0 false none 0 0, fracV false none 0 0 false none 0 0, fracV false none 0 0 false none 0 0]
theorem laid_met (os : Os) : laidMet Tryz.prog Rows.fracsFieldRow.laid ((laidWorld os).forCall (fun _ _ => 0) ⟨#[], witArgs, []⟩).memory :=
  laidMet_laidAll _ (by kernel_rfl) (by kernel_rfl)
theorem reads (os : Os) {H : Type} (enc : TypeId × Value → H) : ∃ places, DataW.whole enc Tryz.prog ((laidWorld os).forCall (fun _ _ => 0) ⟨#[], witArgs, []⟩).memory Tryz.f5.params.toList Rows.fracsFieldSpec.vars false witArgs.toList 8 = some ([.agg [.agg [.lit (.bool false), .nil], .agg [.lit (.bool false), .nil]], .agg [.agg [.lit (.bool false), .nil], .agg [.lit (.bool false), .nil]], .agg [.agg [.lit (.bool false), .nil], .agg [.lit (.bool false), .nil]]], [], places) :=
  ⟨[], by kernel_rfl⟩

set_option maxRecDepth 100000 in
theorem lifted (os : Os) (started : os.Started) (H : Type) (enc : TypeId × Value → H) (F : Stop.Interp) :
    ReturnsInHanded {} Tryz.checked os 5 .any ((OpenSpec.ofChange Rows.fracsFieldSpec).preRow enc Tryz.prog Tryz.f5 Rows.fracsFieldRow.domain false Rows.fracsFieldRow.laid) (((OpenSpec.ofChange Rows.fracsFieldSpec).at F).post enc Tryz.prog Tryz.f5 false true false false) := by
  obtain ⟨places, hx⟩ := reads os enc
  refine returnsInHanded_of_row (C := Tryz.checked) (s := OpenSpec.ofChange Rows.fracsFieldSpec) own started (by kernel_rfl) Tryz.func5
    (witness_row_atRef (enc := enc) (C := Tryz.checked) false (laidWorld os) witArgs (World.laidAll_os _ _ _) (by kernel_rfl) (by kernel_rfl) (by kernel_rfl)
      (OpenSpec.preRow_of_cond 8 hx (by kernel_rfl) (fun k hk => by cases hk) (by kernel_rfl) (laid_met os))) ?_
  intro W base args ds gs before hval0 hW _ _ _ hL _ _
  rw [MakeChecks.laidMetH_plain _ _ _ (by kernel_rfl)] at hL
  have htab : Tab W := tab_of_laid W hL
  have hval : ∀ (j : Nat) t v, Tryz.f5.params[j]? = some t → args[j]? = some v → Value.okWide Tryz.prog W .any base t v := hval0
  have hW' := hW
  obtain ⟨p, q, hA0, hV, rfl, hfz, hnd⟩ := hW
  have hA : DataW.TrodAll enc Tryz.prog W 0 (fun _ => true) true Tryz.f5.params.toList args.toList ds p := hA0
  rw [Tryz.params5] at hA hval
  obtain ⟨v0, v1, v2, d0, d1, d2, p0, p1, p2, rfl, rfl, rfl, h0, h1, h2⟩ := trodAll_three hA
  obtain ⟨rfl, rfl⟩ := trodVars_none hV
  obtain ⟨s1, a1, n1, c1, o1, s2, a2, n2, c2, o2, rfl, r1, l1, r2, l2⟩ := open_frac (hval 0 26 v0 rfl rfl) h0
  obtain ⟨s3, a3, n3, c3, o3, s4, a4, n4, c4, o4, rfl, r3, l3, r4, l4⟩ := open_frac (hval 1 26 v1 rfl rfl) h1
  obtain ⟨s5, a5, n5, c5, o5, s6, a6, n6, c6, o6, rfl, r5, l5, r6, l6⟩ := open_frac (hval 2 26 v2 rfl rfl) h2
  refine (fracsField_law s1 a1 n1 c1 o1 s2 a2 n2 c2 o2 s3 a3 n3 c3 o3 s4 a4 n4 c4 o4 s5 a5 n5 c5 o5 s6 a6 n6 c6 o6 W htab r1 l1 r2 l2 r3 l3 r4 l4 r5 l5 r6 l6).mono fun e W' ⟨he, hg⟩ => ?_
  subst he
  exact ⟨_, rfl, LawPost.law_post laidOut (by kernel_rfl) (by kernel_rfl) Tryz.underlying4 hW' rfl rfl hg⟩

theorem said : Rows.FracsFieldSaid :=
  OpenClaim.holds_of_cond 5 Tryz.f5 rfl rfl rfl rfl rfl rfl rfl ⟨rfl, rfl, rfl, rfl, rfl⟩ rfl rfl rfl rfl rfl (by kernel_rfl) Tryz.func5 (by kernel_rfl)
    (of_decide_eq_true (by kernel_rfl)) (by unfold Func.isWrapper; first | (rw [if_pos (by decide +kernel)]; kernel_rfl) | (rw [if_neg (by decide +kernel)]; exact ⟨rfl, rfl⟩))
    (fun os started H enc _ F => by rw [OpenClaim.pre_eq_preRow]; exact lifted os started H enc F)

/-- No parameter wants a stand-in; the program's own looks are off: what the card asks. -/
theorem plain (f : FuncId) (fn : Func) (hf : Tryz.pinned.checked.prog.funcNamed "reckoner/reckonerlaw02.FracsField" = some f) (hfn : Tryz.pinned.checked.prog.funcs[f]? = some fn) :
    true = Tryz.pinned.checked.prog.looks [] ∧ ∀ (j : Nat) t, fn.params[j]? = some t → Tryz.pinned.checked.prog.wantsStandIn t = false := by
  obtain rfl : f = 5 := Option.some.inj ((show Tryz.prog.funcNamed "reckoner/reckonerlaw02.FracsField" = some 5 by kernel_rfl).symm.trans hf) |>.symm
  obtain rfl : fn = Tryz.f5 := (Option.some.inj (Tryz.func5.symm.trans hfn)).symm
  refine ⟨by kernel_rfl, fun j t ht => ?_⟩
  rw [Tryz.params5] at ht
  obtain rfl : t = 26 := by simpa using Array.mem_of_getElem? ht
  exact (show Tryz.prog.wantsStandIn 26 = false by kernel_rfl)

/-- The card. -/
theorem card : Rows.FracsFieldCardSaid :=
  Claim7.holds_tied_plain_at .later [] _ _ _ _ said (fun _ h => by cases h) (by kernel_rfl) (fun _ h => by cases h) fracsField_row_tie rfl ⟨rfl, rfl⟩ (by kernel_rfl) rfl plain (by kernel_rfl)
#print axioms card
end FracsFieldC
end Go.Proofs.YtklidpbdgliemaaGreatDoor.Limb
