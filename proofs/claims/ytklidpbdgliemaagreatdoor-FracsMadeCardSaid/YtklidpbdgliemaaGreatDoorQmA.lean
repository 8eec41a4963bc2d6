/-
  Of two numbers, both so many times, the fraction is the same; times the second one it is the first one.
-/
import Derived.Test.YtklidpbdgliemaaGreatDoorQoI
set_option linter.unusedSimpArgs false
set_option linter.unusedVariables false
namespace Go.Proofs.YtklidpbdgliemaaGreatDoor.Limb
open Go.RowKit Go.Sort

theorem made1 {a b : Int} (h : b ≠ 0) : (a : Rat) / (b : Rat) * ((b : Rat) / ((1 : Int) : Rat)) = (a : Rat) / ((1 : Int) : Rat) := by
  have hb : (b : Rat) ≠ 0 := by exact_mod_cast h
  rw [show ((1 : Int) : Rat) = 1 by decide +kernel]
  grind
theorem made2 {a b c : Int} (h : b ≠ 0) (k : c ≠ 0) : (a : Rat) / (b : Rat) = ((a * c : Int) : Rat) / ((b * c : Int) : Rat) := by
  have hb : (b : Rat) ≠ 0 := by exact_mod_cast h
  have hc : (c : Rat) ≠ 0 := by exact_mod_cast k
  rw [Rat.intCast_mul, Rat.intCast_mul]
  grind
set_option maxRecDepth 100000 in
set_option maxHeartbeats 8000000 in
theorem made_great1 (x1 x2 x3 : NV) (p1 p2 p3 : Int) (w : World) (htab : Tab w) (h1 : AN w x1 p1) (h2 : AN w x2 p2) (h3 : AN w x3 p3)  (hg : 8 < x1.n) : Calls Tryz.prog 6 #[x1.v, x2.v, x3.v] w fun e w' => e = .returned (.bool true) ∧ Below w.heap.size w w' := by
  have HT := Lib.hid htab
  have KG := Lib.hid (Below.refl w.heap.size w)
  have N1 := Lib.hid h1
  have N2 := Lib.hid h2
  have N3 := Lib.hid h3
  have HG := Lib.hid hg
  clear hg
  clear htab h1 h2 h3 
  go_enter Tryz.func6, Tryz.ntmps6
  go_upto_region 1 with (fail)
  obtain ⟨v4, hV⟩ : ∃ V, V = ((w.alloc (.cells #[.bool x1.s, .slice x1.a x1.n x1.c] 24)).alloc (.cells #[.bool x2.s, .slice x2.a x2.n x2.c] 24)).alloc (.cells #[.bool x3.s, .slice x3.a x3.n x3.c] 24) := ⟨_, rfl⟩
  have hbV : Below w.heap.size w v4 := by rw [hV]; exact ((((Below.refl _ _).alloc (Nat.le_refl _) _).alloc (by go_size) _).alloc (by go_size) _)
  have BX1 := Lib.hid (show Bxs v4 (w.heap.size) 24 [.bool x1.s, .slice x1.a x1.n x1.c] by have h := ((Bxs.new (w) 24 [.bool x1.s, .slice x1.a x1.n x1.c]).alloc (.cells #[.bool x2.s, .slice x2.a x2.n x2.c] 24)).alloc (.cells #[.bool x3.s, .slice x3.a x3.n x3.c] 24); rw [hV]; exact h)
  have BX2 := Lib.hid (show Bxs v4 (w.heap.size + 1) 24 [.bool x2.s, .slice x2.a x2.n x2.c] by have h := (Bxs.new (w.alloc (.cells #[.bool x1.s, .slice x1.a x1.n x1.c] 24)) 24 [.bool x2.s, .slice x2.a x2.n x2.c]).alloc (.cells #[.bool x3.s, .slice x3.a x3.n x3.c] 24); simp only [World.size_alloc] at h; rw [hV]; exact h)
  have BX3 := Lib.hid (show Bxs v4 (w.heap.size + 1 + 1) 24 [.bool x3.s, .slice x3.a x3.n x3.c] by have h := Bxs.new ((w.alloc (.cells #[.bool x1.s, .slice x1.a x1.n x1.c] 24)).alloc (.cells #[.bool x2.s, .slice x2.a x2.n x2.c] 24)) 24 [.bool x3.s, .slice x3.a x3.n x3.c]; simp only [World.size_alloc] at h; rw [hV]; exact h)
  rw [show ((w.alloc (.cells #[.bool x1.s, .slice x1.a x1.n x1.c] 24)).alloc (.cells #[.bool x2.s, .slice x2.a x2.n x2.c] 24)).alloc (.cells #[.bool x3.s, .slice x3.a x3.n x3.c] 24) = v4 from hV.symm]
  have KG := Lib.hid (KG.out.trans (hbV.mono KG.out.size))
  clear hV hbV
  clear BX2
  clear BX3
  have g1 : (x1.n : Int) > 8 := by have := HG.out; omega
  go_wp2_with fail
  have CT := Lib.hid (qalive v4 (HT.out.on KG.out))
  with_reducible refine CT.out.mono ?_
  rintro e w5 ⟨rfl, hb⟩
  clear CT
  have BX1 := Lib.hid (BX1.out.below hb BX1.out.lt)
  have KG := Lib.hid (KG.out.trans (hb.mono KG.out.size))
  clear hb
  have cBX10 := BX1.out.cell (i := 0) rfl
  have cBX11 := BX1.out.cell (i := 1) rfl
  have cBX1f := BX1.out.fz
  have cBX1l := BX1.out.lt
  go_wp2_with fail
  have CT := Lib.hid (qalive w5 (HT.out.on KG.out))
  with_reducible refine CT.out.mono ?_
  rintro e w6 ⟨rfl, hb⟩
  clear CT
  clear cBX10 cBX11 cBX1f cBX1l
  clear BX1
  have KG := Lib.hid (KG.out.trans (hb.mono KG.out.size))
  clear hb
  go_wp2_with fail
  go_ret
  exact ⟨rfl, KG.out⟩
set_option maxRecDepth 100000 in
set_option maxHeartbeats 8000000 in
theorem made_great2 (x1 x2 x3 : NV) (p1 p2 p3 : Int) (w : World) (htab : Tab w) (h1 : AN w x1 p1) (h2 : AN w x2 p2) (h3 : AN w x3 p3) (b1 : x1.n ≤ 8) (hg : 8 < x2.n) : Calls Tryz.prog 6 #[x1.v, x2.v, x3.v] w fun e w' => e = .returned (.bool true) ∧ Below w.heap.size w w' := by
  have HT := Lib.hid htab
  have KG := Lib.hid (Below.refl w.heap.size w)
  have N1 := Lib.hid h1
  have N2 := Lib.hid h2
  have N3 := Lib.hid h3
  have Bx1 := Lib.hid b1
  have HG := Lib.hid hg
  clear hg
  clear htab h1 h2 h3 b1
  go_enter Tryz.func6, Tryz.ntmps6
  go_upto_region 1 with (fail)
  obtain ⟨v4, hV⟩ : ∃ V, V = ((w.alloc (.cells #[.bool x1.s, .slice x1.a x1.n x1.c] 24)).alloc (.cells #[.bool x2.s, .slice x2.a x2.n x2.c] 24)).alloc (.cells #[.bool x3.s, .slice x3.a x3.n x3.c] 24) := ⟨_, rfl⟩
  have hbV : Below w.heap.size w v4 := by rw [hV]; exact ((((Below.refl _ _).alloc (Nat.le_refl _) _).alloc (by go_size) _).alloc (by go_size) _)
  have BX1 := Lib.hid (show Bxs v4 (w.heap.size) 24 [.bool x1.s, .slice x1.a x1.n x1.c] by have h := ((Bxs.new (w) 24 [.bool x1.s, .slice x1.a x1.n x1.c]).alloc (.cells #[.bool x2.s, .slice x2.a x2.n x2.c] 24)).alloc (.cells #[.bool x3.s, .slice x3.a x3.n x3.c] 24); rw [hV]; exact h)
  have BX2 := Lib.hid (show Bxs v4 (w.heap.size + 1) 24 [.bool x2.s, .slice x2.a x2.n x2.c] by have h := (Bxs.new (w.alloc (.cells #[.bool x1.s, .slice x1.a x1.n x1.c] 24)) 24 [.bool x2.s, .slice x2.a x2.n x2.c]).alloc (.cells #[.bool x3.s, .slice x3.a x3.n x3.c] 24); simp only [World.size_alloc] at h; rw [hV]; exact h)
  have BX3 := Lib.hid (show Bxs v4 (w.heap.size + 1 + 1) 24 [.bool x3.s, .slice x3.a x3.n x3.c] by have h := Bxs.new ((w.alloc (.cells #[.bool x1.s, .slice x1.a x1.n x1.c] 24)).alloc (.cells #[.bool x2.s, .slice x2.a x2.n x2.c] 24)) 24 [.bool x3.s, .slice x3.a x3.n x3.c]; simp only [World.size_alloc] at h; rw [hV]; exact h)
  rw [show ((w.alloc (.cells #[.bool x1.s, .slice x1.a x1.n x1.c] 24)).alloc (.cells #[.bool x2.s, .slice x2.a x2.n x2.c] 24)).alloc (.cells #[.bool x3.s, .slice x3.a x3.n x3.c] 24) = v4 from hV.symm]
  have KG := Lib.hid (KG.out.trans (hbV.mono KG.out.size))
  clear hV hbV
  clear BX3
  have g1 : ¬ (x1.n : Int) > 8 := by have := Bx1.out; omega
  have g2 : (x2.n : Int) > 8 := by have := HG.out; omega
  go_wp2_with fail
  have CT := Lib.hid (qalive v4 (HT.out.on KG.out))
  with_reducible refine CT.out.mono ?_
  rintro e w5 ⟨rfl, hb⟩
  clear CT
  have BX1 := Lib.hid (BX1.out.below hb BX1.out.lt)
  have BX2 := Lib.hid (BX2.out.below hb BX2.out.lt)
  have KG := Lib.hid (KG.out.trans (hb.mono KG.out.size))
  clear hb
  have cBX10 := BX1.out.cell (i := 0) rfl
  have cBX11 := BX1.out.cell (i := 1) rfl
  have cBX1f := BX1.out.fz
  have cBX1l := BX1.out.lt
  have cBX20 := BX2.out.cell (i := 0) rfl
  have cBX21 := BX2.out.cell (i := 1) rfl
  have cBX2f := BX2.out.fz
  have cBX2l := BX2.out.lt
  go_wp2_with fail
  have CT := Lib.hid (qalive w5 (HT.out.on KG.out))
  with_reducible refine CT.out.mono ?_
  rintro e w6 ⟨rfl, hb⟩
  clear CT
  clear cBX10 cBX11 cBX1f cBX1l
  clear cBX20 cBX21 cBX2f cBX2l
  clear BX1
  clear BX2
  have KG := Lib.hid (KG.out.trans (hb.mono KG.out.size))
  clear hb
  go_wp2_with fail
  go_ret
  exact ⟨rfl, KG.out⟩
set_option maxRecDepth 100000 in
set_option maxHeartbeats 8000000 in
theorem made_great3 (x1 x2 x3 : NV) (p1 p2 p3 : Int) (w : World) (htab : Tab w) (h1 : AN w x1 p1) (h2 : AN w x2 p2) (h3 : AN w x3 p3) (b1 : x1.n ≤ 8) (b2 : x2.n ≤ 8) (hg : 8 < x3.n) : Calls Tryz.prog 6 #[x1.v, x2.v, x3.v] w fun e w' => e = .returned (.bool true) ∧ Below w.heap.size w w' := by
  have HT := Lib.hid htab
  have KG := Lib.hid (Below.refl w.heap.size w)
  have N1 := Lib.hid h1
  have N2 := Lib.hid h2
  have N3 := Lib.hid h3
  have Bx1 := Lib.hid b1
  have Bx2 := Lib.hid b2
  have HG := Lib.hid hg
  clear hg
  clear htab h1 h2 h3 b1 b2
  go_enter Tryz.func6, Tryz.ntmps6
  go_upto_region 1 with (fail)
  obtain ⟨v4, hV⟩ : ∃ V, V = ((w.alloc (.cells #[.bool x1.s, .slice x1.a x1.n x1.c] 24)).alloc (.cells #[.bool x2.s, .slice x2.a x2.n x2.c] 24)).alloc (.cells #[.bool x3.s, .slice x3.a x3.n x3.c] 24) := ⟨_, rfl⟩
  have hbV : Below w.heap.size w v4 := by rw [hV]; exact ((((Below.refl _ _).alloc (Nat.le_refl _) _).alloc (by go_size) _).alloc (by go_size) _)
  have BX1 := Lib.hid (show Bxs v4 (w.heap.size) 24 [.bool x1.s, .slice x1.a x1.n x1.c] by have h := ((Bxs.new (w) 24 [.bool x1.s, .slice x1.a x1.n x1.c]).alloc (.cells #[.bool x2.s, .slice x2.a x2.n x2.c] 24)).alloc (.cells #[.bool x3.s, .slice x3.a x3.n x3.c] 24); rw [hV]; exact h)
  have BX2 := Lib.hid (show Bxs v4 (w.heap.size + 1) 24 [.bool x2.s, .slice x2.a x2.n x2.c] by have h := (Bxs.new (w.alloc (.cells #[.bool x1.s, .slice x1.a x1.n x1.c] 24)) 24 [.bool x2.s, .slice x2.a x2.n x2.c]).alloc (.cells #[.bool x3.s, .slice x3.a x3.n x3.c] 24); simp only [World.size_alloc] at h; rw [hV]; exact h)
  have BX3 := Lib.hid (show Bxs v4 (w.heap.size + 1 + 1) 24 [.bool x3.s, .slice x3.a x3.n x3.c] by have h := Bxs.new ((w.alloc (.cells #[.bool x1.s, .slice x1.a x1.n x1.c] 24)).alloc (.cells #[.bool x2.s, .slice x2.a x2.n x2.c] 24)) 24 [.bool x3.s, .slice x3.a x3.n x3.c]; simp only [World.size_alloc] at h; rw [hV]; exact h)
  rw [show ((w.alloc (.cells #[.bool x1.s, .slice x1.a x1.n x1.c] 24)).alloc (.cells #[.bool x2.s, .slice x2.a x2.n x2.c] 24)).alloc (.cells #[.bool x3.s, .slice x3.a x3.n x3.c] 24) = v4 from hV.symm]
  have KG := Lib.hid (KG.out.trans (hbV.mono KG.out.size))
  clear hV hbV
  have g1 : ¬ (x1.n : Int) > 8 := by have := Bx1.out; omega
  have g2 : ¬ (x2.n : Int) > 8 := by have := Bx2.out; omega
  have g3 : (x3.n : Int) > 8 := by have := HG.out; omega
  go_wp2_with fail
  have CT := Lib.hid (qalive v4 (HT.out.on KG.out))
  with_reducible refine CT.out.mono ?_
  rintro e w5 ⟨rfl, hb⟩
  clear CT
  have BX1 := Lib.hid (BX1.out.below hb BX1.out.lt)
  have BX2 := Lib.hid (BX2.out.below hb BX2.out.lt)
  have BX3 := Lib.hid (BX3.out.below hb BX3.out.lt)
  have KG := Lib.hid (KG.out.trans (hb.mono KG.out.size))
  clear hb
  have cBX10 := BX1.out.cell (i := 0) rfl
  have cBX11 := BX1.out.cell (i := 1) rfl
  have cBX1f := BX1.out.fz
  have cBX1l := BX1.out.lt
  have cBX20 := BX2.out.cell (i := 0) rfl
  have cBX21 := BX2.out.cell (i := 1) rfl
  have cBX2f := BX2.out.fz
  have cBX2l := BX2.out.lt
  have cBX30 := BX3.out.cell (i := 0) rfl
  have cBX31 := BX3.out.cell (i := 1) rfl
  have cBX3f := BX3.out.fz
  have cBX3l := BX3.out.lt
  go_wp2_with fail
  have CT := Lib.hid (qalive w5 (HT.out.on KG.out))
  with_reducible refine CT.out.mono ?_
  rintro e w6 ⟨rfl, hb⟩
  clear CT
  clear cBX10 cBX11 cBX1f cBX1l
  clear cBX20 cBX21 cBX2f cBX2l
  clear cBX30 cBX31 cBX3f cBX3l
  clear BX1
  clear BX2
  clear BX3
  have KG := Lib.hid (KG.out.trans (hb.mono KG.out.size))
  clear hb
  go_wp2_with fail
  go_ret
  exact ⟨rfl, KG.out⟩
set_option maxRecDepth 100000 in
set_option maxHeartbeats 8000000 in
theorem made_bad1 (x1 x2 x3 : NV) (p1 p2 p3 : Int) (w : World) (htab : Tab w) (h1 : XN w x1) (h2 : AN w x2 p2) (h3 : AN w x3 p3) (b1 : x1.n ≤ 8) (b2 : x2.n ≤ 8) (b3 : x3.n ≤ 8) : Calls Tryz.prog 6 #[x1.v, x2.v, x3.v] w fun e w' => e = .returned (.bool true) ∧ Below w.heap.size w w' := by
  have HT := Lib.hid htab
  have KG := Lib.hid (Below.refl w.heap.size w)
  have N1 := Lib.hid h1
  have N2 := Lib.hid h2
  have N3 := Lib.hid h3
  have Bx1 := Lib.hid b1
  have Bx2 := Lib.hid b2
  have Bx3 := Lib.hid b3
  clear htab h1 h2 h3 b1 b2 b3
  go_enter Tryz.func6, Tryz.ntmps6
  go_upto_region 1 with (fail)
  obtain ⟨v4, hV⟩ : ∃ V, V = ((w.alloc (.cells #[.bool x1.s, .slice x1.a x1.n x1.c] 24)).alloc (.cells #[.bool x2.s, .slice x2.a x2.n x2.c] 24)).alloc (.cells #[.bool x3.s, .slice x3.a x3.n x3.c] 24) := ⟨_, rfl⟩
  have hbV : Below w.heap.size w v4 := by rw [hV]; exact ((((Below.refl _ _).alloc (Nat.le_refl _) _).alloc (by go_size) _).alloc (by go_size) _)
  have BX1 := Lib.hid (show Bxs v4 (w.heap.size) 24 [.bool x1.s, .slice x1.a x1.n x1.c] by have h := ((Bxs.new (w) 24 [.bool x1.s, .slice x1.a x1.n x1.c]).alloc (.cells #[.bool x2.s, .slice x2.a x2.n x2.c] 24)).alloc (.cells #[.bool x3.s, .slice x3.a x3.n x3.c] 24); rw [hV]; exact h)
  have BX2 := Lib.hid (show Bxs v4 (w.heap.size + 1) 24 [.bool x2.s, .slice x2.a x2.n x2.c] by have h := (Bxs.new (w.alloc (.cells #[.bool x1.s, .slice x1.a x1.n x1.c] 24)) 24 [.bool x2.s, .slice x2.a x2.n x2.c]).alloc (.cells #[.bool x3.s, .slice x3.a x3.n x3.c] 24); simp only [World.size_alloc] at h; rw [hV]; exact h)
  have BX3 := Lib.hid (show Bxs v4 (w.heap.size + 1 + 1) 24 [.bool x3.s, .slice x3.a x3.n x3.c] by have h := Bxs.new ((w.alloc (.cells #[.bool x1.s, .slice x1.a x1.n x1.c] 24)).alloc (.cells #[.bool x2.s, .slice x2.a x2.n x2.c] 24)) 24 [.bool x3.s, .slice x3.a x3.n x3.c]; simp only [World.size_alloc] at h; rw [hV]; exact h)
  rw [show ((w.alloc (.cells #[.bool x1.s, .slice x1.a x1.n x1.c] 24)).alloc (.cells #[.bool x2.s, .slice x2.a x2.n x2.c] 24)).alloc (.cells #[.bool x3.s, .slice x3.a x3.n x3.c] 24) = v4 from hV.symm]
  have KG := Lib.hid (KG.out.trans (hbV.mono KG.out.size))
  clear hV hbV
  have g1 : ¬ (x1.n : Int) > 8 := by have := Bx1.out; omega
  have g2 : ¬ (x2.n : Int) > 8 := by have := Bx2.out; omega
  have g3 : ¬ (x3.n : Int) > 8 := by have := Bx3.out; omega
  go_wp2_with fail
  have CT := Lib.hid (qalive v4 (HT.out.on KG.out))
  with_reducible refine CT.out.mono ?_
  rintro e w5 ⟨rfl, hb⟩
  clear CT
  have BX1 := Lib.hid (BX1.out.below hb BX1.out.lt)
  have BX2 := Lib.hid (BX2.out.below hb BX2.out.lt)
  have BX3 := Lib.hid (BX3.out.below hb BX3.out.lt)
  have KG := Lib.hid (KG.out.trans (hb.mono KG.out.size))
  clear hb
  have cBX10 := BX1.out.cell (i := 0) rfl
  have cBX11 := BX1.out.cell (i := 1) rfl
  have cBX1f := BX1.out.fz
  have cBX1l := BX1.out.lt
  have cBX20 := BX2.out.cell (i := 0) rfl
  have cBX21 := BX2.out.cell (i := 1) rfl
  have cBX2f := BX2.out.fz
  have cBX2l := BX2.out.lt
  have cBX30 := BX3.out.cell (i := 0) rfl
  have cBX31 := BX3.out.cell (i := 1) rfl
  have cBX3f := BX3.out.fz
  have cBX3l := BX3.out.lt
  go_wp2_with fail
  have CT := Lib.hid (checkBN (N1.out.below KG.out) (show x1.n ≤ 10000000 from Nat.le_trans Bx1.out (by decide)))
  with_reducible refine CT.out.mono ?_
  rintro e w6 ⟨rfl, hb⟩
  clear CT
  clear cBX10 cBX11 cBX1f cBX1l
  clear cBX20 cBX21 cBX2f cBX2l
  clear cBX30 cBX31 cBX3f cBX3l
  clear BX1
  clear BX2
  clear BX3
  have KG := Lib.hid (KG.out.trans (hb.mono KG.out.size))
  clear hb
  go_wp2_with fail
  have CT := Lib.hid (qalive w6 (HT.out.on KG.out))
  with_reducible refine CT.out.mono ?_
  rintro e w7 ⟨rfl, hb⟩
  clear CT
  have KG := Lib.hid (KG.out.trans (hb.mono KG.out.size))
  clear hb
  go_wp2_with fail
  go_ret
  exact ⟨rfl, KG.out⟩
set_option maxRecDepth 100000 in
set_option maxHeartbeats 8000000 in
theorem made_bad2 (x1 x2 x3 : NV) (p1 p2 p3 : Int) (w : World) (htab : Tab w) (h1 : KN w x1 p1) (h2 : XN w x2) (h3 : AN w x3 p3) (b1 : x1.n ≤ 8) (b2 : x2.n ≤ 8) (b3 : x3.n ≤ 8) : Calls Tryz.prog 6 #[x1.v, x2.v, x3.v] w fun e w' => e = .returned (.bool true) ∧ Below w.heap.size w w' := by
  have HT := Lib.hid htab
  have KG := Lib.hid (Below.refl w.heap.size w)
  have N1 := Lib.hid h1
  have N2 := Lib.hid h2
  have N3 := Lib.hid h3
  have Bx1 := Lib.hid b1
  have LZp1 := Lib.hid (show lenB p1.natAbs ≤ 8 by have := h1.n; omega)
  have Bx2 := Lib.hid b2
  have Bx3 := Lib.hid b3
  clear htab h1 h2 h3 b1 b2 b3
  go_enter Tryz.func6, Tryz.ntmps6
  go_upto_region 1 with (fail)
  obtain ⟨v4, hV⟩ : ∃ V, V = ((w.alloc (.cells #[.bool x1.s, .slice x1.a x1.n x1.c] 24)).alloc (.cells #[.bool x2.s, .slice x2.a x2.n x2.c] 24)).alloc (.cells #[.bool x3.s, .slice x3.a x3.n x3.c] 24) := ⟨_, rfl⟩
  have hbV : Below w.heap.size w v4 := by rw [hV]; exact ((((Below.refl _ _).alloc (Nat.le_refl _) _).alloc (by go_size) _).alloc (by go_size) _)
  have BX1 := Lib.hid (show Bxs v4 (w.heap.size) 24 [.bool x1.s, .slice x1.a x1.n x1.c] by have h := ((Bxs.new (w) 24 [.bool x1.s, .slice x1.a x1.n x1.c]).alloc (.cells #[.bool x2.s, .slice x2.a x2.n x2.c] 24)).alloc (.cells #[.bool x3.s, .slice x3.a x3.n x3.c] 24); rw [hV]; exact h)
  have BX2 := Lib.hid (show Bxs v4 (w.heap.size + 1) 24 [.bool x2.s, .slice x2.a x2.n x2.c] by have h := (Bxs.new (w.alloc (.cells #[.bool x1.s, .slice x1.a x1.n x1.c] 24)) 24 [.bool x2.s, .slice x2.a x2.n x2.c]).alloc (.cells #[.bool x3.s, .slice x3.a x3.n x3.c] 24); simp only [World.size_alloc] at h; rw [hV]; exact h)
  have BX3 := Lib.hid (show Bxs v4 (w.heap.size + 1 + 1) 24 [.bool x3.s, .slice x3.a x3.n x3.c] by have h := Bxs.new ((w.alloc (.cells #[.bool x1.s, .slice x1.a x1.n x1.c] 24)).alloc (.cells #[.bool x2.s, .slice x2.a x2.n x2.c] 24)) 24 [.bool x3.s, .slice x3.a x3.n x3.c]; simp only [World.size_alloc] at h; rw [hV]; exact h)
  rw [show ((w.alloc (.cells #[.bool x1.s, .slice x1.a x1.n x1.c] 24)).alloc (.cells #[.bool x2.s, .slice x2.a x2.n x2.c] 24)).alloc (.cells #[.bool x3.s, .slice x3.a x3.n x3.c] 24) = v4 from hV.symm]
  have KG := Lib.hid (KG.out.trans (hbV.mono KG.out.size))
  clear hV hbV
  have g1 : ¬ (x1.n : Int) > 8 := by have := Bx1.out; omega
  have g2 : ¬ (x2.n : Int) > 8 := by have := Bx2.out; omega
  have g3 : ¬ (x3.n : Int) > 8 := by have := Bx3.out; omega
  go_wp2_with fail
  have CT := Lib.hid (qalive v4 (HT.out.on KG.out))
  with_reducible refine CT.out.mono ?_
  rintro e w5 ⟨rfl, hb⟩
  clear CT
  have BX1 := Lib.hid (BX1.out.below hb BX1.out.lt)
  have BX2 := Lib.hid (BX2.out.below hb BX2.out.lt)
  have BX3 := Lib.hid (BX3.out.below hb BX3.out.lt)
  have KG := Lib.hid (KG.out.trans (hb.mono KG.out.size))
  clear hb
  have cBX10 := BX1.out.cell (i := 0) rfl
  have cBX11 := BX1.out.cell (i := 1) rfl
  have cBX1f := BX1.out.fz
  have cBX1l := BX1.out.lt
  have cBX20 := BX2.out.cell (i := 0) rfl
  have cBX21 := BX2.out.cell (i := 1) rfl
  have cBX2f := BX2.out.fz
  have cBX2l := BX2.out.lt
  have cBX30 := BX3.out.cell (i := 0) rfl
  have cBX31 := BX3.out.cell (i := 1) rfl
  have cBX3f := BX3.out.fz
  have cBX3l := BX3.out.lt
  go_wp2_with fail
  have CT := Lib.hid (checkN (N1.out.below KG.out) ((N1.out.below KG.out).len LZp1.out (by decide)))
  with_reducible refine CT.out.mono ?_
  rintro e w6 ⟨rfl, hb⟩
  clear CT
  clear cBX10 cBX11 cBX1f cBX1l
  clear cBX20 cBX21 cBX2f cBX2l
  clear cBX30 cBX31 cBX3f cBX3l
  clear BX1
  have BX2 := Lib.hid (BX2.out.below hb BX2.out.lt)
  clear BX3
  have KG := Lib.hid (KG.out.trans (hb.mono KG.out.size))
  clear hb
  have cBX20 := BX2.out.cell (i := 0) rfl
  have cBX21 := BX2.out.cell (i := 1) rfl
  have cBX2f := BX2.out.fz
  have cBX2l := BX2.out.lt
  go_wp2_with fail
  have CT := Lib.hid (checkBN (N2.out.below KG.out) (show x2.n ≤ 10000000 from Nat.le_trans Bx2.out (by decide)))
  with_reducible refine CT.out.mono ?_
  rintro e w7 ⟨rfl, hb⟩
  clear CT
  clear cBX20 cBX21 cBX2f cBX2l
  clear BX2
  have KG := Lib.hid (KG.out.trans (hb.mono KG.out.size))
  clear hb
  go_wp2_with fail
  have CT := Lib.hid (qalive w7 (HT.out.on KG.out))
  with_reducible refine CT.out.mono ?_
  rintro e w8 ⟨rfl, hb⟩
  clear CT
  have KG := Lib.hid (KG.out.trans (hb.mono KG.out.size))
  clear hb
  go_wp2_with fail
  go_ret
  exact ⟨rfl, KG.out⟩
set_option maxRecDepth 100000 in
set_option maxHeartbeats 8000000 in
theorem made_bad3 (x1 x2 x3 : NV) (p1 p2 p3 : Int) (w : World) (htab : Tab w) (h1 : KN w x1 p1) (h2 : KN w x2 p2) (h3 : XN w x3) (b1 : x1.n ≤ 8) (b2 : x2.n ≤ 8) (b3 : x3.n ≤ 8) : Calls Tryz.prog 6 #[x1.v, x2.v, x3.v] w fun e w' => e = .returned (.bool true) ∧ Below w.heap.size w w' := by
  have HT := Lib.hid htab
  have KG := Lib.hid (Below.refl w.heap.size w)
  have N1 := Lib.hid h1
  have N2 := Lib.hid h2
  have N3 := Lib.hid h3
  have Bx1 := Lib.hid b1
  have LZp1 := Lib.hid (show lenB p1.natAbs ≤ 8 by have := h1.n; omega)
  have Bx2 := Lib.hid b2
  have LZp2 := Lib.hid (show lenB p2.natAbs ≤ 8 by have := h2.n; omega)
  have Bx3 := Lib.hid b3
  clear htab h1 h2 h3 b1 b2 b3
  go_enter Tryz.func6, Tryz.ntmps6
  go_upto_region 1 with (fail)
  obtain ⟨v4, hV⟩ : ∃ V, V = ((w.alloc (.cells #[.bool x1.s, .slice x1.a x1.n x1.c] 24)).alloc (.cells #[.bool x2.s, .slice x2.a x2.n x2.c] 24)).alloc (.cells #[.bool x3.s, .slice x3.a x3.n x3.c] 24) := ⟨_, rfl⟩
  have hbV : Below w.heap.size w v4 := by rw [hV]; exact ((((Below.refl _ _).alloc (Nat.le_refl _) _).alloc (by go_size) _).alloc (by go_size) _)
  have BX1 := Lib.hid (show Bxs v4 (w.heap.size) 24 [.bool x1.s, .slice x1.a x1.n x1.c] by have h := ((Bxs.new (w) 24 [.bool x1.s, .slice x1.a x1.n x1.c]).alloc (.cells #[.bool x2.s, .slice x2.a x2.n x2.c] 24)).alloc (.cells #[.bool x3.s, .slice x3.a x3.n x3.c] 24); rw [hV]; exact h)
  have BX2 := Lib.hid (show Bxs v4 (w.heap.size + 1) 24 [.bool x2.s, .slice x2.a x2.n x2.c] by have h := (Bxs.new (w.alloc (.cells #[.bool x1.s, .slice x1.a x1.n x1.c] 24)) 24 [.bool x2.s, .slice x2.a x2.n x2.c]).alloc (.cells #[.bool x3.s, .slice x3.a x3.n x3.c] 24); simp only [World.size_alloc] at h; rw [hV]; exact h)
  have BX3 := Lib.hid (show Bxs v4 (w.heap.size + 1 + 1) 24 [.bool x3.s, .slice x3.a x3.n x3.c] by have h := Bxs.new ((w.alloc (.cells #[.bool x1.s, .slice x1.a x1.n x1.c] 24)).alloc (.cells #[.bool x2.s, .slice x2.a x2.n x2.c] 24)) 24 [.bool x3.s, .slice x3.a x3.n x3.c]; simp only [World.size_alloc] at h; rw [hV]; exact h)
  rw [show ((w.alloc (.cells #[.bool x1.s, .slice x1.a x1.n x1.c] 24)).alloc (.cells #[.bool x2.s, .slice x2.a x2.n x2.c] 24)).alloc (.cells #[.bool x3.s, .slice x3.a x3.n x3.c] 24) = v4 from hV.symm]
  have KG := Lib.hid (KG.out.trans (hbV.mono KG.out.size))
  clear hV hbV
  have g1 : ¬ (x1.n : Int) > 8 := by have := Bx1.out; omega
  have g2 : ¬ (x2.n : Int) > 8 := by have := Bx2.out; omega
  have g3 : ¬ (x3.n : Int) > 8 := by have := Bx3.out; omega
  go_wp2_with fail
  have CT := Lib.hid (qalive v4 (HT.out.on KG.out))
  with_reducible refine CT.out.mono ?_
  rintro e w5 ⟨rfl, hb⟩
  clear CT
  have BX1 := Lib.hid (BX1.out.below hb BX1.out.lt)
  have BX2 := Lib.hid (BX2.out.below hb BX2.out.lt)
  have BX3 := Lib.hid (BX3.out.below hb BX3.out.lt)
  have KG := Lib.hid (KG.out.trans (hb.mono KG.out.size))
  clear hb
  have cBX10 := BX1.out.cell (i := 0) rfl
  have cBX11 := BX1.out.cell (i := 1) rfl
  have cBX1f := BX1.out.fz
  have cBX1l := BX1.out.lt
  have cBX20 := BX2.out.cell (i := 0) rfl
  have cBX21 := BX2.out.cell (i := 1) rfl
  have cBX2f := BX2.out.fz
  have cBX2l := BX2.out.lt
  have cBX30 := BX3.out.cell (i := 0) rfl
  have cBX31 := BX3.out.cell (i := 1) rfl
  have cBX3f := BX3.out.fz
  have cBX3l := BX3.out.lt
  go_wp2_with fail
  have CT := Lib.hid (checkN (N1.out.below KG.out) ((N1.out.below KG.out).len LZp1.out (by decide)))
  with_reducible refine CT.out.mono ?_
  rintro e w6 ⟨rfl, hb⟩
  clear CT
  clear cBX10 cBX11 cBX1f cBX1l
  clear cBX20 cBX21 cBX2f cBX2l
  clear cBX30 cBX31 cBX3f cBX3l
  clear BX1
  have BX2 := Lib.hid (BX2.out.below hb BX2.out.lt)
  have BX3 := Lib.hid (BX3.out.below hb BX3.out.lt)
  have KG := Lib.hid (KG.out.trans (hb.mono KG.out.size))
  clear hb
  have cBX20 := BX2.out.cell (i := 0) rfl
  have cBX21 := BX2.out.cell (i := 1) rfl
  have cBX2f := BX2.out.fz
  have cBX2l := BX2.out.lt
  go_wp2_with fail
  have CT := Lib.hid (checkN (N2.out.below KG.out) ((N2.out.below KG.out).len LZp2.out (by decide)))
  with_reducible refine CT.out.mono ?_
  rintro e w7 ⟨rfl, hb⟩
  clear CT
  clear cBX20 cBX21 cBX2f cBX2l
  clear BX2
  have BX3 := Lib.hid (BX3.out.below hb BX3.out.lt)
  have KG := Lib.hid (KG.out.trans (hb.mono KG.out.size))
  clear hb
  have cBX30 := BX3.out.cell (i := 0) rfl
  have cBX31 := BX3.out.cell (i := 1) rfl
  have cBX3f := BX3.out.fz
  have cBX3l := BX3.out.lt
  go_wp2_with fail
  have CT := Lib.hid (checkBN (N3.out.below KG.out) (show x3.n ≤ 10000000 from Nat.le_trans Bx3.out (by decide)))
  with_reducible refine CT.out.mono ?_
  rintro e w8 ⟨rfl, hb⟩
  clear CT
  clear cBX30 cBX31 cBX3f cBX3l
  clear BX3
  have KG := Lib.hid (KG.out.trans (hb.mono KG.out.size))
  clear hb
  go_wp2_with fail
  have CT := Lib.hid (qalive w8 (HT.out.on KG.out))
  with_reducible refine CT.out.mono ?_
  rintro e w9 ⟨rfl, hb⟩
  clear CT
  have KG := Lib.hid (KG.out.trans (hb.mono KG.out.size))
  clear hb
  go_wp2_with fail
  go_ret
  exact ⟨rfl, KG.out⟩
set_option maxRecDepth 100000 in
set_option maxHeartbeats 8000000 in
theorem made_zero (x1 x2 x3 : NV) (p1 p2 p3 : Int) (w : World) (htab : Tab w) (h1 : KN w x1 p1) (h2 : KN w x2 p2) (h3 : KN w x3 p3) (b1 : x1.n ≤ 8) (b2 : x2.n ≤ 8) (b3 : x3.n ≤ 8) (hz : p2 = 0) : Calls Tryz.prog 6 #[x1.v, x2.v, x3.v] w fun e w' => e = .returned (.bool true) ∧ Below w.heap.size w w' := by
  have HT := Lib.hid htab
  have KG := Lib.hid (Below.refl w.heap.size w)
  have N1 := Lib.hid h1
  have N2 := Lib.hid h2
  have N3 := Lib.hid h3
  have Bx1 := Lib.hid b1
  have LZp1 := Lib.hid (show lenB p1.natAbs ≤ 8 by have := h1.n; omega)
  have Bx2 := Lib.hid b2
  have LZp2 := Lib.hid (show lenB p2.natAbs ≤ 8 by have := h2.n; omega)
  have Bx3 := Lib.hid b3
  have LZp3 := Lib.hid (show lenB p3.natAbs ≤ 8 by have := h3.n; omega)
  have HZ := Lib.hid hz
  clear hz
  clear htab h1 h2 h3 b1 b2 b3
  obtain ⟨z12, hz12⟩ : ∃ z : Int, z = p1 * p3 := ⟨_, rfl⟩
  have Hz12 := Lib.hid hz12
  have LZz12 := Lib.hid (show lenB z12.natAbs ≤ 16 by rw [hz12]; exact lenZ_mul LZp1.out LZp3.out)
  clear hz12
  obtain ⟨z13, hz13⟩ : ∃ z : Int, z = p2 * p3 := ⟨_, rfl⟩
  have Hz13 := Lib.hid hz13
  have LZz13 := Lib.hid (show lenB z13.natAbs ≤ 16 by rw [hz13]; exact lenZ_mul LZp2.out LZp3.out)
  clear hz13
  go_enter Tryz.func6, Tryz.ntmps6
  go_upto_region 1 with (fail)
  obtain ⟨v4, hV⟩ : ∃ V, V = ((w.alloc (.cells #[.bool x1.s, .slice x1.a x1.n x1.c] 24)).alloc (.cells #[.bool x2.s, .slice x2.a x2.n x2.c] 24)).alloc (.cells #[.bool x3.s, .slice x3.a x3.n x3.c] 24) := ⟨_, rfl⟩
  have hbV : Below w.heap.size w v4 := by rw [hV]; exact ((((Below.refl _ _).alloc (Nat.le_refl _) _).alloc (by go_size) _).alloc (by go_size) _)
  have BX1 := Lib.hid (show Bxs v4 (w.heap.size) 24 [.bool x1.s, .slice x1.a x1.n x1.c] by have h := ((Bxs.new (w) 24 [.bool x1.s, .slice x1.a x1.n x1.c]).alloc (.cells #[.bool x2.s, .slice x2.a x2.n x2.c] 24)).alloc (.cells #[.bool x3.s, .slice x3.a x3.n x3.c] 24); rw [hV]; exact h)
  have BX2 := Lib.hid (show Bxs v4 (w.heap.size + 1) 24 [.bool x2.s, .slice x2.a x2.n x2.c] by have h := (Bxs.new (w.alloc (.cells #[.bool x1.s, .slice x1.a x1.n x1.c] 24)) 24 [.bool x2.s, .slice x2.a x2.n x2.c]).alloc (.cells #[.bool x3.s, .slice x3.a x3.n x3.c] 24); simp only [World.size_alloc] at h; rw [hV]; exact h)
  have BX3 := Lib.hid (show Bxs v4 (w.heap.size + 1 + 1) 24 [.bool x3.s, .slice x3.a x3.n x3.c] by have h := Bxs.new ((w.alloc (.cells #[.bool x1.s, .slice x1.a x1.n x1.c] 24)).alloc (.cells #[.bool x2.s, .slice x2.a x2.n x2.c] 24)) 24 [.bool x3.s, .slice x3.a x3.n x3.c]; simp only [World.size_alloc] at h; rw [hV]; exact h)
  rw [show ((w.alloc (.cells #[.bool x1.s, .slice x1.a x1.n x1.c] 24)).alloc (.cells #[.bool x2.s, .slice x2.a x2.n x2.c] 24)).alloc (.cells #[.bool x3.s, .slice x3.a x3.n x3.c] 24) = v4 from hV.symm]
  have KG := Lib.hid (KG.out.trans (hbV.mono KG.out.size))
  clear hV hbV
  have g1 : ¬ (x1.n : Int) > 8 := by have := Bx1.out; omega
  have g2 : ¬ (x2.n : Int) > 8 := by have := Bx2.out; omega
  have g3 : ¬ (x3.n : Int) > 8 := by have := Bx3.out; omega
  go_wp2_with fail
  have CT := Lib.hid (qalive v4 (HT.out.on KG.out))
  with_reducible refine CT.out.mono ?_
  rintro e w5 ⟨rfl, hb⟩
  clear CT
  have BX1 := Lib.hid (BX1.out.below hb BX1.out.lt)
  have BX2 := Lib.hid (BX2.out.below hb BX2.out.lt)
  have BX3 := Lib.hid (BX3.out.below hb BX3.out.lt)
  have KG := Lib.hid (KG.out.trans (hb.mono KG.out.size))
  clear hb
  have cBX10 := BX1.out.cell (i := 0) rfl
  have cBX11 := BX1.out.cell (i := 1) rfl
  have cBX1f := BX1.out.fz
  have cBX1l := BX1.out.lt
  have cBX20 := BX2.out.cell (i := 0) rfl
  have cBX21 := BX2.out.cell (i := 1) rfl
  have cBX2f := BX2.out.fz
  have cBX2l := BX2.out.lt
  have cBX30 := BX3.out.cell (i := 0) rfl
  have cBX31 := BX3.out.cell (i := 1) rfl
  have cBX3f := BX3.out.fz
  have cBX3l := BX3.out.lt
  go_wp2_with fail
  have CT := Lib.hid (checkN (N1.out.below KG.out) ((N1.out.below KG.out).len LZp1.out (by decide)))
  with_reducible refine CT.out.mono ?_
  rintro e w6 ⟨rfl, hb⟩
  clear CT
  clear cBX10 cBX11 cBX1f cBX1l
  clear cBX20 cBX21 cBX2f cBX2l
  clear cBX30 cBX31 cBX3f cBX3l
  have BX1 := Lib.hid (BX1.out.below hb BX1.out.lt)
  have BX2 := Lib.hid (BX2.out.below hb BX2.out.lt)
  have BX3 := Lib.hid (BX3.out.below hb BX3.out.lt)
  have KG := Lib.hid (KG.out.trans (hb.mono KG.out.size))
  clear hb
  have cBX20 := BX2.out.cell (i := 0) rfl
  have cBX21 := BX2.out.cell (i := 1) rfl
  have cBX2f := BX2.out.fz
  have cBX2l := BX2.out.lt
  go_wp2_with fail
  have CT := Lib.hid (checkN (N2.out.below KG.out) ((N2.out.below KG.out).len LZp2.out (by decide)))
  with_reducible refine CT.out.mono ?_
  rintro e w7 ⟨rfl, hb⟩
  clear CT
  clear cBX20 cBX21 cBX2f cBX2l
  have BX1 := Lib.hid (BX1.out.below hb BX1.out.lt)
  have BX2 := Lib.hid (BX2.out.below hb BX2.out.lt)
  have BX3 := Lib.hid (BX3.out.below hb BX3.out.lt)
  have KG := Lib.hid (KG.out.trans (hb.mono KG.out.size))
  clear hb
  have cBX30 := BX3.out.cell (i := 0) rfl
  have cBX31 := BX3.out.cell (i := 1) rfl
  have cBX3f := BX3.out.fz
  have cBX3l := BX3.out.lt
  go_wp2_with fail
  have CT := Lib.hid (checkN (N3.out.below KG.out) ((N3.out.below KG.out).len LZp3.out (by decide)))
  with_reducible refine CT.out.mono ?_
  rintro e w8 ⟨rfl, hb⟩
  clear CT
  clear cBX30 cBX31 cBX3f cBX3l
  have BX1 := Lib.hid (BX1.out.below hb BX1.out.lt)
  have BX2 := Lib.hid (BX2.out.below hb BX2.out.lt)
  have BX3 := Lib.hid (BX3.out.below hb BX3.out.lt)
  have KG := Lib.hid (KG.out.trans (hb.mono KG.out.size))
  clear hb
  have cBX10 := BX1.out.cell (i := 0) rfl
  have cBX11 := BX1.out.cell (i := 1) rfl
  have cBX1f := BX1.out.fz
  have cBX1l := BX1.out.lt
  have cBX20 := BX2.out.cell (i := 0) rfl
  have cBX21 := BX2.out.cell (i := 1) rfl
  have cBX2f := BX2.out.fz
  have cBX2l := BX2.out.lt
  go_wp2_with fail
  have CT := Lib.hid (qmake0 (N1.out.below KG.out) ((N1.out.below KG.out).len LZp1.out (by decide)) (N2.out.below KG.out) ((N2.out.below KG.out).len LZp2.out (by decide)) (HZ.out))
  with_reducible refine CT.out.mono ?_
  rintro e w9 ⟨rfl, hb⟩
  clear CT
  clear cBX10 cBX11 cBX1f cBX1l
  clear cBX20 cBX21 cBX2f cBX2l
  have BX1 := Lib.hid (BX1.out.below hb BX1.out.lt)
  have BX2 := Lib.hid (BX2.out.below hb BX2.out.lt)
  have BX3 := Lib.hid (BX3.out.below hb BX3.out.lt)
  have KG := Lib.hid (KG.out.trans (hb.mono KG.out.size))
  clear hb
  go_upto_region 4 with (fail)
  obtain ⟨v11, hV⟩ : ∃ V, V = w9.alloc (.cells #[.bool false, .slice none 0 0, .bool false, .slice none 0 0] 26) := ⟨_, rfl⟩
  have hbV : Below w9.heap.size w9 v11 := by rw [hV]; exact ((Below.refl _ _).alloc (Nat.le_refl _) _)
  have BX10 := Lib.hid (show Bxs v11 (w9.heap.size) 26 [.bool false, .slice none 0 0, .bool false, .slice none 0 0] by have h := Bxs.new (w9) 26 [.bool false, .slice none 0 0, .bool false, .slice none 0 0]; rw [hV]; exact h)
  rw [show w9.alloc (.cells #[.bool false, .slice none 0 0, .bool false, .slice none 0 0] 26) = v11 from hV.symm]
  have BX1 := Lib.hid (BX1.out.below hbV BX1.out.lt)
  have BX2 := Lib.hid (BX2.out.below hbV BX2.out.lt)
  have BX3 := Lib.hid (BX3.out.below hbV BX3.out.lt)
  have KG := Lib.hid (KG.out.trans (hbV.mono KG.out.size))
  clear hV hbV
  clear BX10
  go_upto_region 4 with (fail)
  refine Go.FreshS.wp_region_fresh 12 [(11, 10)] (Go.FreshS.spOf [(2, Go.FreshS.Sp.made (fun x : NV => x.v) (fun x w' => DN w' v11.heap.size x z12) NV.blk), (5, Go.FreshS.Sp.made (fun x : NV => x.v) (fun x w' => DN w' v11.heap.size x z13) NV.blk), (6, Go.FreshS.Sp.know (.tuple #[.agg #[.bool false, .slice none 0 0, .bool false, .slice none 0 0], .int .i64 6])), (10, Go.FreshS.Sp.box 26 4 v11.heap.size)])
    (fun w' => Below v11.heap.size v11 w') (by kernel_rfl) (by kernel_rfl) (by kernel_rfl)
    (Go.FreshS.spOf_cons (Go.FreshS.Sp.made_keeps _ (fun _ _ _ h _ hk => h.kept hk) (Go.FreshS.notTaken (by kernel_rfl))) (Go.FreshS.spOf_cons (Go.FreshS.Sp.made_keeps _ (fun _ _ _ h _ hk => h.kept hk) (Go.FreshS.notTaken (by kernel_rfl))) (Go.FreshS.spOf_cons (Go.FreshS.Sp.know_keeps _ _) (Go.FreshS.spOf_cons (Go.FreshS.Sp.box_keeps _ _ _ _) (Go.FreshS.spOf_nil))))) (fun _ _ h hb => h.trans (hb.mono h.size)) ((Below.refl _ _).drew) ?_
  simp only [List.append_eq, List.cons_append, List.nil_append, List.take_succ_cons, List.take_zero, List.drop_succ_cons, List.drop_zero]
  refine Go.FreshS.wpF_reads rfl rfl rfl ?_ (fun w' hw' => ?_) ?_
  rotate_left
  · have hb' := hw'.world
    have hs0 := (BX1.out.below hb' BX1.out.lt).cell (i := 0) rfl
    have hs1 := (BX1.out.below hb' BX1.out.lt).cell (i := 1) rfl
    have hsf := (BX1.out.below hb' BX1.out.lt).fz
    have hsl := (BX1.out.below hb' BX1.out.lt).lt
    clear hw'
    go_simp
    try rfl
  conv => arg 10; simp only [Act.put, List.setIfInBounds_toArray, List.set_cons_succ, List.set_cons_zero]
  refine Go.FreshS.wpF_reads rfl rfl rfl ?_ (fun w' hw' => ?_) ?_
  rotate_left
  · have hb' := hw'.world
    have hs0 := (BX3.out.below hb' BX3.out.lt).cell (i := 0) rfl
    have hs1 := (BX3.out.below hb' BX3.out.lt).cell (i := 1) rfl
    have hsf := (BX3.out.below hb' BX3.out.lt).fz
    have hsl := (BX3.out.below hb' BX3.out.lt).lt
    clear hw'
    go_simp
    try rfl
  conv => arg 10; simp only [Act.put, List.setIfInBounds_toArray, List.set_cons_succ, List.set_cons_zero]
  refine Go.FreshS.wpF_spec rfl rfl rfl (fun w' hw' => ?_) ?_
  · have hb' := hw'.world
    refine Go.FreshS.gives_of (Go.FreshS.PM (fun x : NV => x.v) (fun x w' => DN w' v11.heap.size x z12) NV.blk w'.heap.size) ?_ (fun _ _ h => h.post @NV.inj)
    go_simp
    have CT := mulN (N1.out.below (KG.out.trans (hb'.mono KG.out.size))).any ((N1.out.below (KG.out.trans (hb'.mono KG.out.size))).len LZp1.out (by decide)) (N3.out.below (KG.out.trans (hb'.mono KG.out.size))).any ((N3.out.below (KG.out.trans (hb'.mono KG.out.size))).len LZp3.out (by decide))
    rw [show p1 * p3 = z12 from Hz12.out.symm] at CT
    refine CT.mono ?_
    rintro e w'' ⟨za, rfl, ho, hb⟩
    exact ⟨_, rfl, ⟨za, rfl, ho.mono hb'.size, ho.blks⟩, hb⟩
  rintro _ ⟨y2, rfl⟩
  conv => arg 10; simp only [Act.put, List.setIfInBounds_toArray, List.set_cons_succ, List.set_cons_zero]
  refine Go.FreshS.wpF_reads rfl rfl rfl ?_ (fun w' hw' => ?_) ?_
  rotate_left
  · have hb' := hw'.world
    have hs0 := (BX2.out.below hb' BX2.out.lt).cell (i := 0) rfl
    have hs1 := (BX2.out.below hb' BX2.out.lt).cell (i := 1) rfl
    have hsf := (BX2.out.below hb' BX2.out.lt).fz
    have hsl := (BX2.out.below hb' BX2.out.lt).lt
    clear hw'
    go_simp
    try rfl
  conv => arg 10; simp only [Act.put, List.setIfInBounds_toArray, List.set_cons_succ, List.set_cons_zero]
  refine Go.FreshS.wpF_reads rfl rfl rfl ?_ (fun w' hw' => ?_) ?_
  rotate_left
  · have hb' := hw'.world
    have hs0 := (BX3.out.below hb' BX3.out.lt).cell (i := 0) rfl
    have hs1 := (BX3.out.below hb' BX3.out.lt).cell (i := 1) rfl
    have hsf := (BX3.out.below hb' BX3.out.lt).fz
    have hsl := (BX3.out.below hb' BX3.out.lt).lt
    clear hw'
    go_simp
    try rfl
  conv => arg 10; simp only [Act.put, List.setIfInBounds_toArray, List.set_cons_succ, List.set_cons_zero]
  refine Go.FreshS.wpF_spec rfl rfl rfl (fun w' hw' => ?_) ?_
  · have hb' := hw'.world
    refine Go.FreshS.gives_of (Go.FreshS.PM (fun x : NV => x.v) (fun x w' => DN w' v11.heap.size x z13) NV.blk w'.heap.size) ?_ (fun _ _ h => h.post @NV.inj)
    go_simp
    have CT := mulN (N2.out.below (KG.out.trans (hb'.mono KG.out.size))).any ((N2.out.below (KG.out.trans (hb'.mono KG.out.size))).len LZp2.out (by decide)) (N3.out.below (KG.out.trans (hb'.mono KG.out.size))).any ((N3.out.below (KG.out.trans (hb'.mono KG.out.size))).len LZp3.out (by decide))
    rw [show p2 * p3 = z13 from Hz13.out.symm] at CT
    refine CT.mono ?_
    rintro e w'' ⟨za, rfl, ho, hb⟩
    exact ⟨_, rfl, ⟨za, rfl, ho.mono hb'.size, ho.blks⟩, hb⟩
  rintro _ ⟨y5, rfl⟩
  conv => arg 10; simp only [Act.put, List.setIfInBounds_toArray, List.set_cons_succ, List.set_cons_zero]
  refine Go.FreshS.wpF_spec rfl rfl rfl (fun w' hw' => ?_) ?_
  · have hb' := hw'.world
    refine Go.FreshS.gives_of (Go.FreshS.PK (.tuple #[.agg #[.bool false, .slice none 0 0, .bool false, .slice none 0 0], .int .i64 6])) ?_ (fun _ _ h => h.post)
    go_simp
    have f2 := Go.FreshS.made_of (val := fun x : NV => x.v) (Φ := fun x w' => DN w' v11.heap.size x z12) @NV.inj (hw'.fact 2 (by kernel_rfl))
    have f5 := Go.FreshS.made_of (val := fun x : NV => x.v) (Φ := fun x w' => DN w' v11.heap.size x z13) @NV.inj (hw'.fact 5 (by kernel_rfl))
    have CT := qmake0 f2.k (f2.k.len LZz12.out (by decide)) f5.k (f5.k.len LZz13.out (by decide)) (by rw [Hz13.out, HZ.out, Int.zero_mul])
    refine CT.mono ?_
    rintro e w'' ⟨rfl, hb⟩
    exact ⟨_, rfl, rfl, hb⟩
  rintro _ rfl
  conv => arg 10; simp only [Act.put, List.setIfInBounds_toArray, List.set_cons_succ, List.set_cons_zero]
  refine Go.FreshS.wpF_reads rfl rfl rfl ?_ (fun w' hw' => ?_) ?_
  rotate_left
  · have hb' := hw'.world
    skip
    clear hw'
    go_simp
    try rfl
  conv => arg 10; simp only [Act.put, List.setIfInBounds_toArray, List.set_cons_succ, List.set_cons_zero]
  refine Go.FreshS.wpF_reads rfl rfl rfl ?_ (fun w' hw' => ?_) ?_
  rotate_left
  · have hb' := hw'.world
    skip
    clear hw'
    go_simp
    try rfl
  conv => arg 10; simp only [Act.put, List.setIfInBounds_toArray, List.set_cons_succ, List.set_cons_zero]
  refine Go.FreshS.wpF_reads rfl rfl rfl ?_ (fun w' hw' => ?_) ?_
  rotate_left
  · have hb' := hw'.world
    skip
    clear hw'
    go_simp
    try rfl
  conv => arg 10; simp only [Act.put, List.setIfInBounds_toArray, List.set_cons_succ, List.set_cons_zero]
  refine Go.FreshS.wpF_spec rfl rfl rfl (fun w' hw' => ?_) ?_
  · have hb' := hw'.world
    refine Go.FreshS.gives_of (Go.FreshS.PB 26 4 v11.heap.size w'.heap.size) ?_ (fun _ _ h => h.post)
    go_simp
    exact ⟨Go.FreshS.PB.new _ rfl hb'.size, (Below.refl _ _).alloc (Nat.le_refl _) _⟩
  rintro _ ⟨y10, rfl⟩
  conv => arg 10; simp only [Act.put, List.setIfInBounds_toArray, List.set_cons_succ, List.set_cons_zero]
  refine Go.FreshS.wpF_store rfl rfl 10 rfl rfl rfl rfl (fun _ => Iff.rfl) (fun w' hw' => ?_) ?_
  · have hb' := hw'.world
    have hX := Go.FreshS.box_of (hw'.fact 10 (by kernel_rfl))
    obtain ⟨c0, c1, c2, c3, hB⟩ := shp4 hX.1
    have m0 := hB.cell (i := 0) rfl
    have m1 := hB.cell (i := 1) rfl
    have m2 := hB.cell (i := 2) rfl
    have m3 := hB.cell (i := 3) rfl
    have mf := hB.fz
    have ml := hB.lt
    refine Go.FreshS.stores_of ?_ (store4 hb' hX.2 hB (.bool false) (.slice none 0 0) (.bool false) (.slice none 0 0))
    clear hw'
    go_simp
    try rfl
  conv => arg 10; simp only [Act.put, List.setIfInBounds_toArray, List.set_cons_succ, List.set_cons_zero]
  refine Go.FreshS.wpF_nil (fun w15 hb hF => ?_)
  have BX14 := Lib.hid (show Bxs w15 y10 26 [.bool false, .slice none 0 0, .bool false, .slice none 0 0] from stored_bxs (hF.all 11))
  clear hF
  clear BX1
  have BX2 := Lib.hid (BX2.out.below hb BX2.out.lt)
  clear BX3
  have KG := Lib.hid (KG.out.trans (hb.mono KG.out.size))
  clear hb
  clear BX14
  have cBX20 := BX2.out.cell (i := 0) rfl
  have cBX21 := BX2.out.cell (i := 1) rfl
  have cBX2f := BX2.out.fz
  have cBX2l := BX2.out.lt
  go_wp2_with fail
  have CT := Lib.hid (signN (N2.out.below KG.out).any ((N2.out.below KG.out).len LZp2.out (by decide)))
  rw [show cmpZ p2 0 = 0 from cmpZ_eq HZ.out] at CT
  with_reducible refine CT.out.mono ?_
  rintro e w16 ⟨rfl, hb⟩
  clear CT
  clear cBX20 cBX21 cBX2f cBX2l
  clear BX2
  have KG := Lib.hid (KG.out.trans (hb.mono KG.out.size))
  clear hb
  go_wp2_with fail
  go_ret
  exact ⟨rfl, KG.out⟩
set_option maxRecDepth 100000 in
set_option maxHeartbeats 8000000 in
theorem made_zero3 (x1 x2 x3 : NV) (p1 p2 p3 : Int) (w : World) (htab : Tab w) (h1 : KN w x1 p1) (h2 : KN w x2 p2) (h3 : KN w x3 p3) (b1 : x1.n ≤ 8) (b2 : x2.n ≤ 8) (b3 : x3.n ≤ 8) (hz : p2 ≠ 0) (hy : p3 = 0) : Calls Tryz.prog 6 #[x1.v, x2.v, x3.v] w fun e w' => e = .returned (.bool true) ∧ Below w.heap.size w w' := by
  have HT := Lib.hid htab
  have KG := Lib.hid (Below.refl w.heap.size w)
  have N1 := Lib.hid h1
  have N2 := Lib.hid h2
  have N3 := Lib.hid h3
  have Bx1 := Lib.hid b1
  have LZp1 := Lib.hid (show lenB p1.natAbs ≤ 8 by have := h1.n; omega)
  have Bx2 := Lib.hid b2
  have LZp2 := Lib.hid (show lenB p2.natAbs ≤ 8 by have := h2.n; omega)
  have Bx3 := Lib.hid b3
  have LZp3 := Lib.hid (show lenB p3.natAbs ≤ 8 by have := h3.n; omega)
  have HZ := Lib.hid hz
  clear hz
  have HY := Lib.hid hy
  clear hy
  clear htab h1 h2 h3 b1 b2 b3
  obtain ⟨sb, hsb⟩ : ∃ s, s = cmpZ p2 0 := ⟨_, rfl⟩
  have HSN := Lib.hid (show (sb == 0) = false by rw [hsb, cmpZ_same]; exact decide_eq_false HZ.out)
  have Hsb := Lib.hid hsb
  clear hsb
  obtain ⟨q9, hq9⟩ : ∃ z : Rat, z = (p1 : Rat) / (p2 : Rat) := ⟨_, rfl⟩
  have Hq9 := Lib.hid hq9
  have LQq9 := Lib.hid (show LQ q9 8 by rw [hq9]; exact LQ.make (HZ.out) (Nat.le_trans LZp1.out (by decide)) (Nat.le_trans LZp2.out (by decide)))
  clear hq9
  obtain ⟨z15, hz15⟩ : ∃ z : Int, z = p1 * p3 := ⟨_, rfl⟩
  have Hz15 := Lib.hid hz15
  have LZz15 := Lib.hid (show lenB z15.natAbs ≤ 16 by rw [hz15]; exact lenZ_mul LZp1.out LZp3.out)
  clear hz15
  obtain ⟨z16, hz16⟩ : ∃ z : Int, z = p2 * p3 := ⟨_, rfl⟩
  have Hz16 := Lib.hid hz16
  have LZz16 := Lib.hid (show lenB z16.natAbs ≤ 16 by rw [hz16]; exact lenZ_mul LZp2.out LZp3.out)
  clear hz16
  obtain ⟨z20, hz20⟩ : ∃ z : Int, z = (1 : Int) := ⟨_, rfl⟩
  have Hz20 := Lib.hid hz20
  have LZz20 := Lib.hid (show lenB z20.natAbs ≤ 3 by rw [hz20]; exact len1 (by decide) (by decide))
  clear hz20
  obtain ⟨q21, hq21⟩ : ∃ z : Rat, z = (p2 : Rat) / (z20 : Rat) := ⟨_, rfl⟩
  have Hq21 := Lib.hid hq21
  have LQq21 := Lib.hid (show LQ q21 8 by rw [hq21]; exact LQ.make (by rw [Hz20.out]; decide) (Nat.le_trans LZp2.out (by decide)) (Nat.le_trans LZz20.out (by decide)))
  clear hq21
  obtain ⟨q25, hq25⟩ : ∃ z : Rat, z = (p1 : Rat) / (z20 : Rat) := ⟨_, rfl⟩
  have Hq25 := Lib.hid hq25
  have LQq25 := Lib.hid (show LQ q25 8 by rw [hq25]; exact LQ.make (by rw [Hz20.out]; decide) (Nat.le_trans LZp1.out (by decide)) (Nat.le_trans LZz20.out (by decide)))
  clear hq25
  obtain ⟨q29, hq29⟩ : ∃ z : Rat, z = q9 * q21 := ⟨_, rfl⟩
  have Hq29 := Lib.hid hq29
  have LQq29 := Lib.hid (show LQ q29 16 by rw [hq29]; exact LQ.mul (LQq9.out.up (by decide : _ ≤ 8)) (LQq21.out.up (by decide : _ ≤ 8)) (by decide))
  clear hq29
  go_enter Tryz.func6, Tryz.ntmps6
  go_upto_region 1 with (fail)
  obtain ⟨v4, hV⟩ : ∃ V, V = ((w.alloc (.cells #[.bool x1.s, .slice x1.a x1.n x1.c] 24)).alloc (.cells #[.bool x2.s, .slice x2.a x2.n x2.c] 24)).alloc (.cells #[.bool x3.s, .slice x3.a x3.n x3.c] 24) := ⟨_, rfl⟩
  have hbV : Below w.heap.size w v4 := by rw [hV]; exact ((((Below.refl _ _).alloc (Nat.le_refl _) _).alloc (by go_size) _).alloc (by go_size) _)
  have BX1 := Lib.hid (show Bxs v4 (w.heap.size) 24 [.bool x1.s, .slice x1.a x1.n x1.c] by have h := ((Bxs.new (w) 24 [.bool x1.s, .slice x1.a x1.n x1.c]).alloc (.cells #[.bool x2.s, .slice x2.a x2.n x2.c] 24)).alloc (.cells #[.bool x3.s, .slice x3.a x3.n x3.c] 24); rw [hV]; exact h)
  have BX2 := Lib.hid (show Bxs v4 (w.heap.size + 1) 24 [.bool x2.s, .slice x2.a x2.n x2.c] by have h := (Bxs.new (w.alloc (.cells #[.bool x1.s, .slice x1.a x1.n x1.c] 24)) 24 [.bool x2.s, .slice x2.a x2.n x2.c]).alloc (.cells #[.bool x3.s, .slice x3.a x3.n x3.c] 24); simp only [World.size_alloc] at h; rw [hV]; exact h)
  have BX3 := Lib.hid (show Bxs v4 (w.heap.size + 1 + 1) 24 [.bool x3.s, .slice x3.a x3.n x3.c] by have h := Bxs.new ((w.alloc (.cells #[.bool x1.s, .slice x1.a x1.n x1.c] 24)).alloc (.cells #[.bool x2.s, .slice x2.a x2.n x2.c] 24)) 24 [.bool x3.s, .slice x3.a x3.n x3.c]; simp only [World.size_alloc] at h; rw [hV]; exact h)
  rw [show ((w.alloc (.cells #[.bool x1.s, .slice x1.a x1.n x1.c] 24)).alloc (.cells #[.bool x2.s, .slice x2.a x2.n x2.c] 24)).alloc (.cells #[.bool x3.s, .slice x3.a x3.n x3.c] 24) = v4 from hV.symm]
  have KG := Lib.hid (KG.out.trans (hbV.mono KG.out.size))
  clear hV hbV
  have g1 : ¬ (x1.n : Int) > 8 := by have := Bx1.out; omega
  have g2 : ¬ (x2.n : Int) > 8 := by have := Bx2.out; omega
  have g3 : ¬ (x3.n : Int) > 8 := by have := Bx3.out; omega
  go_wp2_with fail
  have CT := Lib.hid (qalive v4 (HT.out.on KG.out))
  with_reducible refine CT.out.mono ?_
  rintro e w5 ⟨rfl, hb⟩
  clear CT
  have BX1 := Lib.hid (BX1.out.below hb BX1.out.lt)
  have BX2 := Lib.hid (BX2.out.below hb BX2.out.lt)
  have BX3 := Lib.hid (BX3.out.below hb BX3.out.lt)
  have KG := Lib.hid (KG.out.trans (hb.mono KG.out.size))
  clear hb
  have cBX10 := BX1.out.cell (i := 0) rfl
  have cBX11 := BX1.out.cell (i := 1) rfl
  have cBX1f := BX1.out.fz
  have cBX1l := BX1.out.lt
  have cBX20 := BX2.out.cell (i := 0) rfl
  have cBX21 := BX2.out.cell (i := 1) rfl
  have cBX2f := BX2.out.fz
  have cBX2l := BX2.out.lt
  have cBX30 := BX3.out.cell (i := 0) rfl
  have cBX31 := BX3.out.cell (i := 1) rfl
  have cBX3f := BX3.out.fz
  have cBX3l := BX3.out.lt
  go_wp2_with fail
  have CT := Lib.hid (checkN (N1.out.below KG.out) ((N1.out.below KG.out).len LZp1.out (by decide)))
  with_reducible refine CT.out.mono ?_
  rintro e w6 ⟨rfl, hb⟩
  clear CT
  clear cBX10 cBX11 cBX1f cBX1l
  clear cBX20 cBX21 cBX2f cBX2l
  clear cBX30 cBX31 cBX3f cBX3l
  have BX1 := Lib.hid (BX1.out.below hb BX1.out.lt)
  have BX2 := Lib.hid (BX2.out.below hb BX2.out.lt)
  have BX3 := Lib.hid (BX3.out.below hb BX3.out.lt)
  have KG := Lib.hid (KG.out.trans (hb.mono KG.out.size))
  clear hb
  have cBX20 := BX2.out.cell (i := 0) rfl
  have cBX21 := BX2.out.cell (i := 1) rfl
  have cBX2f := BX2.out.fz
  have cBX2l := BX2.out.lt
  go_wp2_with fail
  have CT := Lib.hid (checkN (N2.out.below KG.out) ((N2.out.below KG.out).len LZp2.out (by decide)))
  with_reducible refine CT.out.mono ?_
  rintro e w7 ⟨rfl, hb⟩
  clear CT
  clear cBX20 cBX21 cBX2f cBX2l
  have BX1 := Lib.hid (BX1.out.below hb BX1.out.lt)
  have BX2 := Lib.hid (BX2.out.below hb BX2.out.lt)
  have BX3 := Lib.hid (BX3.out.below hb BX3.out.lt)
  have KG := Lib.hid (KG.out.trans (hb.mono KG.out.size))
  clear hb
  have cBX30 := BX3.out.cell (i := 0) rfl
  have cBX31 := BX3.out.cell (i := 1) rfl
  have cBX3f := BX3.out.fz
  have cBX3l := BX3.out.lt
  go_wp2_with fail
  have CT := Lib.hid (checkN (N3.out.below KG.out) ((N3.out.below KG.out).len LZp3.out (by decide)))
  with_reducible refine CT.out.mono ?_
  rintro e w8 ⟨rfl, hb⟩
  clear CT
  clear cBX30 cBX31 cBX3f cBX3l
  have BX1 := Lib.hid (BX1.out.below hb BX1.out.lt)
  have BX2 := Lib.hid (BX2.out.below hb BX2.out.lt)
  have BX3 := Lib.hid (BX3.out.below hb BX3.out.lt)
  have KG := Lib.hid (KG.out.trans (hb.mono KG.out.size))
  clear hb
  have cBX10 := BX1.out.cell (i := 0) rfl
  have cBX11 := BX1.out.cell (i := 1) rfl
  have cBX1f := BX1.out.fz
  have cBX1l := BX1.out.lt
  have cBX20 := BX2.out.cell (i := 0) rfl
  have cBX21 := BX2.out.cell (i := 1) rfl
  have cBX2f := BX2.out.fz
  have cBX2l := BX2.out.lt
  go_wp2_with fail
  have CT := Lib.hid (qmake (N1.out.below KG.out) ((N1.out.below KG.out).len LZp1.out (by decide)) (N2.out.below KG.out) ((N2.out.below KG.out).len LZp2.out (by decide)) (HZ.out))
  rw [show (p1 : Rat) / (p2 : Rat) = q9 from Hq9.out.symm] at CT
  with_reducible refine CT.out.mono ?_
  rintro e w10 ⟨x11, rfl, hN12, hb⟩
  have N12 := Lib.hid hN12
  clear hN12
  clear CT
  clear cBX10 cBX11 cBX1f cBX1l
  clear cBX20 cBX21 cBX2f cBX2l
  have BX1 := Lib.hid (BX1.out.below hb BX1.out.lt)
  have BX2 := Lib.hid (BX2.out.below hb BX2.out.lt)
  have BX3 := Lib.hid (BX3.out.below hb BX3.out.lt)
  have KG := Lib.hid (KG.out.trans (hb.mono KG.out.size))
  clear hb
  go_upto_region 4 with (fail)
  obtain ⟨v14, hV⟩ : ∃ V, V = w10.alloc (.cells #[.bool x11.t.s, .slice x11.t.a x11.t.n x11.t.c, .bool x11.l.s, .slice x11.l.a x11.l.n x11.l.c] 26) := ⟨_, rfl⟩
  have hbV : Below w10.heap.size w10 v14 := by rw [hV]; exact ((Below.refl _ _).alloc (Nat.le_refl _) _)
  have BX13 := Lib.hid (show Bxs v14 (w10.heap.size) 26 [.bool x11.t.s, .slice x11.t.a x11.t.n x11.t.c, .bool x11.l.s, .slice x11.l.a x11.l.n x11.l.c] by have h := Bxs.new (w10) 26 [.bool x11.t.s, .slice x11.t.a x11.t.n x11.t.c, .bool x11.l.s, .slice x11.l.a x11.l.n x11.l.c]; rw [hV]; exact h)
  rw [show w10.alloc (.cells #[.bool x11.t.s, .slice x11.t.a x11.t.n x11.t.c, .bool x11.l.s, .slice x11.l.a x11.l.n x11.l.c] 26) = v14 from hV.symm]
  have N12 := Lib.hid (N12.out.below hbV)
  have BX1 := Lib.hid (BX1.out.below hbV BX1.out.lt)
  have BX2 := Lib.hid (BX2.out.below hbV BX2.out.lt)
  have BX3 := Lib.hid (BX3.out.below hbV BX3.out.lt)
  have KG := Lib.hid (KG.out.trans (hbV.mono KG.out.size))
  clear hV hbV
  go_upto_region 4 with (fail)
  refine Go.FreshS.wp_region_fresh 12 [(11, 10)] (Go.FreshS.spOf [(2, Go.FreshS.Sp.made (fun x : NV => x.v) (fun x w' => DN w' v14.heap.size x z15) NV.blk), (5, Go.FreshS.Sp.made (fun x : NV => x.v) (fun x w' => DN w' v14.heap.size x z16) NV.blk), (6, Go.FreshS.Sp.know (.tuple #[.agg #[.bool false, .slice none 0 0, .bool false, .slice none 0 0], .int .i64 6])), (10, Go.FreshS.Sp.box 26 4 v14.heap.size)])
    (fun w' => Below v14.heap.size v14 w') (by kernel_rfl) (by kernel_rfl) (by kernel_rfl)
    (Go.FreshS.spOf_cons (Go.FreshS.Sp.made_keeps _ (fun _ _ _ h _ hk => h.kept hk) (Go.FreshS.notTaken (by kernel_rfl))) (Go.FreshS.spOf_cons (Go.FreshS.Sp.made_keeps _ (fun _ _ _ h _ hk => h.kept hk) (Go.FreshS.notTaken (by kernel_rfl))) (Go.FreshS.spOf_cons (Go.FreshS.Sp.know_keeps _ _) (Go.FreshS.spOf_cons (Go.FreshS.Sp.box_keeps _ _ _ _) (Go.FreshS.spOf_nil))))) (fun _ _ h hb => h.trans (hb.mono h.size)) ((Below.refl _ _).drew) ?_
  simp only [List.append_eq, List.cons_append, List.nil_append, List.take_succ_cons, List.take_zero, List.drop_succ_cons, List.drop_zero]
  refine Go.FreshS.wpF_reads rfl rfl rfl ?_ (fun w' hw' => ?_) ?_
  rotate_left
  · have hb' := hw'.world
    have hs0 := (BX1.out.below hb' BX1.out.lt).cell (i := 0) rfl
    have hs1 := (BX1.out.below hb' BX1.out.lt).cell (i := 1) rfl
    have hsf := (BX1.out.below hb' BX1.out.lt).fz
    have hsl := (BX1.out.below hb' BX1.out.lt).lt
    clear hw'
    go_simp
    try rfl
  conv => arg 10; simp only [Act.put, List.setIfInBounds_toArray, List.set_cons_succ, List.set_cons_zero]
  refine Go.FreshS.wpF_reads rfl rfl rfl ?_ (fun w' hw' => ?_) ?_
  rotate_left
  · have hb' := hw'.world
    have hs0 := (BX3.out.below hb' BX3.out.lt).cell (i := 0) rfl
    have hs1 := (BX3.out.below hb' BX3.out.lt).cell (i := 1) rfl
    have hsf := (BX3.out.below hb' BX3.out.lt).fz
    have hsl := (BX3.out.below hb' BX3.out.lt).lt
    clear hw'
    go_simp
    try rfl
  conv => arg 10; simp only [Act.put, List.setIfInBounds_toArray, List.set_cons_succ, List.set_cons_zero]
  refine Go.FreshS.wpF_spec rfl rfl rfl (fun w' hw' => ?_) ?_
  · have hb' := hw'.world
    refine Go.FreshS.gives_of (Go.FreshS.PM (fun x : NV => x.v) (fun x w' => DN w' v14.heap.size x z15) NV.blk w'.heap.size) ?_ (fun _ _ h => h.post @NV.inj)
    go_simp
    have CT := mulN (N1.out.below (KG.out.trans (hb'.mono KG.out.size))).any ((N1.out.below (KG.out.trans (hb'.mono KG.out.size))).len LZp1.out (by decide)) (N3.out.below (KG.out.trans (hb'.mono KG.out.size))).any ((N3.out.below (KG.out.trans (hb'.mono KG.out.size))).len LZp3.out (by decide))
    rw [show p1 * p3 = z15 from Hz15.out.symm] at CT
    refine CT.mono ?_
    rintro e w'' ⟨za, rfl, ho, hb⟩
    exact ⟨_, rfl, ⟨za, rfl, ho.mono hb'.size, ho.blks⟩, hb⟩
  rintro _ ⟨y2, rfl⟩
  conv => arg 10; simp only [Act.put, List.setIfInBounds_toArray, List.set_cons_succ, List.set_cons_zero]
  refine Go.FreshS.wpF_reads rfl rfl rfl ?_ (fun w' hw' => ?_) ?_
  rotate_left
  · have hb' := hw'.world
    have hs0 := (BX2.out.below hb' BX2.out.lt).cell (i := 0) rfl
    have hs1 := (BX2.out.below hb' BX2.out.lt).cell (i := 1) rfl
    have hsf := (BX2.out.below hb' BX2.out.lt).fz
    have hsl := (BX2.out.below hb' BX2.out.lt).lt
    clear hw'
    go_simp
    try rfl
  conv => arg 10; simp only [Act.put, List.setIfInBounds_toArray, List.set_cons_succ, List.set_cons_zero]
  refine Go.FreshS.wpF_reads rfl rfl rfl ?_ (fun w' hw' => ?_) ?_
  rotate_left
  · have hb' := hw'.world
    have hs0 := (BX3.out.below hb' BX3.out.lt).cell (i := 0) rfl
    have hs1 := (BX3.out.below hb' BX3.out.lt).cell (i := 1) rfl
    have hsf := (BX3.out.below hb' BX3.out.lt).fz
    have hsl := (BX3.out.below hb' BX3.out.lt).lt
    clear hw'
    go_simp
    try rfl
  conv => arg 10; simp only [Act.put, List.setIfInBounds_toArray, List.set_cons_succ, List.set_cons_zero]
  refine Go.FreshS.wpF_spec rfl rfl rfl (fun w' hw' => ?_) ?_
  · have hb' := hw'.world
    refine Go.FreshS.gives_of (Go.FreshS.PM (fun x : NV => x.v) (fun x w' => DN w' v14.heap.size x z16) NV.blk w'.heap.size) ?_ (fun _ _ h => h.post @NV.inj)
    go_simp
    have CT := mulN (N2.out.below (KG.out.trans (hb'.mono KG.out.size))).any ((N2.out.below (KG.out.trans (hb'.mono KG.out.size))).len LZp2.out (by decide)) (N3.out.below (KG.out.trans (hb'.mono KG.out.size))).any ((N3.out.below (KG.out.trans (hb'.mono KG.out.size))).len LZp3.out (by decide))
    rw [show p2 * p3 = z16 from Hz16.out.symm] at CT
    refine CT.mono ?_
    rintro e w'' ⟨za, rfl, ho, hb⟩
    exact ⟨_, rfl, ⟨za, rfl, ho.mono hb'.size, ho.blks⟩, hb⟩
  rintro _ ⟨y5, rfl⟩
  conv => arg 10; simp only [Act.put, List.setIfInBounds_toArray, List.set_cons_succ, List.set_cons_zero]
  refine Go.FreshS.wpF_spec rfl rfl rfl (fun w' hw' => ?_) ?_
  · have hb' := hw'.world
    refine Go.FreshS.gives_of (Go.FreshS.PK (.tuple #[.agg #[.bool false, .slice none 0 0, .bool false, .slice none 0 0], .int .i64 6])) ?_ (fun _ _ h => h.post)
    go_simp
    have f2 := Go.FreshS.made_of (val := fun x : NV => x.v) (Φ := fun x w' => DN w' v14.heap.size x z15) @NV.inj (hw'.fact 2 (by kernel_rfl))
    have f5 := Go.FreshS.made_of (val := fun x : NV => x.v) (Φ := fun x w' => DN w' v14.heap.size x z16) @NV.inj (hw'.fact 5 (by kernel_rfl))
    have CT := qmake0 f2.k (f2.k.len LZz15.out (by decide)) f5.k (f5.k.len LZz16.out (by decide)) (by rw [Hz16.out, HY.out, Int.mul_zero])
    refine CT.mono ?_
    rintro e w'' ⟨rfl, hb⟩
    exact ⟨_, rfl, rfl, hb⟩
  rintro _ rfl
  conv => arg 10; simp only [Act.put, List.setIfInBounds_toArray, List.set_cons_succ, List.set_cons_zero]
  refine Go.FreshS.wpF_reads rfl rfl rfl ?_ (fun w' hw' => ?_) ?_
  rotate_left
  · have hb' := hw'.world
    skip
    clear hw'
    go_simp
    try rfl
  conv => arg 10; simp only [Act.put, List.setIfInBounds_toArray, List.set_cons_succ, List.set_cons_zero]
  refine Go.FreshS.wpF_reads rfl rfl rfl ?_ (fun w' hw' => ?_) ?_
  rotate_left
  · have hb' := hw'.world
    skip
    clear hw'
    go_simp
    try rfl
  conv => arg 10; simp only [Act.put, List.setIfInBounds_toArray, List.set_cons_succ, List.set_cons_zero]
  refine Go.FreshS.wpF_reads rfl rfl rfl ?_ (fun w' hw' => ?_) ?_
  rotate_left
  · have hb' := hw'.world
    skip
    clear hw'
    go_simp
    try rfl
  conv => arg 10; simp only [Act.put, List.setIfInBounds_toArray, List.set_cons_succ, List.set_cons_zero]
  refine Go.FreshS.wpF_spec rfl rfl rfl (fun w' hw' => ?_) ?_
  · have hb' := hw'.world
    refine Go.FreshS.gives_of (Go.FreshS.PB 26 4 v14.heap.size w'.heap.size) ?_ (fun _ _ h => h.post)
    go_simp
    exact ⟨Go.FreshS.PB.new _ rfl hb'.size, (Below.refl _ _).alloc (Nat.le_refl _) _⟩
  rintro _ ⟨y10, rfl⟩
  conv => arg 10; simp only [Act.put, List.setIfInBounds_toArray, List.set_cons_succ, List.set_cons_zero]
  refine Go.FreshS.wpF_store rfl rfl 10 rfl rfl rfl rfl (fun _ => Iff.rfl) (fun w' hw' => ?_) ?_
  · have hb' := hw'.world
    have hX := Go.FreshS.box_of (hw'.fact 10 (by kernel_rfl))
    obtain ⟨c0, c1, c2, c3, hB⟩ := shp4 hX.1
    have m0 := hB.cell (i := 0) rfl
    have m1 := hB.cell (i := 1) rfl
    have m2 := hB.cell (i := 2) rfl
    have m3 := hB.cell (i := 3) rfl
    have mf := hB.fz
    have ml := hB.lt
    refine Go.FreshS.stores_of ?_ (store4 hb' hX.2 hB (.bool false) (.slice none 0 0) (.bool false) (.slice none 0 0))
    clear hw'
    go_simp
    try rfl
  conv => arg 10; simp only [Act.put, List.setIfInBounds_toArray, List.set_cons_succ, List.set_cons_zero]
  refine Go.FreshS.wpF_nil (fun w18 hb hF => ?_)
  have BX17 := Lib.hid (show Bxs w18 y10 26 [.bool false, .slice none 0 0, .bool false, .slice none 0 0] from stored_bxs (hF.all 11))
  clear hF
  have N12 := Lib.hid (N12.out.below hb)
  have BX1 := Lib.hid (BX1.out.below hb BX1.out.lt)
  have BX2 := Lib.hid (BX2.out.below hb BX2.out.lt)
  have BX3 := Lib.hid (BX3.out.below hb BX3.out.lt)
  have BX13 := Lib.hid (BX13.out.below hb BX13.out.lt)
  have KG := Lib.hid (KG.out.trans (hb.mono KG.out.size))
  clear hb
  clear BX17
  have cBX20 := BX2.out.cell (i := 0) rfl
  have cBX21 := BX2.out.cell (i := 1) rfl
  have cBX2f := BX2.out.fz
  have cBX2l := BX2.out.lt
  go_wp2_with fail
  have CT := Lib.hid (signN (N2.out.below KG.out).any ((N2.out.below KG.out).len LZp2.out (by decide)))
  rw [show cmpZ p2 0 = sb from Hsb.out.symm] at CT
  with_reducible refine CT.out.mono ?_
  rintro e w19 ⟨rfl, hb⟩
  clear CT
  clear cBX20 cBX21 cBX2f cBX2l
  have N12 := Lib.hid (N12.out.below hb)
  have BX1 := Lib.hid (BX1.out.below hb BX1.out.lt)
  have BX2 := Lib.hid (BX2.out.below hb BX2.out.lt)
  have BX3 := Lib.hid (BX3.out.below hb BX3.out.lt)
  have BX13 := Lib.hid (BX13.out.below hb BX13.out.lt)
  have KG := Lib.hid (KG.out.trans (hb.mono KG.out.size))
  clear hb
  have qs := HSN.out
  go_upto_region 7 with (fail)
  refine Go.FreshS.wp_region_fresh 8 [(7, 6)] (Go.FreshS.spOf [(1, Go.FreshS.Sp.made (fun x : NV => x.v) (fun x w' => DN w' w19.heap.size x z20) NV.blk), (2, Go.FreshS.Sp.made (fun x : FV => .tuple #[x.v, .int .i64 0]) (fun x w' => DF w' w19.heap.size x q21) FV.blk), (6, Go.FreshS.Sp.box 26 4 w19.heap.size)])
    (fun w' => Below w19.heap.size w19 w') (by kernel_rfl) (by kernel_rfl) (by kernel_rfl)
    (Go.FreshS.spOf_cons (Go.FreshS.Sp.made_keeps _ (fun _ _ _ h _ hk => h.kept hk) (Go.FreshS.notTaken (by kernel_rfl))) (Go.FreshS.spOf_cons (Go.FreshS.Sp.made_keeps _ (fun _ _ _ h _ hk => h.kept hk) (Go.FreshS.notTaken (by kernel_rfl))) (Go.FreshS.spOf_cons (Go.FreshS.Sp.box_keeps _ _ _ _) (Go.FreshS.spOf_nil)))) (fun _ _ h hb => h.trans (hb.mono h.size)) ((Below.refl _ _).drew) ?_
  simp only [List.append_eq, List.cons_append, List.nil_append, List.take_succ_cons, List.take_zero, List.drop_succ_cons, List.drop_zero]
  refine Go.FreshS.wpF_reads rfl rfl rfl ?_ (fun w' hw' => ?_) ?_
  rotate_left
  · have hb' := hw'.world
    have hs0 := (BX2.out.below hb' BX2.out.lt).cell (i := 0) rfl
    have hs1 := (BX2.out.below hb' BX2.out.lt).cell (i := 1) rfl
    have hsf := (BX2.out.below hb' BX2.out.lt).fz
    have hsl := (BX2.out.below hb' BX2.out.lt).lt
    clear hw'
    go_simp
    try rfl
  conv => arg 10; simp only [Act.put, List.setIfInBounds_toArray, List.set_cons_succ, List.set_cons_zero]
  refine Go.FreshS.wpF_spec rfl rfl rfl (fun w' hw' => ?_) ?_
  · have hb' := hw'.world
    refine Go.FreshS.gives_of (Go.FreshS.PM (fun x : NV => x.v) (fun x w' => DN w' w19.heap.size x z20) NV.blk w'.heap.size) ?_ (fun _ _ h => h.post @NV.inj)
    go_simp
    have CT := ofZ 1 z20 (Hz20.out.symm) w' (by decide) (by decide)
    refine CT.mono ?_
    rintro e w'' ⟨za, rfl, ho, hb⟩
    exact ⟨_, rfl, ⟨za, rfl, ho.mono hb'.size, ho.blks⟩, hb⟩
  rintro _ ⟨y1, rfl⟩
  conv => arg 10; simp only [Act.put, List.setIfInBounds_toArray, List.set_cons_succ, List.set_cons_zero]
  refine Go.FreshS.wpF_spec rfl rfl rfl (fun w' hw' => ?_) ?_
  · have hb' := hw'.world
    refine Go.FreshS.gives_of (Go.FreshS.PM (fun x : FV => .tuple #[x.v, .int .i64 0]) (fun x w' => DF w' w19.heap.size x q21) FV.blk w'.heap.size) ?_ (fun _ _ h => h.post (FV.injE 0))
    go_simp
    have f1 := Go.FreshS.made_of (val := fun x : NV => x.v) (Φ := fun x w' => DN w' w19.heap.size x z20) @NV.inj (hw'.fact 1 (by kernel_rfl))
    have CT := qmake (N2.out.below (KG.out.trans (hb'.mono KG.out.size))) ((N2.out.below (KG.out.trans (hb'.mono KG.out.size))).len LZp2.out (by decide)) f1.k (f1.k.len LZz20.out (by decide)) (by rw [Hz20.out]; decide)
    rw [show (p2 : Rat) / (z20 : Rat) = q21 from Hq21.out.symm] at CT
    refine CT.mono ?_
    rintro e w'' ⟨za, rfl, ho, hb⟩
    exact ⟨_, rfl, ⟨za, rfl, ho.mono hb'.size, ho.blks⟩, hb⟩
  rintro _ ⟨y2, rfl⟩
  conv => arg 10; simp only [Act.put, List.setIfInBounds_toArray, List.set_cons_succ, List.set_cons_zero]
  refine Go.FreshS.wpF_reads rfl rfl rfl ?_ (fun w' hw' => ?_) ?_
  rotate_left
  · have hb' := hw'.world
    skip
    clear hw'
    go_simp
    try rfl
  conv => arg 10; simp only [Act.put, List.setIfInBounds_toArray, List.set_cons_succ, List.set_cons_zero]
  refine Go.FreshS.wpF_reads rfl rfl rfl ?_ (fun w' hw' => ?_) ?_
  rotate_left
  · have hb' := hw'.world
    skip
    clear hw'
    go_simp
    try rfl
  conv => arg 10; simp only [Act.put, List.setIfInBounds_toArray, List.set_cons_succ, List.set_cons_zero]
  refine Go.FreshS.wpF_reads rfl rfl rfl ?_ (fun w' hw' => ?_) ?_
  rotate_left
  · have hb' := hw'.world
    skip
    clear hw'
    go_simp
    try rfl
  conv => arg 10; simp only [Act.put, List.setIfInBounds_toArray, List.set_cons_succ, List.set_cons_zero]
  refine Go.FreshS.wpF_spec rfl rfl rfl (fun w' hw' => ?_) ?_
  · have hb' := hw'.world
    refine Go.FreshS.gives_of (Go.FreshS.PB 26 4 w19.heap.size w'.heap.size) ?_ (fun _ _ h => h.post)
    go_simp
    exact ⟨Go.FreshS.PB.new _ rfl hb'.size, (Below.refl _ _).alloc (Nat.le_refl _) _⟩
  rintro _ ⟨y6, rfl⟩
  conv => arg 10; simp only [Act.put, List.setIfInBounds_toArray, List.set_cons_succ, List.set_cons_zero]
  refine Go.FreshS.wpF_store rfl rfl 6 rfl rfl rfl rfl (fun _ => Iff.rfl) (fun w' hw' => ?_) ?_
  · have hb' := hw'.world
    have hX := Go.FreshS.box_of (hw'.fact 6 (by kernel_rfl))
    obtain ⟨c0, c1, c2, c3, hB⟩ := shp4 hX.1
    have m0 := hB.cell (i := 0) rfl
    have m1 := hB.cell (i := 1) rfl
    have m2 := hB.cell (i := 2) rfl
    have m3 := hB.cell (i := 3) rfl
    have mf := hB.fz
    have ml := hB.lt
    refine Go.FreshS.stores_of ?_ (store4 hb' hX.2 hB (.bool y2.t.s) (.slice y2.t.a y2.t.n y2.t.c) (.bool y2.l.s) (.slice y2.l.a y2.l.n y2.l.c))
    clear hw'
    go_simp
    try rfl
  conv => arg 10; simp only [Act.put, List.setIfInBounds_toArray, List.set_cons_succ, List.set_cons_zero]
  refine Go.FreshS.wpF_nil (fun w23 hb hF => ?_)
  have BX22 := Lib.hid (show Bxs w23 y6 26 [.bool y2.t.s, .slice y2.t.a y2.t.n y2.t.c, .bool y2.l.s, .slice y2.l.a y2.l.n y2.l.c] from stored_bxs (hF.all 7))
  have N24 := Lib.hid (show DF w23 w19.heap.size y2 q21 from (Go.FreshS.made_of (val := (fun x : FV => .tuple #[x.v, .int .i64 0])) (Φ := fun x w' => DF w' w19.heap.size x q21) (FV.injE 0) (hF.all 2)))
  clear hF
  have N12 := Lib.hid (N12.out.below hb)
  have BX1 := Lib.hid (BX1.out.below hb BX1.out.lt)
  clear BX2
  have BX3 := Lib.hid (BX3.out.below hb BX3.out.lt)
  have BX13 := Lib.hid (BX13.out.below hb BX13.out.lt)
  have KG := Lib.hid (KG.out.trans (hb.mono KG.out.size))
  clear hb
  go_upto_region 8 with (fail)
  refine Go.FreshS.wp_region_fresh 8 [(7, 6)] (Go.FreshS.spOf [(1, Go.FreshS.Sp.made (fun x : NV => x.v) (fun x w' => DN w' w23.heap.size x z20) NV.blk), (2, Go.FreshS.Sp.made (fun x : FV => .tuple #[x.v, .int .i64 0]) (fun x w' => DF w' w23.heap.size x q25) FV.blk), (6, Go.FreshS.Sp.box 26 4 w23.heap.size)])
    (fun w' => Below w23.heap.size w23 w') (by kernel_rfl) (by kernel_rfl) (by kernel_rfl)
    (Go.FreshS.spOf_cons (Go.FreshS.Sp.made_keeps _ (fun _ _ _ h _ hk => h.kept hk) (Go.FreshS.notTaken (by kernel_rfl))) (Go.FreshS.spOf_cons (Go.FreshS.Sp.made_keeps _ (fun _ _ _ h _ hk => h.kept hk) (Go.FreshS.notTaken (by kernel_rfl))) (Go.FreshS.spOf_cons (Go.FreshS.Sp.box_keeps _ _ _ _) (Go.FreshS.spOf_nil)))) (fun _ _ h hb => h.trans (hb.mono h.size)) ((Below.refl _ _).drew) ?_
  simp only [List.append_eq, List.cons_append, List.nil_append, List.take_succ_cons, List.take_zero, List.drop_succ_cons, List.drop_zero]
  refine Go.FreshS.wpF_reads rfl rfl rfl ?_ (fun w' hw' => ?_) ?_
  rotate_left
  · have hb' := hw'.world
    have hs0 := (BX1.out.below hb' BX1.out.lt).cell (i := 0) rfl
    have hs1 := (BX1.out.below hb' BX1.out.lt).cell (i := 1) rfl
    have hsf := (BX1.out.below hb' BX1.out.lt).fz
    have hsl := (BX1.out.below hb' BX1.out.lt).lt
    clear hw'
    go_simp
    try rfl
  conv => arg 10; simp only [Act.put, List.setIfInBounds_toArray, List.set_cons_succ, List.set_cons_zero]
  refine Go.FreshS.wpF_spec rfl rfl rfl (fun w' hw' => ?_) ?_
  · have hb' := hw'.world
    refine Go.FreshS.gives_of (Go.FreshS.PM (fun x : NV => x.v) (fun x w' => DN w' w23.heap.size x z20) NV.blk w'.heap.size) ?_ (fun _ _ h => h.post @NV.inj)
    go_simp
    have CT := ofZ 1 z20 (Hz20.out.symm) w' (by decide) (by decide)
    refine CT.mono ?_
    rintro e w'' ⟨za, rfl, ho, hb⟩
    exact ⟨_, rfl, ⟨za, rfl, ho.mono hb'.size, ho.blks⟩, hb⟩
  rintro _ ⟨y1, rfl⟩
  conv => arg 10; simp only [Act.put, List.setIfInBounds_toArray, List.set_cons_succ, List.set_cons_zero]
  refine Go.FreshS.wpF_spec rfl rfl rfl (fun w' hw' => ?_) ?_
  · have hb' := hw'.world
    refine Go.FreshS.gives_of (Go.FreshS.PM (fun x : FV => .tuple #[x.v, .int .i64 0]) (fun x w' => DF w' w23.heap.size x q25) FV.blk w'.heap.size) ?_ (fun _ _ h => h.post (FV.injE 0))
    go_simp
    have f1 := Go.FreshS.made_of (val := fun x : NV => x.v) (Φ := fun x w' => DN w' w23.heap.size x z20) @NV.inj (hw'.fact 1 (by kernel_rfl))
    have CT := qmake (N1.out.below (KG.out.trans (hb'.mono KG.out.size))) ((N1.out.below (KG.out.trans (hb'.mono KG.out.size))).len LZp1.out (by decide)) f1.k (f1.k.len LZz20.out (by decide)) (by rw [Hz20.out]; decide)
    rw [show (p1 : Rat) / (z20 : Rat) = q25 from Hq25.out.symm] at CT
    refine CT.mono ?_
    rintro e w'' ⟨za, rfl, ho, hb⟩
    exact ⟨_, rfl, ⟨za, rfl, ho.mono hb'.size, ho.blks⟩, hb⟩
  rintro _ ⟨y2, rfl⟩
  conv => arg 10; simp only [Act.put, List.setIfInBounds_toArray, List.set_cons_succ, List.set_cons_zero]
  refine Go.FreshS.wpF_reads rfl rfl rfl ?_ (fun w' hw' => ?_) ?_
  rotate_left
  · have hb' := hw'.world
    skip
    clear hw'
    go_simp
    try rfl
  conv => arg 10; simp only [Act.put, List.setIfInBounds_toArray, List.set_cons_succ, List.set_cons_zero]
  refine Go.FreshS.wpF_reads rfl rfl rfl ?_ (fun w' hw' => ?_) ?_
  rotate_left
  · have hb' := hw'.world
    skip
    clear hw'
    go_simp
    try rfl
  conv => arg 10; simp only [Act.put, List.setIfInBounds_toArray, List.set_cons_succ, List.set_cons_zero]
  refine Go.FreshS.wpF_reads rfl rfl rfl ?_ (fun w' hw' => ?_) ?_
  rotate_left
  · have hb' := hw'.world
    skip
    clear hw'
    go_simp
    try rfl
  conv => arg 10; simp only [Act.put, List.setIfInBounds_toArray, List.set_cons_succ, List.set_cons_zero]
  refine Go.FreshS.wpF_spec rfl rfl rfl (fun w' hw' => ?_) ?_
  · have hb' := hw'.world
    refine Go.FreshS.gives_of (Go.FreshS.PB 26 4 w23.heap.size w'.heap.size) ?_ (fun _ _ h => h.post)
    go_simp
    exact ⟨Go.FreshS.PB.new _ rfl hb'.size, (Below.refl _ _).alloc (Nat.le_refl _) _⟩
  rintro _ ⟨y6, rfl⟩
  conv => arg 10; simp only [Act.put, List.setIfInBounds_toArray, List.set_cons_succ, List.set_cons_zero]
  refine Go.FreshS.wpF_store rfl rfl 6 rfl rfl rfl rfl (fun _ => Iff.rfl) (fun w' hw' => ?_) ?_
  · have hb' := hw'.world
    have hX := Go.FreshS.box_of (hw'.fact 6 (by kernel_rfl))
    obtain ⟨c0, c1, c2, c3, hB⟩ := shp4 hX.1
    have m0 := hB.cell (i := 0) rfl
    have m1 := hB.cell (i := 1) rfl
    have m2 := hB.cell (i := 2) rfl
    have m3 := hB.cell (i := 3) rfl
    have mf := hB.fz
    have ml := hB.lt
    refine Go.FreshS.stores_of ?_ (store4 hb' hX.2 hB (.bool y2.t.s) (.slice y2.t.a y2.t.n y2.t.c) (.bool y2.l.s) (.slice y2.l.a y2.l.n y2.l.c))
    clear hw'
    go_simp
    try rfl
  conv => arg 10; simp only [Act.put, List.setIfInBounds_toArray, List.set_cons_succ, List.set_cons_zero]
  refine Go.FreshS.wpF_nil (fun w27 hb hF => ?_)
  have BX26 := Lib.hid (show Bxs w27 y6 26 [.bool y2.t.s, .slice y2.t.a y2.t.n y2.t.c, .bool y2.l.s, .slice y2.l.a y2.l.n y2.l.c] from stored_bxs (hF.all 7))
  have N28 := Lib.hid (show DF w27 w23.heap.size y2 q25 from (Go.FreshS.made_of (val := (fun x : FV => .tuple #[x.v, .int .i64 0])) (Φ := fun x w' => DF w' w23.heap.size x q25) (FV.injE 0) (hF.all 2)))
  clear hF
  have N12 := Lib.hid (N12.out.below hb)
  have N24 := Lib.hid (N24.out.below hb)
  clear BX1
  have BX3 := Lib.hid (BX3.out.below hb BX3.out.lt)
  have BX13 := Lib.hid (BX13.out.below hb BX13.out.lt)
  have BX22 := Lib.hid (BX22.out.below hb BX22.out.lt)
  have KG := Lib.hid (KG.out.trans (hb.mono KG.out.size))
  clear hb
  go_upto_region 9 with (fail)
  refine Go.FreshS.wp_region_fresh 22 [] (Go.FreshS.spOf [(12, Go.FreshS.Sp.know (.bool true)), (18, Go.FreshS.Sp.made (fun x : FV => x.v) (fun x w' => DF w' w27.heap.size x q29) FV.blk), (20, Go.FreshS.Sp.know (.bool true))])
    (fun w' => Below w27.heap.size w27 w') (by kernel_rfl) (by kernel_rfl) (by kernel_rfl)
    (Go.FreshS.spOf_cons (Go.FreshS.Sp.know_keeps _ _) (Go.FreshS.spOf_cons (Go.FreshS.Sp.made_keeps _ (fun _ _ _ h _ hk => h.kept hk) (Go.FreshS.notTaken (by kernel_rfl))) (Go.FreshS.spOf_cons (Go.FreshS.Sp.know_keeps _ _) (Go.FreshS.spOf_nil)))) (fun _ _ h hb => h.trans (hb.mono h.size)) ((Below.refl _ _).drew) ?_
  simp only [List.append_eq, List.cons_append, List.nil_append, List.take_succ_cons, List.take_zero, List.drop_succ_cons, List.drop_zero]
  refine Go.FreshS.wpF_reads rfl rfl rfl ?_ (fun w' hw' => ?_) ?_
  rotate_left
  · have hb' := hw'.world
    skip
    clear hw'
    go_simp
    try rfl
  conv => arg 10; simp only [Act.put, List.setIfInBounds_toArray, List.set_cons_succ, List.set_cons_zero]
  refine Go.FreshS.wpF_reads rfl rfl rfl ?_ (fun w' hw' => ?_) ?_
  rotate_left
  · have hb' := hw'.world
    skip
    clear hw'
    go_simp
    try rfl
  conv => arg 10; simp only [Act.put, List.setIfInBounds_toArray, List.set_cons_succ, List.set_cons_zero]
  refine Go.FreshS.wpF_reads rfl rfl rfl ?_ (fun w' hw' => ?_) ?_
  rotate_left
  · have hb' := hw'.world
    skip
    clear hw'
    go_simp
    try rfl
  conv => arg 10; simp only [Act.put, List.setIfInBounds_toArray, List.set_cons_succ, List.set_cons_zero]
  refine Go.FreshS.wpF_readsG (by rfl) rfl rfl ?_ (fun w' hw' => ?_) ?_
  rotate_left
  · have hb' := hw'.world
    skip
    clear hw'
    go_simp
    try rfl
  conv => arg 10; simp only [Act.put, List.setIfInBounds_toArray, List.set_cons_succ, List.set_cons_zero]
  refine Go.FreshS.wpF_readsG (by rfl) rfl rfl ?_ (fun w' hw' => ?_) ?_
  rotate_left
  · have hb' := hw'.world
    skip
    clear hw'
    go_simp
    try rfl
  conv => arg 10; simp only [Act.put, List.setIfInBounds_toArray, List.set_cons_succ, List.set_cons_zero]
  refine Go.FreshS.wpF_reads rfl rfl rfl ?_ (fun w' hw' => ?_) ?_
  rotate_left
  · have hb' := hw'.world
    skip
    clear hw'
    go_simp
    try rfl
  conv => arg 10; simp only [Act.put, List.setIfInBounds_toArray, List.set_cons_succ, List.set_cons_zero]
  refine Go.FreshS.wpF_reads rfl rfl rfl ?_ (fun w' hw' => ?_) ?_
  rotate_left
  · have hb' := hw'.world
    skip
    clear hw'
    go_simp
    try rfl
  conv => arg 10; simp only [Act.put, List.setIfInBounds_toArray, List.set_cons_succ, List.set_cons_zero]
  refine Go.FreshS.wpF_readsG (by rfl) rfl rfl ?_ (fun w' hw' => ?_) ?_
  rotate_left
  · have hb' := hw'.world
    skip
    clear hw'
    go_simp
    try rfl
  conv => arg 10; simp only [Act.put, List.setIfInBounds_toArray, List.set_cons_succ, List.set_cons_zero]
  refine Go.FreshS.wpF_readsG (by rfl) rfl rfl ?_ (fun w' hw' => ?_) ?_
  rotate_left
  · have hb' := hw'.world
    skip
    clear hw'
    go_simp
    try rfl
  conv => arg 10; simp only [Act.put, List.setIfInBounds_toArray, List.set_cons_succ, List.set_cons_zero]
  refine Go.FreshS.wpF_reads rfl rfl rfl ?_ (fun w' hw' => ?_) ?_
  rotate_left
  · have hb' := hw'.world
    skip
    clear hw'
    go_simp
    try rfl
  conv => arg 10; simp only [Act.put, List.setIfInBounds_toArray, List.set_cons_succ, List.set_cons_zero]
  refine Go.FreshS.wpF_reads rfl rfl rfl ?_ (fun w' hw' => ?_) ?_
  rotate_left
  · have hb' := hw'.world
    skip
    clear hw'
    go_simp
    try rfl
  conv => arg 10; simp only [Act.put, List.setIfInBounds_toArray, List.set_cons_succ, List.set_cons_zero]
  refine Go.FreshS.wpF_readsG (by rfl) rfl rfl ?_ (fun w' hw' => ?_) ?_
  rotate_left
  · have hb' := hw'.world
    have hs0 := (BX13.out.below hb' BX13.out.lt).cell (i := 0) rfl
    have hs1 := (BX13.out.below hb' BX13.out.lt).cell (i := 1) rfl
    have hs2 := (BX13.out.below hb' BX13.out.lt).cell (i := 2) rfl
    have hs3 := (BX13.out.below hb' BX13.out.lt).cell (i := 3) rfl
    have hsf := (BX13.out.below hb' BX13.out.lt).fz
    have hsl := (BX13.out.below hb' BX13.out.lt).lt
    clear hw'
    go_simp
    try rfl
  conv => arg 10; simp only [Act.put, List.setIfInBounds_toArray, List.set_cons_succ, List.set_cons_zero]
  refine Go.FreshS.wpF_gspec (by rfl) rfl rfl (fun w' hw' => ?_) ?_
  · have hb' := hw'.world
    refine Go.FreshS.gives_of (Go.FreshS.PK (.bool true)) ?_ (fun _ _ h => h.post)
    go_simp
    have CT := qcheck ((N12.out.below hb')).k ((((N12.out.below hb')).k).len LQq9.out (by decide : _ ≤ 900000))
    refine CT.mono ?_
    rintro e w'' ⟨rfl, hb⟩
    exact ⟨_, rfl, rfl, hb⟩
  rintro _ rfl
  conv => arg 10; simp only [Act.put, List.setIfInBounds_toArray, List.set_cons_succ, List.set_cons_zero]
  refine Go.FreshS.wpF_readsG (by rfl) rfl rfl ?_ (fun w' hw' => ?_) ?_
  rotate_left
  · have hb' := hw'.world
    skip
    clear hw'
    go_simp
    try rfl
  conv => arg 10; simp only [Act.put, List.setIfInBounds_toArray, List.set_cons_succ, List.set_cons_zero]
  refine Go.FreshS.wpF_reads rfl rfl rfl ?_ (fun w' hw' => ?_) ?_
  rotate_left
  · have hb' := hw'.world
    skip
    clear hw'
    go_simp
    try rfl
  conv => arg 10; simp only [Act.put, List.setIfInBounds_toArray, List.set_cons_succ, List.set_cons_zero]
  refine Go.FreshS.wpF_reads rfl rfl rfl ?_ (fun w' hw' => ?_) ?_
  rotate_left
  · have hb' := hw'.world
    skip
    clear hw'
    go_simp
    try rfl
  conv => arg 10; simp only [Act.put, List.setIfInBounds_toArray, List.set_cons_succ, List.set_cons_zero]
  refine Go.FreshS.wpF_readsG (by rfl) rfl rfl ?_ (fun w' hw' => ?_) ?_
  rotate_left
  · have hb' := hw'.world
    have hs0 := (BX13.out.below hb' BX13.out.lt).cell (i := 0) rfl
    have hs1 := (BX13.out.below hb' BX13.out.lt).cell (i := 1) rfl
    have hs2 := (BX13.out.below hb' BX13.out.lt).cell (i := 2) rfl
    have hs3 := (BX13.out.below hb' BX13.out.lt).cell (i := 3) rfl
    have hsf := (BX13.out.below hb' BX13.out.lt).fz
    have hsl := (BX13.out.below hb' BX13.out.lt).lt
    clear hw'
    go_simp
    try rfl
  conv => arg 10; simp only [Act.put, List.setIfInBounds_toArray, List.set_cons_succ, List.set_cons_zero]
  refine Go.FreshS.wpF_readsG (by rfl) rfl rfl ?_ (fun w' hw' => ?_) ?_
  rotate_left
  · have hb' := hw'.world
    have hs0 := (BX22.out.below hb' BX22.out.lt).cell (i := 0) rfl
    have hs1 := (BX22.out.below hb' BX22.out.lt).cell (i := 1) rfl
    have hs2 := (BX22.out.below hb' BX22.out.lt).cell (i := 2) rfl
    have hs3 := (BX22.out.below hb' BX22.out.lt).cell (i := 3) rfl
    have hsf := (BX22.out.below hb' BX22.out.lt).fz
    have hsl := (BX22.out.below hb' BX22.out.lt).lt
    clear hw'
    go_simp
    try rfl
  conv => arg 10; simp only [Act.put, List.setIfInBounds_toArray, List.set_cons_succ, List.set_cons_zero]
  refine Go.FreshS.wpF_gspec (by rfl) rfl rfl (fun w' hw' => ?_) ?_
  · have hb' := hw'.world
    refine Go.FreshS.gives_of (Go.FreshS.PM (fun x : FV => x.v) (fun x w' => DF w' w27.heap.size x q29) FV.blk w'.heap.size) ?_ (fun _ _ h => h.post (fun _ _ => FV.inj))
    go_simp
    have CT := qmul ((N12.out.below hb')).k.any ((((N12.out.below hb')).k).len LQq9.out (by decide : _ ≤ 900000)) ((N24.out.below hb')).k.any ((((N24.out.below hb')).k).len LQq21.out (by decide : _ ≤ 900000))
    rw [show q9 * q21 = q29 from Hq29.out.symm] at CT
    refine CT.mono ?_
    rintro e w'' ⟨za, rfl, ho, hb⟩
    exact ⟨_, rfl, ⟨za, rfl, ho.mono hb'.size, ho.blks⟩, hb⟩
  rintro _ ⟨y18, rfl⟩
  conv => arg 10; simp only [Act.put, List.setIfInBounds_toArray, List.set_cons_succ, List.set_cons_zero]
  refine Go.FreshS.wpF_readsG (by rfl) rfl rfl ?_ (fun w' hw' => ?_) ?_
  rotate_left
  · have hb' := hw'.world
    have hs0 := (BX26.out.below hb' BX26.out.lt).cell (i := 0) rfl
    have hs1 := (BX26.out.below hb' BX26.out.lt).cell (i := 1) rfl
    have hs2 := (BX26.out.below hb' BX26.out.lt).cell (i := 2) rfl
    have hs3 := (BX26.out.below hb' BX26.out.lt).cell (i := 3) rfl
    have hsf := (BX26.out.below hb' BX26.out.lt).fz
    have hsl := (BX26.out.below hb' BX26.out.lt).lt
    clear hw'
    go_simp
    try rfl
  conv => arg 10; simp only [Act.put, List.setIfInBounds_toArray, List.set_cons_succ, List.set_cons_zero]
  refine Go.FreshS.wpF_gspec (by rfl) rfl rfl (fun w' hw' => ?_) ?_
  · have hb' := hw'.world
    refine Go.FreshS.gives_of (Go.FreshS.PK (.bool true)) ?_ (fun _ _ h => h.post)
    go_simp
    have f18 := Go.FreshS.made_of (val := (fun x : FV => x.v)) (Φ := fun x w' => DF w' w27.heap.size x q29) (fun _ _ => FV.inj) (hw'.fact 18 (by kernel_rfl))
    have CT := qsame (f18).k (((f18).k).len LQq29.out (by decide : _ ≤ 900000)) ((N28.out.below hb')).k ((((N28.out.below hb')).k).len LQq25.out (by decide : _ ≤ 900000)) (by simp only [Hq29.out, Hq25.out, Hq21.out, Hz20.out, Hz16.out, Hz15.out, Hq9.out]; exact made1 HZ.out)
    refine CT.mono ?_
    rintro e w'' ⟨rfl, hb⟩
    exact ⟨_, rfl, rfl, hb⟩
  rintro _ rfl
  conv => arg 10; simp only [Act.put, List.setIfInBounds_toArray, List.set_cons_succ, List.set_cons_zero]
  refine Go.FreshS.wpF_readsG (by rfl) rfl rfl ?_ (fun w' hw' => ?_) ?_
  rotate_left
  · have hb' := hw'.world
    skip
    clear hw'
    go_simp
    try rfl
  conv => arg 10; simp only [Act.put, List.setIfInBounds_toArray, List.set_cons_succ, List.set_cons_zero]
  refine Go.FreshS.wpF_nil (fun w30 hb hF => ?_)
  clear hF
  clear N12
  clear N24
  clear N28
  have BX3 := Lib.hid (BX3.out.below hb BX3.out.lt)
  clear BX13
  clear BX22
  clear BX26
  have KG := Lib.hid (KG.out.trans (hb.mono KG.out.size))
  clear hb
  have cBX30 := BX3.out.cell (i := 0) rfl
  have cBX31 := BX3.out.cell (i := 1) rfl
  have cBX3f := BX3.out.fz
  have cBX3l := BX3.out.lt
  go_wp2_with fail
  have CT := Lib.hid (signN (N3.out.below KG.out).any ((N3.out.below KG.out).len LZp3.out (by decide)))
  rw [show cmpZ p3 0 = 0 from cmpZ_eq HY.out] at CT
  with_reducible refine CT.out.mono ?_
  rintro e w31 ⟨rfl, hb⟩
  clear CT
  clear cBX30 cBX31 cBX3f cBX3l
  clear BX3
  have KG := Lib.hid (KG.out.trans (hb.mono KG.out.size))
  clear hb
  go_wp2_with fail
  go_ret
  exact ⟨rfl, KG.out⟩
set_option maxRecDepth 100000 in
set_option maxHeartbeats 8000000 in
theorem made_ok (x1 x2 x3 : NV) (p1 p2 p3 : Int) (w : World) (htab : Tab w) (h1 : KN w x1 p1) (h2 : KN w x2 p2) (h3 : KN w x3 p3) (b1 : x1.n ≤ 8) (b2 : x2.n ≤ 8) (b3 : x3.n ≤ 8) (hz : p2 ≠ 0) (hy : p3 ≠ 0) : Calls Tryz.prog 6 #[x1.v, x2.v, x3.v] w fun e w' => e = .returned (.bool true) ∧ Below w.heap.size w w' := by
  have HT := Lib.hid htab
  have KG := Lib.hid (Below.refl w.heap.size w)
  have N1 := Lib.hid h1
  have N2 := Lib.hid h2
  have N3 := Lib.hid h3
  have Bx1 := Lib.hid b1
  have LZp1 := Lib.hid (show lenB p1.natAbs ≤ 8 by have := h1.n; omega)
  have Bx2 := Lib.hid b2
  have LZp2 := Lib.hid (show lenB p2.natAbs ≤ 8 by have := h2.n; omega)
  have Bx3 := Lib.hid b3
  have LZp3 := Lib.hid (show lenB p3.natAbs ≤ 8 by have := h3.n; omega)
  have HZ := Lib.hid hz
  clear hz
  have HY := Lib.hid hy
  clear hy
  clear htab h1 h2 h3 b1 b2 b3
  obtain ⟨sb, hsb⟩ : ∃ s, s = cmpZ p2 0 := ⟨_, rfl⟩
  have HSN := Lib.hid (show (sb == 0) = false by rw [hsb, cmpZ_same]; exact decide_eq_false HZ.out)
  have Hsb := Lib.hid hsb
  clear hsb
  obtain ⟨sc, hsc⟩ : ∃ s, s = cmpZ p3 0 := ⟨_, rfl⟩
  have HSC := Lib.hid (show (sc == 0) = false by rw [hsc, cmpZ_same]; exact decide_eq_false HY.out)
  have HSC2 := Lib.hid (show (sc != 0) = true by have := HSC.out; simp only [bne, this]; rfl)
  have Hsc := Lib.hid hsc
  clear hsc
  obtain ⟨q9, hq9⟩ : ∃ z : Rat, z = (p1 : Rat) / (p2 : Rat) := ⟨_, rfl⟩
  have Hq9 := Lib.hid hq9
  have LQq9 := Lib.hid (show LQ q9 8 by rw [hq9]; exact LQ.make (HZ.out) (Nat.le_trans LZp1.out (by decide)) (Nat.le_trans LZp2.out (by decide)))
  clear hq9
  obtain ⟨z15, hz15⟩ : ∃ z : Int, z = p1 * p3 := ⟨_, rfl⟩
  have Hz15 := Lib.hid hz15
  have LZz15 := Lib.hid (show lenB z15.natAbs ≤ 16 by rw [hz15]; exact lenZ_mul LZp1.out LZp3.out)
  clear hz15
  obtain ⟨z16, hz16⟩ : ∃ z : Int, z = p2 * p3 := ⟨_, rfl⟩
  have Hz16 := Lib.hid hz16
  have LZz16 := Lib.hid (show lenB z16.natAbs ≤ 16 by rw [hz16]; exact lenZ_mul LZp2.out LZp3.out)
  clear hz16
  obtain ⟨q17, hq17⟩ : ∃ z : Rat, z = (z15 : Rat) / (z16 : Rat) := ⟨_, rfl⟩
  have Hq17 := Lib.hid hq17
  have LQq17 := Lib.hid (show LQ q17 16 by rw [hq17]; exact LQ.make (by rw [Hz16.out]; exact Int.mul_ne_zero HZ.out HY.out) (Nat.le_trans LZz15.out (by decide)) (Nat.le_trans LZz16.out (by decide)))
  clear hq17
  obtain ⟨z22, hz22⟩ : ∃ z : Int, z = (1 : Int) := ⟨_, rfl⟩
  have Hz22 := Lib.hid hz22
  have LZz22 := Lib.hid (show lenB z22.natAbs ≤ 3 by rw [hz22]; exact len1 (by decide) (by decide))
  clear hz22
  obtain ⟨q23, hq23⟩ : ∃ z : Rat, z = (p2 : Rat) / (z22 : Rat) := ⟨_, rfl⟩
  have Hq23 := Lib.hid hq23
  have LQq23 := Lib.hid (show LQ q23 8 by rw [hq23]; exact LQ.make (by rw [Hz22.out]; decide) (Nat.le_trans LZp2.out (by decide)) (Nat.le_trans LZz22.out (by decide)))
  clear hq23
  obtain ⟨q27, hq27⟩ : ∃ z : Rat, z = (p1 : Rat) / (z22 : Rat) := ⟨_, rfl⟩
  have Hq27 := Lib.hid hq27
  have LQq27 := Lib.hid (show LQ q27 8 by rw [hq27]; exact LQ.make (by rw [Hz22.out]; decide) (Nat.le_trans LZp1.out (by decide)) (Nat.le_trans LZz22.out (by decide)))
  clear hq27
  obtain ⟨q31, hq31⟩ : ∃ z : Rat, z = q9 * q23 := ⟨_, rfl⟩
  have Hq31 := Lib.hid hq31
  have LQq31 := Lib.hid (show LQ q31 16 by rw [hq31]; exact LQ.mul (LQq9.out.up (by decide : _ ≤ 8)) (LQq23.out.up (by decide : _ ≤ 8)) (by decide))
  clear hq31
  go_enter Tryz.func6, Tryz.ntmps6
  go_upto_region 1 with (fail)
  obtain ⟨v4, hV⟩ : ∃ V, V = ((w.alloc (.cells #[.bool x1.s, .slice x1.a x1.n x1.c] 24)).alloc (.cells #[.bool x2.s, .slice x2.a x2.n x2.c] 24)).alloc (.cells #[.bool x3.s, .slice x3.a x3.n x3.c] 24) := ⟨_, rfl⟩
  have hbV : Below w.heap.size w v4 := by rw [hV]; exact ((((Below.refl _ _).alloc (Nat.le_refl _) _).alloc (by go_size) _).alloc (by go_size) _)
  have BX1 := Lib.hid (show Bxs v4 (w.heap.size) 24 [.bool x1.s, .slice x1.a x1.n x1.c] by have h := ((Bxs.new (w) 24 [.bool x1.s, .slice x1.a x1.n x1.c]).alloc (.cells #[.bool x2.s, .slice x2.a x2.n x2.c] 24)).alloc (.cells #[.bool x3.s, .slice x3.a x3.n x3.c] 24); rw [hV]; exact h)
  have BX2 := Lib.hid (show Bxs v4 (w.heap.size + 1) 24 [.bool x2.s, .slice x2.a x2.n x2.c] by have h := (Bxs.new (w.alloc (.cells #[.bool x1.s, .slice x1.a x1.n x1.c] 24)) 24 [.bool x2.s, .slice x2.a x2.n x2.c]).alloc (.cells #[.bool x3.s, .slice x3.a x3.n x3.c] 24); simp only [World.size_alloc] at h; rw [hV]; exact h)
  have BX3 := Lib.hid (show Bxs v4 (w.heap.size + 1 + 1) 24 [.bool x3.s, .slice x3.a x3.n x3.c] by have h := Bxs.new ((w.alloc (.cells #[.bool x1.s, .slice x1.a x1.n x1.c] 24)).alloc (.cells #[.bool x2.s, .slice x2.a x2.n x2.c] 24)) 24 [.bool x3.s, .slice x3.a x3.n x3.c]; simp only [World.size_alloc] at h; rw [hV]; exact h)
  rw [show ((w.alloc (.cells #[.bool x1.s, .slice x1.a x1.n x1.c] 24)).alloc (.cells #[.bool x2.s, .slice x2.a x2.n x2.c] 24)).alloc (.cells #[.bool x3.s, .slice x3.a x3.n x3.c] 24) = v4 from hV.symm]
  have KG := Lib.hid (KG.out.trans (hbV.mono KG.out.size))
  clear hV hbV
  have g1 : ¬ (x1.n : Int) > 8 := by have := Bx1.out; omega
  have g2 : ¬ (x2.n : Int) > 8 := by have := Bx2.out; omega
  have g3 : ¬ (x3.n : Int) > 8 := by have := Bx3.out; omega
  go_wp2_with fail
  have CT := Lib.hid (qalive v4 (HT.out.on KG.out))
  with_reducible refine CT.out.mono ?_
  rintro e w5 ⟨rfl, hb⟩
  clear CT
  have BX1 := Lib.hid (BX1.out.below hb BX1.out.lt)
  have BX2 := Lib.hid (BX2.out.below hb BX2.out.lt)
  have BX3 := Lib.hid (BX3.out.below hb BX3.out.lt)
  have KG := Lib.hid (KG.out.trans (hb.mono KG.out.size))
  clear hb
  have cBX10 := BX1.out.cell (i := 0) rfl
  have cBX11 := BX1.out.cell (i := 1) rfl
  have cBX1f := BX1.out.fz
  have cBX1l := BX1.out.lt
  have cBX20 := BX2.out.cell (i := 0) rfl
  have cBX21 := BX2.out.cell (i := 1) rfl
  have cBX2f := BX2.out.fz
  have cBX2l := BX2.out.lt
  have cBX30 := BX3.out.cell (i := 0) rfl
  have cBX31 := BX3.out.cell (i := 1) rfl
  have cBX3f := BX3.out.fz
  have cBX3l := BX3.out.lt
  go_wp2_with fail
  have CT := Lib.hid (checkN (N1.out.below KG.out) ((N1.out.below KG.out).len LZp1.out (by decide)))
  with_reducible refine CT.out.mono ?_
  rintro e w6 ⟨rfl, hb⟩
  clear CT
  clear cBX10 cBX11 cBX1f cBX1l
  clear cBX20 cBX21 cBX2f cBX2l
  clear cBX30 cBX31 cBX3f cBX3l
  have BX1 := Lib.hid (BX1.out.below hb BX1.out.lt)
  have BX2 := Lib.hid (BX2.out.below hb BX2.out.lt)
  have BX3 := Lib.hid (BX3.out.below hb BX3.out.lt)
  have KG := Lib.hid (KG.out.trans (hb.mono KG.out.size))
  clear hb
  have cBX20 := BX2.out.cell (i := 0) rfl
  have cBX21 := BX2.out.cell (i := 1) rfl
  have cBX2f := BX2.out.fz
  have cBX2l := BX2.out.lt
  go_wp2_with fail
  have CT := Lib.hid (checkN (N2.out.below KG.out) ((N2.out.below KG.out).len LZp2.out (by decide)))
  with_reducible refine CT.out.mono ?_
  rintro e w7 ⟨rfl, hb⟩
  clear CT
  clear cBX20 cBX21 cBX2f cBX2l
  have BX1 := Lib.hid (BX1.out.below hb BX1.out.lt)
  have BX2 := Lib.hid (BX2.out.below hb BX2.out.lt)
  have BX3 := Lib.hid (BX3.out.below hb BX3.out.lt)
  have KG := Lib.hid (KG.out.trans (hb.mono KG.out.size))
  clear hb
  have cBX30 := BX3.out.cell (i := 0) rfl
  have cBX31 := BX3.out.cell (i := 1) rfl
  have cBX3f := BX3.out.fz
  have cBX3l := BX3.out.lt
  go_wp2_with fail
  have CT := Lib.hid (checkN (N3.out.below KG.out) ((N3.out.below KG.out).len LZp3.out (by decide)))
  with_reducible refine CT.out.mono ?_
  rintro e w8 ⟨rfl, hb⟩
  clear CT
  clear cBX30 cBX31 cBX3f cBX3l
  have BX1 := Lib.hid (BX1.out.below hb BX1.out.lt)
  have BX2 := Lib.hid (BX2.out.below hb BX2.out.lt)
  have BX3 := Lib.hid (BX3.out.below hb BX3.out.lt)
  have KG := Lib.hid (KG.out.trans (hb.mono KG.out.size))
  clear hb
  have cBX10 := BX1.out.cell (i := 0) rfl
  have cBX11 := BX1.out.cell (i := 1) rfl
  have cBX1f := BX1.out.fz
  have cBX1l := BX1.out.lt
  have cBX20 := BX2.out.cell (i := 0) rfl
  have cBX21 := BX2.out.cell (i := 1) rfl
  have cBX2f := BX2.out.fz
  have cBX2l := BX2.out.lt
  go_wp2_with fail
  have CT := Lib.hid (qmake (N1.out.below KG.out) ((N1.out.below KG.out).len LZp1.out (by decide)) (N2.out.below KG.out) ((N2.out.below KG.out).len LZp2.out (by decide)) (HZ.out))
  rw [show (p1 : Rat) / (p2 : Rat) = q9 from Hq9.out.symm] at CT
  with_reducible refine CT.out.mono ?_
  rintro e w10 ⟨x11, rfl, hN12, hb⟩
  have N12 := Lib.hid hN12
  clear hN12
  clear CT
  clear cBX10 cBX11 cBX1f cBX1l
  clear cBX20 cBX21 cBX2f cBX2l
  have BX1 := Lib.hid (BX1.out.below hb BX1.out.lt)
  have BX2 := Lib.hid (BX2.out.below hb BX2.out.lt)
  have BX3 := Lib.hid (BX3.out.below hb BX3.out.lt)
  have KG := Lib.hid (KG.out.trans (hb.mono KG.out.size))
  clear hb
  go_upto_region 4 with (fail)
  obtain ⟨v14, hV⟩ : ∃ V, V = w10.alloc (.cells #[.bool x11.t.s, .slice x11.t.a x11.t.n x11.t.c, .bool x11.l.s, .slice x11.l.a x11.l.n x11.l.c] 26) := ⟨_, rfl⟩
  have hbV : Below w10.heap.size w10 v14 := by rw [hV]; exact ((Below.refl _ _).alloc (Nat.le_refl _) _)
  have BX13 := Lib.hid (show Bxs v14 (w10.heap.size) 26 [.bool x11.t.s, .slice x11.t.a x11.t.n x11.t.c, .bool x11.l.s, .slice x11.l.a x11.l.n x11.l.c] by have h := Bxs.new (w10) 26 [.bool x11.t.s, .slice x11.t.a x11.t.n x11.t.c, .bool x11.l.s, .slice x11.l.a x11.l.n x11.l.c]; rw [hV]; exact h)
  rw [show w10.alloc (.cells #[.bool x11.t.s, .slice x11.t.a x11.t.n x11.t.c, .bool x11.l.s, .slice x11.l.a x11.l.n x11.l.c] 26) = v14 from hV.symm]
  have N12 := Lib.hid (N12.out.below hbV)
  have BX1 := Lib.hid (BX1.out.below hbV BX1.out.lt)
  have BX2 := Lib.hid (BX2.out.below hbV BX2.out.lt)
  have BX3 := Lib.hid (BX3.out.below hbV BX3.out.lt)
  have KG := Lib.hid (KG.out.trans (hbV.mono KG.out.size))
  clear hV hbV
  go_upto_region 4 with (fail)
  refine Go.FreshS.wp_region_fresh 12 [(11, 10)] (Go.FreshS.spOf [(2, Go.FreshS.Sp.made (fun x : NV => x.v) (fun x w' => DN w' v14.heap.size x z15) NV.blk), (5, Go.FreshS.Sp.made (fun x : NV => x.v) (fun x w' => DN w' v14.heap.size x z16) NV.blk), (6, Go.FreshS.Sp.made (fun x : FV => .tuple #[x.v, .int .i64 0]) (fun x w' => DF w' v14.heap.size x q17) FV.blk), (10, Go.FreshS.Sp.box 26 4 v14.heap.size)])
    (fun w' => Below v14.heap.size v14 w') (by kernel_rfl) (by kernel_rfl) (by kernel_rfl)
    (Go.FreshS.spOf_cons (Go.FreshS.Sp.made_keeps _ (fun _ _ _ h _ hk => h.kept hk) (Go.FreshS.notTaken (by kernel_rfl))) (Go.FreshS.spOf_cons (Go.FreshS.Sp.made_keeps _ (fun _ _ _ h _ hk => h.kept hk) (Go.FreshS.notTaken (by kernel_rfl))) (Go.FreshS.spOf_cons (Go.FreshS.Sp.made_keeps _ (fun _ _ _ h _ hk => h.kept hk) (Go.FreshS.notTaken (by kernel_rfl))) (Go.FreshS.spOf_cons (Go.FreshS.Sp.box_keeps _ _ _ _) (Go.FreshS.spOf_nil))))) (fun _ _ h hb => h.trans (hb.mono h.size)) ((Below.refl _ _).drew) ?_
  simp only [List.append_eq, List.cons_append, List.nil_append, List.take_succ_cons, List.take_zero, List.drop_succ_cons, List.drop_zero]
  refine Go.FreshS.wpF_reads rfl rfl rfl ?_ (fun w' hw' => ?_) ?_
  rotate_left
  · have hb' := hw'.world
    have hs0 := (BX1.out.below hb' BX1.out.lt).cell (i := 0) rfl
    have hs1 := (BX1.out.below hb' BX1.out.lt).cell (i := 1) rfl
    have hsf := (BX1.out.below hb' BX1.out.lt).fz
    have hsl := (BX1.out.below hb' BX1.out.lt).lt
    clear hw'
    go_simp
    try rfl
  conv => arg 10; simp only [Act.put, List.setIfInBounds_toArray, List.set_cons_succ, List.set_cons_zero]
  refine Go.FreshS.wpF_reads rfl rfl rfl ?_ (fun w' hw' => ?_) ?_
  rotate_left
  · have hb' := hw'.world
    have hs0 := (BX3.out.below hb' BX3.out.lt).cell (i := 0) rfl
    have hs1 := (BX3.out.below hb' BX3.out.lt).cell (i := 1) rfl
    have hsf := (BX3.out.below hb' BX3.out.lt).fz
    have hsl := (BX3.out.below hb' BX3.out.lt).lt
    clear hw'
    go_simp
    try rfl
  conv => arg 10; simp only [Act.put, List.setIfInBounds_toArray, List.set_cons_succ, List.set_cons_zero]
  refine Go.FreshS.wpF_spec rfl rfl rfl (fun w' hw' => ?_) ?_
  · have hb' := hw'.world
    refine Go.FreshS.gives_of (Go.FreshS.PM (fun x : NV => x.v) (fun x w' => DN w' v14.heap.size x z15) NV.blk w'.heap.size) ?_ (fun _ _ h => h.post @NV.inj)
    go_simp
    have CT := mulN (N1.out.below (KG.out.trans (hb'.mono KG.out.size))).any ((N1.out.below (KG.out.trans (hb'.mono KG.out.size))).len LZp1.out (by decide)) (N3.out.below (KG.out.trans (hb'.mono KG.out.size))).any ((N3.out.below (KG.out.trans (hb'.mono KG.out.size))).len LZp3.out (by decide))
    rw [show p1 * p3 = z15 from Hz15.out.symm] at CT
    refine CT.mono ?_
    rintro e w'' ⟨za, rfl, ho, hb⟩
    exact ⟨_, rfl, ⟨za, rfl, ho.mono hb'.size, ho.blks⟩, hb⟩
  rintro _ ⟨y2, rfl⟩
  conv => arg 10; simp only [Act.put, List.setIfInBounds_toArray, List.set_cons_succ, List.set_cons_zero]
  refine Go.FreshS.wpF_reads rfl rfl rfl ?_ (fun w' hw' => ?_) ?_
  rotate_left
  · have hb' := hw'.world
    have hs0 := (BX2.out.below hb' BX2.out.lt).cell (i := 0) rfl
    have hs1 := (BX2.out.below hb' BX2.out.lt).cell (i := 1) rfl
    have hsf := (BX2.out.below hb' BX2.out.lt).fz
    have hsl := (BX2.out.below hb' BX2.out.lt).lt
    clear hw'
    go_simp
    try rfl
  conv => arg 10; simp only [Act.put, List.setIfInBounds_toArray, List.set_cons_succ, List.set_cons_zero]
  refine Go.FreshS.wpF_reads rfl rfl rfl ?_ (fun w' hw' => ?_) ?_
  rotate_left
  · have hb' := hw'.world
    have hs0 := (BX3.out.below hb' BX3.out.lt).cell (i := 0) rfl
    have hs1 := (BX3.out.below hb' BX3.out.lt).cell (i := 1) rfl
    have hsf := (BX3.out.below hb' BX3.out.lt).fz
    have hsl := (BX3.out.below hb' BX3.out.lt).lt
    clear hw'
    go_simp
    try rfl
  conv => arg 10; simp only [Act.put, List.setIfInBounds_toArray, List.set_cons_succ, List.set_cons_zero]
  refine Go.FreshS.wpF_spec rfl rfl rfl (fun w' hw' => ?_) ?_
  · have hb' := hw'.world
    refine Go.FreshS.gives_of (Go.FreshS.PM (fun x : NV => x.v) (fun x w' => DN w' v14.heap.size x z16) NV.blk w'.heap.size) ?_ (fun _ _ h => h.post @NV.inj)
    go_simp
    have CT := mulN (N2.out.below (KG.out.trans (hb'.mono KG.out.size))).any ((N2.out.below (KG.out.trans (hb'.mono KG.out.size))).len LZp2.out (by decide)) (N3.out.below (KG.out.trans (hb'.mono KG.out.size))).any ((N3.out.below (KG.out.trans (hb'.mono KG.out.size))).len LZp3.out (by decide))
    rw [show p2 * p3 = z16 from Hz16.out.symm] at CT
    refine CT.mono ?_
    rintro e w'' ⟨za, rfl, ho, hb⟩
    exact ⟨_, rfl, ⟨za, rfl, ho.mono hb'.size, ho.blks⟩, hb⟩
  rintro _ ⟨y5, rfl⟩
  conv => arg 10; simp only [Act.put, List.setIfInBounds_toArray, List.set_cons_succ, List.set_cons_zero]
  refine Go.FreshS.wpF_spec rfl rfl rfl (fun w' hw' => ?_) ?_
  · have hb' := hw'.world
    refine Go.FreshS.gives_of (Go.FreshS.PM (fun x : FV => .tuple #[x.v, .int .i64 0]) (fun x w' => DF w' v14.heap.size x q17) FV.blk w'.heap.size) ?_ (fun _ _ h => h.post (FV.injE 0))
    go_simp
    have f2 := Go.FreshS.made_of (val := fun x : NV => x.v) (Φ := fun x w' => DN w' v14.heap.size x z15) @NV.inj (hw'.fact 2 (by kernel_rfl))
    have f5 := Go.FreshS.made_of (val := fun x : NV => x.v) (Φ := fun x w' => DN w' v14.heap.size x z16) @NV.inj (hw'.fact 5 (by kernel_rfl))
    have CT := qmake f2.k (f2.k.len LZz15.out (by decide)) f5.k (f5.k.len LZz16.out (by decide)) (by rw [Hz16.out]; exact Int.mul_ne_zero HZ.out HY.out)
    rw [show (z15 : Rat) / (z16 : Rat) = q17 from Hq17.out.symm] at CT
    refine CT.mono ?_
    rintro e w'' ⟨za, rfl, ho, hb⟩
    exact ⟨_, rfl, ⟨za, rfl, ho.mono hb'.size, ho.blks⟩, hb⟩
  rintro _ ⟨y6, rfl⟩
  conv => arg 10; simp only [Act.put, List.setIfInBounds_toArray, List.set_cons_succ, List.set_cons_zero]
  refine Go.FreshS.wpF_reads rfl rfl rfl ?_ (fun w' hw' => ?_) ?_
  rotate_left
  · have hb' := hw'.world
    skip
    clear hw'
    go_simp
    try rfl
  conv => arg 10; simp only [Act.put, List.setIfInBounds_toArray, List.set_cons_succ, List.set_cons_zero]
  refine Go.FreshS.wpF_reads rfl rfl rfl ?_ (fun w' hw' => ?_) ?_
  rotate_left
  · have hb' := hw'.world
    skip
    clear hw'
    go_simp
    try rfl
  conv => arg 10; simp only [Act.put, List.setIfInBounds_toArray, List.set_cons_succ, List.set_cons_zero]
  refine Go.FreshS.wpF_reads rfl rfl rfl ?_ (fun w' hw' => ?_) ?_
  rotate_left
  · have hb' := hw'.world
    skip
    clear hw'
    go_simp
    try rfl
  conv => arg 10; simp only [Act.put, List.setIfInBounds_toArray, List.set_cons_succ, List.set_cons_zero]
  refine Go.FreshS.wpF_spec rfl rfl rfl (fun w' hw' => ?_) ?_
  · have hb' := hw'.world
    refine Go.FreshS.gives_of (Go.FreshS.PB 26 4 v14.heap.size w'.heap.size) ?_ (fun _ _ h => h.post)
    go_simp
    exact ⟨Go.FreshS.PB.new _ rfl hb'.size, (Below.refl _ _).alloc (Nat.le_refl _) _⟩
  rintro _ ⟨y10, rfl⟩
  conv => arg 10; simp only [Act.put, List.setIfInBounds_toArray, List.set_cons_succ, List.set_cons_zero]
  refine Go.FreshS.wpF_store rfl rfl 10 rfl rfl rfl rfl (fun _ => Iff.rfl) (fun w' hw' => ?_) ?_
  · have hb' := hw'.world
    have hX := Go.FreshS.box_of (hw'.fact 10 (by kernel_rfl))
    obtain ⟨c0, c1, c2, c3, hB⟩ := shp4 hX.1
    have m0 := hB.cell (i := 0) rfl
    have m1 := hB.cell (i := 1) rfl
    have m2 := hB.cell (i := 2) rfl
    have m3 := hB.cell (i := 3) rfl
    have mf := hB.fz
    have ml := hB.lt
    refine Go.FreshS.stores_of ?_ (store4 hb' hX.2 hB (.bool y6.t.s) (.slice y6.t.a y6.t.n y6.t.c) (.bool y6.l.s) (.slice y6.l.a y6.l.n y6.l.c))
    clear hw'
    go_simp
    try rfl
  conv => arg 10; simp only [Act.put, List.setIfInBounds_toArray, List.set_cons_succ, List.set_cons_zero]
  refine Go.FreshS.wpF_nil (fun w19 hb hF => ?_)
  have BX18 := Lib.hid (show Bxs w19 y10 26 [.bool y6.t.s, .slice y6.t.a y6.t.n y6.t.c, .bool y6.l.s, .slice y6.l.a y6.l.n y6.l.c] from stored_bxs (hF.all 11))
  have N20 := Lib.hid (show DF w19 v14.heap.size y6 q17 from (Go.FreshS.made_of (val := (fun x : FV => .tuple #[x.v, .int .i64 0])) (Φ := fun x w' => DF w' v14.heap.size x q17) (FV.injE 0) (hF.all 6)))
  clear hF
  have N12 := Lib.hid (N12.out.below hb)
  have BX1 := Lib.hid (BX1.out.below hb BX1.out.lt)
  have BX2 := Lib.hid (BX2.out.below hb BX2.out.lt)
  have BX3 := Lib.hid (BX3.out.below hb BX3.out.lt)
  have BX13 := Lib.hid (BX13.out.below hb BX13.out.lt)
  have KG := Lib.hid (KG.out.trans (hb.mono KG.out.size))
  clear hb
  have cBX20 := BX2.out.cell (i := 0) rfl
  have cBX21 := BX2.out.cell (i := 1) rfl
  have cBX2f := BX2.out.fz
  have cBX2l := BX2.out.lt
  go_wp2_with fail
  have CT := Lib.hid (signN (N2.out.below KG.out).any ((N2.out.below KG.out).len LZp2.out (by decide)))
  rw [show cmpZ p2 0 = sb from Hsb.out.symm] at CT
  with_reducible refine CT.out.mono ?_
  rintro e w21 ⟨rfl, hb⟩
  clear CT
  clear cBX20 cBX21 cBX2f cBX2l
  have N12 := Lib.hid (N12.out.below hb)
  have N20 := Lib.hid (N20.out.below hb)
  have BX1 := Lib.hid (BX1.out.below hb BX1.out.lt)
  have BX2 := Lib.hid (BX2.out.below hb BX2.out.lt)
  have BX3 := Lib.hid (BX3.out.below hb BX3.out.lt)
  have BX13 := Lib.hid (BX13.out.below hb BX13.out.lt)
  have BX18 := Lib.hid (BX18.out.below hb BX18.out.lt)
  have KG := Lib.hid (KG.out.trans (hb.mono KG.out.size))
  clear hb
  have qs := HSN.out
  go_upto_region 7 with (fail)
  refine Go.FreshS.wp_region_fresh 8 [(7, 6)] (Go.FreshS.spOf [(1, Go.FreshS.Sp.made (fun x : NV => x.v) (fun x w' => DN w' w21.heap.size x z22) NV.blk), (2, Go.FreshS.Sp.made (fun x : FV => .tuple #[x.v, .int .i64 0]) (fun x w' => DF w' w21.heap.size x q23) FV.blk), (6, Go.FreshS.Sp.box 26 4 w21.heap.size)])
    (fun w' => Below w21.heap.size w21 w') (by kernel_rfl) (by kernel_rfl) (by kernel_rfl)
    (Go.FreshS.spOf_cons (Go.FreshS.Sp.made_keeps _ (fun _ _ _ h _ hk => h.kept hk) (Go.FreshS.notTaken (by kernel_rfl))) (Go.FreshS.spOf_cons (Go.FreshS.Sp.made_keeps _ (fun _ _ _ h _ hk => h.kept hk) (Go.FreshS.notTaken (by kernel_rfl))) (Go.FreshS.spOf_cons (Go.FreshS.Sp.box_keeps _ _ _ _) (Go.FreshS.spOf_nil)))) (fun _ _ h hb => h.trans (hb.mono h.size)) ((Below.refl _ _).drew) ?_
  simp only [List.append_eq, List.cons_append, List.nil_append, List.take_succ_cons, List.take_zero, List.drop_succ_cons, List.drop_zero]
  refine Go.FreshS.wpF_reads rfl rfl rfl ?_ (fun w' hw' => ?_) ?_
  rotate_left
  · have hb' := hw'.world
    have hs0 := (BX2.out.below hb' BX2.out.lt).cell (i := 0) rfl
    have hs1 := (BX2.out.below hb' BX2.out.lt).cell (i := 1) rfl
    have hsf := (BX2.out.below hb' BX2.out.lt).fz
    have hsl := (BX2.out.below hb' BX2.out.lt).lt
    clear hw'
    go_simp
    try rfl
  conv => arg 10; simp only [Act.put, List.setIfInBounds_toArray, List.set_cons_succ, List.set_cons_zero]
  refine Go.FreshS.wpF_spec rfl rfl rfl (fun w' hw' => ?_) ?_
  · have hb' := hw'.world
    refine Go.FreshS.gives_of (Go.FreshS.PM (fun x : NV => x.v) (fun x w' => DN w' w21.heap.size x z22) NV.blk w'.heap.size) ?_ (fun _ _ h => h.post @NV.inj)
    go_simp
    have CT := ofZ 1 z22 (Hz22.out.symm) w' (by decide) (by decide)
    refine CT.mono ?_
    rintro e w'' ⟨za, rfl, ho, hb⟩
    exact ⟨_, rfl, ⟨za, rfl, ho.mono hb'.size, ho.blks⟩, hb⟩
  rintro _ ⟨y1, rfl⟩
  conv => arg 10; simp only [Act.put, List.setIfInBounds_toArray, List.set_cons_succ, List.set_cons_zero]
  refine Go.FreshS.wpF_spec rfl rfl rfl (fun w' hw' => ?_) ?_
  · have hb' := hw'.world
    refine Go.FreshS.gives_of (Go.FreshS.PM (fun x : FV => .tuple #[x.v, .int .i64 0]) (fun x w' => DF w' w21.heap.size x q23) FV.blk w'.heap.size) ?_ (fun _ _ h => h.post (FV.injE 0))
    go_simp
    have f1 := Go.FreshS.made_of (val := fun x : NV => x.v) (Φ := fun x w' => DN w' w21.heap.size x z22) @NV.inj (hw'.fact 1 (by kernel_rfl))
    have CT := qmake (N2.out.below (KG.out.trans (hb'.mono KG.out.size))) ((N2.out.below (KG.out.trans (hb'.mono KG.out.size))).len LZp2.out (by decide)) f1.k (f1.k.len LZz22.out (by decide)) (by rw [Hz22.out]; decide)
    rw [show (p2 : Rat) / (z22 : Rat) = q23 from Hq23.out.symm] at CT
    refine CT.mono ?_
    rintro e w'' ⟨za, rfl, ho, hb⟩
    exact ⟨_, rfl, ⟨za, rfl, ho.mono hb'.size, ho.blks⟩, hb⟩
  rintro _ ⟨y2, rfl⟩
  conv => arg 10; simp only [Act.put, List.setIfInBounds_toArray, List.set_cons_succ, List.set_cons_zero]
  refine Go.FreshS.wpF_reads rfl rfl rfl ?_ (fun w' hw' => ?_) ?_
  rotate_left
  · have hb' := hw'.world
    skip
    clear hw'
    go_simp
    try rfl
  conv => arg 10; simp only [Act.put, List.setIfInBounds_toArray, List.set_cons_succ, List.set_cons_zero]
  refine Go.FreshS.wpF_reads rfl rfl rfl ?_ (fun w' hw' => ?_) ?_
  rotate_left
  · have hb' := hw'.world
    skip
    clear hw'
    go_simp
    try rfl
  conv => arg 10; simp only [Act.put, List.setIfInBounds_toArray, List.set_cons_succ, List.set_cons_zero]
  refine Go.FreshS.wpF_reads rfl rfl rfl ?_ (fun w' hw' => ?_) ?_
  rotate_left
  · have hb' := hw'.world
    skip
    clear hw'
    go_simp
    try rfl
  conv => arg 10; simp only [Act.put, List.setIfInBounds_toArray, List.set_cons_succ, List.set_cons_zero]
  refine Go.FreshS.wpF_spec rfl rfl rfl (fun w' hw' => ?_) ?_
  · have hb' := hw'.world
    refine Go.FreshS.gives_of (Go.FreshS.PB 26 4 w21.heap.size w'.heap.size) ?_ (fun _ _ h => h.post)
    go_simp
    exact ⟨Go.FreshS.PB.new _ rfl hb'.size, (Below.refl _ _).alloc (Nat.le_refl _) _⟩
  rintro _ ⟨y6, rfl⟩
  conv => arg 10; simp only [Act.put, List.setIfInBounds_toArray, List.set_cons_succ, List.set_cons_zero]
  refine Go.FreshS.wpF_store rfl rfl 6 rfl rfl rfl rfl (fun _ => Iff.rfl) (fun w' hw' => ?_) ?_
  · have hb' := hw'.world
    have hX := Go.FreshS.box_of (hw'.fact 6 (by kernel_rfl))
    obtain ⟨c0, c1, c2, c3, hB⟩ := shp4 hX.1
    have m0 := hB.cell (i := 0) rfl
    have m1 := hB.cell (i := 1) rfl
    have m2 := hB.cell (i := 2) rfl
    have m3 := hB.cell (i := 3) rfl
    have mf := hB.fz
    have ml := hB.lt
    refine Go.FreshS.stores_of ?_ (store4 hb' hX.2 hB (.bool y2.t.s) (.slice y2.t.a y2.t.n y2.t.c) (.bool y2.l.s) (.slice y2.l.a y2.l.n y2.l.c))
    clear hw'
    go_simp
    try rfl
  conv => arg 10; simp only [Act.put, List.setIfInBounds_toArray, List.set_cons_succ, List.set_cons_zero]
  refine Go.FreshS.wpF_nil (fun w25 hb hF => ?_)
  have BX24 := Lib.hid (show Bxs w25 y6 26 [.bool y2.t.s, .slice y2.t.a y2.t.n y2.t.c, .bool y2.l.s, .slice y2.l.a y2.l.n y2.l.c] from stored_bxs (hF.all 7))
  have N26 := Lib.hid (show DF w25 w21.heap.size y2 q23 from (Go.FreshS.made_of (val := (fun x : FV => .tuple #[x.v, .int .i64 0])) (Φ := fun x w' => DF w' w21.heap.size x q23) (FV.injE 0) (hF.all 2)))
  clear hF
  have N12 := Lib.hid (N12.out.below hb)
  have N20 := Lib.hid (N20.out.below hb)
  have BX1 := Lib.hid (BX1.out.below hb BX1.out.lt)
  clear BX2
  have BX3 := Lib.hid (BX3.out.below hb BX3.out.lt)
  have BX13 := Lib.hid (BX13.out.below hb BX13.out.lt)
  have BX18 := Lib.hid (BX18.out.below hb BX18.out.lt)
  have KG := Lib.hid (KG.out.trans (hb.mono KG.out.size))
  clear hb
  go_upto_region 8 with (fail)
  refine Go.FreshS.wp_region_fresh 8 [(7, 6)] (Go.FreshS.spOf [(1, Go.FreshS.Sp.made (fun x : NV => x.v) (fun x w' => DN w' w25.heap.size x z22) NV.blk), (2, Go.FreshS.Sp.made (fun x : FV => .tuple #[x.v, .int .i64 0]) (fun x w' => DF w' w25.heap.size x q27) FV.blk), (6, Go.FreshS.Sp.box 26 4 w25.heap.size)])
    (fun w' => Below w25.heap.size w25 w') (by kernel_rfl) (by kernel_rfl) (by kernel_rfl)
    (Go.FreshS.spOf_cons (Go.FreshS.Sp.made_keeps _ (fun _ _ _ h _ hk => h.kept hk) (Go.FreshS.notTaken (by kernel_rfl))) (Go.FreshS.spOf_cons (Go.FreshS.Sp.made_keeps _ (fun _ _ _ h _ hk => h.kept hk) (Go.FreshS.notTaken (by kernel_rfl))) (Go.FreshS.spOf_cons (Go.FreshS.Sp.box_keeps _ _ _ _) (Go.FreshS.spOf_nil)))) (fun _ _ h hb => h.trans (hb.mono h.size)) ((Below.refl _ _).drew) ?_
  simp only [List.append_eq, List.cons_append, List.nil_append, List.take_succ_cons, List.take_zero, List.drop_succ_cons, List.drop_zero]
  refine Go.FreshS.wpF_reads rfl rfl rfl ?_ (fun w' hw' => ?_) ?_
  rotate_left
  · have hb' := hw'.world
    have hs0 := (BX1.out.below hb' BX1.out.lt).cell (i := 0) rfl
    have hs1 := (BX1.out.below hb' BX1.out.lt).cell (i := 1) rfl
    have hsf := (BX1.out.below hb' BX1.out.lt).fz
    have hsl := (BX1.out.below hb' BX1.out.lt).lt
    clear hw'
    go_simp
    try rfl
  conv => arg 10; simp only [Act.put, List.setIfInBounds_toArray, List.set_cons_succ, List.set_cons_zero]
  refine Go.FreshS.wpF_spec rfl rfl rfl (fun w' hw' => ?_) ?_
  · have hb' := hw'.world
    refine Go.FreshS.gives_of (Go.FreshS.PM (fun x : NV => x.v) (fun x w' => DN w' w25.heap.size x z22) NV.blk w'.heap.size) ?_ (fun _ _ h => h.post @NV.inj)
    go_simp
    have CT := ofZ 1 z22 (Hz22.out.symm) w' (by decide) (by decide)
    refine CT.mono ?_
    rintro e w'' ⟨za, rfl, ho, hb⟩
    exact ⟨_, rfl, ⟨za, rfl, ho.mono hb'.size, ho.blks⟩, hb⟩
  rintro _ ⟨y1, rfl⟩
  conv => arg 10; simp only [Act.put, List.setIfInBounds_toArray, List.set_cons_succ, List.set_cons_zero]
  refine Go.FreshS.wpF_spec rfl rfl rfl (fun w' hw' => ?_) ?_
  · have hb' := hw'.world
    refine Go.FreshS.gives_of (Go.FreshS.PM (fun x : FV => .tuple #[x.v, .int .i64 0]) (fun x w' => DF w' w25.heap.size x q27) FV.blk w'.heap.size) ?_ (fun _ _ h => h.post (FV.injE 0))
    go_simp
    have f1 := Go.FreshS.made_of (val := fun x : NV => x.v) (Φ := fun x w' => DN w' w25.heap.size x z22) @NV.inj (hw'.fact 1 (by kernel_rfl))
    have CT := qmake (N1.out.below (KG.out.trans (hb'.mono KG.out.size))) ((N1.out.below (KG.out.trans (hb'.mono KG.out.size))).len LZp1.out (by decide)) f1.k (f1.k.len LZz22.out (by decide)) (by rw [Hz22.out]; decide)
    rw [show (p1 : Rat) / (z22 : Rat) = q27 from Hq27.out.symm] at CT
    refine CT.mono ?_
    rintro e w'' ⟨za, rfl, ho, hb⟩
    exact ⟨_, rfl, ⟨za, rfl, ho.mono hb'.size, ho.blks⟩, hb⟩
  rintro _ ⟨y2, rfl⟩
  conv => arg 10; simp only [Act.put, List.setIfInBounds_toArray, List.set_cons_succ, List.set_cons_zero]
  refine Go.FreshS.wpF_reads rfl rfl rfl ?_ (fun w' hw' => ?_) ?_
  rotate_left
  · have hb' := hw'.world
    skip
    clear hw'
    go_simp
    try rfl
  conv => arg 10; simp only [Act.put, List.setIfInBounds_toArray, List.set_cons_succ, List.set_cons_zero]
  refine Go.FreshS.wpF_reads rfl rfl rfl ?_ (fun w' hw' => ?_) ?_
  rotate_left
  · have hb' := hw'.world
    skip
    clear hw'
    go_simp
    try rfl
  conv => arg 10; simp only [Act.put, List.setIfInBounds_toArray, List.set_cons_succ, List.set_cons_zero]
  refine Go.FreshS.wpF_reads rfl rfl rfl ?_ (fun w' hw' => ?_) ?_
  rotate_left
  · have hb' := hw'.world
    skip
    clear hw'
    go_simp
    try rfl
  conv => arg 10; simp only [Act.put, List.setIfInBounds_toArray, List.set_cons_succ, List.set_cons_zero]
  refine Go.FreshS.wpF_spec rfl rfl rfl (fun w' hw' => ?_) ?_
  · have hb' := hw'.world
    refine Go.FreshS.gives_of (Go.FreshS.PB 26 4 w25.heap.size w'.heap.size) ?_ (fun _ _ h => h.post)
    go_simp
    exact ⟨Go.FreshS.PB.new _ rfl hb'.size, (Below.refl _ _).alloc (Nat.le_refl _) _⟩
  rintro _ ⟨y6, rfl⟩
  conv => arg 10; simp only [Act.put, List.setIfInBounds_toArray, List.set_cons_succ, List.set_cons_zero]
  refine Go.FreshS.wpF_store rfl rfl 6 rfl rfl rfl rfl (fun _ => Iff.rfl) (fun w' hw' => ?_) ?_
  · have hb' := hw'.world
    have hX := Go.FreshS.box_of (hw'.fact 6 (by kernel_rfl))
    obtain ⟨c0, c1, c2, c3, hB⟩ := shp4 hX.1
    have m0 := hB.cell (i := 0) rfl
    have m1 := hB.cell (i := 1) rfl
    have m2 := hB.cell (i := 2) rfl
    have m3 := hB.cell (i := 3) rfl
    have mf := hB.fz
    have ml := hB.lt
    refine Go.FreshS.stores_of ?_ (store4 hb' hX.2 hB (.bool y2.t.s) (.slice y2.t.a y2.t.n y2.t.c) (.bool y2.l.s) (.slice y2.l.a y2.l.n y2.l.c))
    clear hw'
    go_simp
    try rfl
  conv => arg 10; simp only [Act.put, List.setIfInBounds_toArray, List.set_cons_succ, List.set_cons_zero]
  refine Go.FreshS.wpF_nil (fun w29 hb hF => ?_)
  have BX28 := Lib.hid (show Bxs w29 y6 26 [.bool y2.t.s, .slice y2.t.a y2.t.n y2.t.c, .bool y2.l.s, .slice y2.l.a y2.l.n y2.l.c] from stored_bxs (hF.all 7))
  have N30 := Lib.hid (show DF w29 w25.heap.size y2 q27 from (Go.FreshS.made_of (val := (fun x : FV => .tuple #[x.v, .int .i64 0])) (Φ := fun x w' => DF w' w25.heap.size x q27) (FV.injE 0) (hF.all 2)))
  clear hF
  have N12 := Lib.hid (N12.out.below hb)
  have N20 := Lib.hid (N20.out.below hb)
  have N26 := Lib.hid (N26.out.below hb)
  clear BX1
  have BX3 := Lib.hid (BX3.out.below hb BX3.out.lt)
  have BX13 := Lib.hid (BX13.out.below hb BX13.out.lt)
  have BX18 := Lib.hid (BX18.out.below hb BX18.out.lt)
  have BX24 := Lib.hid (BX24.out.below hb BX24.out.lt)
  have KG := Lib.hid (KG.out.trans (hb.mono KG.out.size))
  clear hb
  go_upto_region 9 with (fail)
  refine Go.FreshS.wp_region_fresh 22 [] (Go.FreshS.spOf [(12, Go.FreshS.Sp.know (.bool true)), (18, Go.FreshS.Sp.made (fun x : FV => x.v) (fun x w' => DF w' w29.heap.size x q31) FV.blk), (20, Go.FreshS.Sp.know (.bool true))])
    (fun w' => Below w29.heap.size w29 w') (by kernel_rfl) (by kernel_rfl) (by kernel_rfl)
    (Go.FreshS.spOf_cons (Go.FreshS.Sp.know_keeps _ _) (Go.FreshS.spOf_cons (Go.FreshS.Sp.made_keeps _ (fun _ _ _ h _ hk => h.kept hk) (Go.FreshS.notTaken (by kernel_rfl))) (Go.FreshS.spOf_cons (Go.FreshS.Sp.know_keeps _ _) (Go.FreshS.spOf_nil)))) (fun _ _ h hb => h.trans (hb.mono h.size)) ((Below.refl _ _).drew) ?_
  simp only [List.append_eq, List.cons_append, List.nil_append, List.take_succ_cons, List.take_zero, List.drop_succ_cons, List.drop_zero]
  refine Go.FreshS.wpF_reads rfl rfl rfl ?_ (fun w' hw' => ?_) ?_
  rotate_left
  · have hb' := hw'.world
    skip
    clear hw'
    go_simp
    try rfl
  conv => arg 10; simp only [Act.put, List.setIfInBounds_toArray, List.set_cons_succ, List.set_cons_zero]
  refine Go.FreshS.wpF_reads rfl rfl rfl ?_ (fun w' hw' => ?_) ?_
  rotate_left
  · have hb' := hw'.world
    skip
    clear hw'
    go_simp
    try rfl
  conv => arg 10; simp only [Act.put, List.setIfInBounds_toArray, List.set_cons_succ, List.set_cons_zero]
  refine Go.FreshS.wpF_reads rfl rfl rfl ?_ (fun w' hw' => ?_) ?_
  rotate_left
  · have hb' := hw'.world
    skip
    clear hw'
    go_simp
    try rfl
  conv => arg 10; simp only [Act.put, List.setIfInBounds_toArray, List.set_cons_succ, List.set_cons_zero]
  refine Go.FreshS.wpF_readsG (by rfl) rfl rfl ?_ (fun w' hw' => ?_) ?_
  rotate_left
  · have hb' := hw'.world
    skip
    clear hw'
    go_simp
    try rfl
  conv => arg 10; simp only [Act.put, List.setIfInBounds_toArray, List.set_cons_succ, List.set_cons_zero]
  refine Go.FreshS.wpF_readsG (by rfl) rfl rfl ?_ (fun w' hw' => ?_) ?_
  rotate_left
  · have hb' := hw'.world
    skip
    clear hw'
    go_simp
    try rfl
  conv => arg 10; simp only [Act.put, List.setIfInBounds_toArray, List.set_cons_succ, List.set_cons_zero]
  refine Go.FreshS.wpF_reads rfl rfl rfl ?_ (fun w' hw' => ?_) ?_
  rotate_left
  · have hb' := hw'.world
    skip
    clear hw'
    go_simp
    try rfl
  conv => arg 10; simp only [Act.put, List.setIfInBounds_toArray, List.set_cons_succ, List.set_cons_zero]
  refine Go.FreshS.wpF_reads rfl rfl rfl ?_ (fun w' hw' => ?_) ?_
  rotate_left
  · have hb' := hw'.world
    skip
    clear hw'
    go_simp
    try rfl
  conv => arg 10; simp only [Act.put, List.setIfInBounds_toArray, List.set_cons_succ, List.set_cons_zero]
  refine Go.FreshS.wpF_readsG (by rfl) rfl rfl ?_ (fun w' hw' => ?_) ?_
  rotate_left
  · have hb' := hw'.world
    skip
    clear hw'
    go_simp
    try rfl
  conv => arg 10; simp only [Act.put, List.setIfInBounds_toArray, List.set_cons_succ, List.set_cons_zero]
  refine Go.FreshS.wpF_readsG (by rfl) rfl rfl ?_ (fun w' hw' => ?_) ?_
  rotate_left
  · have hb' := hw'.world
    skip
    clear hw'
    go_simp
    try rfl
  conv => arg 10; simp only [Act.put, List.setIfInBounds_toArray, List.set_cons_succ, List.set_cons_zero]
  refine Go.FreshS.wpF_reads rfl rfl rfl ?_ (fun w' hw' => ?_) ?_
  rotate_left
  · have hb' := hw'.world
    skip
    clear hw'
    go_simp
    try rfl
  conv => arg 10; simp only [Act.put, List.setIfInBounds_toArray, List.set_cons_succ, List.set_cons_zero]
  refine Go.FreshS.wpF_reads rfl rfl rfl ?_ (fun w' hw' => ?_) ?_
  rotate_left
  · have hb' := hw'.world
    skip
    clear hw'
    go_simp
    try rfl
  conv => arg 10; simp only [Act.put, List.setIfInBounds_toArray, List.set_cons_succ, List.set_cons_zero]
  refine Go.FreshS.wpF_readsG (by rfl) rfl rfl ?_ (fun w' hw' => ?_) ?_
  rotate_left
  · have hb' := hw'.world
    have hs0 := (BX13.out.below hb' BX13.out.lt).cell (i := 0) rfl
    have hs1 := (BX13.out.below hb' BX13.out.lt).cell (i := 1) rfl
    have hs2 := (BX13.out.below hb' BX13.out.lt).cell (i := 2) rfl
    have hs3 := (BX13.out.below hb' BX13.out.lt).cell (i := 3) rfl
    have hsf := (BX13.out.below hb' BX13.out.lt).fz
    have hsl := (BX13.out.below hb' BX13.out.lt).lt
    clear hw'
    go_simp
    try rfl
  conv => arg 10; simp only [Act.put, List.setIfInBounds_toArray, List.set_cons_succ, List.set_cons_zero]
  refine Go.FreshS.wpF_gspec (by rfl) rfl rfl (fun w' hw' => ?_) ?_
  · have hb' := hw'.world
    refine Go.FreshS.gives_of (Go.FreshS.PK (.bool true)) ?_ (fun _ _ h => h.post)
    go_simp
    have CT := qcheck ((N12.out.below hb')).k ((((N12.out.below hb')).k).len LQq9.out (by decide : _ ≤ 900000))
    refine CT.mono ?_
    rintro e w'' ⟨rfl, hb⟩
    exact ⟨_, rfl, rfl, hb⟩
  rintro _ rfl
  conv => arg 10; simp only [Act.put, List.setIfInBounds_toArray, List.set_cons_succ, List.set_cons_zero]
  refine Go.FreshS.wpF_readsG (by rfl) rfl rfl ?_ (fun w' hw' => ?_) ?_
  rotate_left
  · have hb' := hw'.world
    skip
    clear hw'
    go_simp
    try rfl
  conv => arg 10; simp only [Act.put, List.setIfInBounds_toArray, List.set_cons_succ, List.set_cons_zero]
  refine Go.FreshS.wpF_reads rfl rfl rfl ?_ (fun w' hw' => ?_) ?_
  rotate_left
  · have hb' := hw'.world
    skip
    clear hw'
    go_simp
    try rfl
  conv => arg 10; simp only [Act.put, List.setIfInBounds_toArray, List.set_cons_succ, List.set_cons_zero]
  refine Go.FreshS.wpF_reads rfl rfl rfl ?_ (fun w' hw' => ?_) ?_
  rotate_left
  · have hb' := hw'.world
    skip
    clear hw'
    go_simp
    try rfl
  conv => arg 10; simp only [Act.put, List.setIfInBounds_toArray, List.set_cons_succ, List.set_cons_zero]
  refine Go.FreshS.wpF_readsG (by rfl) rfl rfl ?_ (fun w' hw' => ?_) ?_
  rotate_left
  · have hb' := hw'.world
    have hs0 := (BX13.out.below hb' BX13.out.lt).cell (i := 0) rfl
    have hs1 := (BX13.out.below hb' BX13.out.lt).cell (i := 1) rfl
    have hs2 := (BX13.out.below hb' BX13.out.lt).cell (i := 2) rfl
    have hs3 := (BX13.out.below hb' BX13.out.lt).cell (i := 3) rfl
    have hsf := (BX13.out.below hb' BX13.out.lt).fz
    have hsl := (BX13.out.below hb' BX13.out.lt).lt
    clear hw'
    go_simp
    try rfl
  conv => arg 10; simp only [Act.put, List.setIfInBounds_toArray, List.set_cons_succ, List.set_cons_zero]
  refine Go.FreshS.wpF_readsG (by rfl) rfl rfl ?_ (fun w' hw' => ?_) ?_
  rotate_left
  · have hb' := hw'.world
    have hs0 := (BX24.out.below hb' BX24.out.lt).cell (i := 0) rfl
    have hs1 := (BX24.out.below hb' BX24.out.lt).cell (i := 1) rfl
    have hs2 := (BX24.out.below hb' BX24.out.lt).cell (i := 2) rfl
    have hs3 := (BX24.out.below hb' BX24.out.lt).cell (i := 3) rfl
    have hsf := (BX24.out.below hb' BX24.out.lt).fz
    have hsl := (BX24.out.below hb' BX24.out.lt).lt
    clear hw'
    go_simp
    try rfl
  conv => arg 10; simp only [Act.put, List.setIfInBounds_toArray, List.set_cons_succ, List.set_cons_zero]
  refine Go.FreshS.wpF_gspec (by rfl) rfl rfl (fun w' hw' => ?_) ?_
  · have hb' := hw'.world
    refine Go.FreshS.gives_of (Go.FreshS.PM (fun x : FV => x.v) (fun x w' => DF w' w29.heap.size x q31) FV.blk w'.heap.size) ?_ (fun _ _ h => h.post (fun _ _ => FV.inj))
    go_simp
    have CT := qmul ((N12.out.below hb')).k.any ((((N12.out.below hb')).k).len LQq9.out (by decide : _ ≤ 900000)) ((N26.out.below hb')).k.any ((((N26.out.below hb')).k).len LQq23.out (by decide : _ ≤ 900000))
    rw [show q9 * q23 = q31 from Hq31.out.symm] at CT
    refine CT.mono ?_
    rintro e w'' ⟨za, rfl, ho, hb⟩
    exact ⟨_, rfl, ⟨za, rfl, ho.mono hb'.size, ho.blks⟩, hb⟩
  rintro _ ⟨y18, rfl⟩
  conv => arg 10; simp only [Act.put, List.setIfInBounds_toArray, List.set_cons_succ, List.set_cons_zero]
  refine Go.FreshS.wpF_readsG (by rfl) rfl rfl ?_ (fun w' hw' => ?_) ?_
  rotate_left
  · have hb' := hw'.world
    have hs0 := (BX28.out.below hb' BX28.out.lt).cell (i := 0) rfl
    have hs1 := (BX28.out.below hb' BX28.out.lt).cell (i := 1) rfl
    have hs2 := (BX28.out.below hb' BX28.out.lt).cell (i := 2) rfl
    have hs3 := (BX28.out.below hb' BX28.out.lt).cell (i := 3) rfl
    have hsf := (BX28.out.below hb' BX28.out.lt).fz
    have hsl := (BX28.out.below hb' BX28.out.lt).lt
    clear hw'
    go_simp
    try rfl
  conv => arg 10; simp only [Act.put, List.setIfInBounds_toArray, List.set_cons_succ, List.set_cons_zero]
  refine Go.FreshS.wpF_gspec (by rfl) rfl rfl (fun w' hw' => ?_) ?_
  · have hb' := hw'.world
    refine Go.FreshS.gives_of (Go.FreshS.PK (.bool true)) ?_ (fun _ _ h => h.post)
    go_simp
    have f18 := Go.FreshS.made_of (val := (fun x : FV => x.v)) (Φ := fun x w' => DF w' w29.heap.size x q31) (fun _ _ => FV.inj) (hw'.fact 18 (by kernel_rfl))
    have CT := qsame (f18).k (((f18).k).len LQq31.out (by decide : _ ≤ 900000)) ((N30.out.below hb')).k ((((N30.out.below hb')).k).len LQq27.out (by decide : _ ≤ 900000)) (by simp only [Hq31.out, Hq27.out, Hq23.out, Hz22.out, Hq17.out, Hz16.out, Hz15.out, Hq9.out]; exact made1 HZ.out)
    refine CT.mono ?_
    rintro e w'' ⟨rfl, hb⟩
    exact ⟨_, rfl, rfl, hb⟩
  rintro _ rfl
  conv => arg 10; simp only [Act.put, List.setIfInBounds_toArray, List.set_cons_succ, List.set_cons_zero]
  refine Go.FreshS.wpF_readsG (by rfl) rfl rfl ?_ (fun w' hw' => ?_) ?_
  rotate_left
  · have hb' := hw'.world
    skip
    clear hw'
    go_simp
    try rfl
  conv => arg 10; simp only [Act.put, List.setIfInBounds_toArray, List.set_cons_succ, List.set_cons_zero]
  refine Go.FreshS.wpF_nil (fun w32 hb hF => ?_)
  clear hF
  have N12 := Lib.hid (N12.out.below hb)
  have N20 := Lib.hid (N20.out.below hb)
  clear N26
  clear N30
  have BX3 := Lib.hid (BX3.out.below hb BX3.out.lt)
  have BX13 := Lib.hid (BX13.out.below hb BX13.out.lt)
  have BX18 := Lib.hid (BX18.out.below hb BX18.out.lt)
  clear BX24
  clear BX28
  have KG := Lib.hid (KG.out.trans (hb.mono KG.out.size))
  clear hb
  have cBX30 := BX3.out.cell (i := 0) rfl
  have cBX31 := BX3.out.cell (i := 1) rfl
  have cBX3f := BX3.out.fz
  have cBX3l := BX3.out.lt
  go_wp2_with fail
  have CT := Lib.hid (signN (N3.out.below KG.out).any ((N3.out.below KG.out).len LZp3.out (by decide)))
  rw [show cmpZ p3 0 = sc from Hsc.out.symm] at CT
  with_reducible refine CT.out.mono ?_
  rintro e w33 ⟨rfl, hb⟩
  clear CT
  clear cBX30 cBX31 cBX3f cBX3l
  have N12 := Lib.hid (N12.out.below hb)
  have N20 := Lib.hid (N20.out.below hb)
  have BX3 := Lib.hid (BX3.out.below hb BX3.out.lt)
  have BX13 := Lib.hid (BX13.out.below hb BX13.out.lt)
  have BX18 := Lib.hid (BX18.out.below hb BX18.out.lt)
  have KG := Lib.hid (KG.out.trans (hb.mono KG.out.size))
  clear hb
  have qs1 := HSC.out
  have cBX30 := BX3.out.cell (i := 0) rfl
  have cBX31 := BX3.out.cell (i := 1) rfl
  have cBX3f := BX3.out.fz
  have cBX3l := BX3.out.lt
  go_wp2_with fail
  have CT := Lib.hid (signN (N3.out.below KG.out).any ((N3.out.below KG.out).len LZp3.out (by decide)))
  rw [show cmpZ p3 0 = sc from Hsc.out.symm] at CT
  with_reducible refine CT.out.mono ?_
  rintro e w34 ⟨rfl, hb⟩
  clear CT
  clear cBX30 cBX31 cBX3f cBX3l
  have N12 := Lib.hid (N12.out.below hb)
  have N20 := Lib.hid (N20.out.below hb)
  clear BX3
  have BX13 := Lib.hid (BX13.out.below hb BX13.out.lt)
  have BX18 := Lib.hid (BX18.out.below hb BX18.out.lt)
  have KG := Lib.hid (KG.out.trans (hb.mono KG.out.size))
  clear hb
  have qs2 := HSC2.out
  have cBX130 := BX13.out.cell (i := 0) rfl
  have cBX131 := BX13.out.cell (i := 1) rfl
  have cBX132 := BX13.out.cell (i := 2) rfl
  have cBX133 := BX13.out.cell (i := 3) rfl
  have cBX13f := BX13.out.fz
  have cBX13l := BX13.out.lt
  have cBX180 := BX18.out.cell (i := 0) rfl
  have cBX181 := BX18.out.cell (i := 1) rfl
  have cBX182 := BX18.out.cell (i := 2) rfl
  have cBX183 := BX18.out.cell (i := 3) rfl
  have cBX18f := BX18.out.fz
  have cBX18l := BX18.out.lt
  go_wp2_with fail
  have CT := Lib.hid (qsame (N12.out).k (((N12.out).k).len LQq9.out (by decide : _ ≤ 900000)) (N20.out).k (((N20.out).k).len LQq17.out (by decide : _ ≤ 900000)) (by simp only [Hq31.out, Hq27.out, Hq23.out, Hz22.out, Hq17.out, Hz16.out, Hz15.out, Hq9.out]; exact made2 HZ.out HY.out))
  with_reducible refine CT.out.mono ?_
  rintro e w35 ⟨rfl, hb⟩
  clear CT
  clear cBX130 cBX131 cBX132 cBX133 cBX13f cBX13l
  clear cBX180 cBX181 cBX182 cBX183 cBX18f cBX18l
  clear N12
  clear N20
  clear BX13
  clear BX18
  have KG := Lib.hid (KG.out.trans (hb.mono KG.out.size))
  clear hb
  go_wp2_with fail
  go_ret
  exact ⟨rfl, KG.out⟩
theorem fracsMade_law (s1 : Bool) (a1 : Option Addr) (n1 c1 : Nat) (o1 : Nat → Int) (s2 : Bool) (a2 : Option Addr) (n2 c2 : Nat) (o2 : Nat → Int) (s3 : Bool) (a3 : Option Addr) (n3 c3 : Nat) (o3 : Nat → Int) (w : World) (htab : Tab w) (h1 : Rd w a1 n1 o1) (hc1 : n1 ≤ c1) (h2 : Rd w a2 n2 o2) (hc2 : n2 ≤ c2) (h3 : Rd w a3 n3 o3) (hc3 : n3 ≤ c3) :
    Calls Tryz.prog 6 #[numV s1 a1 n1 c1, numV s2 a2 n2 c2, numV s3 a3 n3 c3] w fun e w' => e = .returned (.bool true) ∧ Below w.heap.size w w' := by
  by_cases g1 : 8 < n1
  · exact made_great1 ⟨s1, a1, n1, c1⟩ ⟨s2, a2, n2, c2⟩ ⟨s3, a3, n3, c3⟩ _ _ _ w htab (AN.raw h1 hc1) (AN.raw h2 hc2) (AN.raw h3 hc3) g1
  have b1 : n1 ≤ 8 := by omega
  by_cases g2 : 8 < n2
  · exact made_great2 ⟨s1, a1, n1, c1⟩ ⟨s2, a2, n2, c2⟩ ⟨s3, a3, n3, c3⟩ _ _ _ w htab (AN.raw h1 hc1) (AN.raw h2 hc2) (AN.raw h3 hc3) b1 g2
  have b2 : n2 ≤ 8 := by omega
  by_cases g3 : 8 < n3
  · exact made_great3 ⟨s1, a1, n1, c1⟩ ⟨s2, a2, n2, c2⟩ ⟨s3, a3, n3, c3⟩ _ _ _ w htab (AN.raw h1 hc1) (AN.raw h2 hc2) (AN.raw h3 hc3) b1 b2 g3
  have b3 : n3 ≤ 8 := by omega
  by_cases k1 : okN s1 n1 o1
  · by_cases k2 : okN s2 n2 o2
    · by_cases k3 : okN s3 n3 o3
      · by_cases hz : valN s2 n2 o2 = 0
        · exact made_zero ⟨s1, a1, n1, c1⟩ ⟨s2, a2, n2, c2⟩ ⟨s3, a3, n3, c3⟩ _ _ _ w htab (KN.raw h1 hc1 k1) (KN.raw h2 hc2 k2) (KN.raw h3 hc3 k3) b1 b2 b3 hz
        · by_cases hy : valN s3 n3 o3 = 0
          · exact made_zero3 ⟨s1, a1, n1, c1⟩ ⟨s2, a2, n2, c2⟩ ⟨s3, a3, n3, c3⟩ _ _ _ w htab (KN.raw h1 hc1 k1) (KN.raw h2 hc2 k2) (KN.raw h3 hc3 k3) b1 b2 b3 hz hy
          · exact made_ok ⟨s1, a1, n1, c1⟩ ⟨s2, a2, n2, c2⟩ ⟨s3, a3, n3, c3⟩ _ _ _ w htab (KN.raw h1 hc1 k1) (KN.raw h2 hc2 k2) (KN.raw h3 hc3 k3) b1 b2 b3 hz hy
      · exact made_bad3 ⟨s1, a1, n1, c1⟩ ⟨s2, a2, n2, c2⟩ ⟨s3, a3, n3, c3⟩ _ _ 0 w htab (KN.raw h1 hc1 k1) (KN.raw h2 hc2 k2) (XN.raw h3 hc3 k3) b1 b2 b3
    · exact made_bad2 ⟨s1, a1, n1, c1⟩ ⟨s2, a2, n2, c2⟩ ⟨s3, a3, n3, c3⟩ _ 0 _ w htab (KN.raw h1 hc1 k1) (XN.raw h2 hc2 k2) (AN.raw h3 hc3) b1 b2 b3
  · exact made_bad1 ⟨s1, a1, n1, c1⟩ ⟨s2, a2, n2, c2⟩ ⟨s3, a3, n3, c3⟩ 0 _ _ w htab (XN.raw h1 hc1 k1) (AN.raw h2 hc2) (AN.raw h3 hc3) b1 b2 b3
end Go.Proofs.YtklidpbdgliemaaGreatDoor.Limb
