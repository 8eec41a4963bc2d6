/-
  The references' fractions under one name each: Fit, Check, Text, Whole, Parse.
-/
import Derived.Test.YtklidpbdgliemaaGreatDoorQwJ
import Derived.Lib.IndexMore
set_option linter.unusedSimpArgs false
set_option linter.unusedVariables false
namespace Go.Proofs.YtklidpbdgliemaaGreatDoor.Limb
open Go.RowKit Go.Sort
theorem cut_k (w : World) {s : ByteArray} {a b : List UInt8} {f : Bool} (hs : s.size ≤ 9223372036854775807) (h : Lib.cut s.data.toList [47] = (a, b, f)) :
    Calls Tryz.prog 40 #[.string s, .string ⟨#[47]⟩] w fun e w' => e = .returned (.tuple #[.string ⟨a.toArray⟩, .string ⟨b.toArray⟩, .bool f]) ∧ Below w.heap.size w w' := by
  have h1 := scut_any s w hs
  rw [h] at h1
  exact h1
theorem parse_k (w : World) {s : ByteArray} {z c : Int} (hs : s.size ≤ 9223372036854775807) (hz : numT s.data.toList = z) (hc : codeT s.data.toList = c) : Calls Tryz.prog 41 #[.string s] w (RNE w z c) := by
  have h := parseN s w hs
  rw [hz, hc] at h
  exact h
theorem codeT_of (l : List UInt8) (h : formT l) (h2 : (bodyT l).length ≤ 200) : codeT l = 0 := by unfold codeT; rw [if_pos h, if_neg (by omega)]
theorem numT_of (l : List UInt8) (z : Int) (h : formT l) (h2 : (bodyT l).length ≤ 200) (h3 : (if negT l = true then -(decV (bodyT l) : Int) else (decV (bodyT l) : Int)) = z) : numT l = z := by unfold numT; rw [if_pos ⟨h, h2⟩]; exact h3
theorem form1 : formT [49] := ⟨by decide +kernel, by decide +kernel, by decide +kernel⟩
theorem code1 : codeT [49] = 0 := codeT_of _ form1 (by decide +kernel)
theorem num1 : numT [49] = 1 := numT_of _ _ form1 (by decide +kernel) (by decide +kernel)
theorem qlow {w : World} {x y : NV} {p q : Int} (h1 : KN w x p) (b1 : x.n ≤ 900000) (h2 : KN w y q) (b2 : y.n ≤ 900000) (hq : q ≠ 0) : Calls Tryz.prog 42 #[x.v, y.v] w (RF w ((p : Rat) / (q : Rat))) := by
  obtain ⟨s1, a1, n1, c1⟩ := x
  obtain ⟨s2, a2, n2, c2⟩ := y
  have e1 : s1 = _ := h1.s
  have e2 : n1 = _ := h1.n
  have e3 : s2 = _ := h2.s
  have e4 : n2 = _ := h2.n
  have r1 := h1.rd
  have r2 := h2.rd
  have l1 := h1.le
  have l2 := h2.le
  subst e1 e2 e3 e4
  have h := lowest_any p q a1 a2 c1 c2 w r1 (by dsimp only at b1; omega) l1 r2 (by dsimp only at b2; omega) l2 hq
  rw [Rat.divInt_eq_div] at h
  exact h.mono fun _ _ h => FracR.rf h
set_option maxRecDepth 100000 in
set_option maxHeartbeats 8000000 in
theorem qparse_y_a4 {s : ByteArray} {a b : List UInt8} {z1 z2 : Int} {c2 : Int} (w : World) (hs : s.size ≤ 9223372036854775807) (hcut : Lib.cut s.data.toList [47] = (a, b, true)) (hsz : a.length ≤ 9223372036854775807) (hsb : b.length ≤ 9223372036854775807) (ha : codeT a = 4) (hza : numT a = z1) (hb2 : codeT b = c2) (hzb : numT b = z2) : Calls Tryz.prog 12 #[.string s] w (RFX w 4) := by
  have KG := Lib.hid (Below.refl w.heap.size w)
  have HC := Lib.hid hcut
  have HSA : (ByteArray.mk a.toArray).size ≤ 9223372036854775807 := by show a.toArray.size ≤ _; rw [List.size_toArray]; exact hsz
  have HSB : (ByteArray.mk b.toArray).size ≤ 9223372036854775807 := by show b.toArray.size ≤ _; rw [List.size_toArray]; exact hsb
  have HA := Lib.hid ha
  have HZA := Lib.hid hza
  have LZz1 := Lib.hid (show lenB z1.natAbs ≤ 23 from by rw [← hza]; exact numT_len a)
  have HB2 := Lib.hid hb2
  have HZB := Lib.hid hzb
  have LZz2 := Lib.hid (show lenB z2.natAbs ≤ 23 from by rw [← hzb]; exact numT_len b)
  clear hcut hsz hsb ha hza hb2 hzb
  go_enter Tryz.func12, Tryz.ntmps12
  go_upto_region 1 with (fail)
  obtain ⟨v2, hV⟩ : ∃ V, V = w.alloc (.cells #[.bool false, .slice none 0 0, .bool false, .slice none 0 0] 26) := ⟨_, rfl⟩
  have hbV : Below w.heap.size w v2 := by rw [hV]; exact ((Below.refl _ _).alloc (Nat.le_refl _) _)
  have BX1 := Lib.hid (show Bxs v2 (w.heap.size) 26 [.bool false, .slice none 0 0, .bool false, .slice none 0 0] by have h := Bxs.new (w) 26 [.bool false, .slice none 0 0, .bool false, .slice none 0 0]; rw [hV]; exact h)
  rw [show w.alloc (.cells #[.bool false, .slice none 0 0, .bool false, .slice none 0 0] 26) = v2 from hV.symm]
  have KG := Lib.hid (KG.out.trans (hbV.mono KG.out.size))
  clear hV hbV
  go_wp2_with fail
  have CT := Lib.hid (cut_k v2 hs HC.out)
  with_reducible refine CT.out.mono ?_
  rintro e w3 ⟨rfl, hb⟩
  clear CT
  have BX1 := Lib.hid (BX1.out.below hb BX1.out.lt)
  have KG := Lib.hid (KG.out.trans (hb.mono KG.out.size))
  clear hb
  go_wp2_with fail
  have CT := Lib.hid (parse_k w3 HSA HZA.out HA.out)
  with_reducible refine CT.out.mono ?_
  rintro e w4 ⟨x5, rfl, hN6, hb⟩
  have N6 := Lib.hid hN6
  clear hN6
  clear CT
  have BX1 := Lib.hid (BX1.out.below hb BX1.out.lt)
  have KG := Lib.hid (KG.out.trans (hb.mono KG.out.size))
  clear hb
  clear N6
  go_upto_region 5 with (fail)
  obtain ⟨v8, hV⟩ : ∃ V, V = w4.alloc (.cells #[.bool x5.s, .slice x5.a x5.n x5.c] 24) := ⟨_, rfl⟩
  have hbV : Below w4.heap.size w4 v8 := by rw [hV]; exact ((Below.refl _ _).alloc (Nat.le_refl _) _)
  have BX7 := Lib.hid (show Bxs v8 (w4.heap.size) 24 [.bool x5.s, .slice x5.a x5.n x5.c] by have h := Bxs.new (w4) 24 [.bool x5.s, .slice x5.a x5.n x5.c]; rw [hV]; exact h)
  rw [show w4.alloc (.cells #[.bool x5.s, .slice x5.a x5.n x5.c] 24) = v8 from hV.symm]
  have BX1 := Lib.hid (BX1.out.below hbV BX1.out.lt)
  have KG := Lib.hid (KG.out.trans (hbV.mono KG.out.size))
  clear hV hbV
  clear BX7
  go_wp2_with fail
  have CT := Lib.hid (parse_k v8 HSB HZB.out HB2.out)
  with_reducible refine CT.out.mono ?_
  rintro e w9 ⟨x10, rfl, hN11, hb⟩
  have N11 := Lib.hid hN11
  clear hN11
  clear CT
  have BX1 := Lib.hid (BX1.out.below hb BX1.out.lt)
  have KG := Lib.hid (KG.out.trans (hb.mono KG.out.size))
  clear hb
  clear N11
  go_upto_region 6 with (fail)
  obtain ⟨v13, hV⟩ : ∃ V, V = w9.alloc (.cells #[.bool x10.s, .slice x10.a x10.n x10.c] 24) := ⟨_, rfl⟩
  have hbV : Below w9.heap.size w9 v13 := by rw [hV]; exact ((Below.refl _ _).alloc (Nat.le_refl _) _)
  have BX12 := Lib.hid (show Bxs v13 (w9.heap.size) 24 [.bool x10.s, .slice x10.a x10.n x10.c] by have h := Bxs.new (w9) 24 [.bool x10.s, .slice x10.a x10.n x10.c]; rw [hV]; exact h)
  rw [show w9.alloc (.cells #[.bool x10.s, .slice x10.a x10.n x10.c] 24) = v13 from hV.symm]
  have BX1 := Lib.hid (BX1.out.below hbV BX1.out.lt)
  have KG := Lib.hid (KG.out.trans (hbV.mono KG.out.size))
  clear hV hbV
  clear BX12
  have cBX10 := BX1.out.cell (i := 0) rfl
  have cBX11 := BX1.out.cell (i := 1) rfl
  have cBX12 := BX1.out.cell (i := 2) rfl
  have cBX13 := BX1.out.cell (i := 3) rfl
  have cBX1f := BX1.out.fz
  have cBX1l := BX1.out.lt
  go_wp2_with fail
  refine bodyPost_ret (results_ct rfl _ _ _ _ _ _ _ rfl ((((BX1.out.put 0 _).put 1 _).put 2 _).put 3 _) Tryz.underlying26 rfl (by kernel_rfl)) rfl ⟨rfl, (((KG.out.setCell (Nat.le_refl _) _).setCell (Nat.le_refl _) _).setCell (Nat.le_refl _) _).setCell (Nat.le_refl _) _⟩
set_option maxRecDepth 100000 in
set_option maxHeartbeats 8000000 in
theorem qparse_y_b4 {s : ByteArray} {a b : List UInt8} {z1 z2 : Int} {c1 : Int} (w : World) (hs : s.size ≤ 9223372036854775807) (hcut : Lib.cut s.data.toList [47] = (a, b, true)) (hsz : a.length ≤ 9223372036854775807) (hsb : b.length ≤ 9223372036854775807) (ha : codeT a = c1) (hza : numT a = z1) (hb2 : codeT b = 4) (hzb : numT b = z2) (h4a : c1 ≠ 4) : Calls Tryz.prog 12 #[.string s] w (RFX w 4) := by
  have KG := Lib.hid (Below.refl w.heap.size w)
  have HC := Lib.hid hcut
  have HSA : (ByteArray.mk a.toArray).size ≤ 9223372036854775807 := by show a.toArray.size ≤ _; rw [List.size_toArray]; exact hsz
  have HSB : (ByteArray.mk b.toArray).size ≤ 9223372036854775807 := by show b.toArray.size ≤ _; rw [List.size_toArray]; exact hsb
  have HA := Lib.hid ha
  have HZA := Lib.hid hza
  have LZz1 := Lib.hid (show lenB z1.natAbs ≤ 23 from by rw [← hza]; exact numT_len a)
  have HB2 := Lib.hid hb2
  have HZB := Lib.hid hzb
  have LZz2 := Lib.hid (show lenB z2.natAbs ≤ 23 from by rw [← hzb]; exact numT_len b)
  have f4a : (c1 == 4) = false := beq_eq_false_iff_ne.2 h4a
  clear hcut hsz hsb ha hza hb2 hzb h4a
  go_enter Tryz.func12, Tryz.ntmps12
  go_upto_region 1 with (fail)
  obtain ⟨v2, hV⟩ : ∃ V, V = w.alloc (.cells #[.bool false, .slice none 0 0, .bool false, .slice none 0 0] 26) := ⟨_, rfl⟩
  have hbV : Below w.heap.size w v2 := by rw [hV]; exact ((Below.refl _ _).alloc (Nat.le_refl _) _)
  have BX1 := Lib.hid (show Bxs v2 (w.heap.size) 26 [.bool false, .slice none 0 0, .bool false, .slice none 0 0] by have h := Bxs.new (w) 26 [.bool false, .slice none 0 0, .bool false, .slice none 0 0]; rw [hV]; exact h)
  rw [show w.alloc (.cells #[.bool false, .slice none 0 0, .bool false, .slice none 0 0] 26) = v2 from hV.symm]
  have KG := Lib.hid (KG.out.trans (hbV.mono KG.out.size))
  clear hV hbV
  go_wp2_with fail
  have CT := Lib.hid (cut_k v2 hs HC.out)
  with_reducible refine CT.out.mono ?_
  rintro e w3 ⟨rfl, hb⟩
  clear CT
  have BX1 := Lib.hid (BX1.out.below hb BX1.out.lt)
  have KG := Lib.hid (KG.out.trans (hb.mono KG.out.size))
  clear hb
  go_wp2_with fail
  have CT := Lib.hid (parse_k w3 HSA HZA.out HA.out)
  with_reducible refine CT.out.mono ?_
  rintro e w4 ⟨x5, rfl, hN6, hb⟩
  have N6 := Lib.hid hN6
  clear hN6
  clear CT
  have BX1 := Lib.hid (BX1.out.below hb BX1.out.lt)
  have KG := Lib.hid (KG.out.trans (hb.mono KG.out.size))
  clear hb
  clear N6
  go_upto_region 5 with (fail)
  obtain ⟨v8, hV⟩ : ∃ V, V = w4.alloc (.cells #[.bool x5.s, .slice x5.a x5.n x5.c] 24) := ⟨_, rfl⟩
  have hbV : Below w4.heap.size w4 v8 := by rw [hV]; exact ((Below.refl _ _).alloc (Nat.le_refl _) _)
  have BX7 := Lib.hid (show Bxs v8 (w4.heap.size) 24 [.bool x5.s, .slice x5.a x5.n x5.c] by have h := Bxs.new (w4) 24 [.bool x5.s, .slice x5.a x5.n x5.c]; rw [hV]; exact h)
  rw [show w4.alloc (.cells #[.bool x5.s, .slice x5.a x5.n x5.c] 24) = v8 from hV.symm]
  have BX1 := Lib.hid (BX1.out.below hbV BX1.out.lt)
  have KG := Lib.hid (KG.out.trans (hbV.mono KG.out.size))
  clear hV hbV
  clear BX7
  go_wp2_with fail
  have CT := Lib.hid (parse_k v8 HSB HZB.out HB2.out)
  with_reducible refine CT.out.mono ?_
  rintro e w9 ⟨x10, rfl, hN11, hb⟩
  have N11 := Lib.hid hN11
  clear hN11
  clear CT
  have BX1 := Lib.hid (BX1.out.below hb BX1.out.lt)
  have KG := Lib.hid (KG.out.trans (hb.mono KG.out.size))
  clear hb
  clear N11
  go_upto_region 6 with (fail)
  obtain ⟨v13, hV⟩ : ∃ V, V = w9.alloc (.cells #[.bool x10.s, .slice x10.a x10.n x10.c] 24) := ⟨_, rfl⟩
  have hbV : Below w9.heap.size w9 v13 := by rw [hV]; exact ((Below.refl _ _).alloc (Nat.le_refl _) _)
  have BX12 := Lib.hid (show Bxs v13 (w9.heap.size) 24 [.bool x10.s, .slice x10.a x10.n x10.c] by have h := Bxs.new (w9) 24 [.bool x10.s, .slice x10.a x10.n x10.c]; rw [hV]; exact h)
  rw [show w9.alloc (.cells #[.bool x10.s, .slice x10.a x10.n x10.c] 24) = v13 from hV.symm]
  have BX1 := Lib.hid (BX1.out.below hbV BX1.out.lt)
  have KG := Lib.hid (KG.out.trans (hbV.mono KG.out.size))
  clear hV hbV
  clear BX12
  have cBX10 := BX1.out.cell (i := 0) rfl
  have cBX11 := BX1.out.cell (i := 1) rfl
  have cBX12 := BX1.out.cell (i := 2) rfl
  have cBX13 := BX1.out.cell (i := 3) rfl
  have cBX1f := BX1.out.fz
  have cBX1l := BX1.out.lt
  go_wp2_with fail
  refine bodyPost_ret (results_ct rfl _ _ _ _ _ _ _ rfl ((((BX1.out.put 0 _).put 1 _).put 2 _).put 3 _) Tryz.underlying26 rfl (by kernel_rfl)) rfl ⟨rfl, (((KG.out.setCell (Nat.le_refl _) _).setCell (Nat.le_refl _) _).setCell (Nat.le_refl _) _).setCell (Nat.le_refl _) _⟩
set_option maxRecDepth 100000 in
set_option maxHeartbeats 8000000 in
theorem qparse_y_neg {s : ByteArray} {a b : List UInt8} {z1 z2 : Int} {c1 : Int} {c2 : Int} (w : World) (hs : s.size ≤ 9223372036854775807) (hcut : Lib.cut s.data.toList [47] = (a, b, true)) (hsz : a.length ≤ 9223372036854775807) (hsb : b.length ≤ 9223372036854775807) (ha : codeT a = c1) (hza : numT a = z1) (hb2 : codeT b = c2) (hzb : numT b = z2) (h4a : c1 ≠ 4) (h4b : c2 ≠ 4) (hneg : ∃ r, b = 45 :: r) : Calls Tryz.prog 12 #[.string s] w (RFX w 4) := by
  have KG := Lib.hid (Below.refl w.heap.size w)
  have HC := Lib.hid hcut
  have HSA : (ByteArray.mk a.toArray).size ≤ 9223372036854775807 := by show a.toArray.size ≤ _; rw [List.size_toArray]; exact hsz
  have HSB : (ByteArray.mk b.toArray).size ≤ 9223372036854775807 := by show b.toArray.size ≤ _; rw [List.size_toArray]; exact hsb
  have HA := Lib.hid ha
  have HZA := Lib.hid hza
  have LZz1 := Lib.hid (show lenB z1.natAbs ≤ 23 from by rw [← hza]; exact numT_len a)
  have HB2 := Lib.hid hb2
  have HZB := Lib.hid hzb
  have LZz2 := Lib.hid (show lenB z2.natAbs ≤ 23 from by rw [← hzb]; exact numT_len b)
  have f4a : (c1 == 4) = false := beq_eq_false_iff_ne.2 h4a
  have f4b : (c2 == 4) = false := beq_eq_false_iff_ne.2 h4b
  have hp0 : 0 < (ByteArray.mk b.toArray).size := by obtain ⟨r, rfl⟩ := hneg; exact Nat.succ_pos _
  have hp1 : (((ByteArray.mk b.toArray)[0]'hp0).toNat : Int) = 45 := by obtain ⟨r, rfl⟩ := hneg; rfl
  clear hcut hsz hsb ha hza hb2 hzb h4a h4b hneg
  go_enter Tryz.func12, Tryz.ntmps12
  go_upto_region 1 with (fail)
  obtain ⟨v2, hV⟩ : ∃ V, V = w.alloc (.cells #[.bool false, .slice none 0 0, .bool false, .slice none 0 0] 26) := ⟨_, rfl⟩
  have hbV : Below w.heap.size w v2 := by rw [hV]; exact ((Below.refl _ _).alloc (Nat.le_refl _) _)
  have BX1 := Lib.hid (show Bxs v2 (w.heap.size) 26 [.bool false, .slice none 0 0, .bool false, .slice none 0 0] by have h := Bxs.new (w) 26 [.bool false, .slice none 0 0, .bool false, .slice none 0 0]; rw [hV]; exact h)
  rw [show w.alloc (.cells #[.bool false, .slice none 0 0, .bool false, .slice none 0 0] 26) = v2 from hV.symm]
  have KG := Lib.hid (KG.out.trans (hbV.mono KG.out.size))
  clear hV hbV
  go_wp2_with fail
  have CT := Lib.hid (cut_k v2 hs HC.out)
  with_reducible refine CT.out.mono ?_
  rintro e w3 ⟨rfl, hb⟩
  clear CT
  have BX1 := Lib.hid (BX1.out.below hb BX1.out.lt)
  have KG := Lib.hid (KG.out.trans (hb.mono KG.out.size))
  clear hb
  go_wp2_with fail
  have CT := Lib.hid (parse_k w3 HSA HZA.out HA.out)
  with_reducible refine CT.out.mono ?_
  rintro e w4 ⟨x5, rfl, hN6, hb⟩
  have N6 := Lib.hid hN6
  clear hN6
  clear CT
  have BX1 := Lib.hid (BX1.out.below hb BX1.out.lt)
  have KG := Lib.hid (KG.out.trans (hb.mono KG.out.size))
  clear hb
  clear N6
  go_upto_region 5 with (fail)
  obtain ⟨v8, hV⟩ : ∃ V, V = w4.alloc (.cells #[.bool x5.s, .slice x5.a x5.n x5.c] 24) := ⟨_, rfl⟩
  have hbV : Below w4.heap.size w4 v8 := by rw [hV]; exact ((Below.refl _ _).alloc (Nat.le_refl _) _)
  have BX7 := Lib.hid (show Bxs v8 (w4.heap.size) 24 [.bool x5.s, .slice x5.a x5.n x5.c] by have h := Bxs.new (w4) 24 [.bool x5.s, .slice x5.a x5.n x5.c]; rw [hV]; exact h)
  rw [show w4.alloc (.cells #[.bool x5.s, .slice x5.a x5.n x5.c] 24) = v8 from hV.symm]
  have BX1 := Lib.hid (BX1.out.below hbV BX1.out.lt)
  have KG := Lib.hid (KG.out.trans (hbV.mono KG.out.size))
  clear hV hbV
  clear BX7
  go_wp2_with fail
  have CT := Lib.hid (parse_k v8 HSB HZB.out HB2.out)
  with_reducible refine CT.out.mono ?_
  rintro e w9 ⟨x10, rfl, hN11, hb⟩
  have N11 := Lib.hid hN11
  clear hN11
  clear CT
  have BX1 := Lib.hid (BX1.out.below hb BX1.out.lt)
  have KG := Lib.hid (KG.out.trans (hb.mono KG.out.size))
  clear hb
  clear N11
  go_upto_region 6 with (fail)
  obtain ⟨v13, hV⟩ : ∃ V, V = w9.alloc (.cells #[.bool x10.s, .slice x10.a x10.n x10.c] 24) := ⟨_, rfl⟩
  have hbV : Below w9.heap.size w9 v13 := by rw [hV]; exact ((Below.refl _ _).alloc (Nat.le_refl _) _)
  have BX12 := Lib.hid (show Bxs v13 (w9.heap.size) 24 [.bool x10.s, .slice x10.a x10.n x10.c] by have h := Bxs.new (w9) 24 [.bool x10.s, .slice x10.a x10.n x10.c]; rw [hV]; exact h)
  rw [show w9.alloc (.cells #[.bool x10.s, .slice x10.a x10.n x10.c] 24) = v13 from hV.symm]
  have BX1 := Lib.hid (BX1.out.below hbV BX1.out.lt)
  have KG := Lib.hid (KG.out.trans (hbV.mono KG.out.size))
  clear hV hbV
  clear BX12
  have cBX10 := BX1.out.cell (i := 0) rfl
  have cBX11 := BX1.out.cell (i := 1) rfl
  have cBX12 := BX1.out.cell (i := 2) rfl
  have cBX13 := BX1.out.cell (i := 3) rfl
  have cBX1f := BX1.out.fz
  have cBX1l := BX1.out.lt
  go_wp2_with fail
  refine bodyPost_ret (results_ct rfl _ _ _ _ _ _ _ rfl ((((BX1.out.put 0 _).put 1 _).put 2 _).put 3 _) Tryz.underlying26 rfl (by kernel_rfl)) rfl ⟨rfl, (((KG.out.setCell (Nat.le_refl _) _).setCell (Nat.le_refl _) _).setCell (Nat.le_refl _) _).setCell (Nat.le_refl _) _⟩
set_option maxRecDepth 100000 in
set_option maxHeartbeats 8000000 in
theorem qparse_y_one {s : ByteArray} {a b : List UInt8} {z1 z2 : Int} {c1 : Int} (w : World) (hs : s.size ≤ 9223372036854775807) (hcut : Lib.cut s.data.toList [47] = (a, b, true)) (hsz : a.length ≤ 9223372036854775807) (hsb : b.length ≤ 9223372036854775807) (ha : codeT a = c1) (hza : numT a = z1) (hb2 : codeT b = 0) (hzb : numT b = z2) (h4a : c1 ≠ 4) (hpos : ∃ x r, b = x :: r ∧ x ≠ 45) (hone : b = [48]) : Calls Tryz.prog 12 #[.string s] w (RFX w 4) := by
  have KG := Lib.hid (Below.refl w.heap.size w)
  have HC := Lib.hid hcut
  have HSA : (ByteArray.mk a.toArray).size ≤ 9223372036854775807 := by show a.toArray.size ≤ _; rw [List.size_toArray]; exact hsz
  have HSB : (ByteArray.mk b.toArray).size ≤ 9223372036854775807 := by show b.toArray.size ≤ _; rw [List.size_toArray]; exact hsb
  have HA := Lib.hid ha
  have HZA := Lib.hid hza
  have LZz1 := Lib.hid (show lenB z1.natAbs ≤ 23 from by rw [← hza]; exact numT_len a)
  have HB2 := Lib.hid hb2
  have HZB := Lib.hid hzb
  have LZz2 := Lib.hid (show lenB z2.natAbs ≤ 23 from by rw [← hzb]; exact numT_len b)
  have f4a : (c1 == 4) = false := beq_eq_false_iff_ne.2 h4a
  have hp0 : 0 < (ByteArray.mk b.toArray).size := by obtain ⟨x, r, rfl, h⟩ := hpos; exact Nat.succ_pos _
  have hp1 : ¬ (((ByteArray.mk b.toArray)[0]'hp0).toNat : Int) = 45 := by obtain ⟨x, r, rfl, h⟩ := hpos; exact fun h2 => h (UInt8.toNat_inj.1 (Int.ofNat_inj.1 h2))
  have hp2 : (b == [48]) = true := by rw [hone]; rfl
  clear hcut hsz hsb ha hza hb2 hzb h4a hpos hone
  go_enter Tryz.func12, Tryz.ntmps12
  go_upto_region 1 with (fail)
  obtain ⟨v2, hV⟩ : ∃ V, V = w.alloc (.cells #[.bool false, .slice none 0 0, .bool false, .slice none 0 0] 26) := ⟨_, rfl⟩
  have hbV : Below w.heap.size w v2 := by rw [hV]; exact ((Below.refl _ _).alloc (Nat.le_refl _) _)
  have BX1 := Lib.hid (show Bxs v2 (w.heap.size) 26 [.bool false, .slice none 0 0, .bool false, .slice none 0 0] by have h := Bxs.new (w) 26 [.bool false, .slice none 0 0, .bool false, .slice none 0 0]; rw [hV]; exact h)
  rw [show w.alloc (.cells #[.bool false, .slice none 0 0, .bool false, .slice none 0 0] 26) = v2 from hV.symm]
  have KG := Lib.hid (KG.out.trans (hbV.mono KG.out.size))
  clear hV hbV
  go_wp2_with fail
  have CT := Lib.hid (cut_k v2 hs HC.out)
  with_reducible refine CT.out.mono ?_
  rintro e w3 ⟨rfl, hb⟩
  clear CT
  have BX1 := Lib.hid (BX1.out.below hb BX1.out.lt)
  have KG := Lib.hid (KG.out.trans (hb.mono KG.out.size))
  clear hb
  go_wp2_with fail
  have CT := Lib.hid (parse_k w3 HSA HZA.out HA.out)
  with_reducible refine CT.out.mono ?_
  rintro e w4 ⟨x5, rfl, hN6, hb⟩
  have N6 := Lib.hid hN6
  clear hN6
  clear CT
  have BX1 := Lib.hid (BX1.out.below hb BX1.out.lt)
  have KG := Lib.hid (KG.out.trans (hb.mono KG.out.size))
  clear hb
  clear N6
  go_upto_region 5 with (fail)
  obtain ⟨v8, hV⟩ : ∃ V, V = w4.alloc (.cells #[.bool x5.s, .slice x5.a x5.n x5.c] 24) := ⟨_, rfl⟩
  have hbV : Below w4.heap.size w4 v8 := by rw [hV]; exact ((Below.refl _ _).alloc (Nat.le_refl _) _)
  have BX7 := Lib.hid (show Bxs v8 (w4.heap.size) 24 [.bool x5.s, .slice x5.a x5.n x5.c] by have h := Bxs.new (w4) 24 [.bool x5.s, .slice x5.a x5.n x5.c]; rw [hV]; exact h)
  rw [show w4.alloc (.cells #[.bool x5.s, .slice x5.a x5.n x5.c] 24) = v8 from hV.symm]
  have BX1 := Lib.hid (BX1.out.below hbV BX1.out.lt)
  have KG := Lib.hid (KG.out.trans (hbV.mono KG.out.size))
  clear hV hbV
  clear BX7
  go_wp2_with fail
  have CT := Lib.hid (parse_k v8 HSB HZB.out HB2.out)
  with_reducible refine CT.out.mono ?_
  rintro e w9 ⟨x10, rfl, hN11, hb⟩
  have N11 := Lib.hid hN11
  clear hN11
  clear CT
  have BX1 := Lib.hid (BX1.out.below hb BX1.out.lt)
  have KG := Lib.hid (KG.out.trans (hb.mono KG.out.size))
  clear hb
  clear N11
  go_upto_region 6 with (fail)
  obtain ⟨v13, hV⟩ : ∃ V, V = w9.alloc (.cells #[.bool x10.s, .slice x10.a x10.n x10.c] 24) := ⟨_, rfl⟩
  have hbV : Below w9.heap.size w9 v13 := by rw [hV]; exact ((Below.refl _ _).alloc (Nat.le_refl _) _)
  have BX12 := Lib.hid (show Bxs v13 (w9.heap.size) 24 [.bool x10.s, .slice x10.a x10.n x10.c] by have h := Bxs.new (w9) 24 [.bool x10.s, .slice x10.a x10.n x10.c]; rw [hV]; exact h)
  rw [show w9.alloc (.cells #[.bool x10.s, .slice x10.a x10.n x10.c] 24) = v13 from hV.symm]
  have BX1 := Lib.hid (BX1.out.below hbV BX1.out.lt)
  have KG := Lib.hid (KG.out.trans (hbV.mono KG.out.size))
  clear hV hbV
  clear BX12
  have cBX10 := BX1.out.cell (i := 0) rfl
  have cBX11 := BX1.out.cell (i := 1) rfl
  have cBX12 := BX1.out.cell (i := 2) rfl
  have cBX13 := BX1.out.cell (i := 3) rfl
  have cBX1f := BX1.out.fz
  have cBX1l := BX1.out.lt
  go_wp2_with fail
  refine bodyPost_ret (results_ct rfl _ _ _ _ _ _ _ rfl ((((BX1.out.put 0 _).put 1 _).put 2 _).put 3 _) Tryz.underlying26 rfl (by kernel_rfl)) rfl ⟨rfl, (((KG.out.setCell (Nat.le_refl _) _).setCell (Nat.le_refl _) _).setCell (Nat.le_refl _) _).setCell (Nat.le_refl _) _⟩
set_option maxRecDepth 100000 in
set_option maxHeartbeats 8000000 in
theorem qparse_y_b3 {s : ByteArray} {a b : List UInt8} {z1 z2 : Int} (w : World) (hs : s.size ≤ 9223372036854775807) (hcut : Lib.cut s.data.toList [47] = (a, b, true)) (hsz : a.length ≤ 9223372036854775807) (hsb : b.length ≤ 9223372036854775807) (ha : codeT a = 0) (hza : numT a = z1) (hb2 : codeT b = 3) (hzb : numT b = z2) (hpos : ∃ x r, b = x :: r ∧ x ≠ 45) (hone : b ≠ [48]) : Calls Tryz.prog 12 #[.string s] w (RFX w 3) := by
  have KG := Lib.hid (Below.refl w.heap.size w)
  have HC := Lib.hid hcut
  have HSA : (ByteArray.mk a.toArray).size ≤ 9223372036854775807 := by show a.toArray.size ≤ _; rw [List.size_toArray]; exact hsz
  have HSB : (ByteArray.mk b.toArray).size ≤ 9223372036854775807 := by show b.toArray.size ≤ _; rw [List.size_toArray]; exact hsb
  have HA := Lib.hid ha
  have HZA := Lib.hid hza
  have LZz1 := Lib.hid (show lenB z1.natAbs ≤ 23 from by rw [← hza]; exact numT_len a)
  have HB2 := Lib.hid hb2
  have HZB := Lib.hid hzb
  have LZz2 := Lib.hid (show lenB z2.natAbs ≤ 23 from by rw [← hzb]; exact numT_len b)
  have hp0 : 0 < (ByteArray.mk b.toArray).size := by obtain ⟨x, r, rfl, h⟩ := hpos; exact Nat.succ_pos _
  have hp1 : ¬ (((ByteArray.mk b.toArray)[0]'hp0).toNat : Int) = 45 := by obtain ⟨x, r, rfl, h⟩ := hpos; exact fun h2 => h (UInt8.toNat_inj.1 (Int.ofNat_inj.1 h2))
  have hp2 : (b == [48]) = false := beq_eq_false_iff_ne.2 hone
  clear hcut hsz hsb ha hza hb2 hzb hpos hone
  go_enter Tryz.func12, Tryz.ntmps12
  go_upto_region 1 with (fail)
  obtain ⟨v2, hV⟩ : ∃ V, V = w.alloc (.cells #[.bool false, .slice none 0 0, .bool false, .slice none 0 0] 26) := ⟨_, rfl⟩
  have hbV : Below w.heap.size w v2 := by rw [hV]; exact ((Below.refl _ _).alloc (Nat.le_refl _) _)
  have BX1 := Lib.hid (show Bxs v2 (w.heap.size) 26 [.bool false, .slice none 0 0, .bool false, .slice none 0 0] by have h := Bxs.new (w) 26 [.bool false, .slice none 0 0, .bool false, .slice none 0 0]; rw [hV]; exact h)
  rw [show w.alloc (.cells #[.bool false, .slice none 0 0, .bool false, .slice none 0 0] 26) = v2 from hV.symm]
  have KG := Lib.hid (KG.out.trans (hbV.mono KG.out.size))
  clear hV hbV
  go_wp2_with fail
  have CT := Lib.hid (cut_k v2 hs HC.out)
  with_reducible refine CT.out.mono ?_
  rintro e w3 ⟨rfl, hb⟩
  clear CT
  have BX1 := Lib.hid (BX1.out.below hb BX1.out.lt)
  have KG := Lib.hid (KG.out.trans (hb.mono KG.out.size))
  clear hb
  go_wp2_with fail
  have CT := Lib.hid (parse_k w3 HSA HZA.out HA.out)
  with_reducible refine CT.out.mono ?_
  rintro e w4 ⟨x5, rfl, hN6, hb⟩
  have N6 := Lib.hid hN6
  clear hN6
  clear CT
  have BX1 := Lib.hid (BX1.out.below hb BX1.out.lt)
  have KG := Lib.hid (KG.out.trans (hb.mono KG.out.size))
  clear hb
  clear N6
  go_upto_region 5 with (fail)
  obtain ⟨v8, hV⟩ : ∃ V, V = w4.alloc (.cells #[.bool x5.s, .slice x5.a x5.n x5.c] 24) := ⟨_, rfl⟩
  have hbV : Below w4.heap.size w4 v8 := by rw [hV]; exact ((Below.refl _ _).alloc (Nat.le_refl _) _)
  have BX7 := Lib.hid (show Bxs v8 (w4.heap.size) 24 [.bool x5.s, .slice x5.a x5.n x5.c] by have h := Bxs.new (w4) 24 [.bool x5.s, .slice x5.a x5.n x5.c]; rw [hV]; exact h)
  rw [show w4.alloc (.cells #[.bool x5.s, .slice x5.a x5.n x5.c] 24) = v8 from hV.symm]
  have BX1 := Lib.hid (BX1.out.below hbV BX1.out.lt)
  have KG := Lib.hid (KG.out.trans (hbV.mono KG.out.size))
  clear hV hbV
  clear BX7
  go_wp2_with fail
  have CT := Lib.hid (parse_k v8 HSB HZB.out HB2.out)
  with_reducible refine CT.out.mono ?_
  rintro e w9 ⟨x10, rfl, hN11, hb⟩
  have N11 := Lib.hid hN11
  clear hN11
  clear CT
  have BX1 := Lib.hid (BX1.out.below hb BX1.out.lt)
  have KG := Lib.hid (KG.out.trans (hb.mono KG.out.size))
  clear hb
  clear N11
  go_upto_region 6 with (fail)
  obtain ⟨v13, hV⟩ : ∃ V, V = w9.alloc (.cells #[.bool x10.s, .slice x10.a x10.n x10.c] 24) := ⟨_, rfl⟩
  have hbV : Below w9.heap.size w9 v13 := by rw [hV]; exact ((Below.refl _ _).alloc (Nat.le_refl _) _)
  have BX12 := Lib.hid (show Bxs v13 (w9.heap.size) 24 [.bool x10.s, .slice x10.a x10.n x10.c] by have h := Bxs.new (w9) 24 [.bool x10.s, .slice x10.a x10.n x10.c]; rw [hV]; exact h)
  rw [show w9.alloc (.cells #[.bool x10.s, .slice x10.a x10.n x10.c] 24) = v13 from hV.symm]
  have BX1 := Lib.hid (BX1.out.below hbV BX1.out.lt)
  have KG := Lib.hid (KG.out.trans (hbV.mono KG.out.size))
  clear hV hbV
  clear BX12
  have cBX10 := BX1.out.cell (i := 0) rfl
  have cBX11 := BX1.out.cell (i := 1) rfl
  have cBX12 := BX1.out.cell (i := 2) rfl
  have cBX13 := BX1.out.cell (i := 3) rfl
  have cBX1f := BX1.out.fz
  have cBX1l := BX1.out.lt
  go_wp2_with fail
  refine bodyPost_ret (results_ct rfl _ _ _ _ _ _ _ rfl ((((BX1.out.put 0 _).put 1 _).put 2 _).put 3 _) Tryz.underlying26 rfl (by kernel_rfl)) rfl ⟨rfl, (((KG.out.setCell (Nat.le_refl _) _).setCell (Nat.le_refl _) _).setCell (Nat.le_refl _) _).setCell (Nat.le_refl _) _⟩
set_option maxRecDepth 100000 in
set_option maxHeartbeats 8000000 in
theorem qparse_y_a3 {s : ByteArray} {a b : List UInt8} {z1 z2 : Int} {c2 : Int} (w : World) (hs : s.size ≤ 9223372036854775807) (hcut : Lib.cut s.data.toList [47] = (a, b, true)) (hsz : a.length ≤ 9223372036854775807) (hsb : b.length ≤ 9223372036854775807) (ha : codeT a = 3) (hza : numT a = z1) (hb2 : codeT b = c2) (hzb : numT b = z2) (h4b : c2 ≠ 4) (hpos : ∃ x r, b = x :: r ∧ x ≠ 45) (hone : b ≠ [48]) : Calls Tryz.prog 12 #[.string s] w (RFX w 3) := by
  have KG := Lib.hid (Below.refl w.heap.size w)
  have HC := Lib.hid hcut
  have HSA : (ByteArray.mk a.toArray).size ≤ 9223372036854775807 := by show a.toArray.size ≤ _; rw [List.size_toArray]; exact hsz
  have HSB : (ByteArray.mk b.toArray).size ≤ 9223372036854775807 := by show b.toArray.size ≤ _; rw [List.size_toArray]; exact hsb
  have HA := Lib.hid ha
  have HZA := Lib.hid hza
  have LZz1 := Lib.hid (show lenB z1.natAbs ≤ 23 from by rw [← hza]; exact numT_len a)
  have HB2 := Lib.hid hb2
  have HZB := Lib.hid hzb
  have LZz2 := Lib.hid (show lenB z2.natAbs ≤ 23 from by rw [← hzb]; exact numT_len b)
  have f4b : (c2 == 4) = false := beq_eq_false_iff_ne.2 h4b
  have hp0 : 0 < (ByteArray.mk b.toArray).size := by obtain ⟨x, r, rfl, h⟩ := hpos; exact Nat.succ_pos _
  have hp1 : ¬ (((ByteArray.mk b.toArray)[0]'hp0).toNat : Int) = 45 := by obtain ⟨x, r, rfl, h⟩ := hpos; exact fun h2 => h (UInt8.toNat_inj.1 (Int.ofNat_inj.1 h2))
  have hp2 : (b == [48]) = false := beq_eq_false_iff_ne.2 hone
  clear hcut hsz hsb ha hza hb2 hzb h4b hpos hone
  go_enter Tryz.func12, Tryz.ntmps12
  go_upto_region 1 with (fail)
  obtain ⟨v2, hV⟩ : ∃ V, V = w.alloc (.cells #[.bool false, .slice none 0 0, .bool false, .slice none 0 0] 26) := ⟨_, rfl⟩
  have hbV : Below w.heap.size w v2 := by rw [hV]; exact ((Below.refl _ _).alloc (Nat.le_refl _) _)
  have BX1 := Lib.hid (show Bxs v2 (w.heap.size) 26 [.bool false, .slice none 0 0, .bool false, .slice none 0 0] by have h := Bxs.new (w) 26 [.bool false, .slice none 0 0, .bool false, .slice none 0 0]; rw [hV]; exact h)
  rw [show w.alloc (.cells #[.bool false, .slice none 0 0, .bool false, .slice none 0 0] 26) = v2 from hV.symm]
  have KG := Lib.hid (KG.out.trans (hbV.mono KG.out.size))
  clear hV hbV
  go_wp2_with fail
  have CT := Lib.hid (cut_k v2 hs HC.out)
  with_reducible refine CT.out.mono ?_
  rintro e w3 ⟨rfl, hb⟩
  clear CT
  have BX1 := Lib.hid (BX1.out.below hb BX1.out.lt)
  have KG := Lib.hid (KG.out.trans (hb.mono KG.out.size))
  clear hb
  go_wp2_with fail
  have CT := Lib.hid (parse_k w3 HSA HZA.out HA.out)
  with_reducible refine CT.out.mono ?_
  rintro e w4 ⟨x5, rfl, hN6, hb⟩
  have N6 := Lib.hid hN6
  clear hN6
  clear CT
  have BX1 := Lib.hid (BX1.out.below hb BX1.out.lt)
  have KG := Lib.hid (KG.out.trans (hb.mono KG.out.size))
  clear hb
  clear N6
  go_upto_region 5 with (fail)
  obtain ⟨v8, hV⟩ : ∃ V, V = w4.alloc (.cells #[.bool x5.s, .slice x5.a x5.n x5.c] 24) := ⟨_, rfl⟩
  have hbV : Below w4.heap.size w4 v8 := by rw [hV]; exact ((Below.refl _ _).alloc (Nat.le_refl _) _)
  have BX7 := Lib.hid (show Bxs v8 (w4.heap.size) 24 [.bool x5.s, .slice x5.a x5.n x5.c] by have h := Bxs.new (w4) 24 [.bool x5.s, .slice x5.a x5.n x5.c]; rw [hV]; exact h)
  rw [show w4.alloc (.cells #[.bool x5.s, .slice x5.a x5.n x5.c] 24) = v8 from hV.symm]
  have BX1 := Lib.hid (BX1.out.below hbV BX1.out.lt)
  have KG := Lib.hid (KG.out.trans (hbV.mono KG.out.size))
  clear hV hbV
  clear BX7
  go_wp2_with fail
  have CT := Lib.hid (parse_k v8 HSB HZB.out HB2.out)
  with_reducible refine CT.out.mono ?_
  rintro e w9 ⟨x10, rfl, hN11, hb⟩
  have N11 := Lib.hid hN11
  clear hN11
  clear CT
  have BX1 := Lib.hid (BX1.out.below hb BX1.out.lt)
  have KG := Lib.hid (KG.out.trans (hb.mono KG.out.size))
  clear hb
  clear N11
  go_upto_region 6 with (fail)
  obtain ⟨v13, hV⟩ : ∃ V, V = w9.alloc (.cells #[.bool x10.s, .slice x10.a x10.n x10.c] 24) := ⟨_, rfl⟩
  have hbV : Below w9.heap.size w9 v13 := by rw [hV]; exact ((Below.refl _ _).alloc (Nat.le_refl _) _)
  have BX12 := Lib.hid (show Bxs v13 (w9.heap.size) 24 [.bool x10.s, .slice x10.a x10.n x10.c] by have h := Bxs.new (w9) 24 [.bool x10.s, .slice x10.a x10.n x10.c]; rw [hV]; exact h)
  rw [show w9.alloc (.cells #[.bool x10.s, .slice x10.a x10.n x10.c] 24) = v13 from hV.symm]
  have BX1 := Lib.hid (BX1.out.below hbV BX1.out.lt)
  have KG := Lib.hid (KG.out.trans (hbV.mono KG.out.size))
  clear hV hbV
  clear BX12
  have cBX10 := BX1.out.cell (i := 0) rfl
  have cBX11 := BX1.out.cell (i := 1) rfl
  have cBX12 := BX1.out.cell (i := 2) rfl
  have cBX13 := BX1.out.cell (i := 3) rfl
  have cBX1f := BX1.out.fz
  have cBX1l := BX1.out.lt
  go_wp2_with fail
  refine bodyPost_ret (results_ct rfl _ _ _ _ _ _ _ rfl ((((BX1.out.put 0 _).put 1 _).put 2 _).put 3 _) Tryz.underlying26 rfl (by kernel_rfl)) rfl ⟨rfl, (((KG.out.setCell (Nat.le_refl _) _).setCell (Nat.le_refl _) _).setCell (Nat.le_refl _) _).setCell (Nat.le_refl _) _⟩
set_option maxRecDepth 100000 in
set_option maxHeartbeats 8000000 in
theorem qparse_y_ok {s : ByteArray} {a b : List UInt8} {z1 z2 : Int} (w : World) (hs : s.size ≤ 9223372036854775807) (hcut : Lib.cut s.data.toList [47] = (a, b, true)) (hsz : a.length ≤ 9223372036854775807) (hsb : b.length ≤ 9223372036854775807) (ha : codeT a = 0) (hza : numT a = z1) (hb2 : codeT b = 0) (hzb : numT b = z2) (hpos : ∃ x r, b = x :: r ∧ x ≠ 45) (hone : b ≠ [48]) (hnz : z2 ≠ 0) : Calls Tryz.prog 12 #[.string s] w (RFE w ((z1 : Rat) / ((z2 : Int) : Rat)) 0) := by
  have KG := Lib.hid (Below.refl w.heap.size w)
  have HC := Lib.hid hcut
  have HSA : (ByteArray.mk a.toArray).size ≤ 9223372036854775807 := by show a.toArray.size ≤ _; rw [List.size_toArray]; exact hsz
  have HSB : (ByteArray.mk b.toArray).size ≤ 9223372036854775807 := by show b.toArray.size ≤ _; rw [List.size_toArray]; exact hsb
  have HA := Lib.hid ha
  have HZA := Lib.hid hza
  have LZz1 := Lib.hid (show lenB z1.natAbs ≤ 23 from by rw [← hza]; exact numT_len a)
  have HB2 := Lib.hid hb2
  have HZB := Lib.hid hzb
  have LZz2 := Lib.hid (show lenB z2.natAbs ≤ 23 from by rw [← hzb]; exact numT_len b)
  have hp0 : 0 < (ByteArray.mk b.toArray).size := by obtain ⟨x, r, rfl, h⟩ := hpos; exact Nat.succ_pos _
  have hp1 : ¬ (((ByteArray.mk b.toArray)[0]'hp0).toNat : Int) = 45 := by obtain ⟨x, r, rfl, h⟩ := hpos; exact fun h2 => h (UInt8.toNat_inj.1 (Int.ofNat_inj.1 h2))
  have hp2 : (b == [48]) = false := beq_eq_false_iff_ne.2 hone
  have HNZ := Lib.hid hnz
  clear hcut hsz hsb ha hza hb2 hzb hpos hone hnz
  obtain ⟨q14, hq14⟩ : ∃ z : Rat, z = (z1 : Rat) / (z2 : Rat) := ⟨_, rfl⟩
  have Hq14 := Lib.hid hq14
  have LQq14 := Lib.hid (show LQ q14 23 by rw [hq14]; exact LQ.make (HNZ.out) (Nat.le_trans LZz1.out (by decide)) (Nat.le_trans LZz2.out (by decide)))
  clear hq14
  go_enter Tryz.func12, Tryz.ntmps12
  go_upto_region 1 with (fail)
  obtain ⟨v2, hV⟩ : ∃ V, V = w.alloc (.cells #[.bool false, .slice none 0 0, .bool false, .slice none 0 0] 26) := ⟨_, rfl⟩
  have hbV : Below w.heap.size w v2 := by rw [hV]; exact ((Below.refl _ _).alloc (Nat.le_refl _) _)
  have BX1 := Lib.hid (show Bxs v2 (w.heap.size) 26 [.bool false, .slice none 0 0, .bool false, .slice none 0 0] by have h := Bxs.new (w) 26 [.bool false, .slice none 0 0, .bool false, .slice none 0 0]; rw [hV]; exact h)
  rw [show w.alloc (.cells #[.bool false, .slice none 0 0, .bool false, .slice none 0 0] 26) = v2 from hV.symm]
  have KG := Lib.hid (KG.out.trans (hbV.mono KG.out.size))
  clear hV hbV
  go_wp2_with fail
  have CT := Lib.hid (cut_k v2 hs HC.out)
  with_reducible refine CT.out.mono ?_
  rintro e w3 ⟨rfl, hb⟩
  clear CT
  have BX1 := Lib.hid (BX1.out.below hb BX1.out.lt)
  have KG := Lib.hid (KG.out.trans (hb.mono KG.out.size))
  clear hb
  go_wp2_with fail
  have CT := Lib.hid (parse_k w3 HSA HZA.out HA.out)
  with_reducible refine CT.out.mono ?_
  rintro e w4 ⟨x5, rfl, hN6, hb⟩
  have N6 := Lib.hid hN6
  clear hN6
  clear CT
  have BX1 := Lib.hid (BX1.out.below hb BX1.out.lt)
  have KG := Lib.hid (KG.out.trans (hb.mono KG.out.size))
  clear hb
  go_upto_region 5 with (fail)
  obtain ⟨v8, hV⟩ : ∃ V, V = w4.alloc (.cells #[.bool x5.s, .slice x5.a x5.n x5.c] 24) := ⟨_, rfl⟩
  have hbV : Below w4.heap.size w4 v8 := by rw [hV]; exact ((Below.refl _ _).alloc (Nat.le_refl _) _)
  have BX7 := Lib.hid (show Bxs v8 (w4.heap.size) 24 [.bool x5.s, .slice x5.a x5.n x5.c] by have h := Bxs.new (w4) 24 [.bool x5.s, .slice x5.a x5.n x5.c]; rw [hV]; exact h)
  rw [show w4.alloc (.cells #[.bool x5.s, .slice x5.a x5.n x5.c] 24) = v8 from hV.symm]
  have N6 := Lib.hid (N6.out.below hbV)
  have BX1 := Lib.hid (BX1.out.below hbV BX1.out.lt)
  have KG := Lib.hid (KG.out.trans (hbV.mono KG.out.size))
  clear hV hbV
  go_wp2_with fail
  have CT := Lib.hid (parse_k v8 HSB HZB.out HB2.out)
  with_reducible refine CT.out.mono ?_
  rintro e w9 ⟨x10, rfl, hN11, hb⟩
  have N11 := Lib.hid hN11
  clear hN11
  clear CT
  have N6 := Lib.hid (N6.out.below hb)
  have BX1 := Lib.hid (BX1.out.below hb BX1.out.lt)
  have BX7 := Lib.hid (BX7.out.below hb BX7.out.lt)
  have KG := Lib.hid (KG.out.trans (hb.mono KG.out.size))
  clear hb
  go_upto_region 6 with (fail)
  obtain ⟨v13, hV⟩ : ∃ V, V = w9.alloc (.cells #[.bool x10.s, .slice x10.a x10.n x10.c] 24) := ⟨_, rfl⟩
  have hbV : Below w9.heap.size w9 v13 := by rw [hV]; exact ((Below.refl _ _).alloc (Nat.le_refl _) _)
  have BX12 := Lib.hid (show Bxs v13 (w9.heap.size) 24 [.bool x10.s, .slice x10.a x10.n x10.c] by have h := Bxs.new (w9) 24 [.bool x10.s, .slice x10.a x10.n x10.c]; rw [hV]; exact h)
  rw [show w9.alloc (.cells #[.bool x10.s, .slice x10.a x10.n x10.c] 24) = v13 from hV.symm]
  have N6 := Lib.hid (N6.out.below hbV)
  have N11 := Lib.hid (N11.out.below hbV)
  have BX1 := Lib.hid (BX1.out.below hbV BX1.out.lt)
  have BX7 := Lib.hid (BX7.out.below hbV BX7.out.lt)
  have KG := Lib.hid (KG.out.trans (hbV.mono KG.out.size))
  clear hV hbV
  have cBX70 := BX7.out.cell (i := 0) rfl
  have cBX71 := BX7.out.cell (i := 1) rfl
  have cBX7f := BX7.out.fz
  have cBX7l := BX7.out.lt
  have cBX120 := BX12.out.cell (i := 0) rfl
  have cBX121 := BX12.out.cell (i := 1) rfl
  have cBX12f := BX12.out.fz
  have cBX12l := BX12.out.lt
  go_wp2_with fail
  have HLO := Lib.hid (show w.heap.size ≤ v13.heap.size from KG.out.size)
  have CT := Lib.hid (qlow N6.out.k (N6.out.k.len LZz1.out (by decide)) N11.out.k (N11.out.k.len LZz2.out (by decide)) (HNZ.out))
  rw [show (z1 : Rat) / (z2 : Rat) = q14 from Hq14.out.symm] at CT
  with_reducible refine CT.out.mono ?_
  rintro e w15 ⟨x16, rfl, hN17, hb⟩
  have N17 := Lib.hid hN17
  clear hN17
  clear CT
  clear cBX70 cBX71 cBX7f cBX7l
  clear cBX120 cBX121 cBX12f cBX12l
  clear N6
  clear N11
  have BX1 := Lib.hid (BX1.out.below hb BX1.out.lt)
  clear BX7
  clear BX12
  have KG := Lib.hid (KG.out.trans (hb.mono KG.out.size))
  clear hb
  have cBX10 := BX1.out.cell (i := 0) rfl
  have cBX11 := BX1.out.cell (i := 1) rfl
  have cBX12 := BX1.out.cell (i := 2) rfl
  have cBX13 := BX1.out.cell (i := 3) rfl
  have cBX1f := BX1.out.fz
  have cBX1l := BX1.out.lt
  go_wp2_with fail
  refine bodyPost_ret (results_ct rfl _ _ _ _ _ _ _ rfl ((((BX1.out.put 0 _).put 1 _).put 2 _).put 3 _) Tryz.underlying26 rfl (by kernel_rfl)) rfl ⟨x16, rfl, ?_, ?_⟩
  · rw [← Hq14.out]
    exact ((((N17.out.setBxs BX1.out (by decide) 0 _).setBxs (BX1.out.put 0 _) (by decide) 1 _).setBxs ((BX1.out.put 0 _).put 1 _) (by decide) 2 _).setBxs (((BX1.out.put 0 _).put 1 _).put 2 _) (by decide) 3 _).mono HLO.out
  · exact (((KG.out.setCell (Nat.le_refl _) _).setCell (Nat.le_refl _) _).setCell (Nat.le_refl _) _).setCell (Nat.le_refl _) _
set_option maxRecDepth 100000 in
set_option maxHeartbeats 8000000 in
theorem qparse_n_a4 {s : ByteArray} {a b : List UInt8} {z1 : Int} (w : World) (hs : s.size ≤ 9223372036854775807) (hcut : Lib.cut s.data.toList [47] = (a, b, false)) (hsz : a.length ≤ 9223372036854775807) (ha : codeT a = 4) (hza : numT a = z1) : Calls Tryz.prog 12 #[.string s] w (RFX w 4) := by
  have KG := Lib.hid (Below.refl w.heap.size w)
  have HC := Lib.hid hcut
  have HSA : (ByteArray.mk a.toArray).size ≤ 9223372036854775807 := by show a.toArray.size ≤ _; rw [List.size_toArray]; exact hsz
  have HA := Lib.hid ha
  have HZA := Lib.hid hza
  have LZz1 := Lib.hid (show lenB z1.natAbs ≤ 23 from by rw [← hza]; exact numT_len a)
  have LZz2 := Lib.hid (show lenB (1 : Int).natAbs ≤ 23 from Nat.le_trans (len1 (by decide) (by decide)) (by decide))
  clear hcut hsz ha hza
  go_enter Tryz.func12, Tryz.ntmps12
  go_upto_region 1 with (fail)
  obtain ⟨v2, hV⟩ : ∃ V, V = w.alloc (.cells #[.bool false, .slice none 0 0, .bool false, .slice none 0 0] 26) := ⟨_, rfl⟩
  have hbV : Below w.heap.size w v2 := by rw [hV]; exact ((Below.refl _ _).alloc (Nat.le_refl _) _)
  have BX1 := Lib.hid (show Bxs v2 (w.heap.size) 26 [.bool false, .slice none 0 0, .bool false, .slice none 0 0] by have h := Bxs.new (w) 26 [.bool false, .slice none 0 0, .bool false, .slice none 0 0]; rw [hV]; exact h)
  rw [show w.alloc (.cells #[.bool false, .slice none 0 0, .bool false, .slice none 0 0] 26) = v2 from hV.symm]
  have KG := Lib.hid (KG.out.trans (hbV.mono KG.out.size))
  clear hV hbV
  go_wp2_with fail
  have CT := Lib.hid (cut_k v2 hs HC.out)
  with_reducible refine CT.out.mono ?_
  rintro e w3 ⟨rfl, hb⟩
  clear CT
  have BX1 := Lib.hid (BX1.out.below hb BX1.out.lt)
  have KG := Lib.hid (KG.out.trans (hb.mono KG.out.size))
  clear hb
  go_wp2_with fail
  have CT := Lib.hid (parse_k w3 HSA HZA.out HA.out)
  with_reducible refine CT.out.mono ?_
  rintro e w4 ⟨x5, rfl, hN6, hb⟩
  have N6 := Lib.hid hN6
  clear hN6
  clear CT
  have BX1 := Lib.hid (BX1.out.below hb BX1.out.lt)
  have KG := Lib.hid (KG.out.trans (hb.mono KG.out.size))
  clear hb
  clear N6
  go_upto_region 5 with (fail)
  obtain ⟨v8, hV⟩ : ∃ V, V = w4.alloc (.cells #[.bool x5.s, .slice x5.a x5.n x5.c] 24) := ⟨_, rfl⟩
  have hbV : Below w4.heap.size w4 v8 := by rw [hV]; exact ((Below.refl _ _).alloc (Nat.le_refl _) _)
  have BX7 := Lib.hid (show Bxs v8 (w4.heap.size) 24 [.bool x5.s, .slice x5.a x5.n x5.c] by have h := Bxs.new (w4) 24 [.bool x5.s, .slice x5.a x5.n x5.c]; rw [hV]; exact h)
  rw [show w4.alloc (.cells #[.bool x5.s, .slice x5.a x5.n x5.c] 24) = v8 from hV.symm]
  have BX1 := Lib.hid (BX1.out.below hbV BX1.out.lt)
  have KG := Lib.hid (KG.out.trans (hbV.mono KG.out.size))
  clear hV hbV
  clear BX7
  go_wp2_with fail
  have CT := Lib.hid (parse_k v8 (show (ByteArray.mk #[49]).size ≤ 9223372036854775807 by decide) num1 code1)
  with_reducible refine CT.out.mono ?_
  rintro e w9 ⟨x10, rfl, hN11, hb⟩
  have N11 := Lib.hid hN11
  clear hN11
  clear CT
  have BX1 := Lib.hid (BX1.out.below hb BX1.out.lt)
  have KG := Lib.hid (KG.out.trans (hb.mono KG.out.size))
  clear hb
  clear N11
  go_upto_region 6 with (fail)
  obtain ⟨v13, hV⟩ : ∃ V, V = w9.alloc (.cells #[.bool x10.s, .slice x10.a x10.n x10.c] 24) := ⟨_, rfl⟩
  have hbV : Below w9.heap.size w9 v13 := by rw [hV]; exact ((Below.refl _ _).alloc (Nat.le_refl _) _)
  have BX12 := Lib.hid (show Bxs v13 (w9.heap.size) 24 [.bool x10.s, .slice x10.a x10.n x10.c] by have h := Bxs.new (w9) 24 [.bool x10.s, .slice x10.a x10.n x10.c]; rw [hV]; exact h)
  rw [show w9.alloc (.cells #[.bool x10.s, .slice x10.a x10.n x10.c] 24) = v13 from hV.symm]
  have BX1 := Lib.hid (BX1.out.below hbV BX1.out.lt)
  have KG := Lib.hid (KG.out.trans (hbV.mono KG.out.size))
  clear hV hbV
  clear BX12
  have cBX10 := BX1.out.cell (i := 0) rfl
  have cBX11 := BX1.out.cell (i := 1) rfl
  have cBX12 := BX1.out.cell (i := 2) rfl
  have cBX13 := BX1.out.cell (i := 3) rfl
  have cBX1f := BX1.out.fz
  have cBX1l := BX1.out.lt
  go_wp2_with fail
  refine bodyPost_ret (results_ct rfl _ _ _ _ _ _ _ rfl ((((BX1.out.put 0 _).put 1 _).put 2 _).put 3 _) Tryz.underlying26 rfl (by kernel_rfl)) rfl ⟨rfl, (((KG.out.setCell (Nat.le_refl _) _).setCell (Nat.le_refl _) _).setCell (Nat.le_refl _) _).setCell (Nat.le_refl _) _⟩
set_option maxRecDepth 100000 in
set_option maxHeartbeats 8000000 in
theorem qparse_n_a3 {s : ByteArray} {a b : List UInt8} {z1 : Int} (w : World) (hs : s.size ≤ 9223372036854775807) (hcut : Lib.cut s.data.toList [47] = (a, b, false)) (hsz : a.length ≤ 9223372036854775807) (ha : codeT a = 3) (hza : numT a = z1) : Calls Tryz.prog 12 #[.string s] w (RFX w 3) := by
  have KG := Lib.hid (Below.refl w.heap.size w)
  have HC := Lib.hid hcut
  have HSA : (ByteArray.mk a.toArray).size ≤ 9223372036854775807 := by show a.toArray.size ≤ _; rw [List.size_toArray]; exact hsz
  have HA := Lib.hid ha
  have HZA := Lib.hid hza
  have LZz1 := Lib.hid (show lenB z1.natAbs ≤ 23 from by rw [← hza]; exact numT_len a)
  have LZz2 := Lib.hid (show lenB (1 : Int).natAbs ≤ 23 from Nat.le_trans (len1 (by decide) (by decide)) (by decide))
  clear hcut hsz ha hza
  go_enter Tryz.func12, Tryz.ntmps12
  go_upto_region 1 with (fail)
  obtain ⟨v2, hV⟩ : ∃ V, V = w.alloc (.cells #[.bool false, .slice none 0 0, .bool false, .slice none 0 0] 26) := ⟨_, rfl⟩
  have hbV : Below w.heap.size w v2 := by rw [hV]; exact ((Below.refl _ _).alloc (Nat.le_refl _) _)
  have BX1 := Lib.hid (show Bxs v2 (w.heap.size) 26 [.bool false, .slice none 0 0, .bool false, .slice none 0 0] by have h := Bxs.new (w) 26 [.bool false, .slice none 0 0, .bool false, .slice none 0 0]; rw [hV]; exact h)
  rw [show w.alloc (.cells #[.bool false, .slice none 0 0, .bool false, .slice none 0 0] 26) = v2 from hV.symm]
  have KG := Lib.hid (KG.out.trans (hbV.mono KG.out.size))
  clear hV hbV
  go_wp2_with fail
  have CT := Lib.hid (cut_k v2 hs HC.out)
  with_reducible refine CT.out.mono ?_
  rintro e w3 ⟨rfl, hb⟩
  clear CT
  have BX1 := Lib.hid (BX1.out.below hb BX1.out.lt)
  have KG := Lib.hid (KG.out.trans (hb.mono KG.out.size))
  clear hb
  go_wp2_with fail
  have CT := Lib.hid (parse_k w3 HSA HZA.out HA.out)
  with_reducible refine CT.out.mono ?_
  rintro e w4 ⟨x5, rfl, hN6, hb⟩
  have N6 := Lib.hid hN6
  clear hN6
  clear CT
  have BX1 := Lib.hid (BX1.out.below hb BX1.out.lt)
  have KG := Lib.hid (KG.out.trans (hb.mono KG.out.size))
  clear hb
  clear N6
  go_upto_region 5 with (fail)
  obtain ⟨v8, hV⟩ : ∃ V, V = w4.alloc (.cells #[.bool x5.s, .slice x5.a x5.n x5.c] 24) := ⟨_, rfl⟩
  have hbV : Below w4.heap.size w4 v8 := by rw [hV]; exact ((Below.refl _ _).alloc (Nat.le_refl _) _)
  have BX7 := Lib.hid (show Bxs v8 (w4.heap.size) 24 [.bool x5.s, .slice x5.a x5.n x5.c] by have h := Bxs.new (w4) 24 [.bool x5.s, .slice x5.a x5.n x5.c]; rw [hV]; exact h)
  rw [show w4.alloc (.cells #[.bool x5.s, .slice x5.a x5.n x5.c] 24) = v8 from hV.symm]
  have BX1 := Lib.hid (BX1.out.below hbV BX1.out.lt)
  have KG := Lib.hid (KG.out.trans (hbV.mono KG.out.size))
  clear hV hbV
  clear BX7
  go_wp2_with fail
  have CT := Lib.hid (parse_k v8 (show (ByteArray.mk #[49]).size ≤ 9223372036854775807 by decide) num1 code1)
  with_reducible refine CT.out.mono ?_
  rintro e w9 ⟨x10, rfl, hN11, hb⟩
  have N11 := Lib.hid hN11
  clear hN11
  clear CT
  have BX1 := Lib.hid (BX1.out.below hb BX1.out.lt)
  have KG := Lib.hid (KG.out.trans (hb.mono KG.out.size))
  clear hb
  clear N11
  go_upto_region 6 with (fail)
  obtain ⟨v13, hV⟩ : ∃ V, V = w9.alloc (.cells #[.bool x10.s, .slice x10.a x10.n x10.c] 24) := ⟨_, rfl⟩
  have hbV : Below w9.heap.size w9 v13 := by rw [hV]; exact ((Below.refl _ _).alloc (Nat.le_refl _) _)
  have BX12 := Lib.hid (show Bxs v13 (w9.heap.size) 24 [.bool x10.s, .slice x10.a x10.n x10.c] by have h := Bxs.new (w9) 24 [.bool x10.s, .slice x10.a x10.n x10.c]; rw [hV]; exact h)
  rw [show w9.alloc (.cells #[.bool x10.s, .slice x10.a x10.n x10.c] 24) = v13 from hV.symm]
  have BX1 := Lib.hid (BX1.out.below hbV BX1.out.lt)
  have KG := Lib.hid (KG.out.trans (hbV.mono KG.out.size))
  clear hV hbV
  clear BX12
  have cBX10 := BX1.out.cell (i := 0) rfl
  have cBX11 := BX1.out.cell (i := 1) rfl
  have cBX12 := BX1.out.cell (i := 2) rfl
  have cBX13 := BX1.out.cell (i := 3) rfl
  have cBX1f := BX1.out.fz
  have cBX1l := BX1.out.lt
  go_wp2_with fail
  refine bodyPost_ret (results_ct rfl _ _ _ _ _ _ _ rfl ((((BX1.out.put 0 _).put 1 _).put 2 _).put 3 _) Tryz.underlying26 rfl (by kernel_rfl)) rfl ⟨rfl, (((KG.out.setCell (Nat.le_refl _) _).setCell (Nat.le_refl _) _).setCell (Nat.le_refl _) _).setCell (Nat.le_refl _) _⟩
set_option maxRecDepth 100000 in
set_option maxHeartbeats 8000000 in
theorem qparse_n_ok {s : ByteArray} {a b : List UInt8} {z1 : Int} (w : World) (hs : s.size ≤ 9223372036854775807) (hcut : Lib.cut s.data.toList [47] = (a, b, false)) (hsz : a.length ≤ 9223372036854775807) (ha : codeT a = 0) (hza : numT a = z1) : Calls Tryz.prog 12 #[.string s] w (RFE w ((z1 : Rat) / ((1 : Int) : Rat)) 0) := by
  have KG := Lib.hid (Below.refl w.heap.size w)
  have HC := Lib.hid hcut
  have HSA : (ByteArray.mk a.toArray).size ≤ 9223372036854775807 := by show a.toArray.size ≤ _; rw [List.size_toArray]; exact hsz
  have HA := Lib.hid ha
  have HZA := Lib.hid hza
  have LZz1 := Lib.hid (show lenB z1.natAbs ≤ 23 from by rw [← hza]; exact numT_len a)
  have LZz2 := Lib.hid (show lenB (1 : Int).natAbs ≤ 23 from Nat.le_trans (len1 (by decide) (by decide)) (by decide))
  clear hcut hsz ha hza
  obtain ⟨q14, hq14⟩ : ∃ z : Rat, z = (z1 : Rat) / ((1 : Int) : Rat) := ⟨_, rfl⟩
  have Hq14 := Lib.hid hq14
  have LQq14 := Lib.hid (show LQ q14 23 by rw [hq14]; exact LQ.make (by decide) (Nat.le_trans LZz1.out (by decide)) (Nat.le_trans LZz2.out (by decide)))
  clear hq14
  go_enter Tryz.func12, Tryz.ntmps12
  go_upto_region 1 with (fail)
  obtain ⟨v2, hV⟩ : ∃ V, V = w.alloc (.cells #[.bool false, .slice none 0 0, .bool false, .slice none 0 0] 26) := ⟨_, rfl⟩
  have hbV : Below w.heap.size w v2 := by rw [hV]; exact ((Below.refl _ _).alloc (Nat.le_refl _) _)
  have BX1 := Lib.hid (show Bxs v2 (w.heap.size) 26 [.bool false, .slice none 0 0, .bool false, .slice none 0 0] by have h := Bxs.new (w) 26 [.bool false, .slice none 0 0, .bool false, .slice none 0 0]; rw [hV]; exact h)
  rw [show w.alloc (.cells #[.bool false, .slice none 0 0, .bool false, .slice none 0 0] 26) = v2 from hV.symm]
  have KG := Lib.hid (KG.out.trans (hbV.mono KG.out.size))
  clear hV hbV
  go_wp2_with fail
  have CT := Lib.hid (cut_k v2 hs HC.out)
  with_reducible refine CT.out.mono ?_
  rintro e w3 ⟨rfl, hb⟩
  clear CT
  have BX1 := Lib.hid (BX1.out.below hb BX1.out.lt)
  have KG := Lib.hid (KG.out.trans (hb.mono KG.out.size))
  clear hb
  go_wp2_with fail
  have CT := Lib.hid (parse_k w3 HSA HZA.out HA.out)
  with_reducible refine CT.out.mono ?_
  rintro e w4 ⟨x5, rfl, hN6, hb⟩
  have N6 := Lib.hid hN6
  clear hN6
  clear CT
  have BX1 := Lib.hid (BX1.out.below hb BX1.out.lt)
  have KG := Lib.hid (KG.out.trans (hb.mono KG.out.size))
  clear hb
  go_upto_region 5 with (fail)
  obtain ⟨v8, hV⟩ : ∃ V, V = w4.alloc (.cells #[.bool x5.s, .slice x5.a x5.n x5.c] 24) := ⟨_, rfl⟩
  have hbV : Below w4.heap.size w4 v8 := by rw [hV]; exact ((Below.refl _ _).alloc (Nat.le_refl _) _)
  have BX7 := Lib.hid (show Bxs v8 (w4.heap.size) 24 [.bool x5.s, .slice x5.a x5.n x5.c] by have h := Bxs.new (w4) 24 [.bool x5.s, .slice x5.a x5.n x5.c]; rw [hV]; exact h)
  rw [show w4.alloc (.cells #[.bool x5.s, .slice x5.a x5.n x5.c] 24) = v8 from hV.symm]
  have N6 := Lib.hid (N6.out.below hbV)
  have BX1 := Lib.hid (BX1.out.below hbV BX1.out.lt)
  have KG := Lib.hid (KG.out.trans (hbV.mono KG.out.size))
  clear hV hbV
  go_wp2_with fail
  have CT := Lib.hid (parse_k v8 (show (ByteArray.mk #[49]).size ≤ 9223372036854775807 by decide) num1 code1)
  with_reducible refine CT.out.mono ?_
  rintro e w9 ⟨x10, rfl, hN11, hb⟩
  have N11 := Lib.hid hN11
  clear hN11
  clear CT
  have N6 := Lib.hid (N6.out.below hb)
  have BX1 := Lib.hid (BX1.out.below hb BX1.out.lt)
  have BX7 := Lib.hid (BX7.out.below hb BX7.out.lt)
  have KG := Lib.hid (KG.out.trans (hb.mono KG.out.size))
  clear hb
  go_upto_region 6 with (fail)
  obtain ⟨v13, hV⟩ : ∃ V, V = w9.alloc (.cells #[.bool x10.s, .slice x10.a x10.n x10.c] 24) := ⟨_, rfl⟩
  have hbV : Below w9.heap.size w9 v13 := by rw [hV]; exact ((Below.refl _ _).alloc (Nat.le_refl _) _)
  have BX12 := Lib.hid (show Bxs v13 (w9.heap.size) 24 [.bool x10.s, .slice x10.a x10.n x10.c] by have h := Bxs.new (w9) 24 [.bool x10.s, .slice x10.a x10.n x10.c]; rw [hV]; exact h)
  rw [show w9.alloc (.cells #[.bool x10.s, .slice x10.a x10.n x10.c] 24) = v13 from hV.symm]
  have N6 := Lib.hid (N6.out.below hbV)
  have N11 := Lib.hid (N11.out.below hbV)
  have BX1 := Lib.hid (BX1.out.below hbV BX1.out.lt)
  have BX7 := Lib.hid (BX7.out.below hbV BX7.out.lt)
  have KG := Lib.hid (KG.out.trans (hbV.mono KG.out.size))
  clear hV hbV
  have cBX70 := BX7.out.cell (i := 0) rfl
  have cBX71 := BX7.out.cell (i := 1) rfl
  have cBX7f := BX7.out.fz
  have cBX7l := BX7.out.lt
  have cBX120 := BX12.out.cell (i := 0) rfl
  have cBX121 := BX12.out.cell (i := 1) rfl
  have cBX12f := BX12.out.fz
  have cBX12l := BX12.out.lt
  go_wp2_with fail
  have HLO := Lib.hid (show w.heap.size ≤ v13.heap.size from KG.out.size)
  have CT := Lib.hid (qlow N6.out.k (N6.out.k.len LZz1.out (by decide)) N11.out.k (N11.out.k.len LZz2.out (by decide)) (by decide))
  rw [show (z1 : Rat) / ((1 : Int) : Rat) = q14 from Hq14.out.symm] at CT
  with_reducible refine CT.out.mono ?_
  rintro e w15 ⟨x16, rfl, hN17, hb⟩
  have N17 := Lib.hid hN17
  clear hN17
  clear CT
  clear cBX70 cBX71 cBX7f cBX7l
  clear cBX120 cBX121 cBX12f cBX12l
  clear N6
  clear N11
  have BX1 := Lib.hid (BX1.out.below hb BX1.out.lt)
  clear BX7
  clear BX12
  have KG := Lib.hid (KG.out.trans (hb.mono KG.out.size))
  clear hb
  have cBX10 := BX1.out.cell (i := 0) rfl
  have cBX11 := BX1.out.cell (i := 1) rfl
  have cBX12 := BX1.out.cell (i := 2) rfl
  have cBX13 := BX1.out.cell (i := 3) rfl
  have cBX1f := BX1.out.fz
  have cBX1l := BX1.out.lt
  go_wp2_with fail
  refine bodyPost_ret (results_ct rfl _ _ _ _ _ _ _ rfl ((((BX1.out.put 0 _).put 1 _).put 2 _).put 3 _) Tryz.underlying26 rfl (by kernel_rfl)) rfl ⟨x16, rfl, ?_, ?_⟩
  · rw [← Hq14.out]
    exact ((((N17.out.setBxs BX1.out (by decide) 0 _).setBxs (BX1.out.put 0 _) (by decide) 1 _).setBxs ((BX1.out.put 0 _).put 1 _) (by decide) 2 _).setBxs (((BX1.out.put 0 _).put 1 _).put 2 _) (by decide) 3 _).mono HLO.out
  · exact (((KG.out.setCell (Nat.le_refl _) _).setCell (Nat.le_refl _) _).setCell (Nat.le_refl _) _).setCell (Nat.le_refl _) _
def FV.blk (x : FV) (b : Nat) : Prop := x.t.blk b ∨ x.l.blk b
theorem DF.kept {w w' : World} {lo : Nat} {x : FV} {q : Rat} (h : DF w lo x q) (hk : ∀ b, x.blk b → w'.heap[b]? = w.heap[b]?) : DF w' lo x q := ⟨h.t.kept fun b hb => hk b (Or.inl hb), h.l.kept fun b hb => hk b (Or.inr hb), h.ap⟩
theorem form0 : formT [48] := ⟨by decide +kernel, by decide +kernel, by decide +kernel⟩
theorem index47 : ∀ (a b : List UInt8), (47 : UInt8) ∉ a → Lib.index (a ++ 47 :: b) [47] = a.length
  | [], b, _ => by
    show Lib.index (47 :: b) [47] = 0
    unfold Lib.index
    rw [if_pos (by simp [List.isPrefixOf])]
  | c :: a, b, h => by
    have h1 : (47 : UInt8) ≠ c := fun e => h (by rw [e]; exact List.mem_cons_self ..)
    have h2 : (47 : UInt8) ∉ a := fun e => h (List.mem_cons_of_mem _ e)
    show Lib.index (c :: (a ++ 47 :: b)) [47] = _
    have i := index47 a b h2
    unfold Lib.index
    rw [if_neg (by simp [List.isPrefixOf, h1]), i, if_neg (by first | (simp; done) | (simp; omega))]
    simp
theorem index47n : ∀ (a : List UInt8), (47 : UInt8) ∉ a → Lib.index a [47] = -1
  | [], _ => rfl
  | c :: a, h => by
    have h1 : (47 : UInt8) ≠ c := fun e => h (by rw [e]; exact List.mem_cons_self ..)
    have h2 : (47 : UInt8) ∉ a := fun e => h (List.mem_cons_of_mem _ e)
    have i := index47n a h2
    unfold Lib.index
    rw [if_neg (by simp [List.isPrefixOf, h1]), i, if_pos (by rfl)]
theorem cut47 {a : List UInt8} (b : List UInt8) (h : (47 : UInt8) ∉ a) : Lib.cut (a ++ 47 :: b) [47] = (a, b, true) := by
  unfold Lib.cut
  rw [index47 a b h, if_pos (by omega)]
  simp
theorem cut47n {a : List UInt8} (h : (47 : UInt8) ∉ a) : Lib.cut a [47] = (a, [], false) := by
  unfold Lib.cut
  rw [index47n a h, if_neg (by omega)]
theorem cut_cases (s : List UInt8) : (∃ a b, s = a ++ 47 :: b ∧ Lib.cut s [47] = (a, b, true)) ∨ Lib.cut s [47] = (s, [], false) := by
  by_cases h : (47 : UInt8) ∈ s
  · obtain ⟨a, b, e, ha⟩ := List.eq_append_cons_of_mem h
    exact .inl ⟨a, b, e, by rw [e]; exact cut47 b ha⟩
  · exact .inr (cut47n h)
def badB (a b : List UInt8) : Prop := codeT a = 4 ∨ codeT b = 4 ∨ b.head? = some 45 ∨ b = [48]
open Classical in
noncomputable def codeB (a b : List UInt8) : Int := if badB a b then 4 else if codeT a = 0 ∧ codeT b = 0 then 0 else 3
noncomputable def ratB (a b : List UInt8) : Rat := (numT a : Rat) / (numT b : Rat)
def aboveT (s : List UInt8) : List UInt8 := (Lib.cut s [47]).1
def belowT (s : List UInt8) : List UInt8 := if (Lib.cut s [47]).2.2 then (Lib.cut s [47]).2.1 else [49]
noncomputable def codeF (s : List UInt8) : Int := codeB (aboveT s) (belowT s)
noncomputable def ratF (s : List UInt8) : Rat := ratB (aboveT s) (belowT s)
theorem parts_of {a b : List UInt8} (h : (47 : UInt8) ∉ a) : aboveT (a ++ 47 :: b) = a ∧ belowT (a ++ 47 :: b) = b := by
  unfold aboveT belowT; rw [cut47 b h]; exact ⟨rfl, rfl⟩
theorem parts_ofn {a : List UInt8} (h : (47 : UInt8) ∉ a) : aboveT a = a ∧ belowT a = [49] := by
  unfold aboveT belowT; rw [cut47n h]; exact ⟨rfl, rfl⟩
theorem codeB_zero {a b : List UInt8} (h : codeB a b = 0) : codeT a = 0 ∧ codeT b = 0 ∧ 0 < numT b ∧ b.head? ≠ some 45 ∧ b ≠ [48] := by
  unfold codeB at h
  split at h
  · exact absurd h (by decide)
  · rename_i hb
    split at h
    · rename_i hc
      refine ⟨hc.1, hc.2, ?_, fun e => hb (.inr (.inr (.inl e))), fun e => hb (.inr (.inr (.inr e)))⟩
      obtain ⟨e, _, _⟩ := itoa_numT hc.2
      have h1 : b.head? ≠ some 45 := fun e => hb (.inr (.inr (.inl e)))
      have h2 : b ≠ [48] := fun e => hb (.inr (.inr (.inr e)))
      refine Classical.byContradiction fun hn => ?_
      by_cases hz : numT b = 0
      · rw [hz] at e
        exact h2 (e.symm.trans (decD_small (n := 0) (by omega)))
      · rw [← e] at h1
        refine h1 ?_
        unfold Lib.itoa
        rw [if_pos (by omega)]; rfl
    · exact absurd h (by decide)
theorem codeT_ne {l : List UInt8} (h : codeT l ≠ 4) : l ≠ [] := by
  rintro rfl
  refine h ?_
  unfold codeT
  rw [if_neg (fun hf => hf.1 rfl)]
theorem head_or {l : List UInt8} (h : l ≠ []) : (∃ r, l = 45 :: r) ∨ (∃ x r, l = x :: r ∧ x ≠ 45) := by
  cases l with
  | nil => exact absurd rfl h
  | cons x r =>
    by_cases e : x = 45
    · exact .inl ⟨r, by rw [e]⟩
    · exact .inr ⟨x, r, rfl, e⟩
theorem badB_of {a b : List UInt8} (h : badB a b) : codeB a b = 4 := by unfold codeB; rw [if_pos h]
theorem codeB_three {a b : List UInt8} (h : ¬ badB a b) (h2 : ¬ (codeT a = 0 ∧ codeT b = 0)) : codeB a b = 3 := by unfold codeB; rw [if_neg h, if_neg h2]
theorem codeT_one : codeT [48] = 0 := codeT_of _ form0 (by decide +kernel)
theorem qparse_y {s : ByteArray} {a b : List UInt8} (w : World) (hs : s.size ≤ 9223372036854775807) (hcut : Lib.cut s.data.toList [47] = (a, b, true)) (ha : a.length ≤ 9223372036854775807) (hb : b.length ≤ 9223372036854775807) :
    Calls Tryz.prog 12 #[.string s] w fun e w' => (codeB a b = 0 ∧ RFE w (ratB a b) 0 e w') ∨ (codeB a b ≠ 0 ∧ RFX w (codeB a b) e w') := by
  have bad : ∀ {c : Int}, codeB a b = c → c ≠ 0 → Calls Tryz.prog 12 #[.string s] w (RFX w c) → Calls Tryz.prog 12 #[.string s] w fun e w' => (codeB a b = 0 ∧ RFE w (ratB a b) 0 e w') ∨ (codeB a b ≠ 0 ∧ RFX w (codeB a b) e w') :=
    fun e h0 h => h.mono fun _ _ hr => .inr ⟨by rw [e]; exact h0, by rw [e]; exact hr⟩
  rcases codeT_cases a with ca | ⟨ca, za⟩ | ⟨ca, za⟩ <;> rcases codeT_cases b with cb | ⟨cb, zb⟩ | ⟨cb, zb⟩
  · -- both are read
    rcases head_or (codeT_ne (by rw [cb]; decide)) with hn | hp
    · exact bad (badB_of (.inr (.inr (.inl (by obtain ⟨r, rfl⟩ := hn; rfl))))) (by decide) (qparse_y_neg w hs hcut ha hb ca rfl cb rfl (by decide) (by decide) hn)
    · by_cases h1 : b = [48]
      · exact bad (badB_of (.inr (.inr (.inr h1)))) (by decide) (qparse_y_one w hs hcut ha hb ca rfl cb rfl (by decide) hp h1)
      · have hnb : ¬ badB a b := by
          rintro (h | h | h | h)
          · rw [ca] at h; exact absurd h (by decide)
          · rw [cb] at h; exact absurd h (by decide)
          · obtain ⟨x, r, rfl, hx⟩ := hp
            simp only [List.head?_cons, Option.some.injEq] at h
            exact hx h
          · exact h1 h
        have e0 : codeB a b = 0 := by unfold codeB; rw [if_neg hnb, if_pos ⟨ca, cb⟩]
        exact (qparse_y_ok w hs hcut ha hb ca rfl cb rfl hp h1 (by have := (codeB_zero e0).2.2.1; omega)).mono fun _ _ hr => .inl ⟨e0, hr⟩
  · rcases head_or (codeT_ne (by rw [cb]; decide)) with hn | hp
    · exact bad (badB_of (.inr (.inr (.inl (by obtain ⟨r, rfl⟩ := hn; rfl))))) (by decide) (qparse_y_neg w hs hcut ha hb ca rfl cb rfl (by decide) (by decide) hn)
    · have h1 : b ≠ [48] := fun h => by rw [h, codeT_one] at cb; exact absurd cb (by decide)
      refine bad (codeB_three ?_ fun h => by rw [cb] at h; exact absurd h.2 (by decide)) (by decide) (qparse_y_b3 w hs hcut ha hb ca rfl cb rfl hp h1)
      rintro (h | h | h | h)
      · rw [ca] at h; exact absurd h (by decide)
      · rw [cb] at h; exact absurd h (by decide)
      · obtain ⟨x, r, rfl, hx⟩ := hp
        simp only [List.head?_cons, Option.some.injEq] at h
        exact hx h
      · exact h1 h
  · exact bad (badB_of (.inr (.inl cb))) (by decide) (qparse_y_b4 w hs hcut ha hb ca rfl cb rfl (by decide))
  · rcases head_or (codeT_ne (by rw [cb]; decide)) with hn | hp
    · exact bad (badB_of (.inr (.inr (.inl (by obtain ⟨r, rfl⟩ := hn; rfl))))) (by decide) (qparse_y_neg w hs hcut ha hb ca rfl cb rfl (by decide) (by decide) hn)
    · by_cases h1 : b = [48]
      · exact bad (badB_of (.inr (.inr (.inr h1)))) (by decide) (qparse_y_one w hs hcut ha hb ca rfl cb rfl (by decide) hp h1)
      · refine bad (codeB_three ?_ fun h => by rw [ca] at h; exact absurd h.1 (by decide)) (by decide) (qparse_y_a3 w hs hcut ha hb ca rfl cb rfl (by decide) hp h1)
        rintro (h | h | h | h)
        · rw [ca] at h; exact absurd h (by decide)
        · rw [cb] at h; exact absurd h (by decide)
        · obtain ⟨x, r, rfl, hx⟩ := hp
          simp only [List.head?_cons, Option.some.injEq] at h
          exact hx h
        · exact h1 h
  · rcases head_or (codeT_ne (by rw [cb]; decide)) with hn | hp
    · exact bad (badB_of (.inr (.inr (.inl (by obtain ⟨r, rfl⟩ := hn; rfl))))) (by decide) (qparse_y_neg w hs hcut ha hb ca rfl cb rfl (by decide) (by decide) hn)
    · have h1 : b ≠ [48] := fun h => by rw [h, codeT_one] at cb; exact absurd cb (by decide)
      refine bad (codeB_three ?_ fun h => by rw [cb] at h; exact absurd h.2 (by decide)) (by decide) (qparse_y_a3 w hs hcut ha hb ca rfl cb rfl (by decide) hp h1)
      rintro (h | h | h | h)
      · rw [ca] at h; exact absurd h (by decide)
      · rw [cb] at h; exact absurd h (by decide)
      · obtain ⟨x, r, rfl, hx⟩ := hp
        simp only [List.head?_cons, Option.some.injEq] at h
        exact hx h
      · exact h1 h
  · exact bad (badB_of (.inr (.inl cb))) (by decide) (qparse_y_b4 w hs hcut ha hb ca rfl cb rfl (by decide))
  · exact bad (badB_of (.inl ca)) (by decide) (qparse_y_a4 w hs hcut ha hb ca rfl cb rfl)
  · exact bad (badB_of (.inl ca)) (by decide) (qparse_y_a4 w hs hcut ha hb ca rfl cb rfl)
  · exact bad (badB_of (.inl ca)) (by decide) (qparse_y_a4 w hs hcut ha hb ca rfl cb rfl)
theorem good1 {a : List UInt8} (h : codeT a ≠ 4) : ¬ badB a [49] := by
  rintro (h' | h' | h' | h')
  · exact h h'
  · rw [code1] at h'; exact absurd h' (by decide)
  · exact absurd h' (by decide)
  · exact absurd h' (by decide)
theorem qparse_n {s : ByteArray} {a b : List UInt8} (w : World) (hs : s.size ≤ 9223372036854775807) (hcut : Lib.cut s.data.toList [47] = (a, b, false)) (ha : a.length ≤ 9223372036854775807) :
    Calls Tryz.prog 12 #[.string s] w fun e w' => (codeB a [49] = 0 ∧ RFE w (ratB a [49]) 0 e w') ∨ (codeB a [49] ≠ 0 ∧ RFX w (codeB a [49]) e w') := by
  rcases codeT_cases a with ca | ⟨ca, za⟩ | ⟨ca, za⟩
  · have e0 : codeB a [49] = 0 := by unfold codeB; rw [if_neg (good1 (by rw [ca]; decide)), if_pos ⟨ca, code1⟩]
    refine (qparse_n_ok w hs hcut ha ca rfl).mono fun _ _ hr => .inl ⟨e0, ?_⟩
    unfold ratB; rw [num1]; exact hr
  · have e3 : codeB a [49] = 3 := codeB_three (good1 (by rw [ca]; decide)) fun h => by rw [ca] at h; exact absurd h.1 (by decide)
    exact (qparse_n_a3 w hs hcut ha ca rfl).mono fun _ _ hr => .inr ⟨by rw [e3]; decide, by rw [e3]; exact hr⟩
  · have e4 : codeB a [49] = 4 := badB_of (.inl ca)
    exact (qparse_n_a4 w hs hcut ha ca rfl).mono fun _ _ hr => .inr ⟨by rw [e4]; decide, by rw [e4]; exact hr⟩
theorem qparse_any (s : ByteArray) (w : World) (hs : s.size ≤ 9223372036854775807) :
    Calls Tryz.prog 12 #[.string s] w fun e w' => (codeF s.data.toList = 0 ∧ RFE w (ratF s.data.toList) 0 e w') ∨ (codeF s.data.toList ≠ 0 ∧ RFX w (codeF s.data.toList) e w') := by
  have hl : s.data.toList.length ≤ 9223372036854775807 := by rw [Array.length_toList]; exact hs
  unfold codeF ratF aboveT belowT
  rcases cut_cases s.data.toList with ⟨a, b, e, hc⟩ | hc
  · have h2 := congrArg List.length e
    rw [List.length_append, List.length_cons] at h2
    rw [hc]
    have g1 : a.length ≤ 9223372036854775807 := by omega
    have g2 : b.length ≤ 9223372036854775807 := by omega
    exact qparse_y w hs hc g1 g2
  · rw [hc]
    exact qparse_n w hs hc hl
theorem qparse_z {s : ByteArray} (w : World) (hs : s.size ≤ 9223372036854775807) {q : Rat} (h : codeF s.data.toList = 0) (hq : ratF s.data.toList = q) : Calls Tryz.prog 12 #[.string s] w (RFE w q 0) :=
  (qparse_any s w hs).mono fun _ _ hr => hr.elim (fun h2 => by rw [← hq]; exact h2.2) (fun h2 => absurd h h2.1)
theorem qparse_c {s : ByteArray} (w : World) (hs : s.size ≤ 9223372036854775807) {c : Int} (h : codeF s.data.toList = c) (hc : c ≠ 0) : Calls Tryz.prog 12 #[.string s] w (RFX w c) :=
  (qparse_any s w hs).mono fun _ _ hr => hr.elim (fun h2 => absurd h2.1 (by rw [h]; exact hc)) (fun h2 => by rw [← h]; exact h2.2)
theorem ratF_len {s : List UInt8} (h : codeF s = 0) : LQ (ratF s) 23 := by
  unfold codeF at h
  unfold ratF ratB
  exact LQ.make (by have := (codeB_zero h).2.2.1; omega) (numT_len _) (numT_len _)
def RKF (w : World) (q : Rat) (e : Ending) (w' : World) : Prop := ∃ y : FV, e = .returned y.v ∧ KF w' y q ∧ Below w.heap.size w w'
theorem rfitQ {w : World} {x : FV} {p : Rat} (h1 : AF w x p) (b1 : LF x 900000) : Calls Tryz.prog 52 #[x.v] w (RKF w p) := by
  obtain ⟨o1, o2, r1, r2, e1⟩ := h1.ex
  have h := rfit_any x.t.s x.t.a x.t.n x.t.c o1 x.l.s x.l.a x.l.n x.l.c o2 w w.heap.size (Nat.le_refl _) r1 (by omega) h1.l1 (rd_block r1) r2 (by omega) h1.l2 (rd_block r2)
  rw [e1] at h
  refine h.mono ?_
  rintro e w' ⟨a1, c1, a2, c2, rfl, g1, l1, g2, l2, hb⟩
  exact ⟨⟨⟨_, a1, _, c1⟩, ⟨_, a2, _, c2⟩⟩, rfl, ⟨⟨rfl, rfl, g1.rd, l1⟩, ⟨rfl, rfl, g2.rd, l2⟩⟩, hb⟩
open Classical in
theorem roneN {w : World} {x : NV} {p : Int} (h : KN w x p) (b : x.n ≤ 10000000) : Calls Tryz.prog 49 #[x.v] w fun e w' => e = .returned (.bool (decide (p = 1))) ∧ Below w.heap.size w w' := by
  have g := rone_any x.s x.a x.n x.c _ w h.rd (by omega) h.le h.okv
  rw [h.valv] at g
  exact g
open Classical in
theorem rcheckQ {w : World} {x : FV} {p : Rat} (h1 : KF w x p) (b1 : LF x 900000) : Calls Tryz.prog 15 #[x.v] w fun e w' => e = .returned (.bool true) ∧ Below w.heap.size w w' := by
  have h := rfcheck_any x.t.s x.t.a x.t.n x.t.c _ x.l.s x.l.a x.l.n x.l.c _ w h1.t.rd (by omega) h1.t.le h1.l.rd (by omega) h1.l.le
  rw [decide_eq_true (by rw [h1.t.s, h1.t.n, h1.l.s, h1.l.n]; exact okF_canon p)] at h
  exact h
open Classical in
theorem rcheckB {w : World} {x : FV} (h1 : BF w x) (b1 : LF x 900000) : Calls Tryz.prog 15 #[x.v] w fun e w' => e = .returned (.bool false) ∧ Below w.heap.size w w' := by
  obtain ⟨o1, o2, r1, r2, hk⟩ := h1.ex
  have h := rfcheck_any x.t.s x.t.a x.t.n x.t.c o1 x.l.s x.l.a x.l.n x.l.c o2 w r1 (by omega) h1.l1 r2 (by omega) h1.l2
  rw [decide_eq_false hk] at h
  exact h
theorem rlowQ {w : World} {x y : NV} {p q : Int} (h1 : KN w x p) (b1 : x.n ≤ 900000) (h2 : KN w y q) (b2 : y.n ≤ 900000) (hq : q ≠ 0) : Calls Tryz.prog 44 #[x.v, y.v] w (RKF w ((p : Rat) / (q : Rat))) := by
  obtain ⟨s1, a1, n1, c1⟩ := x
  obtain ⟨s2, a2, n2, c2⟩ := y
  have e1 : s1 = _ := h1.s
  have e2 : n1 = _ := h1.n
  have e3 : s2 = _ := h2.s
  have e4 : n2 = _ := h2.n
  have r1 := h1.rd
  have r2 := h2.rd
  have l1 := h1.le
  have l2 := h2.le
  subst e1 e2 e3 e4
  have h := rlowest_any p q a1 a2 c1 c2 w r1 (by dsimp only at b1; omega) l1 r2 (by dsimp only at b2; omega) l2 hq
  rw [Rat.divInt_eq_div] at h
  refine h.mono ?_
  rintro e w' ⟨a1, c1, a2, c2, rfl, g1, g2, hb⟩
  exact ⟨⟨⟨_, a1, _, c1⟩, ⟨_, a2, _, c2⟩⟩, rfl, ⟨⟨rfl, rfl, g1.rd, g1.le⟩, ⟨rfl, rfl, g2.rd, g2.le⟩⟩, hb⟩
set_option maxRecDepth 100000 in
set_option maxHeartbeats 8000000 in
theorem rtextQ_one (x1 : FV) (p1 : Rat) (w : World) (h1 : AF w x1 p1) (b1 : LF x1 100) (lq : LQ p1 101) (hd : (p1.den : Int) = 1) : Calls Tryz.prog 19 #[x1.v] w fun e w' => e = .returned (.string ⟨(textQ p1).toArray⟩) ∧ Below w.heap.size w w' := by
  have KG := Lib.hid (Below.refl w.heap.size w)
  have N1 := Lib.hid h1
  have Bx1 := Lib.hid b1
  have LQp1 := Lib.hid lq
  obtain ⟨TA, hTA⟩ : ∃ t : ByteArray, t = ⟨(Lib.itoa p1.num).toArray⟩ := ⟨_, rfl⟩
  obtain ⟨TB, hTB⟩ : ∃ t : ByteArray, t = ⟨(Lib.itoa (p1.den : Int)).toArray⟩ := ⟨_, rfl⟩
  have sA : TA.size ≤ 911 := by rw [hTA, bsz]; exact Nat.le_trans (itoa_len lq.t) (by decide)
  have sB : TB.size ≤ 911 := by rw [hTB, bsz]; exact Nat.le_trans (itoa_len lq.l) (by decide)
  have HTA := Lib.hid hTA
  have HTB := Lib.hid hTB
  obtain ⟨TC, hTC⟩ : ∃ t : ByteArray, t = TA ++ ⟨#[47]⟩ := ⟨_, rfl⟩
  obtain ⟨TD, hTD⟩ : ∃ t : ByteArray, t = TC ++ TB := ⟨_, rfl⟩
  have sC : TC.size = TA.size + 1 := by rw [hTC, ByteArray.size_append]; rfl
  have eTC : TA ++ ⟨#[47]⟩ = TC := hTC.symm
  have eTD : TC ++ TB = TD := hTD.symm
  have l1 : ¬ (9223372036854775807 < TA.size + 1) := by omega
  have l2 : ¬ (9223372036854775807 < TC.size + TB.size) := by omega
  have HTD := Lib.hid (show TD = ⟨(Lib.itoa p1.num ++ 47 :: Lib.itoa (p1.den : Int)).toArray⟩ by rw [hTD, hTC, hTA, hTB]; apply ByteArray.ext; simp)
  have HD := Lib.hid hd
  clear h1 b1 lq hd hTA hTB hTC hTD sA sB sC
  go_enter Tryz.func19, Tryz.ntmps19
  go_upto_region 1 with (fail)
  obtain ⟨v2, hV⟩ : ∃ V, V = w.alloc (.cells #[.bool x1.t.s, .slice x1.t.a x1.t.n x1.t.c, .bool x1.l.s, .slice x1.l.a x1.l.n x1.l.c] 26) := ⟨_, rfl⟩
  have hbV : Below w.heap.size w v2 := by rw [hV]; exact ((Below.refl _ _).alloc (Nat.le_refl _) _)
  have BX1 := Lib.hid (show Bxs v2 (w.heap.size) 26 [.bool x1.t.s, .slice x1.t.a x1.t.n x1.t.c, .bool x1.l.s, .slice x1.l.a x1.l.n x1.l.c] by have h := Bxs.new (w) 26 [.bool x1.t.s, .slice x1.t.a x1.t.n x1.t.c, .bool x1.l.s, .slice x1.l.a x1.l.n x1.l.c]; rw [hV]; exact h)
  rw [show w.alloc (.cells #[.bool x1.t.s, .slice x1.t.a x1.t.n x1.t.c, .bool x1.l.s, .slice x1.l.a x1.l.n x1.l.c] 26) = v2 from hV.symm]
  have KG := Lib.hid (KG.out.trans (hbV.mono KG.out.size))
  clear hV hbV
  have cBX10 := BX1.out.cell (i := 0) rfl
  have cBX11 := BX1.out.cell (i := 1) rfl
  have cBX12 := BX1.out.cell (i := 2) rfl
  have cBX13 := BX1.out.cell (i := 3) rfl
  have cBX1f := BX1.out.fz
  have cBX1l := BX1.out.lt
  go_wp2_with fail
  have CT := Lib.hid (rfitQ (N1.out.below KG.out) (LF.up Bx1.out (by decide : _ ≤ 900000)))
  with_reducible refine CT.out.mono ?_
  rintro e w3 ⟨x4, rfl, hN5, hb⟩
  have N5 := Lib.hid hN5
  clear hN5
  clear CT
  clear cBX10 cBX11 cBX12 cBX13 cBX1f cBX1l
  have BX1 := Lib.hid (BX1.out.below hb BX1.out.lt)
  have KG := Lib.hid (KG.out.trans (hb.mono KG.out.size))
  clear hb
  have cBX10 := BX1.out.cell (i := 0) rfl
  have cBX11 := BX1.out.cell (i := 1) rfl
  have cBX12 := BX1.out.cell (i := 2) rfl
  have cBX13 := BX1.out.cell (i := 3) rfl
  have cBX1f := BX1.out.fz
  have cBX1l := BX1.out.lt
  go_upto_region 2 with (fail)
  clear cBX10 cBX11 cBX12 cBX13 cBX1f cBX1l
  obtain ⟨v6, hV⟩ : ∃ V, V = (((w3.setCell ⟨w.heap.size, 0, none⟩ (.bool x4.t.s)).setCell ⟨w.heap.size, 1, none⟩ (.slice x4.t.a x4.t.n x4.t.c)).setCell ⟨w.heap.size, 2, none⟩ (.bool x4.l.s)).setCell ⟨w.heap.size, 3, none⟩ (.slice x4.l.a x4.l.n x4.l.c) := ⟨_, rfl⟩
  have hB := Lib.hid (show Bxs v6 (w.heap.size) 26 [.bool x4.t.s, .slice x4.t.a x4.t.n x4.t.c, .bool x4.l.s, .slice x4.l.a x4.l.n x4.l.c] by rw [hV]; exact ((((BX1.out.put 0 _).put 1 _).put 2 _).put 3 _))
  have N5 := Lib.hid (show KF v6 x4 p1 by rw [hV]; exact ((((N5.out.setBxs BX1.out rfl 0 _).setBxs (BX1.out.put 0 _) rfl 1 _).setBxs ((BX1.out.put 0 _).put 1 _) rfl 2 _).setBxs (((BX1.out.put 0 _).put 1 _).put 2 _) rfl 3 _))
  have KG := Lib.hid (show Below w.heap.size w v6 by rw [hV]; exact ((((KG.out.setCell (Nat.le_refl _) _).setCell (Nat.le_refl _) _).setCell (Nat.le_refl _) _).setCell (Nat.le_refl _) _))
  rw [show (((w3.setCell ⟨w.heap.size, 0, none⟩ (.bool x4.t.s)).setCell ⟨w.heap.size, 1, none⟩ (.slice x4.t.a x4.t.n x4.t.c)).setCell ⟨w.heap.size, 2, none⟩ (.bool x4.l.s)).setCell ⟨w.heap.size, 3, none⟩ (.slice x4.l.a x4.l.n x4.l.c) = v6 from hV.symm]
  clear hV
  have BX1 := hB
  clear hB
  have cBX10 := BX1.out.cell (i := 0) rfl
  have cBX11 := BX1.out.cell (i := 1) rfl
  have cBX12 := BX1.out.cell (i := 2) rfl
  have cBX13 := BX1.out.cell (i := 3) rfl
  have cBX1f := BX1.out.fz
  have cBX1l := BX1.out.lt
  go_wp2_with fail
  have CT := Lib.hid (roneN (N5.out).l ((N5.out).l.len (Lib.hid LQp1.out.l).out (by decide)))
  rw [show decide ((p1.den : Int) = 1) = true from decide_eq_true HD.out] at CT
  with_reducible refine CT.out.mono ?_
  rintro e w7 ⟨rfl, hb⟩
  clear CT
  clear cBX10 cBX11 cBX12 cBX13 cBX1f cBX1l
  have N5 := Lib.hid (N5.out.below hb)
  have BX1 := Lib.hid (BX1.out.below hb BX1.out.lt)
  have KG := Lib.hid (KG.out.trans (hb.mono KG.out.size))
  clear hb
  have cBX10 := BX1.out.cell (i := 0) rfl
  have cBX11 := BX1.out.cell (i := 1) rfl
  have cBX12 := BX1.out.cell (i := 2) rfl
  have cBX13 := BX1.out.cell (i := 3) rfl
  have cBX1f := BX1.out.fz
  have cBX1l := BX1.out.lt
  go_wp2_with fail
  have CT := Lib.hid (rtextN (N5.out).t.any ((N5.out).t.len (Lib.hid LQp1.out.t).out (by decide)))
  rw [show (⟨(Lib.itoa p1.num).toArray⟩ : ByteArray) = TA from HTA.out.symm] at CT
  with_reducible refine CT.out.mono ?_
  rintro e w8 ⟨rfl, hb⟩
  clear CT
  clear cBX10 cBX11 cBX12 cBX13 cBX1f cBX1l
  clear N5
  clear BX1
  have KG := Lib.hid (KG.out.trans (hb.mono KG.out.size))
  clear hb
  go_wp2_with fail
  go_ret
  exact ⟨by unfold textQ; rw [if_pos HD.out, HTA.out]; rfl, KG.out⟩
set_option maxRecDepth 100000 in
set_option maxHeartbeats 8000000 in
theorem rtextQ_two (x1 : FV) (p1 : Rat) (w : World) (h1 : AF w x1 p1) (b1 : LF x1 100) (lq : LQ p1 101) (hd : ¬ (p1.den : Int) = 1) : Calls Tryz.prog 19 #[x1.v] w fun e w' => e = .returned (.string ⟨(textQ p1).toArray⟩) ∧ Below w.heap.size w w' := by
  have KG := Lib.hid (Below.refl w.heap.size w)
  have N1 := Lib.hid h1
  have Bx1 := Lib.hid b1
  have LQp1 := Lib.hid lq
  obtain ⟨TA, hTA⟩ : ∃ t : ByteArray, t = ⟨(Lib.itoa p1.num).toArray⟩ := ⟨_, rfl⟩
  obtain ⟨TB, hTB⟩ : ∃ t : ByteArray, t = ⟨(Lib.itoa (p1.den : Int)).toArray⟩ := ⟨_, rfl⟩
  have sA : TA.size ≤ 911 := by rw [hTA, bsz]; exact Nat.le_trans (itoa_len lq.t) (by decide)
  have sB : TB.size ≤ 911 := by rw [hTB, bsz]; exact Nat.le_trans (itoa_len lq.l) (by decide)
  have HTA := Lib.hid hTA
  have HTB := Lib.hid hTB
  obtain ⟨TC, hTC⟩ : ∃ t : ByteArray, t = TA ++ ⟨#[47]⟩ := ⟨_, rfl⟩
  obtain ⟨TD, hTD⟩ : ∃ t : ByteArray, t = TC ++ TB := ⟨_, rfl⟩
  have sC : TC.size = TA.size + 1 := by rw [hTC, ByteArray.size_append]; rfl
  have eTC : TA ++ ⟨#[47]⟩ = TC := hTC.symm
  have eTD : TC ++ TB = TD := hTD.symm
  have l1 : ¬ (9223372036854775807 < TA.size + 1) := by omega
  have l2 : ¬ (9223372036854775807 < TC.size + TB.size) := by omega
  have HTD := Lib.hid (show TD = ⟨(Lib.itoa p1.num ++ 47 :: Lib.itoa (p1.den : Int)).toArray⟩ by rw [hTD, hTC, hTA, hTB]; apply ByteArray.ext; simp)
  have HD := Lib.hid hd
  clear h1 b1 lq hd hTA hTB hTC hTD sA sB sC
  go_enter Tryz.func19, Tryz.ntmps19
  go_upto_region 1 with (fail)
  obtain ⟨v2, hV⟩ : ∃ V, V = w.alloc (.cells #[.bool x1.t.s, .slice x1.t.a x1.t.n x1.t.c, .bool x1.l.s, .slice x1.l.a x1.l.n x1.l.c] 26) := ⟨_, rfl⟩
  have hbV : Below w.heap.size w v2 := by rw [hV]; exact ((Below.refl _ _).alloc (Nat.le_refl _) _)
  have BX1 := Lib.hid (show Bxs v2 (w.heap.size) 26 [.bool x1.t.s, .slice x1.t.a x1.t.n x1.t.c, .bool x1.l.s, .slice x1.l.a x1.l.n x1.l.c] by have h := Bxs.new (w) 26 [.bool x1.t.s, .slice x1.t.a x1.t.n x1.t.c, .bool x1.l.s, .slice x1.l.a x1.l.n x1.l.c]; rw [hV]; exact h)
  rw [show w.alloc (.cells #[.bool x1.t.s, .slice x1.t.a x1.t.n x1.t.c, .bool x1.l.s, .slice x1.l.a x1.l.n x1.l.c] 26) = v2 from hV.symm]
  have KG := Lib.hid (KG.out.trans (hbV.mono KG.out.size))
  clear hV hbV
  have cBX10 := BX1.out.cell (i := 0) rfl
  have cBX11 := BX1.out.cell (i := 1) rfl
  have cBX12 := BX1.out.cell (i := 2) rfl
  have cBX13 := BX1.out.cell (i := 3) rfl
  have cBX1f := BX1.out.fz
  have cBX1l := BX1.out.lt
  go_wp2_with fail
  have CT := Lib.hid (rfitQ (N1.out.below KG.out) (LF.up Bx1.out (by decide : _ ≤ 900000)))
  with_reducible refine CT.out.mono ?_
  rintro e w3 ⟨x4, rfl, hN5, hb⟩
  have N5 := Lib.hid hN5
  clear hN5
  clear CT
  clear cBX10 cBX11 cBX12 cBX13 cBX1f cBX1l
  have BX1 := Lib.hid (BX1.out.below hb BX1.out.lt)
  have KG := Lib.hid (KG.out.trans (hb.mono KG.out.size))
  clear hb
  have cBX10 := BX1.out.cell (i := 0) rfl
  have cBX11 := BX1.out.cell (i := 1) rfl
  have cBX12 := BX1.out.cell (i := 2) rfl
  have cBX13 := BX1.out.cell (i := 3) rfl
  have cBX1f := BX1.out.fz
  have cBX1l := BX1.out.lt
  go_upto_region 2 with (fail)
  clear cBX10 cBX11 cBX12 cBX13 cBX1f cBX1l
  obtain ⟨v6, hV⟩ : ∃ V, V = (((w3.setCell ⟨w.heap.size, 0, none⟩ (.bool x4.t.s)).setCell ⟨w.heap.size, 1, none⟩ (.slice x4.t.a x4.t.n x4.t.c)).setCell ⟨w.heap.size, 2, none⟩ (.bool x4.l.s)).setCell ⟨w.heap.size, 3, none⟩ (.slice x4.l.a x4.l.n x4.l.c) := ⟨_, rfl⟩
  have hB := Lib.hid (show Bxs v6 (w.heap.size) 26 [.bool x4.t.s, .slice x4.t.a x4.t.n x4.t.c, .bool x4.l.s, .slice x4.l.a x4.l.n x4.l.c] by rw [hV]; exact ((((BX1.out.put 0 _).put 1 _).put 2 _).put 3 _))
  have N5 := Lib.hid (show KF v6 x4 p1 by rw [hV]; exact ((((N5.out.setBxs BX1.out rfl 0 _).setBxs (BX1.out.put 0 _) rfl 1 _).setBxs ((BX1.out.put 0 _).put 1 _) rfl 2 _).setBxs (((BX1.out.put 0 _).put 1 _).put 2 _) rfl 3 _))
  have KG := Lib.hid (show Below w.heap.size w v6 by rw [hV]; exact ((((KG.out.setCell (Nat.le_refl _) _).setCell (Nat.le_refl _) _).setCell (Nat.le_refl _) _).setCell (Nat.le_refl _) _))
  rw [show (((w3.setCell ⟨w.heap.size, 0, none⟩ (.bool x4.t.s)).setCell ⟨w.heap.size, 1, none⟩ (.slice x4.t.a x4.t.n x4.t.c)).setCell ⟨w.heap.size, 2, none⟩ (.bool x4.l.s)).setCell ⟨w.heap.size, 3, none⟩ (.slice x4.l.a x4.l.n x4.l.c) = v6 from hV.symm]
  clear hV
  have BX1 := hB
  clear hB
  have cBX10 := BX1.out.cell (i := 0) rfl
  have cBX11 := BX1.out.cell (i := 1) rfl
  have cBX12 := BX1.out.cell (i := 2) rfl
  have cBX13 := BX1.out.cell (i := 3) rfl
  have cBX1f := BX1.out.fz
  have cBX1l := BX1.out.lt
  go_wp2_with fail
  have CT := Lib.hid (roneN (N5.out).l ((N5.out).l.len (Lib.hid LQp1.out.l).out (by decide)))
  rw [show decide ((p1.den : Int) = 1) = false from decide_eq_false HD.out] at CT
  with_reducible refine CT.out.mono ?_
  rintro e w7 ⟨rfl, hb⟩
  clear CT
  clear cBX10 cBX11 cBX12 cBX13 cBX1f cBX1l
  have N5 := Lib.hid (N5.out.below hb)
  have BX1 := Lib.hid (BX1.out.below hb BX1.out.lt)
  have KG := Lib.hid (KG.out.trans (hb.mono KG.out.size))
  clear hb
  go_upto_region 4 with (fail)
  refine Go.FreshS.wp_region_fresh 8 [] (Go.FreshS.spOf [(2, Go.FreshS.Sp.know (.string TA)), (6, Go.FreshS.Sp.know (.string TB))])
    (fun w' => Below w7.heap.size w7 w') (by kernel_rfl) (by kernel_rfl) (by kernel_rfl)
    (Go.FreshS.spOf_cons (Go.FreshS.Sp.know_keeps _ _) (Go.FreshS.spOf_cons (Go.FreshS.Sp.know_keeps _ _) (Go.FreshS.spOf_nil))) (fun _ _ h hb => h.trans (hb.mono h.size)) ((Below.refl _ _).drew) ?_
  simp only [List.append_eq, List.cons_append, List.nil_append, List.take_succ_cons, List.take_zero, List.drop_succ_cons, List.drop_zero]
  refine Go.FreshS.wpF_reads rfl rfl rfl ?_ (fun w' hw' => ?_) ?_
  rotate_left
  · have hb' := hw'.world
    skip
    clear hw'
    go_simp
    try rfl
  conv => arg 10; simp only [Act.put, List.setIfInBounds_toArray, List.set_cons_succ, List.set_cons_zero]
  refine Go.FreshS.wpF_reads rfl rfl rfl ?_ (fun w' hw' => ?_) ?_
  rotate_left
  · have hb' := hw'.world
    have hs0 := (BX1.out.below hb' BX1.out.lt).cell (i := 0) rfl
    have hs1 := (BX1.out.below hb' BX1.out.lt).cell (i := 1) rfl
    have hs2 := (BX1.out.below hb' BX1.out.lt).cell (i := 2) rfl
    have hs3 := (BX1.out.below hb' BX1.out.lt).cell (i := 3) rfl
    have hsf := (BX1.out.below hb' BX1.out.lt).fz
    have hsl := (BX1.out.below hb' BX1.out.lt).lt
    clear hw'
    go_simp
    try rfl
  conv => arg 10; simp only [Act.put, List.setIfInBounds_toArray, List.set_cons_succ, List.set_cons_zero]
  refine Go.FreshS.wpF_spec rfl rfl rfl (fun w' hw' => ?_) ?_
  · have hb' := hw'.world
    refine Go.FreshS.gives_of (Go.FreshS.PK (.string TA)) ?_ (fun _ _ h => h.post)
    go_simp
    have CT := rtextN ((N5.out.below hb')).t.any (((N5.out.below hb')).t.len (Lib.hid LQp1.out.t).out (by decide))
    rw [show (⟨(Lib.itoa p1.num).toArray⟩ : ByteArray) = TA from HTA.out.symm] at CT
    refine CT.mono ?_
    rintro e w'' ⟨rfl, hb⟩
    exact ⟨_, rfl, rfl, hb⟩
  rintro _ rfl
  conv => arg 10; simp only [Act.put, List.setIfInBounds_toArray, List.set_cons_succ, List.set_cons_zero]
  refine Go.FreshS.wpF_reads rfl rfl rfl ?_ (fun w' hw' => ?_) ?_
  rotate_left
  · have hb' := hw'.world
    skip
    clear hw'
    go_simp
    try rfl
  conv => arg 10; simp only [Act.put, List.setIfInBounds_toArray, List.set_cons_succ, List.set_cons_zero]
  refine Go.FreshS.wpF_reads rfl rfl rfl ?_ (fun w' hw' => ?_) ?_
  rotate_left
  · have hb' := hw'.world
    skip
    clear hw'
    go_simp
    try rfl
  conv => arg 10; simp only [Act.put, List.setIfInBounds_toArray, List.set_cons_succ, List.set_cons_zero]
  refine Go.FreshS.wpF_reads rfl rfl rfl ?_ (fun w' hw' => ?_) ?_
  rotate_left
  · have hb' := hw'.world
    have hs0 := (BX1.out.below hb' BX1.out.lt).cell (i := 0) rfl
    have hs1 := (BX1.out.below hb' BX1.out.lt).cell (i := 1) rfl
    have hs2 := (BX1.out.below hb' BX1.out.lt).cell (i := 2) rfl
    have hs3 := (BX1.out.below hb' BX1.out.lt).cell (i := 3) rfl
    have hsf := (BX1.out.below hb' BX1.out.lt).fz
    have hsl := (BX1.out.below hb' BX1.out.lt).lt
    clear hw'
    go_simp
    try rfl
  conv => arg 10; simp only [Act.put, List.setIfInBounds_toArray, List.set_cons_succ, List.set_cons_zero]
  refine Go.FreshS.wpF_spec rfl rfl rfl (fun w' hw' => ?_) ?_
  · have hb' := hw'.world
    refine Go.FreshS.gives_of (Go.FreshS.PK (.string TB)) ?_ (fun _ _ h => h.post)
    go_simp
    have CT := rtextN ((N5.out.below hb')).l.any (((N5.out.below hb')).l.len (Lib.hid LQp1.out.l).out (by decide))
    rw [show (⟨(Lib.itoa (p1.den : Int)).toArray⟩ : ByteArray) = TB from HTB.out.symm] at CT
    refine CT.mono ?_
    rintro e w'' ⟨rfl, hb⟩
    exact ⟨_, rfl, rfl, hb⟩
  rintro _ rfl
  conv => arg 10; simp only [Act.put, List.setIfInBounds_toArray, List.set_cons_succ, List.set_cons_zero]
  refine Go.FreshS.wpF_reads rfl rfl rfl ?_ (fun w' hw' => ?_) ?_
  rotate_left
  · have hb' := hw'.world
    skip
    clear hw'
    go_simp
    try rfl
  conv => arg 10; simp only [Act.put, List.setIfInBounds_toArray, List.set_cons_succ, List.set_cons_zero]
  refine Go.FreshS.wpF_nil (fun w8 hb hF => ?_)
  clear hF
  clear N5
  clear BX1
  have KG := Lib.hid (KG.out.trans (hb.mono KG.out.size))
  clear hb
  go_wp2_with fail
  go_ret
  exact ⟨by unfold textQ; rw [if_neg HD.out, ← HTD.out]; rfl, KG.out⟩
theorem rtextQ (x1 : FV) (p1 : Rat) (w : World) (h1 : AF w x1 p1) (b1 : LF x1 100) (lq : LQ p1 101) : Calls Tryz.prog 19 #[x1.v] w fun e w' => e = .returned (.string ⟨(textQ p1).toArray⟩) ∧ Below w.heap.size w w' := by
  by_cases h : (p1.den : Int) = 1
  · exact rtextQ_one x1 p1 w h1 b1 lq h
  · exact rtextQ_two x1 p1 w h1 b1 lq h
theorem rparse_k (w : World) {l : List UInt8} {z c : Int} (hs : l.length ≤ 9223372036854775806) (hz : numT l = z) (hc : codeT l = c) : Calls Tryz.prog 43 #[.string ⟨l.toArray⟩] w (RNE w z c) := by
  have h := rparseL l w hs
  rw [hz, hc] at h
  exact h
set_option maxRecDepth 100000 in
set_option maxHeartbeats 8000000 in
theorem rwholeQ (x1 : FV) (p1 : Rat) (w : World) (h1 : AF w x1 p1) (b1 : LF x1 100) (lq : LQ p1 101) : Calls Tryz.prog 17 #[x1.v] w fun e w' => e = .returned (.bool (decide ((p1.den : Int) = 1))) ∧ Below w.heap.size w w' := by
  have KG := Lib.hid (Below.refl w.heap.size w)
  have N1 := Lib.hid h1
  have Bx1 := Lib.hid b1
  have LQp1 := Lib.hid lq
  clear h1 b1 lq
  obtain ⟨vd, hvd⟩ : ∃ v, v = decide ((p1.den : Int) = 1) := ⟨_, rfl⟩
  have Hvd := Lib.hid hvd
  clear hvd
  go_enter Tryz.func17, Tryz.ntmps17
  go_upto_region 1 with (fail)
  obtain ⟨v2, hV⟩ : ∃ V, V = w.alloc (.cells #[.bool x1.t.s, .slice x1.t.a x1.t.n x1.t.c, .bool x1.l.s, .slice x1.l.a x1.l.n x1.l.c] 26) := ⟨_, rfl⟩
  have hbV : Below w.heap.size w v2 := by rw [hV]; exact ((Below.refl _ _).alloc (Nat.le_refl _) _)
  have BX1 := Lib.hid (show Bxs v2 (w.heap.size) 26 [.bool x1.t.s, .slice x1.t.a x1.t.n x1.t.c, .bool x1.l.s, .slice x1.l.a x1.l.n x1.l.c] by have h := Bxs.new (w) 26 [.bool x1.t.s, .slice x1.t.a x1.t.n x1.t.c, .bool x1.l.s, .slice x1.l.a x1.l.n x1.l.c]; rw [hV]; exact h)
  rw [show w.alloc (.cells #[.bool x1.t.s, .slice x1.t.a x1.t.n x1.t.c, .bool x1.l.s, .slice x1.l.a x1.l.n x1.l.c] 26) = v2 from hV.symm]
  have KG := Lib.hid (KG.out.trans (hbV.mono KG.out.size))
  clear hV hbV
  have cBX10 := BX1.out.cell (i := 0) rfl
  have cBX11 := BX1.out.cell (i := 1) rfl
  have cBX12 := BX1.out.cell (i := 2) rfl
  have cBX13 := BX1.out.cell (i := 3) rfl
  have cBX1f := BX1.out.fz
  have cBX1l := BX1.out.lt
  go_wp2_with fail
  have CT := Lib.hid (rfitQ (N1.out.below KG.out) (LF.up Bx1.out (by decide : _ ≤ 900000)))
  with_reducible refine CT.out.mono ?_
  rintro e w3 ⟨x4, rfl, hN5, hb⟩
  have N5 := Lib.hid hN5
  clear hN5
  clear CT
  clear cBX10 cBX11 cBX12 cBX13 cBX1f cBX1l
  clear BX1
  have KG := Lib.hid (KG.out.trans (hb.mono KG.out.size))
  clear hb
  have hf1 := field_frac1 x4 w3
  go_wp2_with fail
  have CT := Lib.hid (roneN (N5.out).l ((N5.out).l.len (Lib.hid LQp1.out.l).out (by decide)))
  rw [show decide ((p1.den : Int) = 1) = vd from Hvd.out.symm] at CT
  with_reducible refine CT.out.mono ?_
  rintro e w6 ⟨rfl, hb⟩
  clear CT
  clear N5
  have KG := Lib.hid (KG.out.trans (hb.mono KG.out.size))
  clear hb
  go_wp2_with fail
  go_ret
  exact ⟨by rw [← Hvd.out]; rfl, KG.out⟩
end Go.Proofs.YtklidpbdgliemaaGreatDoor.Limb
