/-
  limbs.Parse at any text.
  The walks of fracs.Text and Whole, and of the helpers of the laws of fractions.
  fracs.Parse at any text.
  Texts of numbers, plain: a number's text is read as it, what is read is the number's text.
  Texts of fractions, plain: a fraction's text is read as it; what is read is read again from its text.
  fracs.Parse at any text: what is read, or why not.
-/
import Derived.Test.YtklidpbdgliemaaGreatDoorQoI
import Derived.Lib.IndexMore
set_option linter.unusedSimpArgs false
set_option linter.unusedVariables false
namespace Go.Proofs.YtklidpbdgliemaaGreatDoor.Limb
open Go.RowKit Go.Sort
theorem codeT_cases (l : List UInt8) : codeT l = 0 ∨ (codeT l = 3 ∧ numT l = 0) ∨ (codeT l = 4 ∧ numT l = 0) := by
  by_cases h : formT l
  · by_cases h2 : 200 < (bodyT l).length
    · right; left
      unfold codeT numT
      rw [if_pos h, if_pos h2, if_neg (fun h3 => by have := h3.2; omega)]
      exact ⟨rfl, rfl⟩
    · left
      unfold codeT
      rw [if_pos h, if_neg h2]
  · right; right
    unfold codeT numT
    rw [if_neg h, if_neg (fun h2 => h h2.1)]
    exact ⟨rfl, rfl⟩
end Go.Proofs.YtklidpbdgliemaaGreatDoor.Limb
namespace Go.Proofs.YtklidpbdgliemaaGreatDoor.Limb
open Go.RowKit Go.Sort
open Classical in
theorem qgreat1 {M b : Nat} {x1 : FV} {w : World} (h : Bxs w b 26 [.bool x1.t.s, .slice x1.t.a x1.t.n x1.t.c, .bool x1.l.s, .slice x1.l.a x1.l.n x1.l.c]) :
    Calls Tryz.prog 10 #[.int .i64 M, .slice (some ⟨b, 0, none⟩) 1 1] w fun e w' => e = .returned (.bool (decide ((M < x1.t.n ∨ M < x1.l.n)))) ∧ Below w.heap.size w w' := by
  have g := great2_any M b 1 1 (fun i => x1.t.a) (fun i => x1.l.a) (fun i => x1.t.n) (fun i => x1.t.c) (fun i => x1.l.n) (fun i => x1.l.c) w (fun i hi => by
    match i, hi with
    | 0, _ => exact h.cell (i := 1) rfl) (fun i hi => by
    match i, hi with
    | 0, _ => exact h.cell (i := 3) rfl) (by omega)
  rw [decide_eq_decide.2 (show (∃ i, i < 1 ∧ (M < (fun i => x1.t.n) i ∨ M < (fun i => x1.l.n) i)) ↔ ((M < x1.t.n ∨ M < x1.l.n)) from ⟨fun ⟨i, hi, h⟩ => by
    match i, hi with
    | 0, _ => exact h, fun h => ⟨0, by omega, h⟩⟩)] at g
  exact g.mono fun e w' ⟨h1, h2⟩ => ⟨h1, by rw [h2]; exact Below.refl _ _⟩
end Go.Proofs.YtklidpbdgliemaaGreatDoor.Limb
namespace Go.Proofs.YtklidpbdgliemaaGreatDoor.Limb
open Go.RowKit Go.Sort
set_option maxRecDepth 100000 in
set_option maxHeartbeats 8000000 in
theorem qparse_y_a4 {s : ByteArray} {a b : List UInt8} {z1 z2 : Int} (w : World) (hs : s.size ≤ 9223372036854775807) (hcut : Lib.cut s.data.toList [47] = (a, b, true)) (hsz : a.length ≤ 9223372036854775807) (hsb : b.length ≤ 9223372036854775807) (ha : codeT a = 4) (hza : numT a = z1) (hb2 : codeT b = 0) (hzb : numT b = z2) : Calls Tryz.prog 12 #[.string s] w (RFX w 4) := by
  have KG := Lib.hid (Below.refl w.heap.size w)
  have HC := Lib.hid hcut
  have HSA : (ByteArray.mk a.toArray).size ≤ 9223372036854775807 := by show a.toArray.size ≤ _; rw [List.size_toArray]; exact hsz
  have HSB : (ByteArray.mk b.toArray).size ≤ 9223372036854775807 := by show b.toArray.size ≤ _; rw [List.size_toArray]; exact hsb
  have HA := Lib.hid ha
  have HZA := Lib.hid hza
  have LZz1 := Lib.hid (show lenB z1.natAbs ≤ 23 from by rw [← hza]; exact numT_len a)
  have HB2 := Lib.hid hb2
  have HZB := Lib.hid hzb
  have LZz2 := Lib.hid (show lenB z2.natAbs ≤ 23 from by rw [← hzb]; exact numT_len b)
  clear hcut hsz hsb ha hza hb2 hzb
  go_enter Tryz.func12, Tryz.ntmps12
  go_upto_region 1 with (fail)
  obtain ⟨v2, hV⟩ : ∃ V, V = w.alloc (.cells #[.bool false, .slice none 0 0, .bool false, .slice none 0 0] 26) := ⟨_, rfl⟩
  have hbV : Below w.heap.size w v2 := by rw [hV]; exact ((Below.refl _ _).alloc (Nat.le_refl _) _)
  have BX1 := Lib.hid (show Bxs v2 (w.heap.size) 26 [.bool false, .slice none 0 0, .bool false, .slice none 0 0] by have h := Bxs.new (w) 26 [.bool false, .slice none 0 0, .bool false, .slice none 0 0]; rw [hV]; exact h)
  rw [show w.alloc (.cells #[.bool false, .slice none 0 0, .bool false, .slice none 0 0] 26) = v2 from hV.symm]
  have KG := Lib.hid (KG.out.trans (hbV.mono KG.out.size))
  clear hV hbV
  go_wp2_with fail
  have CT := Lib.hid (cut_k v2 hs HC.out)
  with_reducible refine CT.out.mono ?_
  rintro e w3 ⟨rfl, hb⟩
  clear CT
  have BX1 := Lib.hid (BX1.out.below hb BX1.out.lt)
  have KG := Lib.hid (KG.out.trans (hb.mono KG.out.size))
  clear hb
  go_wp2_with fail
  have CT := Lib.hid (parse_k w3 HSA HZA.out HA.out)
  with_reducible refine CT.out.mono ?_
  rintro e w4 ⟨x5, rfl, hN6, hb⟩
  have N6 := Lib.hid hN6
  clear hN6
  clear CT
  have BX1 := Lib.hid (BX1.out.below hb BX1.out.lt)
  have KG := Lib.hid (KG.out.trans (hb.mono KG.out.size))
  clear hb
  clear N6
  go_upto_region 5 with (fail)
  obtain ⟨v8, hV⟩ : ∃ V, V = w4.alloc (.cells #[.bool x5.s, .slice x5.a x5.n x5.c] 24) := ⟨_, rfl⟩
  have hbV : Below w4.heap.size w4 v8 := by rw [hV]; exact ((Below.refl _ _).alloc (Nat.le_refl _) _)
  have BX7 := Lib.hid (show Bxs v8 (w4.heap.size) 24 [.bool x5.s, .slice x5.a x5.n x5.c] by have h := Bxs.new (w4) 24 [.bool x5.s, .slice x5.a x5.n x5.c]; rw [hV]; exact h)
  rw [show w4.alloc (.cells #[.bool x5.s, .slice x5.a x5.n x5.c] 24) = v8 from hV.symm]
  have BX1 := Lib.hid (BX1.out.below hbV BX1.out.lt)
  have KG := Lib.hid (KG.out.trans (hbV.mono KG.out.size))
  clear hV hbV
  clear BX7
  go_wp2_with fail
  have CT := Lib.hid (parse_k v8 HSB HZB.out HB2.out)
  with_reducible refine CT.out.mono ?_
  rintro e w9 ⟨x10, rfl, hN11, hb⟩
  have N11 := Lib.hid hN11
  clear hN11
  clear CT
  have BX1 := Lib.hid (BX1.out.below hb BX1.out.lt)
  have KG := Lib.hid (KG.out.trans (hb.mono KG.out.size))
  clear hb
  clear N11
  go_upto_region 6 with (fail)
  obtain ⟨v13, hV⟩ : ∃ V, V = w9.alloc (.cells #[.bool x10.s, .slice x10.a x10.n x10.c] 24) := ⟨_, rfl⟩
  have hbV : Below w9.heap.size w9 v13 := by rw [hV]; exact ((Below.refl _ _).alloc (Nat.le_refl _) _)
  have BX12 := Lib.hid (show Bxs v13 (w9.heap.size) 24 [.bool x10.s, .slice x10.a x10.n x10.c] by have h := Bxs.new (w9) 24 [.bool x10.s, .slice x10.a x10.n x10.c]; rw [hV]; exact h)
  rw [show w9.alloc (.cells #[.bool x10.s, .slice x10.a x10.n x10.c] 24) = v13 from hV.symm]
  have BX1 := Lib.hid (BX1.out.below hbV BX1.out.lt)
  have KG := Lib.hid (KG.out.trans (hbV.mono KG.out.size))
  clear hV hbV
  clear BX12
  have cBX10 := BX1.out.cell (i := 0) rfl
  have cBX11 := BX1.out.cell (i := 1) rfl
  have cBX12 := BX1.out.cell (i := 2) rfl
  have cBX13 := BX1.out.cell (i := 3) rfl
  have cBX1f := BX1.out.fz
  have cBX1l := BX1.out.lt
  go_wp2_with fail
  refine bodyPost_ret (results_ct rfl _ _ _ _ _ _ _ rfl ((((BX1.out.put 0 _).put 1 _).put 2 _).put 3 _) Tryz.underlying26 rfl (by kernel_rfl)) rfl ⟨rfl, (((KG.out.setCell (Nat.le_refl _) _).setCell (Nat.le_refl _) _).setCell (Nat.le_refl _) _).setCell (Nat.le_refl _) _⟩
set_option maxRecDepth 100000 in
set_option maxHeartbeats 8000000 in
theorem qparse_y_b4 {s : ByteArray} {a b : List UInt8} {z1 z2 : Int} (w : World) (hs : s.size ≤ 9223372036854775807) (hcut : Lib.cut s.data.toList [47] = (a, b, true)) (hsz : a.length ≤ 9223372036854775807) (hsb : b.length ≤ 9223372036854775807) (ha : codeT a = 0) (hza : numT a = z1) (hb2 : codeT b = 4) (hzb : numT b = z2) : Calls Tryz.prog 12 #[.string s] w (RFX w 4) := by
  have KG := Lib.hid (Below.refl w.heap.size w)
  have HC := Lib.hid hcut
  have HSA : (ByteArray.mk a.toArray).size ≤ 9223372036854775807 := by show a.toArray.size ≤ _; rw [List.size_toArray]; exact hsz
  have HSB : (ByteArray.mk b.toArray).size ≤ 9223372036854775807 := by show b.toArray.size ≤ _; rw [List.size_toArray]; exact hsb
  have HA := Lib.hid ha
  have HZA := Lib.hid hza
  have LZz1 := Lib.hid (show lenB z1.natAbs ≤ 23 from by rw [← hza]; exact numT_len a)
  have HB2 := Lib.hid hb2
  have HZB := Lib.hid hzb
  have LZz2 := Lib.hid (show lenB z2.natAbs ≤ 23 from by rw [← hzb]; exact numT_len b)
  clear hcut hsz hsb ha hza hb2 hzb
  go_enter Tryz.func12, Tryz.ntmps12
  go_upto_region 1 with (fail)
  obtain ⟨v2, hV⟩ : ∃ V, V = w.alloc (.cells #[.bool false, .slice none 0 0, .bool false, .slice none 0 0] 26) := ⟨_, rfl⟩
  have hbV : Below w.heap.size w v2 := by rw [hV]; exact ((Below.refl _ _).alloc (Nat.le_refl _) _)
  have BX1 := Lib.hid (show Bxs v2 (w.heap.size) 26 [.bool false, .slice none 0 0, .bool false, .slice none 0 0] by have h := Bxs.new (w) 26 [.bool false, .slice none 0 0, .bool false, .slice none 0 0]; rw [hV]; exact h)
  rw [show w.alloc (.cells #[.bool false, .slice none 0 0, .bool false, .slice none 0 0] 26) = v2 from hV.symm]
  have KG := Lib.hid (KG.out.trans (hbV.mono KG.out.size))
  clear hV hbV
  go_wp2_with fail
  have CT := Lib.hid (cut_k v2 hs HC.out)
  with_reducible refine CT.out.mono ?_
  rintro e w3 ⟨rfl, hb⟩
  clear CT
  have BX1 := Lib.hid (BX1.out.below hb BX1.out.lt)
  have KG := Lib.hid (KG.out.trans (hb.mono KG.out.size))
  clear hb
  go_wp2_with fail
  have CT := Lib.hid (parse_k w3 HSA HZA.out HA.out)
  with_reducible refine CT.out.mono ?_
  rintro e w4 ⟨x5, rfl, hN6, hb⟩
  have N6 := Lib.hid hN6
  clear hN6
  clear CT
  have BX1 := Lib.hid (BX1.out.below hb BX1.out.lt)
  have KG := Lib.hid (KG.out.trans (hb.mono KG.out.size))
  clear hb
  clear N6
  go_upto_region 5 with (fail)
  obtain ⟨v8, hV⟩ : ∃ V, V = w4.alloc (.cells #[.bool x5.s, .slice x5.a x5.n x5.c] 24) := ⟨_, rfl⟩
  have hbV : Below w4.heap.size w4 v8 := by rw [hV]; exact ((Below.refl _ _).alloc (Nat.le_refl _) _)
  have BX7 := Lib.hid (show Bxs v8 (w4.heap.size) 24 [.bool x5.s, .slice x5.a x5.n x5.c] by have h := Bxs.new (w4) 24 [.bool x5.s, .slice x5.a x5.n x5.c]; rw [hV]; exact h)
  rw [show w4.alloc (.cells #[.bool x5.s, .slice x5.a x5.n x5.c] 24) = v8 from hV.symm]
  have BX1 := Lib.hid (BX1.out.below hbV BX1.out.lt)
  have KG := Lib.hid (KG.out.trans (hbV.mono KG.out.size))
  clear hV hbV
  clear BX7
  go_wp2_with fail
  have CT := Lib.hid (parse_k v8 HSB HZB.out HB2.out)
  with_reducible refine CT.out.mono ?_
  rintro e w9 ⟨x10, rfl, hN11, hb⟩
  have N11 := Lib.hid hN11
  clear hN11
  clear CT
  have BX1 := Lib.hid (BX1.out.below hb BX1.out.lt)
  have KG := Lib.hid (KG.out.trans (hb.mono KG.out.size))
  clear hb
  clear N11
  go_upto_region 6 with (fail)
  obtain ⟨v13, hV⟩ : ∃ V, V = w9.alloc (.cells #[.bool x10.s, .slice x10.a x10.n x10.c] 24) := ⟨_, rfl⟩
  have hbV : Below w9.heap.size w9 v13 := by rw [hV]; exact ((Below.refl _ _).alloc (Nat.le_refl _) _)
  have BX12 := Lib.hid (show Bxs v13 (w9.heap.size) 24 [.bool x10.s, .slice x10.a x10.n x10.c] by have h := Bxs.new (w9) 24 [.bool x10.s, .slice x10.a x10.n x10.c]; rw [hV]; exact h)
  rw [show w9.alloc (.cells #[.bool x10.s, .slice x10.a x10.n x10.c] 24) = v13 from hV.symm]
  have BX1 := Lib.hid (BX1.out.below hbV BX1.out.lt)
  have KG := Lib.hid (KG.out.trans (hbV.mono KG.out.size))
  clear hV hbV
  clear BX12
  have cBX10 := BX1.out.cell (i := 0) rfl
  have cBX11 := BX1.out.cell (i := 1) rfl
  have cBX12 := BX1.out.cell (i := 2) rfl
  have cBX13 := BX1.out.cell (i := 3) rfl
  have cBX1f := BX1.out.fz
  have cBX1l := BX1.out.lt
  go_wp2_with fail
  refine bodyPost_ret (results_ct rfl _ _ _ _ _ _ _ rfl ((((BX1.out.put 0 _).put 1 _).put 2 _).put 3 _) Tryz.underlying26 rfl (by kernel_rfl)) rfl ⟨rfl, (((KG.out.setCell (Nat.le_refl _) _).setCell (Nat.le_refl _) _).setCell (Nat.le_refl _) _).setCell (Nat.le_refl _) _⟩
set_option maxRecDepth 100000 in
set_option maxHeartbeats 8000000 in
theorem qparse_y_b3 {s : ByteArray} {a b : List UInt8} {z1 z2 : Int} (w : World) (hs : s.size ≤ 9223372036854775807) (hcut : Lib.cut s.data.toList [47] = (a, b, true)) (hsz : a.length ≤ 9223372036854775807) (hsb : b.length ≤ 9223372036854775807) (ha : codeT a = 0) (hza : numT a = z1) (hb2 : codeT b = 3) (hzb : numT b = z2) (hpos : ∃ x r, b = x :: r ∧ x ≠ 45) (hone : b ≠ [48]) : Calls Tryz.prog 12 #[.string s] w (RFX w 3) := by
  have KG := Lib.hid (Below.refl w.heap.size w)
  have HC := Lib.hid hcut
  have HSA : (ByteArray.mk a.toArray).size ≤ 9223372036854775807 := by show a.toArray.size ≤ _; rw [List.size_toArray]; exact hsz
  have HSB : (ByteArray.mk b.toArray).size ≤ 9223372036854775807 := by show b.toArray.size ≤ _; rw [List.size_toArray]; exact hsb
  have HA := Lib.hid ha
  have HZA := Lib.hid hza
  have LZz1 := Lib.hid (show lenB z1.natAbs ≤ 23 from by rw [← hza]; exact numT_len a)
  have HB2 := Lib.hid hb2
  have HZB := Lib.hid hzb
  have LZz2 := Lib.hid (show lenB z2.natAbs ≤ 23 from by rw [← hzb]; exact numT_len b)
  have hp0 : 0 < (ByteArray.mk b.toArray).size := by obtain ⟨x, r, rfl, h⟩ := hpos; exact Nat.succ_pos _
  have hp1 : ¬ (((ByteArray.mk b.toArray)[0]'hp0).toNat : Int) = 45 := by obtain ⟨x, r, rfl, h⟩ := hpos; exact fun h2 => h (UInt8.toNat_inj.1 (Int.ofNat_inj.1 h2))
  have hp2 : (b == [48]) = false := beq_eq_false_iff_ne.2 hone
  clear hcut hsz hsb ha hza hb2 hzb hpos hone
  go_enter Tryz.func12, Tryz.ntmps12
  go_upto_region 1 with (fail)
  obtain ⟨v2, hV⟩ : ∃ V, V = w.alloc (.cells #[.bool false, .slice none 0 0, .bool false, .slice none 0 0] 26) := ⟨_, rfl⟩
  have hbV : Below w.heap.size w v2 := by rw [hV]; exact ((Below.refl _ _).alloc (Nat.le_refl _) _)
  have BX1 := Lib.hid (show Bxs v2 (w.heap.size) 26 [.bool false, .slice none 0 0, .bool false, .slice none 0 0] by have h := Bxs.new (w) 26 [.bool false, .slice none 0 0, .bool false, .slice none 0 0]; rw [hV]; exact h)
  rw [show w.alloc (.cells #[.bool false, .slice none 0 0, .bool false, .slice none 0 0] 26) = v2 from hV.symm]
  have KG := Lib.hid (KG.out.trans (hbV.mono KG.out.size))
  clear hV hbV
  go_wp2_with fail
  have CT := Lib.hid (cut_k v2 hs HC.out)
  with_reducible refine CT.out.mono ?_
  rintro e w3 ⟨rfl, hb⟩
  clear CT
  have BX1 := Lib.hid (BX1.out.below hb BX1.out.lt)
  have KG := Lib.hid (KG.out.trans (hb.mono KG.out.size))
  clear hb
  go_wp2_with fail
  have CT := Lib.hid (parse_k w3 HSA HZA.out HA.out)
  with_reducible refine CT.out.mono ?_
  rintro e w4 ⟨x5, rfl, hN6, hb⟩
  have N6 := Lib.hid hN6
  clear hN6
  clear CT
  have BX1 := Lib.hid (BX1.out.below hb BX1.out.lt)
  have KG := Lib.hid (KG.out.trans (hb.mono KG.out.size))
  clear hb
  clear N6
  go_upto_region 5 with (fail)
  obtain ⟨v8, hV⟩ : ∃ V, V = w4.alloc (.cells #[.bool x5.s, .slice x5.a x5.n x5.c] 24) := ⟨_, rfl⟩
  have hbV : Below w4.heap.size w4 v8 := by rw [hV]; exact ((Below.refl _ _).alloc (Nat.le_refl _) _)
  have BX7 := Lib.hid (show Bxs v8 (w4.heap.size) 24 [.bool x5.s, .slice x5.a x5.n x5.c] by have h := Bxs.new (w4) 24 [.bool x5.s, .slice x5.a x5.n x5.c]; rw [hV]; exact h)
  rw [show w4.alloc (.cells #[.bool x5.s, .slice x5.a x5.n x5.c] 24) = v8 from hV.symm]
  have BX1 := Lib.hid (BX1.out.below hbV BX1.out.lt)
  have KG := Lib.hid (KG.out.trans (hbV.mono KG.out.size))
  clear hV hbV
  clear BX7
  go_wp2_with fail
  have CT := Lib.hid (parse_k v8 HSB HZB.out HB2.out)
  with_reducible refine CT.out.mono ?_
  rintro e w9 ⟨x10, rfl, hN11, hb⟩
  have N11 := Lib.hid hN11
  clear hN11
  clear CT
  have BX1 := Lib.hid (BX1.out.below hb BX1.out.lt)
  have KG := Lib.hid (KG.out.trans (hb.mono KG.out.size))
  clear hb
  clear N11
  go_upto_region 6 with (fail)
  obtain ⟨v13, hV⟩ : ∃ V, V = w9.alloc (.cells #[.bool x10.s, .slice x10.a x10.n x10.c] 24) := ⟨_, rfl⟩
  have hbV : Below w9.heap.size w9 v13 := by rw [hV]; exact ((Below.refl _ _).alloc (Nat.le_refl _) _)
  have BX12 := Lib.hid (show Bxs v13 (w9.heap.size) 24 [.bool x10.s, .slice x10.a x10.n x10.c] by have h := Bxs.new (w9) 24 [.bool x10.s, .slice x10.a x10.n x10.c]; rw [hV]; exact h)
  rw [show w9.alloc (.cells #[.bool x10.s, .slice x10.a x10.n x10.c] 24) = v13 from hV.symm]
  have BX1 := Lib.hid (BX1.out.below hbV BX1.out.lt)
  have KG := Lib.hid (KG.out.trans (hbV.mono KG.out.size))
  clear hV hbV
  clear BX12
  have cBX10 := BX1.out.cell (i := 0) rfl
  have cBX11 := BX1.out.cell (i := 1) rfl
  have cBX12 := BX1.out.cell (i := 2) rfl
  have cBX13 := BX1.out.cell (i := 3) rfl
  have cBX1f := BX1.out.fz
  have cBX1l := BX1.out.lt
  go_wp2_with fail
  refine bodyPost_ret (results_ct rfl _ _ _ _ _ _ _ rfl ((((BX1.out.put 0 _).put 1 _).put 2 _).put 3 _) Tryz.underlying26 rfl (by kernel_rfl)) rfl ⟨rfl, (((KG.out.setCell (Nat.le_refl _) _).setCell (Nat.le_refl _) _).setCell (Nat.le_refl _) _).setCell (Nat.le_refl _) _⟩
set_option maxRecDepth 100000 in
set_option maxHeartbeats 8000000 in
theorem qparse_y_a3 {s : ByteArray} {a b : List UInt8} {z1 z2 : Int} (w : World) (hs : s.size ≤ 9223372036854775807) (hcut : Lib.cut s.data.toList [47] = (a, b, true)) (hsz : a.length ≤ 9223372036854775807) (hsb : b.length ≤ 9223372036854775807) (ha : codeT a = 3) (hza : numT a = z1) (hb2 : codeT b = 0) (hzb : numT b = z2) (hpos : ∃ x r, b = x :: r ∧ x ≠ 45) (hone : b ≠ [48]) : Calls Tryz.prog 12 #[.string s] w (RFX w 3) := by
  have KG := Lib.hid (Below.refl w.heap.size w)
  have HC := Lib.hid hcut
  have HSA : (ByteArray.mk a.toArray).size ≤ 9223372036854775807 := by show a.toArray.size ≤ _; rw [List.size_toArray]; exact hsz
  have HSB : (ByteArray.mk b.toArray).size ≤ 9223372036854775807 := by show b.toArray.size ≤ _; rw [List.size_toArray]; exact hsb
  have HA := Lib.hid ha
  have HZA := Lib.hid hza
  have LZz1 := Lib.hid (show lenB z1.natAbs ≤ 23 from by rw [← hza]; exact numT_len a)
  have HB2 := Lib.hid hb2
  have HZB := Lib.hid hzb
  have LZz2 := Lib.hid (show lenB z2.natAbs ≤ 23 from by rw [← hzb]; exact numT_len b)
  have hp0 : 0 < (ByteArray.mk b.toArray).size := by obtain ⟨x, r, rfl, h⟩ := hpos; exact Nat.succ_pos _
  have hp1 : ¬ (((ByteArray.mk b.toArray)[0]'hp0).toNat : Int) = 45 := by obtain ⟨x, r, rfl, h⟩ := hpos; exact fun h2 => h (UInt8.toNat_inj.1 (Int.ofNat_inj.1 h2))
  have hp2 : (b == [48]) = false := beq_eq_false_iff_ne.2 hone
  clear hcut hsz hsb ha hza hb2 hzb hpos hone
  go_enter Tryz.func12, Tryz.ntmps12
  go_upto_region 1 with (fail)
  obtain ⟨v2, hV⟩ : ∃ V, V = w.alloc (.cells #[.bool false, .slice none 0 0, .bool false, .slice none 0 0] 26) := ⟨_, rfl⟩
  have hbV : Below w.heap.size w v2 := by rw [hV]; exact ((Below.refl _ _).alloc (Nat.le_refl _) _)
  have BX1 := Lib.hid (show Bxs v2 (w.heap.size) 26 [.bool false, .slice none 0 0, .bool false, .slice none 0 0] by have h := Bxs.new (w) 26 [.bool false, .slice none 0 0, .bool false, .slice none 0 0]; rw [hV]; exact h)
  rw [show w.alloc (.cells #[.bool false, .slice none 0 0, .bool false, .slice none 0 0] 26) = v2 from hV.symm]
  have KG := Lib.hid (KG.out.trans (hbV.mono KG.out.size))
  clear hV hbV
  go_wp2_with fail
  have CT := Lib.hid (cut_k v2 hs HC.out)
  with_reducible refine CT.out.mono ?_
  rintro e w3 ⟨rfl, hb⟩
  clear CT
  have BX1 := Lib.hid (BX1.out.below hb BX1.out.lt)
  have KG := Lib.hid (KG.out.trans (hb.mono KG.out.size))
  clear hb
  go_wp2_with fail
  have CT := Lib.hid (parse_k w3 HSA HZA.out HA.out)
  with_reducible refine CT.out.mono ?_
  rintro e w4 ⟨x5, rfl, hN6, hb⟩
  have N6 := Lib.hid hN6
  clear hN6
  clear CT
  have BX1 := Lib.hid (BX1.out.below hb BX1.out.lt)
  have KG := Lib.hid (KG.out.trans (hb.mono KG.out.size))
  clear hb
  clear N6
  go_upto_region 5 with (fail)
  obtain ⟨v8, hV⟩ : ∃ V, V = w4.alloc (.cells #[.bool x5.s, .slice x5.a x5.n x5.c] 24) := ⟨_, rfl⟩
  have hbV : Below w4.heap.size w4 v8 := by rw [hV]; exact ((Below.refl _ _).alloc (Nat.le_refl _) _)
  have BX7 := Lib.hid (show Bxs v8 (w4.heap.size) 24 [.bool x5.s, .slice x5.a x5.n x5.c] by have h := Bxs.new (w4) 24 [.bool x5.s, .slice x5.a x5.n x5.c]; rw [hV]; exact h)
  rw [show w4.alloc (.cells #[.bool x5.s, .slice x5.a x5.n x5.c] 24) = v8 from hV.symm]
  have BX1 := Lib.hid (BX1.out.below hbV BX1.out.lt)
  have KG := Lib.hid (KG.out.trans (hbV.mono KG.out.size))
  clear hV hbV
  clear BX7
  go_wp2_with fail
  have CT := Lib.hid (parse_k v8 HSB HZB.out HB2.out)
  with_reducible refine CT.out.mono ?_
  rintro e w9 ⟨x10, rfl, hN11, hb⟩
  have N11 := Lib.hid hN11
  clear hN11
  clear CT
  have BX1 := Lib.hid (BX1.out.below hb BX1.out.lt)
  have KG := Lib.hid (KG.out.trans (hb.mono KG.out.size))
  clear hb
  clear N11
  go_upto_region 6 with (fail)
  obtain ⟨v13, hV⟩ : ∃ V, V = w9.alloc (.cells #[.bool x10.s, .slice x10.a x10.n x10.c] 24) := ⟨_, rfl⟩
  have hbV : Below w9.heap.size w9 v13 := by rw [hV]; exact ((Below.refl _ _).alloc (Nat.le_refl _) _)
  have BX12 := Lib.hid (show Bxs v13 (w9.heap.size) 24 [.bool x10.s, .slice x10.a x10.n x10.c] by have h := Bxs.new (w9) 24 [.bool x10.s, .slice x10.a x10.n x10.c]; rw [hV]; exact h)
  rw [show w9.alloc (.cells #[.bool x10.s, .slice x10.a x10.n x10.c] 24) = v13 from hV.symm]
  have BX1 := Lib.hid (BX1.out.below hbV BX1.out.lt)
  have KG := Lib.hid (KG.out.trans (hbV.mono KG.out.size))
  clear hV hbV
  clear BX12
  have cBX10 := BX1.out.cell (i := 0) rfl
  have cBX11 := BX1.out.cell (i := 1) rfl
  have cBX12 := BX1.out.cell (i := 2) rfl
  have cBX13 := BX1.out.cell (i := 3) rfl
  have cBX1f := BX1.out.fz
  have cBX1l := BX1.out.lt
  go_wp2_with fail
  refine bodyPost_ret (results_ct rfl _ _ _ _ _ _ _ rfl ((((BX1.out.put 0 _).put 1 _).put 2 _).put 3 _) Tryz.underlying26 rfl (by kernel_rfl)) rfl ⟨rfl, (((KG.out.setCell (Nat.le_refl _) _).setCell (Nat.le_refl _) _).setCell (Nat.le_refl _) _).setCell (Nat.le_refl _) _⟩
set_option maxRecDepth 100000 in
set_option maxHeartbeats 8000000 in
theorem qparse_n_a4 {s : ByteArray} {a b : List UInt8} {z1 : Int} (w : World) (hs : s.size ≤ 9223372036854775807) (hcut : Lib.cut s.data.toList [47] = (a, b, false)) (hsz : a.length ≤ 9223372036854775807) (ha : codeT a = 4) (hza : numT a = z1) : Calls Tryz.prog 12 #[.string s] w (RFX w 4) := by
  have KG := Lib.hid (Below.refl w.heap.size w)
  have HC := Lib.hid hcut
  have HSA : (ByteArray.mk a.toArray).size ≤ 9223372036854775807 := by show a.toArray.size ≤ _; rw [List.size_toArray]; exact hsz
  have HA := Lib.hid ha
  have HZA := Lib.hid hza
  have LZz1 := Lib.hid (show lenB z1.natAbs ≤ 23 from by rw [← hza]; exact numT_len a)
  have LZz2 := Lib.hid (show lenB (1 : Int).natAbs ≤ 23 from Nat.le_trans (len1 (by decide) (by decide)) (by decide))
  clear hcut hsz ha hza
  go_enter Tryz.func12, Tryz.ntmps12
  go_upto_region 1 with (fail)
  obtain ⟨v2, hV⟩ : ∃ V, V = w.alloc (.cells #[.bool false, .slice none 0 0, .bool false, .slice none 0 0] 26) := ⟨_, rfl⟩
  have hbV : Below w.heap.size w v2 := by rw [hV]; exact ((Below.refl _ _).alloc (Nat.le_refl _) _)
  have BX1 := Lib.hid (show Bxs v2 (w.heap.size) 26 [.bool false, .slice none 0 0, .bool false, .slice none 0 0] by have h := Bxs.new (w) 26 [.bool false, .slice none 0 0, .bool false, .slice none 0 0]; rw [hV]; exact h)
  rw [show w.alloc (.cells #[.bool false, .slice none 0 0, .bool false, .slice none 0 0] 26) = v2 from hV.symm]
  have KG := Lib.hid (KG.out.trans (hbV.mono KG.out.size))
  clear hV hbV
  go_wp2_with fail
  have CT := Lib.hid (cut_k v2 hs HC.out)
  with_reducible refine CT.out.mono ?_
  rintro e w3 ⟨rfl, hb⟩
  clear CT
  have BX1 := Lib.hid (BX1.out.below hb BX1.out.lt)
  have KG := Lib.hid (KG.out.trans (hb.mono KG.out.size))
  clear hb
  go_wp2_with fail
  have CT := Lib.hid (parse_k w3 HSA HZA.out HA.out)
  with_reducible refine CT.out.mono ?_
  rintro e w4 ⟨x5, rfl, hN6, hb⟩
  have N6 := Lib.hid hN6
  clear hN6
  clear CT
  have BX1 := Lib.hid (BX1.out.below hb BX1.out.lt)
  have KG := Lib.hid (KG.out.trans (hb.mono KG.out.size))
  clear hb
  clear N6
  go_upto_region 5 with (fail)
  obtain ⟨v8, hV⟩ : ∃ V, V = w4.alloc (.cells #[.bool x5.s, .slice x5.a x5.n x5.c] 24) := ⟨_, rfl⟩
  have hbV : Below w4.heap.size w4 v8 := by rw [hV]; exact ((Below.refl _ _).alloc (Nat.le_refl _) _)
  have BX7 := Lib.hid (show Bxs v8 (w4.heap.size) 24 [.bool x5.s, .slice x5.a x5.n x5.c] by have h := Bxs.new (w4) 24 [.bool x5.s, .slice x5.a x5.n x5.c]; rw [hV]; exact h)
  rw [show w4.alloc (.cells #[.bool x5.s, .slice x5.a x5.n x5.c] 24) = v8 from hV.symm]
  have BX1 := Lib.hid (BX1.out.below hbV BX1.out.lt)
  have KG := Lib.hid (KG.out.trans (hbV.mono KG.out.size))
  clear hV hbV
  clear BX7
  go_wp2_with fail
  have CT := Lib.hid (parse_k v8 (show (ByteArray.mk #[49]).size ≤ 9223372036854775807 by decide) num1 code1)
  with_reducible refine CT.out.mono ?_
  rintro e w9 ⟨x10, rfl, hN11, hb⟩
  have N11 := Lib.hid hN11
  clear hN11
  clear CT
  have BX1 := Lib.hid (BX1.out.below hb BX1.out.lt)
  have KG := Lib.hid (KG.out.trans (hb.mono KG.out.size))
  clear hb
  clear N11
  go_upto_region 6 with (fail)
  obtain ⟨v13, hV⟩ : ∃ V, V = w9.alloc (.cells #[.bool x10.s, .slice x10.a x10.n x10.c] 24) := ⟨_, rfl⟩
  have hbV : Below w9.heap.size w9 v13 := by rw [hV]; exact ((Below.refl _ _).alloc (Nat.le_refl _) _)
  have BX12 := Lib.hid (show Bxs v13 (w9.heap.size) 24 [.bool x10.s, .slice x10.a x10.n x10.c] by have h := Bxs.new (w9) 24 [.bool x10.s, .slice x10.a x10.n x10.c]; rw [hV]; exact h)
  rw [show w9.alloc (.cells #[.bool x10.s, .slice x10.a x10.n x10.c] 24) = v13 from hV.symm]
  have BX1 := Lib.hid (BX1.out.below hbV BX1.out.lt)
  have KG := Lib.hid (KG.out.trans (hbV.mono KG.out.size))
  clear hV hbV
  clear BX12
  have cBX10 := BX1.out.cell (i := 0) rfl
  have cBX11 := BX1.out.cell (i := 1) rfl
  have cBX12 := BX1.out.cell (i := 2) rfl
  have cBX13 := BX1.out.cell (i := 3) rfl
  have cBX1f := BX1.out.fz
  have cBX1l := BX1.out.lt
  go_wp2_with fail
  refine bodyPost_ret (results_ct rfl _ _ _ _ _ _ _ rfl ((((BX1.out.put 0 _).put 1 _).put 2 _).put 3 _) Tryz.underlying26 rfl (by kernel_rfl)) rfl ⟨rfl, (((KG.out.setCell (Nat.le_refl _) _).setCell (Nat.le_refl _) _).setCell (Nat.le_refl _) _).setCell (Nat.le_refl _) _⟩
set_option maxRecDepth 100000 in
set_option maxHeartbeats 8000000 in
theorem qparse_n_a3 {s : ByteArray} {a b : List UInt8} {z1 : Int} (w : World) (hs : s.size ≤ 9223372036854775807) (hcut : Lib.cut s.data.toList [47] = (a, b, false)) (hsz : a.length ≤ 9223372036854775807) (ha : codeT a = 3) (hza : numT a = z1) : Calls Tryz.prog 12 #[.string s] w (RFX w 3) := by
  have KG := Lib.hid (Below.refl w.heap.size w)
  have HC := Lib.hid hcut
  have HSA : (ByteArray.mk a.toArray).size ≤ 9223372036854775807 := by show a.toArray.size ≤ _; rw [List.size_toArray]; exact hsz
  have HA := Lib.hid ha
  have HZA := Lib.hid hza
  have LZz1 := Lib.hid (show lenB z1.natAbs ≤ 23 from by rw [← hza]; exact numT_len a)
  have LZz2 := Lib.hid (show lenB (1 : Int).natAbs ≤ 23 from Nat.le_trans (len1 (by decide) (by decide)) (by decide))
  clear hcut hsz ha hza
  go_enter Tryz.func12, Tryz.ntmps12
  go_upto_region 1 with (fail)
  obtain ⟨v2, hV⟩ : ∃ V, V = w.alloc (.cells #[.bool false, .slice none 0 0, .bool false, .slice none 0 0] 26) := ⟨_, rfl⟩
  have hbV : Below w.heap.size w v2 := by rw [hV]; exact ((Below.refl _ _).alloc (Nat.le_refl _) _)
  have BX1 := Lib.hid (show Bxs v2 (w.heap.size) 26 [.bool false, .slice none 0 0, .bool false, .slice none 0 0] by have h := Bxs.new (w) 26 [.bool false, .slice none 0 0, .bool false, .slice none 0 0]; rw [hV]; exact h)
  rw [show w.alloc (.cells #[.bool false, .slice none 0 0, .bool false, .slice none 0 0] 26) = v2 from hV.symm]
  have KG := Lib.hid (KG.out.trans (hbV.mono KG.out.size))
  clear hV hbV
  go_wp2_with fail
  have CT := Lib.hid (cut_k v2 hs HC.out)
  with_reducible refine CT.out.mono ?_
  rintro e w3 ⟨rfl, hb⟩
  clear CT
  have BX1 := Lib.hid (BX1.out.below hb BX1.out.lt)
  have KG := Lib.hid (KG.out.trans (hb.mono KG.out.size))
  clear hb
  go_wp2_with fail
  have CT := Lib.hid (parse_k w3 HSA HZA.out HA.out)
  with_reducible refine CT.out.mono ?_
  rintro e w4 ⟨x5, rfl, hN6, hb⟩
  have N6 := Lib.hid hN6
  clear hN6
  clear CT
  have BX1 := Lib.hid (BX1.out.below hb BX1.out.lt)
  have KG := Lib.hid (KG.out.trans (hb.mono KG.out.size))
  clear hb
  clear N6
  go_upto_region 5 with (fail)
  obtain ⟨v8, hV⟩ : ∃ V, V = w4.alloc (.cells #[.bool x5.s, .slice x5.a x5.n x5.c] 24) := ⟨_, rfl⟩
  have hbV : Below w4.heap.size w4 v8 := by rw [hV]; exact ((Below.refl _ _).alloc (Nat.le_refl _) _)
  have BX7 := Lib.hid (show Bxs v8 (w4.heap.size) 24 [.bool x5.s, .slice x5.a x5.n x5.c] by have h := Bxs.new (w4) 24 [.bool x5.s, .slice x5.a x5.n x5.c]; rw [hV]; exact h)
  rw [show w4.alloc (.cells #[.bool x5.s, .slice x5.a x5.n x5.c] 24) = v8 from hV.symm]
  have BX1 := Lib.hid (BX1.out.below hbV BX1.out.lt)
  have KG := Lib.hid (KG.out.trans (hbV.mono KG.out.size))
  clear hV hbV
  clear BX7
  go_wp2_with fail
  have CT := Lib.hid (parse_k v8 (show (ByteArray.mk #[49]).size ≤ 9223372036854775807 by decide) num1 code1)
  with_reducible refine CT.out.mono ?_
  rintro e w9 ⟨x10, rfl, hN11, hb⟩
  have N11 := Lib.hid hN11
  clear hN11
  clear CT
  have BX1 := Lib.hid (BX1.out.below hb BX1.out.lt)
  have KG := Lib.hid (KG.out.trans (hb.mono KG.out.size))
  clear hb
  clear N11
  go_upto_region 6 with (fail)
  obtain ⟨v13, hV⟩ : ∃ V, V = w9.alloc (.cells #[.bool x10.s, .slice x10.a x10.n x10.c] 24) := ⟨_, rfl⟩
  have hbV : Below w9.heap.size w9 v13 := by rw [hV]; exact ((Below.refl _ _).alloc (Nat.le_refl _) _)
  have BX12 := Lib.hid (show Bxs v13 (w9.heap.size) 24 [.bool x10.s, .slice x10.a x10.n x10.c] by have h := Bxs.new (w9) 24 [.bool x10.s, .slice x10.a x10.n x10.c]; rw [hV]; exact h)
  rw [show w9.alloc (.cells #[.bool x10.s, .slice x10.a x10.n x10.c] 24) = v13 from hV.symm]
  have BX1 := Lib.hid (BX1.out.below hbV BX1.out.lt)
  have KG := Lib.hid (KG.out.trans (hbV.mono KG.out.size))
  clear hV hbV
  clear BX12
  have cBX10 := BX1.out.cell (i := 0) rfl
  have cBX11 := BX1.out.cell (i := 1) rfl
  have cBX12 := BX1.out.cell (i := 2) rfl
  have cBX13 := BX1.out.cell (i := 3) rfl
  have cBX1f := BX1.out.fz
  have cBX1l := BX1.out.lt
  go_wp2_with fail
  refine bodyPost_ret (results_ct rfl _ _ _ _ _ _ _ rfl ((((BX1.out.put 0 _).put 1 _).put 2 _).put 3 _) Tryz.underlying26 rfl (by kernel_rfl)) rfl ⟨rfl, (((KG.out.setCell (Nat.le_refl _) _).setCell (Nat.le_refl _) _).setCell (Nat.le_refl _) _).setCell (Nat.le_refl _) _⟩
set_option maxRecDepth 100000 in
set_option maxHeartbeats 8000000 in
theorem qparse_n_ok {s : ByteArray} {a b : List UInt8} {z1 : Int} (w : World) (hs : s.size ≤ 9223372036854775807) (hcut : Lib.cut s.data.toList [47] = (a, b, false)) (hsz : a.length ≤ 9223372036854775807) (ha : codeT a = 0) (hza : numT a = z1) : Calls Tryz.prog 12 #[.string s] w (RFE w ((z1 : Rat) / ((1 : Int) : Rat)) 0) := by
  have KG := Lib.hid (Below.refl w.heap.size w)
  have HC := Lib.hid hcut
  have HSA : (ByteArray.mk a.toArray).size ≤ 9223372036854775807 := by show a.toArray.size ≤ _; rw [List.size_toArray]; exact hsz
  have HA := Lib.hid ha
  have HZA := Lib.hid hza
  have LZz1 := Lib.hid (show lenB z1.natAbs ≤ 23 from by rw [← hza]; exact numT_len a)
  have LZz2 := Lib.hid (show lenB (1 : Int).natAbs ≤ 23 from Nat.le_trans (len1 (by decide) (by decide)) (by decide))
  clear hcut hsz ha hza
  obtain ⟨q14, hq14⟩ : ∃ z : Rat, z = (z1 : Rat) / ((1 : Int) : Rat) := ⟨_, rfl⟩
  have Hq14 := Lib.hid hq14
  have LQq14 := Lib.hid (show LQ q14 23 by rw [hq14]; exact LQ.make (by decide) (Nat.le_trans LZz1.out (by decide)) (Nat.le_trans LZz2.out (by decide)))
  clear hq14
  go_enter Tryz.func12, Tryz.ntmps12
  go_upto_region 1 with (fail)
  obtain ⟨v2, hV⟩ : ∃ V, V = w.alloc (.cells #[.bool false, .slice none 0 0, .bool false, .slice none 0 0] 26) := ⟨_, rfl⟩
  have hbV : Below w.heap.size w v2 := by rw [hV]; exact ((Below.refl _ _).alloc (Nat.le_refl _) _)
  have BX1 := Lib.hid (show Bxs v2 (w.heap.size) 26 [.bool false, .slice none 0 0, .bool false, .slice none 0 0] by have h := Bxs.new (w) 26 [.bool false, .slice none 0 0, .bool false, .slice none 0 0]; rw [hV]; exact h)
  rw [show w.alloc (.cells #[.bool false, .slice none 0 0, .bool false, .slice none 0 0] 26) = v2 from hV.symm]
  have KG := Lib.hid (KG.out.trans (hbV.mono KG.out.size))
  clear hV hbV
  go_wp2_with fail
  have CT := Lib.hid (cut_k v2 hs HC.out)
  with_reducible refine CT.out.mono ?_
  rintro e w3 ⟨rfl, hb⟩
  clear CT
  have BX1 := Lib.hid (BX1.out.below hb BX1.out.lt)
  have KG := Lib.hid (KG.out.trans (hb.mono KG.out.size))
  clear hb
  go_wp2_with fail
  have CT := Lib.hid (parse_k w3 HSA HZA.out HA.out)
  with_reducible refine CT.out.mono ?_
  rintro e w4 ⟨x5, rfl, hN6, hb⟩
  have N6 := Lib.hid hN6
  clear hN6
  clear CT
  have BX1 := Lib.hid (BX1.out.below hb BX1.out.lt)
  have KG := Lib.hid (KG.out.trans (hb.mono KG.out.size))
  clear hb
  go_upto_region 5 with (fail)
  obtain ⟨v8, hV⟩ : ∃ V, V = w4.alloc (.cells #[.bool x5.s, .slice x5.a x5.n x5.c] 24) := ⟨_, rfl⟩
  have hbV : Below w4.heap.size w4 v8 := by rw [hV]; exact ((Below.refl _ _).alloc (Nat.le_refl _) _)
  have BX7 := Lib.hid (show Bxs v8 (w4.heap.size) 24 [.bool x5.s, .slice x5.a x5.n x5.c] by have h := Bxs.new (w4) 24 [.bool x5.s, .slice x5.a x5.n x5.c]; rw [hV]; exact h)
  rw [show w4.alloc (.cells #[.bool x5.s, .slice x5.a x5.n x5.c] 24) = v8 from hV.symm]
  have N6 := Lib.hid (N6.out.below hbV)
  have BX1 := Lib.hid (BX1.out.below hbV BX1.out.lt)
  have KG := Lib.hid (KG.out.trans (hbV.mono KG.out.size))
  clear hV hbV
  go_wp2_with fail
  have CT := Lib.hid (parse_k v8 (show (ByteArray.mk #[49]).size ≤ 9223372036854775807 by decide) num1 code1)
  with_reducible refine CT.out.mono ?_
  rintro e w9 ⟨x10, rfl, hN11, hb⟩
  have N11 := Lib.hid hN11
  clear hN11
  clear CT
  have N6 := Lib.hid (N6.out.below hb)
  have BX1 := Lib.hid (BX1.out.below hb BX1.out.lt)
  have BX7 := Lib.hid (BX7.out.below hb BX7.out.lt)
  have KG := Lib.hid (KG.out.trans (hb.mono KG.out.size))
  clear hb
  go_upto_region 6 with (fail)
  obtain ⟨v13, hV⟩ : ∃ V, V = w9.alloc (.cells #[.bool x10.s, .slice x10.a x10.n x10.c] 24) := ⟨_, rfl⟩
  have hbV : Below w9.heap.size w9 v13 := by rw [hV]; exact ((Below.refl _ _).alloc (Nat.le_refl _) _)
  have BX12 := Lib.hid (show Bxs v13 (w9.heap.size) 24 [.bool x10.s, .slice x10.a x10.n x10.c] by have h := Bxs.new (w9) 24 [.bool x10.s, .slice x10.a x10.n x10.c]; rw [hV]; exact h)
  rw [show w9.alloc (.cells #[.bool x10.s, .slice x10.a x10.n x10.c] 24) = v13 from hV.symm]
  have N6 := Lib.hid (N6.out.below hbV)
  have N11 := Lib.hid (N11.out.below hbV)
  have BX1 := Lib.hid (BX1.out.below hbV BX1.out.lt)
  have BX7 := Lib.hid (BX7.out.below hbV BX7.out.lt)
  have KG := Lib.hid (KG.out.trans (hbV.mono KG.out.size))
  clear hV hbV
  have cBX70 := BX7.out.cell (i := 0) rfl
  have cBX71 := BX7.out.cell (i := 1) rfl
  have cBX7f := BX7.out.fz
  have cBX7l := BX7.out.lt
  have cBX120 := BX12.out.cell (i := 0) rfl
  have cBX121 := BX12.out.cell (i := 1) rfl
  have cBX12f := BX12.out.fz
  have cBX12l := BX12.out.lt
  go_wp2_with fail
  have HLO := Lib.hid (show w.heap.size ≤ v13.heap.size from KG.out.size)
  have CT := Lib.hid (qlow N6.out.k (N6.out.k.len LZz1.out (by decide)) N11.out.k (N11.out.k.len LZz2.out (by decide)) (by decide))
  rw [show (z1 : Rat) / ((1 : Int) : Rat) = q14 from Hq14.out.symm] at CT
  with_reducible refine CT.out.mono ?_
  rintro e w15 ⟨x16, rfl, hN17, hb⟩
  have N17 := Lib.hid hN17
  clear hN17
  clear CT
  clear cBX70 cBX71 cBX7f cBX7l
  clear cBX120 cBX121 cBX12f cBX12l
  clear N6
  clear N11
  have BX1 := Lib.hid (BX1.out.below hb BX1.out.lt)
  clear BX7
  clear BX12
  have KG := Lib.hid (KG.out.trans (hb.mono KG.out.size))
  clear hb
  have cBX10 := BX1.out.cell (i := 0) rfl
  have cBX11 := BX1.out.cell (i := 1) rfl
  have cBX12 := BX1.out.cell (i := 2) rfl
  have cBX13 := BX1.out.cell (i := 3) rfl
  have cBX1f := BX1.out.fz
  have cBX1l := BX1.out.lt
  go_wp2_with fail
  refine bodyPost_ret (results_ct rfl _ _ _ _ _ _ _ rfl ((((BX1.out.put 0 _).put 1 _).put 2 _).put 3 _) Tryz.underlying26 rfl (by kernel_rfl)) rfl ⟨x16, rfl, ?_, ?_⟩
  · rw [← Hq14.out]
    exact ((((N17.out.setBxs BX1.out (by decide) 0 _).setBxs (BX1.out.put 0 _) (by decide) 1 _).setBxs ((BX1.out.put 0 _).put 1 _) (by decide) 2 _).setBxs (((BX1.out.put 0 _).put 1 _).put 2 _) (by decide) 3 _).mono HLO.out
  · exact (((KG.out.setCell (Nat.le_refl _) _).setCell (Nat.le_refl _) _).setCell (Nat.le_refl _) _).setCell (Nat.le_refl _) _
end Go.Proofs.YtklidpbdgliemaaGreatDoor.Limb
namespace Go.Proofs.YtklidpbdgliemaaGreatDoor.Limb
open Go.RowKit Go.Sort
theorem dig_ofNat {i : Nat} (h : i < 10) : isDig (UInt8.ofNat (48 + i)) = true ∧ (UInt8.ofNat (48 + i)).toNat = 48 + i := by
  have e : (UInt8.ofNat (48 + i)).toNat = 48 + i := by rw [UInt8.toNat_ofNat']; omega
  refine ⟨?_, e⟩
  unfold isDig
  rw [e]; simp; omega
theorem decD_small {n : Nat} (h : n < 10) : Lib.decDigits n = [UInt8.ofNat (48 + n)] := Lib.decDigits_one h
theorem head_app {α : Type} {r s : List α} (h : r ≠ []) : (r ++ s).head? = r.head? := by
  cases r with
  | nil => exact absurd rfl h
  | cons c r => rfl
theorem decD_facts : ∀ (n : Nat), (∀ c ∈ Lib.decDigits n, isDig c = true) ∧ decV (Lib.decDigits n) = n ∧ Lib.decDigits n ≠ [] ∧ (n ≠ 0 → (Lib.decDigits n).head? ≠ some 48) := by
  intro n
  induction n using Nat.strongRecOn with
  | _ n ih =>
    by_cases h : n < 10
    · have hd := dig_ofNat h
      rw [decD_small h]
      refine ⟨fun c hc => by rw [List.mem_singleton.1 hc]; exact hd.1, ?_, by simp, fun hn e => ?_⟩
      · show 10 * 0 + ((UInt8.ofNat (48 + n)).toNat - 48) = n
        rw [hd.2]; omega
      · simp only [List.head?_cons, Option.some.injEq] at e
        have := hd.2
        rw [e] at this
        have h48 : (48 : UInt8).toNat = 48 := rfl
        omega
    · have hd := dig_ofNat (show n % 10 < 10 by omega)
      obtain ⟨i1, i2, i3, i4⟩ := ih (n / 10) (by omega)
      rw [decD_big h]
      refine ⟨fun c hc => ?_, ?_, by simp, fun hn => ?_⟩
      · rcases List.mem_append.1 hc with hc | hc
        · exact i1 c hc
        · rw [List.mem_singleton.1 hc]; exact hd.1
      · rw [decV_append, i2]
        show n / 10 * 10 ^ 1 + (10 * 0 + ((UInt8.ofNat (48 + n % 10)).toNat - 48)) = n
        rw [hd.2]; omega
      · rw [head_app i3]
        exact i4 (by omega)
/-- Digits without a needless nought are the digits of their number. -/
theorem decD_of : ∀ (l : List UInt8), l ≠ [] → (∀ c ∈ l, isDig c = true) → (l.head? ≠ some 48 ∨ l = [48]) → Lib.decDigits (decV l) = l := by
  have key : ∀ (k : Nat) (l : List UInt8), l.length = k → l ≠ [] → (∀ c ∈ l, isDig c = true) → (l.head? ≠ some 48 ∨ l = [48]) → Lib.decDigits (decV l) = l := by
    intro k
    induction k using Nat.strongRecOn with
    | _ k ih =>
      intro l hk h0 hd hh
      obtain ⟨r, c, rfl⟩ : ∃ r c, l = r ++ [c] := ⟨l.dropLast, l.getLast h0, (List.dropLast_concat_getLast h0).symm⟩
      have hc : isDig c = true := hd c (by simp)
      have hc' : 48 ≤ c.toNat ∧ c.toNat ≤ 57 := by unfold isDig at hc; simpa using hc
      have e1 : decV [c] = c.toNat - 48 := by show 10 * 0 + (c.toNat - 48) = _; omega
      have ec : UInt8.ofNat (48 + (c.toNat - 48)) = c := by
        rw [show 48 + (c.toNat - 48) = c.toNat by omega]
        exact UInt8.ofNat_toNat
      by_cases hr : r = []
      · subst hr
        rw [List.nil_append, e1, decD_small (by omega), ec]
      · have hrd : ∀ x ∈ r, isDig x = true := fun x hx => hd x (List.mem_append_left _ hx)
        have hrh : r.head? ≠ some 48 := by
          rcases hh with hh | hh
          · rwa [head_app hr] at hh
          · exfalso
            have := congrArg List.length hh
            simp at this
            exact hr this
        have i := ih r.length (by rw [← hk]; simp) r rfl hr hrd (.inl hrh)
        have hpos : 0 < decV r := by
          refine Nat.pos_of_ne_zero fun e => ?_
          rw [e, decD_small (by omega)] at i
          rw [← i] at hrh
          exact hrh rfl
        rw [decV_append, e1]
        show Lib.decDigits (decV r * 10 ^ 1 + (c.toNat - 48)) = _
        rw [decD_big (by omega), show (decV r * 10 ^ 1 + (c.toNat - 48)) / 10 = decV r by omega, show (decV r * 10 ^ 1 + (c.toNat - 48)) % 10 = c.toNat - 48 by omega, i, ec]
  exact fun l => key l.length l rfl
theorem dig_ne {c : UInt8} (h : isDig c = true) : c ≠ 45 ∧ c ≠ 47 := by
  have hc' : 48 ≤ c.toNat ∧ c.toNat ≤ 57 := by unfold isDig at h; simpa using h
  constructor <;> (rintro rfl; exact absurd hc'.1 (by decide))
theorem neg_cons (l : List UInt8) : negT (45 :: l) = true ∧ bodyT (45 :: l) = l := by
  have h : Lib.hasPrefix (45 :: l) [45] = true := by unfold Lib.hasPrefix; simp [List.isPrefixOf]
  refine ⟨h, ?_⟩
  unfold bodyT Lib.trimPrefix
  rw [if_pos h]; rfl
theorem neg_not {l : List UInt8} (h : l.head? ≠ some 45) : negT l = false ∧ bodyT l = l := by
  have h' : Lib.hasPrefix l [45] = false := by
    unfold Lib.hasPrefix
    cases l with
    | nil => rfl
    | cons c r =>
      have : (45 : UInt8) ≠ c := fun e => h (by rw [← e]; rfl)
      simp [List.isPrefixOf, this]
  refine ⟨h', ?_⟩
  unfold bodyT Lib.trimPrefix
  rw [h']; rfl
theorem neg_cases (l : List UInt8) : (∃ r, l = 45 :: r ∧ negT l = true ∧ bodyT l = r) ∨ (negT l = false ∧ bodyT l = l) := by
  by_cases h : l.head? = some 45
  · left
    cases l with
    | nil => cases h
    | cons c r =>
      simp only [List.head?_cons, Option.some.injEq] at h
      subst h
      exact ⟨r, rfl, neg_cons r⟩
  · exact .inr (neg_not h)
theorem head_dig {l : List UInt8} (h : ∀ c ∈ l, isDig c = true) : l.head? ≠ some 45 := by
  cases l with
  | nil => simp
  | cons c r => simp only [List.head?_cons, ne_eq, Option.some.injEq]; exact (dig_ne (h c (List.mem_cons_self ..))).1
theorem itoa_facts (z : Int) : bodyT (Lib.itoa z) = Lib.decDigits z.natAbs ∧ negT (Lib.itoa z) = decide (z < 0) ∧ formT (Lib.itoa z) := by
  obtain ⟨d1, d2, d3, d4⟩ := decD_facts z.natAbs
  have e : bodyT (Lib.itoa z) = Lib.decDigits z.natAbs ∧ negT (Lib.itoa z) = decide (z < 0) := by
    unfold Lib.itoa
    by_cases h : z < 0
    · rw [if_pos h, decide_eq_true h]
      exact (neg_cons _).symm
    · rw [if_neg h, decide_eq_false h, show z.toNat = z.natAbs by omega]
      exact (neg_not (head_dig d1)).symm
  refine ⟨e.1, e.2, ?_⟩
  unfold formT
  rw [e.1, e.2]
  refine ⟨d3, d1, fun h => ?_⟩
  by_cases hz : z = 0
  · subst hz
    rcases h.2 with h2 | h2
    · simp at h2
    · exact h2 (decD_small (n := 0) (by omega))
  · exact d4 (by omega) h.1
open Classical in
theorem codeT_itoa (z : Int) : codeT (Lib.itoa z) = if 200 < Lib.nDigits z.natAbs then 3 else 0 := by
  obtain ⟨e1, _, e3⟩ := itoa_facts z
  unfold codeT
  rw [if_pos e3, e1, Lib.decDigits_length]
open Classical in
theorem numT_itoa {z : Int} (h : Lib.nDigits z.natAbs ≤ 200) : numT (Lib.itoa z) = z := by
  obtain ⟨e1, e2, e3⟩ := itoa_facts z
  unfold numT
  rw [if_pos ⟨e3, by rw [e1, Lib.decDigits_length]; exact h⟩, e1, e2, (decD_facts z.natAbs).2.1]
  by_cases hz : z < 0
  · rw [decide_eq_true hz, if_pos rfl]; omega
  · rw [decide_eq_false hz, if_neg (by simp)]; omega
/-- A text that is read is the text of what is read. -/
theorem itoa_numT {l : List UInt8} (h : codeT l = 0) : Lib.itoa (numT l) = l ∧ formT l ∧ (bodyT l).length ≤ 200 := by
  have hf : formT l := by
    refine Classical.byContradiction fun hn => ?_
    unfold codeT at h
    rw [if_neg hn] at h
    exact absurd h (by decide)
  have hl : (bodyT l).length ≤ 200 := by
    refine Classical.byContradiction fun hn => ?_
    unfold codeT at h
    rw [if_pos hf, if_pos (by omega)] at h
    exact absurd h (by decide)
  refine ⟨?_, hf, hl⟩
  obtain ⟨f1, f2, f3⟩ := hf
  unfold numT
  rw [if_pos ⟨⟨f1, f2, f3⟩, hl⟩]
  have hh : (bodyT l).head? ≠ some 48 ∨ bodyT l = [48] := by
    by_cases e : (bodyT l).head? = some 48
    · exact .inr (Classical.byContradiction fun hn => f3 ⟨e, .inr hn⟩)
    · exact .inl e
  have hd := decD_of _ f1 f2 hh
  rcases neg_cases l with ⟨r, h1, h2, h3⟩ | ⟨h2, h3⟩
  · rw [h2, if_pos rfl]
    have hpos : 0 < decV (bodyT l) := by
      refine Nat.pos_of_ne_zero fun e => f3 ⟨?_, .inl h2⟩
      rw [e, decD_small (by omega)] at hd
      rw [← hd]; rfl
    unfold Lib.itoa
    rw [if_pos (by omega), show (-(decV (bodyT l) : Int)).natAbs = decV (bodyT l) by omega, hd, h3, h1]
  · rw [h2, if_neg (by simp)]
    unfold Lib.itoa
    rw [if_neg (by omega), show ((decV (bodyT l) : Nat) : Int).toNat = decV (bodyT l) by omega, hd, h3]
theorem nDig_mono : ∀ {m n : Nat}, m ≤ n → Lib.nDigits m ≤ Lib.nDigits n := by
  intro m n
  induction n using Nat.strongRecOn generalizing m with
  | _ n ih =>
    intro h
    by_cases hm : m < 10
    · rw [Lib.nDigits_small hm]; exact Lib.nDigits_pos n
    · rw [Lib.nDigits_big hm, Lib.nDigits_big (by omega : ¬ n < 10)]
      exact Nat.succ_le_succ (ih (n / 10) (by omega) (by omega))
theorem itoa_no47 (z : Int) : (47 : UInt8) ∉ Lib.itoa z := by
  intro h
  obtain ⟨d1, _, _, _⟩ := decD_facts z.natAbs
  unfold Lib.itoa at h
  split at h
  · rcases List.mem_cons.1 h with h | h
    · exact absurd h (by decide)
    · exact (dig_ne (d1 _ h)).2 rfl
  · rename_i hz
    rw [show z.toNat = z.natAbs by omega] at h
    exact (dig_ne (d1 _ h)).2 rfl
theorem itoa_len_eq (z : Int) : (Lib.itoa z).length = Lib.nDigits z.natAbs + if z < 0 then 1 else 0 := by
  unfold Lib.itoa
  split
  · rw [List.length_cons, Lib.decDigits_length]
  · rename_i hz
    rw [Lib.decDigits_length, show z.toNat = z.natAbs by omega]; omega
end Go.Proofs.YtklidpbdgliemaaGreatDoor.Limb
namespace Go.Proofs.YtklidpbdgliemaaGreatDoor.Limb
open Go.RowKit Go.Sort
theorem index47 : ∀ (a b : List UInt8), (47 : UInt8) ∉ a → Lib.index (a ++ 47 :: b) [47] = a.length
  | [], b, _ => by
    show Lib.index (47 :: b) [47] = 0
    unfold Lib.index
    rw [if_pos (by simp [List.isPrefixOf])]
  | c :: a, b, h => by
    have h1 : (47 : UInt8) ≠ c := fun e => h (by rw [e]; exact List.mem_cons_self ..)
    have h2 : (47 : UInt8) ∉ a := fun e => h (List.mem_cons_of_mem _ e)
    show Lib.index (c :: (a ++ 47 :: b)) [47] = _
    have i := index47 a b h2
    unfold Lib.index
    rw [if_neg (by simp [List.isPrefixOf, h1]), i, if_neg (by first | (simp; done) | (simp; omega))]
    simp
theorem index47n : ∀ (a : List UInt8), (47 : UInt8) ∉ a → Lib.index a [47] = -1
  | [], _ => rfl
  | c :: a, h => by
    have h1 : (47 : UInt8) ≠ c := fun e => h (by rw [e]; exact List.mem_cons_self ..)
    have h2 : (47 : UInt8) ∉ a := fun e => h (List.mem_cons_of_mem _ e)
    have i := index47n a h2
    unfold Lib.index
    rw [if_neg (by simp [List.isPrefixOf, h1]), i, if_pos (by rfl)]
theorem cut47 {a : List UInt8} (b : List UInt8) (h : (47 : UInt8) ∉ a) : Lib.cut (a ++ 47 :: b) [47] = (a, b, true) := by
  unfold Lib.cut
  rw [index47 a b h, if_pos (by omega)]
  simp
theorem cut47n {a : List UInt8} (h : (47 : UInt8) ∉ a) : Lib.cut a [47] = (a, [], false) := by
  unfold Lib.cut
  rw [index47n a h, if_neg (by omega)]
theorem cut_cases (s : List UInt8) : (∃ a b, s = a ++ 47 :: b ∧ Lib.cut s [47] = (a, b, true)) ∨ Lib.cut s [47] = (s, [], false) := by
  by_cases h : (47 : UInt8) ∈ s
  · obtain ⟨a, b, e, ha⟩ := List.eq_append_cons_of_mem h
    exact .inl ⟨a, b, e, by rw [e]; exact cut47 b ha⟩
  · exact .inr (cut47n h)
/-- What is read of two texts, one above the other. -/
def badB (a b : List UInt8) : Prop := codeT a = 4 ∨ codeT b = 4 ∨ b.head? = some 45 ∨ b = [48]
open Classical in
noncomputable def codeB (a b : List UInt8) : Int := if badB a b then 4 else if codeT a = 0 ∧ codeT b = 0 then 0 else 3
noncomputable def ratB (a b : List UInt8) : Rat := (numT a : Rat) / (numT b : Rat)
def aboveT (s : List UInt8) : List UInt8 := (Lib.cut s [47]).1
def belowT (s : List UInt8) : List UInt8 := if (Lib.cut s [47]).2.2 then (Lib.cut s [47]).2.1 else [49]
noncomputable def codeF (s : List UInt8) : Int := codeB (aboveT s) (belowT s)
noncomputable def ratF (s : List UInt8) : Rat := ratB (aboveT s) (belowT s)
theorem parts_of {a b : List UInt8} (h : (47 : UInt8) ∉ a) : aboveT (a ++ 47 :: b) = a ∧ belowT (a ++ 47 :: b) = b := by
  unfold aboveT belowT; rw [cut47 b h]; exact ⟨rfl, rfl⟩
theorem parts_ofn {a : List UInt8} (h : (47 : UInt8) ∉ a) : aboveT a = a ∧ belowT a = [49] := by
  unfold aboveT belowT; rw [cut47n h]; exact ⟨rfl, rfl⟩
theorem ratB_one (a : List UInt8) : ratB a [49] = (numT a : Rat) := by
  unfold ratB; rw [num1, show ((1 : Int) : Rat) = 1 by decide +kernel]; grind
theorem text_num {q : Rat} (h : (q.den : Int) = 1) : ((q.num : Int) : Rat) = q := by
  apply Rat.ext
  · rw [Rat.num_intCast]
  · rw [Rat.den_intCast]; omega
theorem num_den (q : Rat) : (q.num : Rat) / ((q.den : Int) : Rat) = q := by
  rw [← Rat.divInt_eq_div]; exact Rat.num_divInt_den q
open Classical in
/-- A fraction's text is read as it, if its digits are not too many. -/
theorem codeF_text (q : Rat) : (codeF (textQ q) = 0 ∧ ratF (textQ q) = q ∧ Lib.nDigits q.num.natAbs ≤ 200 ∧ Lib.nDigits q.den ≤ 200) ∨ (codeF (textQ q) = 3 ∧ 200 < (textQ q).length) := by
  unfold textQ
  by_cases h : (q.den : Int) = 1
  · rw [if_pos h]
    obtain ⟨p1, p2⟩ := parts_ofn (itoa_no47 q.num)
    unfold codeF ratF codeB badB
    rw [p1, p2, code1, codeT_itoa, ratB_one]
    by_cases hn : 200 < Lib.nDigits q.num.natAbs
    · right
      rw [if_pos hn]
      refine ⟨?_, by rw [itoa_len_eq]; omega⟩
      rw [if_neg (by rintro (h | h | h | h) <;> revert h <;> decide), if_neg (by rintro ⟨h, _⟩; revert h; decide)]
    · left
      rw [if_neg hn, numT_itoa (by omega), text_num h]
      refine ⟨?_, rfl, by omega, by have : q.den = 1 := by omega
                                    rw [this]; decide +kernel⟩
      rw [if_neg (by rintro (h | h | h | h) <;> revert h <;> decide), if_pos ⟨rfl, rfl⟩]
  · rw [if_neg h]
    obtain ⟨p1, p2⟩ := parts_of (b := Lib.itoa (q.den : Int)) (itoa_no47 q.num)
    have hd : 0 < q.den := q.den_pos
    have hb : ¬ ((Lib.itoa (q.den : Int)).head? = some 45) ∧ Lib.itoa (q.den : Int) ≠ [48] := by
      have e : Lib.itoa (q.den : Int) = Lib.decDigits q.den := Lib.itoa_nonneg _
      obtain ⟨d1, d2, d3, d4⟩ := decD_facts q.den
      rw [e]
      exact ⟨head_dig d1, fun e2 => d4 (by omega) (by rw [e2]; rfl)⟩
    unfold codeF ratF codeB badB
    rw [p1, p2, codeT_itoa, codeT_itoa, Int.natAbs_natCast]
    by_cases hn : 200 < Lib.nDigits q.num.natAbs
    · right
      rw [if_pos hn]
      refine ⟨?_, by rw [List.length_append, itoa_len_eq]; omega⟩
      rw [if_neg (by rintro (h | h | h | h); · revert h; decide
                     · revert h; split <;> decide
                     · exact hb.1 h
                     · exact hb.2 h), if_neg (by rintro ⟨h, _⟩; revert h; decide)]
    · by_cases hm : 200 < Lib.nDigits q.den
      · right
        rw [if_pos hm]
        refine ⟨?_, by rw [List.length_append, List.length_cons, itoa_len_eq (q.den : Int), Int.natAbs_natCast]; omega⟩
        rw [if_neg (by rintro (h | h | h | h); · revert h; split <;> decide
                       · revert h; decide
                       · exact hb.1 h
                       · exact hb.2 h), if_neg (by rintro ⟨_, h⟩; revert h; decide)]
      · left
        rw [if_neg hn, if_neg hm]
        refine ⟨?_, ?_, by omega, by omega⟩
        · rw [if_neg (by rintro (h | h | h | h); · revert h; decide
                         · revert h; decide
                         · exact hb.1 h
                         · exact hb.2 h), if_pos ⟨rfl, rfl⟩]
        · unfold ratB
          rw [numT_itoa (by omega), numT_itoa (by rw [Int.natAbs_natCast]; omega)]
          exact num_den q
theorem codeF_cases (s : List UInt8) : codeF s = 0 ∨ codeF s = 3 ∨ codeF s = 4 := by
  unfold codeF codeB
  split
  · exact .inr (.inr rfl)
  · split
    · exact .inl rfl
    · exact .inr (.inl rfl)
/-- What is read, of two texts: both are numbers' texts, the one below is above 0. -/
theorem codeB_zero {a b : List UInt8} (h : codeB a b = 0) : codeT a = 0 ∧ codeT b = 0 ∧ 0 < numT b ∧ b.head? ≠ some 45 ∧ b ≠ [48] := by
  unfold codeB at h
  split at h
  · exact absurd h (by decide)
  · rename_i hb
    split at h
    · rename_i hc
      refine ⟨hc.1, hc.2, ?_, fun e => hb (.inr (.inr (.inl e))), fun e => hb (.inr (.inr (.inr e)))⟩
      obtain ⟨e, _, _⟩ := itoa_numT hc.2
      have h1 : b.head? ≠ some 45 := fun e => hb (.inr (.inr (.inl e)))
      have h2 : b ≠ [48] := fun e => hb (.inr (.inr (.inr e)))
      refine Classical.byContradiction fun hn => ?_
      by_cases hz : numT b = 0
      · rw [hz] at e
        exact h2 (e.symm.trans (decD_small (n := 0) (by omega)))
      · rw [← e] at h1
        refine h1 ?_
        unfold Lib.itoa
        rw [if_pos (by omega)]; rfl
    · exact absurd h (by decide)
theorem num_le (p q : Int) (hq : q ≠ 0) : ((p : Rat) / (q : Rat)).num.natAbs ≤ p.natAbs ∧ ((p : Rat) / (q : Rat)).den ≤ q.natAbs := by
  rw [← Rat.divInt_eq_div]
  have h1 := low_num p q hq
  have h2 := low_den p q hq
  refine ⟨by rw [← h1]; exact Int.natAbs_ediv_le_natAbs _ _, ?_⟩
  have h3 : ((Rat.divInt p q).den : Int).natAbs ≤ q.natAbs := by rw [← h2]; exact Int.natAbs_ediv_le_natAbs _ _
  rwa [Int.natAbs_natCast] at h3
theorem num_neg {p q : Int} (hq : 0 < q) : ((p : Rat) / (q : Rat)).num < 0 → p < 0 := by
  intro h
  have e : ((p : Rat) / (q : Rat)) * (q : Rat) = (p : Rat) := by
    have : (q : Rat) ≠ 0 := by have : q ≠ 0 := by omega
                               exact_mod_cast this
    grind
  have h1 : (p : Rat) / (q : Rat) < 0 := by
    rcases sgQ_cases ((p : Rat) / (q : Rat)) with ⟨k, _⟩ | ⟨k, _⟩ | ⟨_, k⟩
    · exact k
    · rw [k] at h; exact absurd h (by decide)
    · rw [cmpZ_lt h] at k; exact absurd k (by decide)
  have h2 : (0 : Rat) < (q : Rat) := by exact_mod_cast hq
  have h3 : (p : Rat) < 0 := by
    have := Rat.mul_lt_mul_of_pos_right h1 h2
    rw [e] at this
    grind
  exact_mod_cast h3
/-- What is read is read again from its text, which is not longer. -/
theorem ratF_text {s : List UInt8} (h : codeF s = 0) : codeF (textQ (ratF s)) = 0 ∧ ratF (textQ (ratF s)) = ratF s ∧ (textQ (ratF s)).length ≤ s.length := by
  obtain ⟨a, ha⟩ : ∃ a, a = aboveT s := ⟨_, rfl⟩
  obtain ⟨b, hb⟩ : ∃ b, b = belowT s := ⟨_, rfl⟩
  have hs : (s = a ++ 47 :: b) ∨ (s = a ∧ b = [49]) := by
    rw [ha, hb]
    unfold aboveT belowT
    rcases cut_cases s with ⟨x, y, e, hc⟩ | hc
    · rw [hc]; exact .inl e
    · rw [hc]; exact .inr ⟨rfl, rfl⟩
  unfold codeF at h
  rw [← ha, ← hb] at h
  obtain ⟨ca, cb, hz, h45, h48⟩ := codeB_zero h
  obtain ⟨ea, _, _⟩ := itoa_numT ca
  obtain ⟨eb, _, _⟩ := itoa_numT cb
  have er : ratF s = (numT a : Rat) / (numT b : Rat) := by unfold ratF ratB; rw [← ha, ← hb]
  have hle := num_le (numT a) (numT b) (by omega)
  have hneg := num_neg (p := numT a) hz
  rw [← er] at hle hneg
  have l1 : (Lib.itoa (ratF s).num).length ≤ a.length := by
    rw [← ea, itoa_len_eq, itoa_len_eq]
    have := nDig_mono hle.1
    by_cases hn : (ratF s).num < 0
    · rw [if_pos hn, if_pos (hneg hn)]; omega
    · rw [if_neg hn]; omega
  have l2 : (Lib.itoa ((ratF s).den : Int)).length ≤ b.length := by
    rw [← eb, itoa_len_eq, itoa_len_eq, Int.natAbs_natCast, if_neg (by omega)]
    have := nDig_mono hle.2
    omega
  have la : Lib.nDigits (ratF s).num.natAbs ≤ 200 := by
    obtain ⟨e1, e2, e3⟩ := itoa_numT ca
    have k := nDig_mono hle.1
    have k2 : (bodyT a).length = Lib.nDigits (numT a).natAbs := by
      have := (itoa_facts (numT a)).1
      rw [e1] at this
      rw [this, Lib.decDigits_length]
    omega
  have lb : Lib.nDigits (ratF s).den ≤ 200 := by
    obtain ⟨e1, e2, e3⟩ := itoa_numT cb
    have k := nDig_mono hle.2
    have k2 : (bodyT b).length = Lib.nDigits (numT b).natAbs := by
      have := (itoa_facts (numT b)).1
      rw [e1] at this
      rw [this, Lib.decDigits_length]
    omega
  have hlen : (textQ (ratF s)).length ≤ s.length := by
    unfold textQ
    rcases hs with e | ⟨e, e2⟩
    · have hl := congrArg List.length e
      rw [List.length_append, List.length_cons] at hl
      rw [hl]
      split
      · omega
      · rw [List.length_append, List.length_cons]; omega
    · have hd : ((ratF s).den : Int) = 1 := by
        have h1 := hle.2
        rw [e2, num1] at h1
        have h2 := (ratF s).den_pos
        have h3 : (ratF s).den ≤ 1 := h1
        omega
      rw [if_pos hd, congrArg List.length e]; exact l1
  rcases codeF_text (ratF s) with ⟨k1, k2, _⟩ | ⟨k1, k2⟩
  · exact ⟨k1, k2, hlen⟩
  · exfalso
    -- its digits are not too many
    unfold codeF codeB at k1
    revert k1
    unfold textQ
    by_cases hd : ((ratF s).den : Int) = 1
    · rw [if_pos hd]
      obtain ⟨p1, p2⟩ := parts_ofn (itoa_no47 (ratF s).num)
      rw [p1, p2, codeT_itoa, if_neg (by omega : ¬ 200 < Lib.nDigits (ratF s).num.natAbs), code1]
      split
      · decide
      · rw [if_pos ⟨rfl, rfl⟩]; decide
    · rw [if_neg hd]
      obtain ⟨p1, p2⟩ := parts_of (b := Lib.itoa ((ratF s).den : Int)) (itoa_no47 (ratF s).num)
      rw [p1, p2, codeT_itoa, codeT_itoa, if_neg (by omega : ¬ 200 < Lib.nDigits (ratF s).num.natAbs), Int.natAbs_natCast, if_neg (by omega : ¬ 200 < Lib.nDigits (ratF s).den)]
      split
      · decide
      · rw [if_pos ⟨rfl, rfl⟩]; decide
end Go.Proofs.YtklidpbdgliemaaGreatDoor.Limb
namespace Go.Proofs.YtklidpbdgliemaaGreatDoor.Limb
open Go.RowKit Go.Sort

set_option maxRecDepth 100000 in
set_option maxHeartbeats 8000000 in
theorem qparse_y_a43 {s : ByteArray} {a b : List UInt8} {z1 z2 : Int} (w : World) (hs : s.size ≤ 9223372036854775807) (hcut : Lib.cut s.data.toList [47] = (a, b, true)) (hsz : a.length ≤ 9223372036854775807) (hsb : b.length ≤ 9223372036854775807) (ha : codeT a = 4) (hza : numT a = z1) (hb2 : codeT b = 3) (hzb : numT b = z2) : Calls Tryz.prog 12 #[.string s] w (RFX w 4) := by
  have KG := Lib.hid (Below.refl w.heap.size w)
  have HC := Lib.hid hcut
  have HSA : (ByteArray.mk a.toArray).size ≤ 9223372036854775807 := by show a.toArray.size ≤ _; rw [List.size_toArray]; exact hsz
  have HSB : (ByteArray.mk b.toArray).size ≤ 9223372036854775807 := by show b.toArray.size ≤ _; rw [List.size_toArray]; exact hsb
  have HA := Lib.hid ha
  have HZA := Lib.hid hza
  have LZz1 := Lib.hid (show lenB z1.natAbs ≤ 23 from by rw [← hza]; exact numT_len a)
  have HB2 := Lib.hid hb2
  have HZB := Lib.hid hzb
  have LZz2 := Lib.hid (show lenB z2.natAbs ≤ 23 from by rw [← hzb]; exact numT_len b)
  clear hcut hsz hsb ha hza hb2 hzb
  go_enter Tryz.func12, Tryz.ntmps12
  go_upto_region 1 with (fail)
  obtain ⟨v2, hV⟩ : ∃ V, V = w.alloc (.cells #[.bool false, .slice none 0 0, .bool false, .slice none 0 0] 26) := ⟨_, rfl⟩
  have hbV : Below w.heap.size w v2 := by rw [hV]; exact ((Below.refl _ _).alloc (Nat.le_refl _) _)
  have BX1 := Lib.hid (show Bxs v2 (w.heap.size) 26 [.bool false, .slice none 0 0, .bool false, .slice none 0 0] by have h := Bxs.new (w) 26 [.bool false, .slice none 0 0, .bool false, .slice none 0 0]; rw [hV]; exact h)
  rw [show w.alloc (.cells #[.bool false, .slice none 0 0, .bool false, .slice none 0 0] 26) = v2 from hV.symm]
  have KG := Lib.hid (KG.out.trans (hbV.mono KG.out.size))
  clear hV hbV
  go_wp2_with fail
  have CT := Lib.hid (cut_k v2 hs HC.out)
  with_reducible refine CT.out.mono ?_
  rintro e w3 ⟨rfl, hb⟩
  clear CT
  have BX1 := Lib.hid (BX1.out.below hb BX1.out.lt)
  have KG := Lib.hid (KG.out.trans (hb.mono KG.out.size))
  clear hb
  go_wp2_with fail
  have CT := Lib.hid (parse_k w3 HSA HZA.out HA.out)
  with_reducible refine CT.out.mono ?_
  rintro e w4 ⟨x5, rfl, hN6, hb⟩
  have N6 := Lib.hid hN6
  clear hN6
  clear CT
  have BX1 := Lib.hid (BX1.out.below hb BX1.out.lt)
  have KG := Lib.hid (KG.out.trans (hb.mono KG.out.size))
  clear hb
  clear N6
  go_upto_region 5 with (fail)
  obtain ⟨v8, hV⟩ : ∃ V, V = w4.alloc (.cells #[.bool x5.s, .slice x5.a x5.n x5.c] 24) := ⟨_, rfl⟩
  have hbV : Below w4.heap.size w4 v8 := by rw [hV]; exact ((Below.refl _ _).alloc (Nat.le_refl _) _)
  have BX7 := Lib.hid (show Bxs v8 (w4.heap.size) 24 [.bool x5.s, .slice x5.a x5.n x5.c] by have h := Bxs.new (w4) 24 [.bool x5.s, .slice x5.a x5.n x5.c]; rw [hV]; exact h)
  rw [show w4.alloc (.cells #[.bool x5.s, .slice x5.a x5.n x5.c] 24) = v8 from hV.symm]
  have BX1 := Lib.hid (BX1.out.below hbV BX1.out.lt)
  have KG := Lib.hid (KG.out.trans (hbV.mono KG.out.size))
  clear hV hbV
  clear BX7
  go_wp2_with fail
  have CT := Lib.hid (parse_k v8 HSB HZB.out HB2.out)
  with_reducible refine CT.out.mono ?_
  rintro e w9 ⟨x10, rfl, hN11, hb⟩
  have N11 := Lib.hid hN11
  clear hN11
  clear CT
  have BX1 := Lib.hid (BX1.out.below hb BX1.out.lt)
  have KG := Lib.hid (KG.out.trans (hb.mono KG.out.size))
  clear hb
  clear N11
  go_upto_region 6 with (fail)
  obtain ⟨v13, hV⟩ : ∃ V, V = w9.alloc (.cells #[.bool x10.s, .slice x10.a x10.n x10.c] 24) := ⟨_, rfl⟩
  have hbV : Below w9.heap.size w9 v13 := by rw [hV]; exact ((Below.refl _ _).alloc (Nat.le_refl _) _)
  have BX12 := Lib.hid (show Bxs v13 (w9.heap.size) 24 [.bool x10.s, .slice x10.a x10.n x10.c] by have h := Bxs.new (w9) 24 [.bool x10.s, .slice x10.a x10.n x10.c]; rw [hV]; exact h)
  rw [show w9.alloc (.cells #[.bool x10.s, .slice x10.a x10.n x10.c] 24) = v13 from hV.symm]
  have BX1 := Lib.hid (BX1.out.below hbV BX1.out.lt)
  have KG := Lib.hid (KG.out.trans (hbV.mono KG.out.size))
  clear hV hbV
  clear BX12
  have cBX10 := BX1.out.cell (i := 0) rfl
  have cBX11 := BX1.out.cell (i := 1) rfl
  have cBX12 := BX1.out.cell (i := 2) rfl
  have cBX13 := BX1.out.cell (i := 3) rfl
  have cBX1f := BX1.out.fz
  have cBX1l := BX1.out.lt
  go_wp2_with fail
  refine bodyPost_ret (results_ct rfl _ _ _ _ _ _ _ rfl ((((BX1.out.put 0 _).put 1 _).put 2 _).put 3 _) Tryz.underlying26 rfl (by kernel_rfl)) rfl ⟨rfl, (((KG.out.setCell (Nat.le_refl _) _).setCell (Nat.le_refl _) _).setCell (Nat.le_refl _) _).setCell (Nat.le_refl _) _⟩
set_option maxRecDepth 100000 in
set_option maxHeartbeats 8000000 in
theorem qparse_y_a44 {s : ByteArray} {a b : List UInt8} {z1 z2 : Int} (w : World) (hs : s.size ≤ 9223372036854775807) (hcut : Lib.cut s.data.toList [47] = (a, b, true)) (hsz : a.length ≤ 9223372036854775807) (hsb : b.length ≤ 9223372036854775807) (ha : codeT a = 4) (hza : numT a = z1) (hb2 : codeT b = 4) (hzb : numT b = z2) : Calls Tryz.prog 12 #[.string s] w (RFX w 4) := by
  have KG := Lib.hid (Below.refl w.heap.size w)
  have HC := Lib.hid hcut
  have HSA : (ByteArray.mk a.toArray).size ≤ 9223372036854775807 := by show a.toArray.size ≤ _; rw [List.size_toArray]; exact hsz
  have HSB : (ByteArray.mk b.toArray).size ≤ 9223372036854775807 := by show b.toArray.size ≤ _; rw [List.size_toArray]; exact hsb
  have HA := Lib.hid ha
  have HZA := Lib.hid hza
  have LZz1 := Lib.hid (show lenB z1.natAbs ≤ 23 from by rw [← hza]; exact numT_len a)
  have HB2 := Lib.hid hb2
  have HZB := Lib.hid hzb
  have LZz2 := Lib.hid (show lenB z2.natAbs ≤ 23 from by rw [← hzb]; exact numT_len b)
  clear hcut hsz hsb ha hza hb2 hzb
  go_enter Tryz.func12, Tryz.ntmps12
  go_upto_region 1 with (fail)
  obtain ⟨v2, hV⟩ : ∃ V, V = w.alloc (.cells #[.bool false, .slice none 0 0, .bool false, .slice none 0 0] 26) := ⟨_, rfl⟩
  have hbV : Below w.heap.size w v2 := by rw [hV]; exact ((Below.refl _ _).alloc (Nat.le_refl _) _)
  have BX1 := Lib.hid (show Bxs v2 (w.heap.size) 26 [.bool false, .slice none 0 0, .bool false, .slice none 0 0] by have h := Bxs.new (w) 26 [.bool false, .slice none 0 0, .bool false, .slice none 0 0]; rw [hV]; exact h)
  rw [show w.alloc (.cells #[.bool false, .slice none 0 0, .bool false, .slice none 0 0] 26) = v2 from hV.symm]
  have KG := Lib.hid (KG.out.trans (hbV.mono KG.out.size))
  clear hV hbV
  go_wp2_with fail
  have CT := Lib.hid (cut_k v2 hs HC.out)
  with_reducible refine CT.out.mono ?_
  rintro e w3 ⟨rfl, hb⟩
  clear CT
  have BX1 := Lib.hid (BX1.out.below hb BX1.out.lt)
  have KG := Lib.hid (KG.out.trans (hb.mono KG.out.size))
  clear hb
  go_wp2_with fail
  have CT := Lib.hid (parse_k w3 HSA HZA.out HA.out)
  with_reducible refine CT.out.mono ?_
  rintro e w4 ⟨x5, rfl, hN6, hb⟩
  have N6 := Lib.hid hN6
  clear hN6
  clear CT
  have BX1 := Lib.hid (BX1.out.below hb BX1.out.lt)
  have KG := Lib.hid (KG.out.trans (hb.mono KG.out.size))
  clear hb
  clear N6
  go_upto_region 5 with (fail)
  obtain ⟨v8, hV⟩ : ∃ V, V = w4.alloc (.cells #[.bool x5.s, .slice x5.a x5.n x5.c] 24) := ⟨_, rfl⟩
  have hbV : Below w4.heap.size w4 v8 := by rw [hV]; exact ((Below.refl _ _).alloc (Nat.le_refl _) _)
  have BX7 := Lib.hid (show Bxs v8 (w4.heap.size) 24 [.bool x5.s, .slice x5.a x5.n x5.c] by have h := Bxs.new (w4) 24 [.bool x5.s, .slice x5.a x5.n x5.c]; rw [hV]; exact h)
  rw [show w4.alloc (.cells #[.bool x5.s, .slice x5.a x5.n x5.c] 24) = v8 from hV.symm]
  have BX1 := Lib.hid (BX1.out.below hbV BX1.out.lt)
  have KG := Lib.hid (KG.out.trans (hbV.mono KG.out.size))
  clear hV hbV
  clear BX7
  go_wp2_with fail
  have CT := Lib.hid (parse_k v8 HSB HZB.out HB2.out)
  with_reducible refine CT.out.mono ?_
  rintro e w9 ⟨x10, rfl, hN11, hb⟩
  have N11 := Lib.hid hN11
  clear hN11
  clear CT
  have BX1 := Lib.hid (BX1.out.below hb BX1.out.lt)
  have KG := Lib.hid (KG.out.trans (hb.mono KG.out.size))
  clear hb
  clear N11
  go_upto_region 6 with (fail)
  obtain ⟨v13, hV⟩ : ∃ V, V = w9.alloc (.cells #[.bool x10.s, .slice x10.a x10.n x10.c] 24) := ⟨_, rfl⟩
  have hbV : Below w9.heap.size w9 v13 := by rw [hV]; exact ((Below.refl _ _).alloc (Nat.le_refl _) _)
  have BX12 := Lib.hid (show Bxs v13 (w9.heap.size) 24 [.bool x10.s, .slice x10.a x10.n x10.c] by have h := Bxs.new (w9) 24 [.bool x10.s, .slice x10.a x10.n x10.c]; rw [hV]; exact h)
  rw [show w9.alloc (.cells #[.bool x10.s, .slice x10.a x10.n x10.c] 24) = v13 from hV.symm]
  have BX1 := Lib.hid (BX1.out.below hbV BX1.out.lt)
  have KG := Lib.hid (KG.out.trans (hbV.mono KG.out.size))
  clear hV hbV
  clear BX12
  have cBX10 := BX1.out.cell (i := 0) rfl
  have cBX11 := BX1.out.cell (i := 1) rfl
  have cBX12 := BX1.out.cell (i := 2) rfl
  have cBX13 := BX1.out.cell (i := 3) rfl
  have cBX1f := BX1.out.fz
  have cBX1l := BX1.out.lt
  go_wp2_with fail
  refine bodyPost_ret (results_ct rfl _ _ _ _ _ _ _ rfl ((((BX1.out.put 0 _).put 1 _).put 2 _).put 3 _) Tryz.underlying26 rfl (by kernel_rfl)) rfl ⟨rfl, (((KG.out.setCell (Nat.le_refl _) _).setCell (Nat.le_refl _) _).setCell (Nat.le_refl _) _).setCell (Nat.le_refl _) _⟩
set_option maxRecDepth 100000 in
set_option maxHeartbeats 8000000 in
theorem qparse_y_b43 {s : ByteArray} {a b : List UInt8} {z1 z2 : Int} (w : World) (hs : s.size ≤ 9223372036854775807) (hcut : Lib.cut s.data.toList [47] = (a, b, true)) (hsz : a.length ≤ 9223372036854775807) (hsb : b.length ≤ 9223372036854775807) (ha : codeT a = 3) (hza : numT a = z1) (hb2 : codeT b = 4) (hzb : numT b = z2) : Calls Tryz.prog 12 #[.string s] w (RFX w 4) := by
  have KG := Lib.hid (Below.refl w.heap.size w)
  have HC := Lib.hid hcut
  have HSA : (ByteArray.mk a.toArray).size ≤ 9223372036854775807 := by show a.toArray.size ≤ _; rw [List.size_toArray]; exact hsz
  have HSB : (ByteArray.mk b.toArray).size ≤ 9223372036854775807 := by show b.toArray.size ≤ _; rw [List.size_toArray]; exact hsb
  have HA := Lib.hid ha
  have HZA := Lib.hid hza
  have LZz1 := Lib.hid (show lenB z1.natAbs ≤ 23 from by rw [← hza]; exact numT_len a)
  have HB2 := Lib.hid hb2
  have HZB := Lib.hid hzb
  have LZz2 := Lib.hid (show lenB z2.natAbs ≤ 23 from by rw [← hzb]; exact numT_len b)
  clear hcut hsz hsb ha hza hb2 hzb
  go_enter Tryz.func12, Tryz.ntmps12
  go_upto_region 1 with (fail)
  obtain ⟨v2, hV⟩ : ∃ V, V = w.alloc (.cells #[.bool false, .slice none 0 0, .bool false, .slice none 0 0] 26) := ⟨_, rfl⟩
  have hbV : Below w.heap.size w v2 := by rw [hV]; exact ((Below.refl _ _).alloc (Nat.le_refl _) _)
  have BX1 := Lib.hid (show Bxs v2 (w.heap.size) 26 [.bool false, .slice none 0 0, .bool false, .slice none 0 0] by have h := Bxs.new (w) 26 [.bool false, .slice none 0 0, .bool false, .slice none 0 0]; rw [hV]; exact h)
  rw [show w.alloc (.cells #[.bool false, .slice none 0 0, .bool false, .slice none 0 0] 26) = v2 from hV.symm]
  have KG := Lib.hid (KG.out.trans (hbV.mono KG.out.size))
  clear hV hbV
  go_wp2_with fail
  have CT := Lib.hid (cut_k v2 hs HC.out)
  with_reducible refine CT.out.mono ?_
  rintro e w3 ⟨rfl, hb⟩
  clear CT
  have BX1 := Lib.hid (BX1.out.below hb BX1.out.lt)
  have KG := Lib.hid (KG.out.trans (hb.mono KG.out.size))
  clear hb
  go_wp2_with fail
  have CT := Lib.hid (parse_k w3 HSA HZA.out HA.out)
  with_reducible refine CT.out.mono ?_
  rintro e w4 ⟨x5, rfl, hN6, hb⟩
  have N6 := Lib.hid hN6
  clear hN6
  clear CT
  have BX1 := Lib.hid (BX1.out.below hb BX1.out.lt)
  have KG := Lib.hid (KG.out.trans (hb.mono KG.out.size))
  clear hb
  clear N6
  go_upto_region 5 with (fail)
  obtain ⟨v8, hV⟩ : ∃ V, V = w4.alloc (.cells #[.bool x5.s, .slice x5.a x5.n x5.c] 24) := ⟨_, rfl⟩
  have hbV : Below w4.heap.size w4 v8 := by rw [hV]; exact ((Below.refl _ _).alloc (Nat.le_refl _) _)
  have BX7 := Lib.hid (show Bxs v8 (w4.heap.size) 24 [.bool x5.s, .slice x5.a x5.n x5.c] by have h := Bxs.new (w4) 24 [.bool x5.s, .slice x5.a x5.n x5.c]; rw [hV]; exact h)
  rw [show w4.alloc (.cells #[.bool x5.s, .slice x5.a x5.n x5.c] 24) = v8 from hV.symm]
  have BX1 := Lib.hid (BX1.out.below hbV BX1.out.lt)
  have KG := Lib.hid (KG.out.trans (hbV.mono KG.out.size))
  clear hV hbV
  clear BX7
  go_wp2_with fail
  have CT := Lib.hid (parse_k v8 HSB HZB.out HB2.out)
  with_reducible refine CT.out.mono ?_
  rintro e w9 ⟨x10, rfl, hN11, hb⟩
  have N11 := Lib.hid hN11
  clear hN11
  clear CT
  have BX1 := Lib.hid (BX1.out.below hb BX1.out.lt)
  have KG := Lib.hid (KG.out.trans (hb.mono KG.out.size))
  clear hb
  clear N11
  go_upto_region 6 with (fail)
  obtain ⟨v13, hV⟩ : ∃ V, V = w9.alloc (.cells #[.bool x10.s, .slice x10.a x10.n x10.c] 24) := ⟨_, rfl⟩
  have hbV : Below w9.heap.size w9 v13 := by rw [hV]; exact ((Below.refl _ _).alloc (Nat.le_refl _) _)
  have BX12 := Lib.hid (show Bxs v13 (w9.heap.size) 24 [.bool x10.s, .slice x10.a x10.n x10.c] by have h := Bxs.new (w9) 24 [.bool x10.s, .slice x10.a x10.n x10.c]; rw [hV]; exact h)
  rw [show w9.alloc (.cells #[.bool x10.s, .slice x10.a x10.n x10.c] 24) = v13 from hV.symm]
  have BX1 := Lib.hid (BX1.out.below hbV BX1.out.lt)
  have KG := Lib.hid (KG.out.trans (hbV.mono KG.out.size))
  clear hV hbV
  clear BX12
  have cBX10 := BX1.out.cell (i := 0) rfl
  have cBX11 := BX1.out.cell (i := 1) rfl
  have cBX12 := BX1.out.cell (i := 2) rfl
  have cBX13 := BX1.out.cell (i := 3) rfl
  have cBX1f := BX1.out.fz
  have cBX1l := BX1.out.lt
  go_wp2_with fail
  refine bodyPost_ret (results_ct rfl _ _ _ _ _ _ _ rfl ((((BX1.out.put 0 _).put 1 _).put 2 _).put 3 _) Tryz.underlying26 rfl (by kernel_rfl)) rfl ⟨rfl, (((KG.out.setCell (Nat.le_refl _) _).setCell (Nat.le_refl _) _).setCell (Nat.le_refl _) _).setCell (Nat.le_refl _) _⟩
set_option maxRecDepth 100000 in
set_option maxHeartbeats 8000000 in
theorem qparse_y_neg03 {s : ByteArray} {a b : List UInt8} {z1 z2 : Int} (w : World) (hs : s.size ≤ 9223372036854775807) (hcut : Lib.cut s.data.toList [47] = (a, b, true)) (hsz : a.length ≤ 9223372036854775807) (hsb : b.length ≤ 9223372036854775807) (ha : codeT a = 0) (hza : numT a = z1) (hb2 : codeT b = 3) (hzb : numT b = z2) (hneg : ∃ r, b = 45 :: r) : Calls Tryz.prog 12 #[.string s] w (RFX w 4) := by
  have KG := Lib.hid (Below.refl w.heap.size w)
  have HC := Lib.hid hcut
  have HSA : (ByteArray.mk a.toArray).size ≤ 9223372036854775807 := by show a.toArray.size ≤ _; rw [List.size_toArray]; exact hsz
  have HSB : (ByteArray.mk b.toArray).size ≤ 9223372036854775807 := by show b.toArray.size ≤ _; rw [List.size_toArray]; exact hsb
  have HA := Lib.hid ha
  have HZA := Lib.hid hza
  have LZz1 := Lib.hid (show lenB z1.natAbs ≤ 23 from by rw [← hza]; exact numT_len a)
  have HB2 := Lib.hid hb2
  have HZB := Lib.hid hzb
  have LZz2 := Lib.hid (show lenB z2.natAbs ≤ 23 from by rw [← hzb]; exact numT_len b)
  have hp0 : 0 < (ByteArray.mk b.toArray).size := by obtain ⟨r, rfl⟩ := hneg; exact Nat.succ_pos _
  have hp1 : (((ByteArray.mk b.toArray)[0]'hp0).toNat : Int) = 45 := by obtain ⟨r, rfl⟩ := hneg; rfl
  clear hcut hsz hsb ha hza hb2 hzb hneg
  go_enter Tryz.func12, Tryz.ntmps12
  go_upto_region 1 with (fail)
  obtain ⟨v2, hV⟩ : ∃ V, V = w.alloc (.cells #[.bool false, .slice none 0 0, .bool false, .slice none 0 0] 26) := ⟨_, rfl⟩
  have hbV : Below w.heap.size w v2 := by rw [hV]; exact ((Below.refl _ _).alloc (Nat.le_refl _) _)
  have BX1 := Lib.hid (show Bxs v2 (w.heap.size) 26 [.bool false, .slice none 0 0, .bool false, .slice none 0 0] by have h := Bxs.new (w) 26 [.bool false, .slice none 0 0, .bool false, .slice none 0 0]; rw [hV]; exact h)
  rw [show w.alloc (.cells #[.bool false, .slice none 0 0, .bool false, .slice none 0 0] 26) = v2 from hV.symm]
  have KG := Lib.hid (KG.out.trans (hbV.mono KG.out.size))
  clear hV hbV
  go_wp2_with fail
  have CT := Lib.hid (cut_k v2 hs HC.out)
  with_reducible refine CT.out.mono ?_
  rintro e w3 ⟨rfl, hb⟩
  clear CT
  have BX1 := Lib.hid (BX1.out.below hb BX1.out.lt)
  have KG := Lib.hid (KG.out.trans (hb.mono KG.out.size))
  clear hb
  go_wp2_with fail
  have CT := Lib.hid (parse_k w3 HSA HZA.out HA.out)
  with_reducible refine CT.out.mono ?_
  rintro e w4 ⟨x5, rfl, hN6, hb⟩
  have N6 := Lib.hid hN6
  clear hN6
  clear CT
  have BX1 := Lib.hid (BX1.out.below hb BX1.out.lt)
  have KG := Lib.hid (KG.out.trans (hb.mono KG.out.size))
  clear hb
  clear N6
  go_upto_region 5 with (fail)
  obtain ⟨v8, hV⟩ : ∃ V, V = w4.alloc (.cells #[.bool x5.s, .slice x5.a x5.n x5.c] 24) := ⟨_, rfl⟩
  have hbV : Below w4.heap.size w4 v8 := by rw [hV]; exact ((Below.refl _ _).alloc (Nat.le_refl _) _)
  have BX7 := Lib.hid (show Bxs v8 (w4.heap.size) 24 [.bool x5.s, .slice x5.a x5.n x5.c] by have h := Bxs.new (w4) 24 [.bool x5.s, .slice x5.a x5.n x5.c]; rw [hV]; exact h)
  rw [show w4.alloc (.cells #[.bool x5.s, .slice x5.a x5.n x5.c] 24) = v8 from hV.symm]
  have BX1 := Lib.hid (BX1.out.below hbV BX1.out.lt)
  have KG := Lib.hid (KG.out.trans (hbV.mono KG.out.size))
  clear hV hbV
  clear BX7
  go_wp2_with fail
  have CT := Lib.hid (parse_k v8 HSB HZB.out HB2.out)
  with_reducible refine CT.out.mono ?_
  rintro e w9 ⟨x10, rfl, hN11, hb⟩
  have N11 := Lib.hid hN11
  clear hN11
  clear CT
  have BX1 := Lib.hid (BX1.out.below hb BX1.out.lt)
  have KG := Lib.hid (KG.out.trans (hb.mono KG.out.size))
  clear hb
  clear N11
  go_upto_region 6 with (fail)
  obtain ⟨v13, hV⟩ : ∃ V, V = w9.alloc (.cells #[.bool x10.s, .slice x10.a x10.n x10.c] 24) := ⟨_, rfl⟩
  have hbV : Below w9.heap.size w9 v13 := by rw [hV]; exact ((Below.refl _ _).alloc (Nat.le_refl _) _)
  have BX12 := Lib.hid (show Bxs v13 (w9.heap.size) 24 [.bool x10.s, .slice x10.a x10.n x10.c] by have h := Bxs.new (w9) 24 [.bool x10.s, .slice x10.a x10.n x10.c]; rw [hV]; exact h)
  rw [show w9.alloc (.cells #[.bool x10.s, .slice x10.a x10.n x10.c] 24) = v13 from hV.symm]
  have BX1 := Lib.hid (BX1.out.below hbV BX1.out.lt)
  have KG := Lib.hid (KG.out.trans (hbV.mono KG.out.size))
  clear hV hbV
  clear BX12
  have cBX10 := BX1.out.cell (i := 0) rfl
  have cBX11 := BX1.out.cell (i := 1) rfl
  have cBX12 := BX1.out.cell (i := 2) rfl
  have cBX13 := BX1.out.cell (i := 3) rfl
  have cBX1f := BX1.out.fz
  have cBX1l := BX1.out.lt
  go_wp2_with fail
  refine bodyPost_ret (results_ct rfl _ _ _ _ _ _ _ rfl ((((BX1.out.put 0 _).put 1 _).put 2 _).put 3 _) Tryz.underlying26 rfl (by kernel_rfl)) rfl ⟨rfl, (((KG.out.setCell (Nat.le_refl _) _).setCell (Nat.le_refl _) _).setCell (Nat.le_refl _) _).setCell (Nat.le_refl _) _⟩
set_option maxRecDepth 100000 in
set_option maxHeartbeats 8000000 in
theorem qparse_y_neg30 {s : ByteArray} {a b : List UInt8} {z1 z2 : Int} (w : World) (hs : s.size ≤ 9223372036854775807) (hcut : Lib.cut s.data.toList [47] = (a, b, true)) (hsz : a.length ≤ 9223372036854775807) (hsb : b.length ≤ 9223372036854775807) (ha : codeT a = 3) (hza : numT a = z1) (hb2 : codeT b = 0) (hzb : numT b = z2) (hneg : ∃ r, b = 45 :: r) : Calls Tryz.prog 12 #[.string s] w (RFX w 4) := by
  have KG := Lib.hid (Below.refl w.heap.size w)
  have HC := Lib.hid hcut
  have HSA : (ByteArray.mk a.toArray).size ≤ 9223372036854775807 := by show a.toArray.size ≤ _; rw [List.size_toArray]; exact hsz
  have HSB : (ByteArray.mk b.toArray).size ≤ 9223372036854775807 := by show b.toArray.size ≤ _; rw [List.size_toArray]; exact hsb
  have HA := Lib.hid ha
  have HZA := Lib.hid hza
  have LZz1 := Lib.hid (show lenB z1.natAbs ≤ 23 from by rw [← hza]; exact numT_len a)
  have HB2 := Lib.hid hb2
  have HZB := Lib.hid hzb
  have LZz2 := Lib.hid (show lenB z2.natAbs ≤ 23 from by rw [← hzb]; exact numT_len b)
  have hp0 : 0 < (ByteArray.mk b.toArray).size := by obtain ⟨r, rfl⟩ := hneg; exact Nat.succ_pos _
  have hp1 : (((ByteArray.mk b.toArray)[0]'hp0).toNat : Int) = 45 := by obtain ⟨r, rfl⟩ := hneg; rfl
  clear hcut hsz hsb ha hza hb2 hzb hneg
  go_enter Tryz.func12, Tryz.ntmps12
  go_upto_region 1 with (fail)
  obtain ⟨v2, hV⟩ : ∃ V, V = w.alloc (.cells #[.bool false, .slice none 0 0, .bool false, .slice none 0 0] 26) := ⟨_, rfl⟩
  have hbV : Below w.heap.size w v2 := by rw [hV]; exact ((Below.refl _ _).alloc (Nat.le_refl _) _)
  have BX1 := Lib.hid (show Bxs v2 (w.heap.size) 26 [.bool false, .slice none 0 0, .bool false, .slice none 0 0] by have h := Bxs.new (w) 26 [.bool false, .slice none 0 0, .bool false, .slice none 0 0]; rw [hV]; exact h)
  rw [show w.alloc (.cells #[.bool false, .slice none 0 0, .bool false, .slice none 0 0] 26) = v2 from hV.symm]
  have KG := Lib.hid (KG.out.trans (hbV.mono KG.out.size))
  clear hV hbV
  go_wp2_with fail
  have CT := Lib.hid (cut_k v2 hs HC.out)
  with_reducible refine CT.out.mono ?_
  rintro e w3 ⟨rfl, hb⟩
  clear CT
  have BX1 := Lib.hid (BX1.out.below hb BX1.out.lt)
  have KG := Lib.hid (KG.out.trans (hb.mono KG.out.size))
  clear hb
  go_wp2_with fail
  have CT := Lib.hid (parse_k w3 HSA HZA.out HA.out)
  with_reducible refine CT.out.mono ?_
  rintro e w4 ⟨x5, rfl, hN6, hb⟩
  have N6 := Lib.hid hN6
  clear hN6
  clear CT
  have BX1 := Lib.hid (BX1.out.below hb BX1.out.lt)
  have KG := Lib.hid (KG.out.trans (hb.mono KG.out.size))
  clear hb
  clear N6
  go_upto_region 5 with (fail)
  obtain ⟨v8, hV⟩ : ∃ V, V = w4.alloc (.cells #[.bool x5.s, .slice x5.a x5.n x5.c] 24) := ⟨_, rfl⟩
  have hbV : Below w4.heap.size w4 v8 := by rw [hV]; exact ((Below.refl _ _).alloc (Nat.le_refl _) _)
  have BX7 := Lib.hid (show Bxs v8 (w4.heap.size) 24 [.bool x5.s, .slice x5.a x5.n x5.c] by have h := Bxs.new (w4) 24 [.bool x5.s, .slice x5.a x5.n x5.c]; rw [hV]; exact h)
  rw [show w4.alloc (.cells #[.bool x5.s, .slice x5.a x5.n x5.c] 24) = v8 from hV.symm]
  have BX1 := Lib.hid (BX1.out.below hbV BX1.out.lt)
  have KG := Lib.hid (KG.out.trans (hbV.mono KG.out.size))
  clear hV hbV
  clear BX7
  go_wp2_with fail
  have CT := Lib.hid (parse_k v8 HSB HZB.out HB2.out)
  with_reducible refine CT.out.mono ?_
  rintro e w9 ⟨x10, rfl, hN11, hb⟩
  have N11 := Lib.hid hN11
  clear hN11
  clear CT
  have BX1 := Lib.hid (BX1.out.below hb BX1.out.lt)
  have KG := Lib.hid (KG.out.trans (hb.mono KG.out.size))
  clear hb
  clear N11
  go_upto_region 6 with (fail)
  obtain ⟨v13, hV⟩ : ∃ V, V = w9.alloc (.cells #[.bool x10.s, .slice x10.a x10.n x10.c] 24) := ⟨_, rfl⟩
  have hbV : Below w9.heap.size w9 v13 := by rw [hV]; exact ((Below.refl _ _).alloc (Nat.le_refl _) _)
  have BX12 := Lib.hid (show Bxs v13 (w9.heap.size) 24 [.bool x10.s, .slice x10.a x10.n x10.c] by have h := Bxs.new (w9) 24 [.bool x10.s, .slice x10.a x10.n x10.c]; rw [hV]; exact h)
  rw [show w9.alloc (.cells #[.bool x10.s, .slice x10.a x10.n x10.c] 24) = v13 from hV.symm]
  have BX1 := Lib.hid (BX1.out.below hbV BX1.out.lt)
  have KG := Lib.hid (KG.out.trans (hbV.mono KG.out.size))
  clear hV hbV
  clear BX12
  have cBX10 := BX1.out.cell (i := 0) rfl
  have cBX11 := BX1.out.cell (i := 1) rfl
  have cBX12 := BX1.out.cell (i := 2) rfl
  have cBX13 := BX1.out.cell (i := 3) rfl
  have cBX1f := BX1.out.fz
  have cBX1l := BX1.out.lt
  go_wp2_with fail
  refine bodyPost_ret (results_ct rfl _ _ _ _ _ _ _ rfl ((((BX1.out.put 0 _).put 1 _).put 2 _).put 3 _) Tryz.underlying26 rfl (by kernel_rfl)) rfl ⟨rfl, (((KG.out.setCell (Nat.le_refl _) _).setCell (Nat.le_refl _) _).setCell (Nat.le_refl _) _).setCell (Nat.le_refl _) _⟩
set_option maxRecDepth 100000 in
set_option maxHeartbeats 8000000 in
theorem qparse_y_neg33 {s : ByteArray} {a b : List UInt8} {z1 z2 : Int} (w : World) (hs : s.size ≤ 9223372036854775807) (hcut : Lib.cut s.data.toList [47] = (a, b, true)) (hsz : a.length ≤ 9223372036854775807) (hsb : b.length ≤ 9223372036854775807) (ha : codeT a = 3) (hza : numT a = z1) (hb2 : codeT b = 3) (hzb : numT b = z2) (hneg : ∃ r, b = 45 :: r) : Calls Tryz.prog 12 #[.string s] w (RFX w 4) := by
  have KG := Lib.hid (Below.refl w.heap.size w)
  have HC := Lib.hid hcut
  have HSA : (ByteArray.mk a.toArray).size ≤ 9223372036854775807 := by show a.toArray.size ≤ _; rw [List.size_toArray]; exact hsz
  have HSB : (ByteArray.mk b.toArray).size ≤ 9223372036854775807 := by show b.toArray.size ≤ _; rw [List.size_toArray]; exact hsb
  have HA := Lib.hid ha
  have HZA := Lib.hid hza
  have LZz1 := Lib.hid (show lenB z1.natAbs ≤ 23 from by rw [← hza]; exact numT_len a)
  have HB2 := Lib.hid hb2
  have HZB := Lib.hid hzb
  have LZz2 := Lib.hid (show lenB z2.natAbs ≤ 23 from by rw [← hzb]; exact numT_len b)
  have hp0 : 0 < (ByteArray.mk b.toArray).size := by obtain ⟨r, rfl⟩ := hneg; exact Nat.succ_pos _
  have hp1 : (((ByteArray.mk b.toArray)[0]'hp0).toNat : Int) = 45 := by obtain ⟨r, rfl⟩ := hneg; rfl
  clear hcut hsz hsb ha hza hb2 hzb hneg
  go_enter Tryz.func12, Tryz.ntmps12
  go_upto_region 1 with (fail)
  obtain ⟨v2, hV⟩ : ∃ V, V = w.alloc (.cells #[.bool false, .slice none 0 0, .bool false, .slice none 0 0] 26) := ⟨_, rfl⟩
  have hbV : Below w.heap.size w v2 := by rw [hV]; exact ((Below.refl _ _).alloc (Nat.le_refl _) _)
  have BX1 := Lib.hid (show Bxs v2 (w.heap.size) 26 [.bool false, .slice none 0 0, .bool false, .slice none 0 0] by have h := Bxs.new (w) 26 [.bool false, .slice none 0 0, .bool false, .slice none 0 0]; rw [hV]; exact h)
  rw [show w.alloc (.cells #[.bool false, .slice none 0 0, .bool false, .slice none 0 0] 26) = v2 from hV.symm]
  have KG := Lib.hid (KG.out.trans (hbV.mono KG.out.size))
  clear hV hbV
  go_wp2_with fail
  have CT := Lib.hid (cut_k v2 hs HC.out)
  with_reducible refine CT.out.mono ?_
  rintro e w3 ⟨rfl, hb⟩
  clear CT
  have BX1 := Lib.hid (BX1.out.below hb BX1.out.lt)
  have KG := Lib.hid (KG.out.trans (hb.mono KG.out.size))
  clear hb
  go_wp2_with fail
  have CT := Lib.hid (parse_k w3 HSA HZA.out HA.out)
  with_reducible refine CT.out.mono ?_
  rintro e w4 ⟨x5, rfl, hN6, hb⟩
  have N6 := Lib.hid hN6
  clear hN6
  clear CT
  have BX1 := Lib.hid (BX1.out.below hb BX1.out.lt)
  have KG := Lib.hid (KG.out.trans (hb.mono KG.out.size))
  clear hb
  clear N6
  go_upto_region 5 with (fail)
  obtain ⟨v8, hV⟩ : ∃ V, V = w4.alloc (.cells #[.bool x5.s, .slice x5.a x5.n x5.c] 24) := ⟨_, rfl⟩
  have hbV : Below w4.heap.size w4 v8 := by rw [hV]; exact ((Below.refl _ _).alloc (Nat.le_refl _) _)
  have BX7 := Lib.hid (show Bxs v8 (w4.heap.size) 24 [.bool x5.s, .slice x5.a x5.n x5.c] by have h := Bxs.new (w4) 24 [.bool x5.s, .slice x5.a x5.n x5.c]; rw [hV]; exact h)
  rw [show w4.alloc (.cells #[.bool x5.s, .slice x5.a x5.n x5.c] 24) = v8 from hV.symm]
  have BX1 := Lib.hid (BX1.out.below hbV BX1.out.lt)
  have KG := Lib.hid (KG.out.trans (hbV.mono KG.out.size))
  clear hV hbV
  clear BX7
  go_wp2_with fail
  have CT := Lib.hid (parse_k v8 HSB HZB.out HB2.out)
  with_reducible refine CT.out.mono ?_
  rintro e w9 ⟨x10, rfl, hN11, hb⟩
  have N11 := Lib.hid hN11
  clear hN11
  clear CT
  have BX1 := Lib.hid (BX1.out.below hb BX1.out.lt)
  have KG := Lib.hid (KG.out.trans (hb.mono KG.out.size))
  clear hb
  clear N11
  go_upto_region 6 with (fail)
  obtain ⟨v13, hV⟩ : ∃ V, V = w9.alloc (.cells #[.bool x10.s, .slice x10.a x10.n x10.c] 24) := ⟨_, rfl⟩
  have hbV : Below w9.heap.size w9 v13 := by rw [hV]; exact ((Below.refl _ _).alloc (Nat.le_refl _) _)
  have BX12 := Lib.hid (show Bxs v13 (w9.heap.size) 24 [.bool x10.s, .slice x10.a x10.n x10.c] by have h := Bxs.new (w9) 24 [.bool x10.s, .slice x10.a x10.n x10.c]; rw [hV]; exact h)
  rw [show w9.alloc (.cells #[.bool x10.s, .slice x10.a x10.n x10.c] 24) = v13 from hV.symm]
  have BX1 := Lib.hid (BX1.out.below hbV BX1.out.lt)
  have KG := Lib.hid (KG.out.trans (hbV.mono KG.out.size))
  clear hV hbV
  clear BX12
  have cBX10 := BX1.out.cell (i := 0) rfl
  have cBX11 := BX1.out.cell (i := 1) rfl
  have cBX12 := BX1.out.cell (i := 2) rfl
  have cBX13 := BX1.out.cell (i := 3) rfl
  have cBX1f := BX1.out.fz
  have cBX1l := BX1.out.lt
  go_wp2_with fail
  refine bodyPost_ret (results_ct rfl _ _ _ _ _ _ _ rfl ((((BX1.out.put 0 _).put 1 _).put 2 _).put 3 _) Tryz.underlying26 rfl (by kernel_rfl)) rfl ⟨rfl, (((KG.out.setCell (Nat.le_refl _) _).setCell (Nat.le_refl _) _).setCell (Nat.le_refl _) _).setCell (Nat.le_refl _) _⟩
set_option maxRecDepth 100000 in
set_option maxHeartbeats 8000000 in
theorem qparse_y_one3 {s : ByteArray} {a b : List UInt8} {z1 z2 : Int} (w : World) (hs : s.size ≤ 9223372036854775807) (hcut : Lib.cut s.data.toList [47] = (a, b, true)) (hsz : a.length ≤ 9223372036854775807) (hsb : b.length ≤ 9223372036854775807) (ha : codeT a = 3) (hza : numT a = z1) (hb2 : codeT b = 0) (hzb : numT b = z2) (hpos : ∃ x r, b = x :: r ∧ x ≠ 45) (hone : b = [48]) : Calls Tryz.prog 12 #[.string s] w (RFX w 4) := by
  have KG := Lib.hid (Below.refl w.heap.size w)
  have HC := Lib.hid hcut
  have HSA : (ByteArray.mk a.toArray).size ≤ 9223372036854775807 := by show a.toArray.size ≤ _; rw [List.size_toArray]; exact hsz
  have HSB : (ByteArray.mk b.toArray).size ≤ 9223372036854775807 := by show b.toArray.size ≤ _; rw [List.size_toArray]; exact hsb
  have HA := Lib.hid ha
  have HZA := Lib.hid hza
  have LZz1 := Lib.hid (show lenB z1.natAbs ≤ 23 from by rw [← hza]; exact numT_len a)
  have HB2 := Lib.hid hb2
  have HZB := Lib.hid hzb
  have LZz2 := Lib.hid (show lenB z2.natAbs ≤ 23 from by rw [← hzb]; exact numT_len b)
  have hp0 : 0 < (ByteArray.mk b.toArray).size := by obtain ⟨x, r, rfl, h⟩ := hpos; exact Nat.succ_pos _
  have hp1 : ¬ (((ByteArray.mk b.toArray)[0]'hp0).toNat : Int) = 45 := by obtain ⟨x, r, rfl, h⟩ := hpos; exact fun h2 => h (UInt8.toNat_inj.1 (Int.ofNat_inj.1 h2))
  have hp2 : (b == [48]) = true := by rw [hone]; rfl
  clear hcut hsz hsb ha hza hb2 hzb hpos hone
  go_enter Tryz.func12, Tryz.ntmps12
  go_upto_region 1 with (fail)
  obtain ⟨v2, hV⟩ : ∃ V, V = w.alloc (.cells #[.bool false, .slice none 0 0, .bool false, .slice none 0 0] 26) := ⟨_, rfl⟩
  have hbV : Below w.heap.size w v2 := by rw [hV]; exact ((Below.refl _ _).alloc (Nat.le_refl _) _)
  have BX1 := Lib.hid (show Bxs v2 (w.heap.size) 26 [.bool false, .slice none 0 0, .bool false, .slice none 0 0] by have h := Bxs.new (w) 26 [.bool false, .slice none 0 0, .bool false, .slice none 0 0]; rw [hV]; exact h)
  rw [show w.alloc (.cells #[.bool false, .slice none 0 0, .bool false, .slice none 0 0] 26) = v2 from hV.symm]
  have KG := Lib.hid (KG.out.trans (hbV.mono KG.out.size))
  clear hV hbV
  go_wp2_with fail
  have CT := Lib.hid (cut_k v2 hs HC.out)
  with_reducible refine CT.out.mono ?_
  rintro e w3 ⟨rfl, hb⟩
  clear CT
  have BX1 := Lib.hid (BX1.out.below hb BX1.out.lt)
  have KG := Lib.hid (KG.out.trans (hb.mono KG.out.size))
  clear hb
  go_wp2_with fail
  have CT := Lib.hid (parse_k w3 HSA HZA.out HA.out)
  with_reducible refine CT.out.mono ?_
  rintro e w4 ⟨x5, rfl, hN6, hb⟩
  have N6 := Lib.hid hN6
  clear hN6
  clear CT
  have BX1 := Lib.hid (BX1.out.below hb BX1.out.lt)
  have KG := Lib.hid (KG.out.trans (hb.mono KG.out.size))
  clear hb
  clear N6
  go_upto_region 5 with (fail)
  obtain ⟨v8, hV⟩ : ∃ V, V = w4.alloc (.cells #[.bool x5.s, .slice x5.a x5.n x5.c] 24) := ⟨_, rfl⟩
  have hbV : Below w4.heap.size w4 v8 := by rw [hV]; exact ((Below.refl _ _).alloc (Nat.le_refl _) _)
  have BX7 := Lib.hid (show Bxs v8 (w4.heap.size) 24 [.bool x5.s, .slice x5.a x5.n x5.c] by have h := Bxs.new (w4) 24 [.bool x5.s, .slice x5.a x5.n x5.c]; rw [hV]; exact h)
  rw [show w4.alloc (.cells #[.bool x5.s, .slice x5.a x5.n x5.c] 24) = v8 from hV.symm]
  have BX1 := Lib.hid (BX1.out.below hbV BX1.out.lt)
  have KG := Lib.hid (KG.out.trans (hbV.mono KG.out.size))
  clear hV hbV
  clear BX7
  go_wp2_with fail
  have CT := Lib.hid (parse_k v8 HSB HZB.out HB2.out)
  with_reducible refine CT.out.mono ?_
  rintro e w9 ⟨x10, rfl, hN11, hb⟩
  have N11 := Lib.hid hN11
  clear hN11
  clear CT
  have BX1 := Lib.hid (BX1.out.below hb BX1.out.lt)
  have KG := Lib.hid (KG.out.trans (hb.mono KG.out.size))
  clear hb
  clear N11
  go_upto_region 6 with (fail)
  obtain ⟨v13, hV⟩ : ∃ V, V = w9.alloc (.cells #[.bool x10.s, .slice x10.a x10.n x10.c] 24) := ⟨_, rfl⟩
  have hbV : Below w9.heap.size w9 v13 := by rw [hV]; exact ((Below.refl _ _).alloc (Nat.le_refl _) _)
  have BX12 := Lib.hid (show Bxs v13 (w9.heap.size) 24 [.bool x10.s, .slice x10.a x10.n x10.c] by have h := Bxs.new (w9) 24 [.bool x10.s, .slice x10.a x10.n x10.c]; rw [hV]; exact h)
  rw [show w9.alloc (.cells #[.bool x10.s, .slice x10.a x10.n x10.c] 24) = v13 from hV.symm]
  have BX1 := Lib.hid (BX1.out.below hbV BX1.out.lt)
  have KG := Lib.hid (KG.out.trans (hbV.mono KG.out.size))
  clear hV hbV
  clear BX12
  have cBX10 := BX1.out.cell (i := 0) rfl
  have cBX11 := BX1.out.cell (i := 1) rfl
  have cBX12 := BX1.out.cell (i := 2) rfl
  have cBX13 := BX1.out.cell (i := 3) rfl
  have cBX1f := BX1.out.fz
  have cBX1l := BX1.out.lt
  go_wp2_with fail
  refine bodyPost_ret (results_ct rfl _ _ _ _ _ _ _ rfl ((((BX1.out.put 0 _).put 1 _).put 2 _).put 3 _) Tryz.underlying26 rfl (by kernel_rfl)) rfl ⟨rfl, (((KG.out.setCell (Nat.le_refl _) _).setCell (Nat.le_refl _) _).setCell (Nat.le_refl _) _).setCell (Nat.le_refl _) _⟩
set_option maxRecDepth 100000 in
set_option maxHeartbeats 8000000 in
theorem qparse_y_33 {s : ByteArray} {a b : List UInt8} {z1 z2 : Int} (w : World) (hs : s.size ≤ 9223372036854775807) (hcut : Lib.cut s.data.toList [47] = (a, b, true)) (hsz : a.length ≤ 9223372036854775807) (hsb : b.length ≤ 9223372036854775807) (ha : codeT a = 3) (hza : numT a = z1) (hb2 : codeT b = 3) (hzb : numT b = z2) (hpos : ∃ x r, b = x :: r ∧ x ≠ 45) (hone : b ≠ [48]) : Calls Tryz.prog 12 #[.string s] w (RFX w 3) := by
  have KG := Lib.hid (Below.refl w.heap.size w)
  have HC := Lib.hid hcut
  have HSA : (ByteArray.mk a.toArray).size ≤ 9223372036854775807 := by show a.toArray.size ≤ _; rw [List.size_toArray]; exact hsz
  have HSB : (ByteArray.mk b.toArray).size ≤ 9223372036854775807 := by show b.toArray.size ≤ _; rw [List.size_toArray]; exact hsb
  have HA := Lib.hid ha
  have HZA := Lib.hid hza
  have LZz1 := Lib.hid (show lenB z1.natAbs ≤ 23 from by rw [← hza]; exact numT_len a)
  have HB2 := Lib.hid hb2
  have HZB := Lib.hid hzb
  have LZz2 := Lib.hid (show lenB z2.natAbs ≤ 23 from by rw [← hzb]; exact numT_len b)
  have hp0 : 0 < (ByteArray.mk b.toArray).size := by obtain ⟨x, r, rfl, h⟩ := hpos; exact Nat.succ_pos _
  have hp1 : ¬ (((ByteArray.mk b.toArray)[0]'hp0).toNat : Int) = 45 := by obtain ⟨x, r, rfl, h⟩ := hpos; exact fun h2 => h (UInt8.toNat_inj.1 (Int.ofNat_inj.1 h2))
  have hp2 : (b == [48]) = false := beq_eq_false_iff_ne.2 hone
  clear hcut hsz hsb ha hza hb2 hzb hpos hone
  go_enter Tryz.func12, Tryz.ntmps12
  go_upto_region 1 with (fail)
  obtain ⟨v2, hV⟩ : ∃ V, V = w.alloc (.cells #[.bool false, .slice none 0 0, .bool false, .slice none 0 0] 26) := ⟨_, rfl⟩
  have hbV : Below w.heap.size w v2 := by rw [hV]; exact ((Below.refl _ _).alloc (Nat.le_refl _) _)
  have BX1 := Lib.hid (show Bxs v2 (w.heap.size) 26 [.bool false, .slice none 0 0, .bool false, .slice none 0 0] by have h := Bxs.new (w) 26 [.bool false, .slice none 0 0, .bool false, .slice none 0 0]; rw [hV]; exact h)
  rw [show w.alloc (.cells #[.bool false, .slice none 0 0, .bool false, .slice none 0 0] 26) = v2 from hV.symm]
  have KG := Lib.hid (KG.out.trans (hbV.mono KG.out.size))
  clear hV hbV
  go_wp2_with fail
  have CT := Lib.hid (cut_k v2 hs HC.out)
  with_reducible refine CT.out.mono ?_
  rintro e w3 ⟨rfl, hb⟩
  clear CT
  have BX1 := Lib.hid (BX1.out.below hb BX1.out.lt)
  have KG := Lib.hid (KG.out.trans (hb.mono KG.out.size))
  clear hb
  go_wp2_with fail
  have CT := Lib.hid (parse_k w3 HSA HZA.out HA.out)
  with_reducible refine CT.out.mono ?_
  rintro e w4 ⟨x5, rfl, hN6, hb⟩
  have N6 := Lib.hid hN6
  clear hN6
  clear CT
  have BX1 := Lib.hid (BX1.out.below hb BX1.out.lt)
  have KG := Lib.hid (KG.out.trans (hb.mono KG.out.size))
  clear hb
  clear N6
  go_upto_region 5 with (fail)
  obtain ⟨v8, hV⟩ : ∃ V, V = w4.alloc (.cells #[.bool x5.s, .slice x5.a x5.n x5.c] 24) := ⟨_, rfl⟩
  have hbV : Below w4.heap.size w4 v8 := by rw [hV]; exact ((Below.refl _ _).alloc (Nat.le_refl _) _)
  have BX7 := Lib.hid (show Bxs v8 (w4.heap.size) 24 [.bool x5.s, .slice x5.a x5.n x5.c] by have h := Bxs.new (w4) 24 [.bool x5.s, .slice x5.a x5.n x5.c]; rw [hV]; exact h)
  rw [show w4.alloc (.cells #[.bool x5.s, .slice x5.a x5.n x5.c] 24) = v8 from hV.symm]
  have BX1 := Lib.hid (BX1.out.below hbV BX1.out.lt)
  have KG := Lib.hid (KG.out.trans (hbV.mono KG.out.size))
  clear hV hbV
  clear BX7
  go_wp2_with fail
  have CT := Lib.hid (parse_k v8 HSB HZB.out HB2.out)
  with_reducible refine CT.out.mono ?_
  rintro e w9 ⟨x10, rfl, hN11, hb⟩
  have N11 := Lib.hid hN11
  clear hN11
  clear CT
  have BX1 := Lib.hid (BX1.out.below hb BX1.out.lt)
  have KG := Lib.hid (KG.out.trans (hb.mono KG.out.size))
  clear hb
  clear N11
  go_upto_region 6 with (fail)
  obtain ⟨v13, hV⟩ : ∃ V, V = w9.alloc (.cells #[.bool x10.s, .slice x10.a x10.n x10.c] 24) := ⟨_, rfl⟩
  have hbV : Below w9.heap.size w9 v13 := by rw [hV]; exact ((Below.refl _ _).alloc (Nat.le_refl _) _)
  have BX12 := Lib.hid (show Bxs v13 (w9.heap.size) 24 [.bool x10.s, .slice x10.a x10.n x10.c] by have h := Bxs.new (w9) 24 [.bool x10.s, .slice x10.a x10.n x10.c]; rw [hV]; exact h)
  rw [show w9.alloc (.cells #[.bool x10.s, .slice x10.a x10.n x10.c] 24) = v13 from hV.symm]
  have BX1 := Lib.hid (BX1.out.below hbV BX1.out.lt)
  have KG := Lib.hid (KG.out.trans (hbV.mono KG.out.size))
  clear hV hbV
  clear BX12
  have cBX10 := BX1.out.cell (i := 0) rfl
  have cBX11 := BX1.out.cell (i := 1) rfl
  have cBX12 := BX1.out.cell (i := 2) rfl
  have cBX13 := BX1.out.cell (i := 3) rfl
  have cBX1f := BX1.out.fz
  have cBX1l := BX1.out.lt
  go_wp2_with fail
  refine bodyPost_ret (results_ct rfl _ _ _ _ _ _ _ rfl ((((BX1.out.put 0 _).put 1 _).put 2 _).put 3 _) Tryz.underlying26 rfl (by kernel_rfl)) rfl ⟨rfl, (((KG.out.setCell (Nat.le_refl _) _).setCell (Nat.le_refl _) _).setCell (Nat.le_refl _) _).setCell (Nat.le_refl _) _⟩

theorem codeT_ne {l : List UInt8} (h : codeT l ≠ 4) : l ≠ [] := by
  rintro rfl
  refine h ?_
  unfold codeT
  rw [if_neg (fun hf => hf.1 rfl)]
theorem head_or {l : List UInt8} (h : l ≠ []) : (∃ r, l = 45 :: r) ∨ (∃ x r, l = x :: r ∧ x ≠ 45) := by
  cases l with
  | nil => exact absurd rfl h
  | cons x r =>
    by_cases e : x = 45
    · exact .inl ⟨r, by rw [e]⟩
    · exact .inr ⟨x, r, rfl, e⟩
theorem badB_of {a b : List UInt8} (h : badB a b) : codeB a b = 4 := by unfold codeB; rw [if_pos h]
theorem codeB_three {a b : List UInt8} (h : ¬ badB a b) (h2 : ¬ (codeT a = 0 ∧ codeT b = 0)) : codeB a b = 3 := by unfold codeB; rw [if_neg h, if_neg h2]
theorem codeT_one : codeT [48] = 0 := codeT_of _ form0 (by decide +kernel)
/-- Two texts, parted. -/
theorem qparse_y {s : ByteArray} {a b : List UInt8} (w : World) (hs : s.size ≤ 9223372036854775807) (hcut : Lib.cut s.data.toList [47] = (a, b, true)) (ha : a.length ≤ 9223372036854775807) (hb : b.length ≤ 9223372036854775807) :
    Calls Tryz.prog 12 #[.string s] w fun e w' => (codeB a b = 0 ∧ RFE w (ratB a b) 0 e w') ∨ (codeB a b ≠ 0 ∧ RFX w (codeB a b) e w') := by
  have bad : ∀ {c : Int}, codeB a b = c → c ≠ 0 → Calls Tryz.prog 12 #[.string s] w (RFX w c) → Calls Tryz.prog 12 #[.string s] w fun e w' => (codeB a b = 0 ∧ RFE w (ratB a b) 0 e w') ∨ (codeB a b ≠ 0 ∧ RFX w (codeB a b) e w') :=
    fun e h0 h => h.mono fun _ _ hr => .inr ⟨by rw [e]; exact h0, by rw [e]; exact hr⟩
  rcases codeT_cases a with ca | ⟨ca, za⟩ | ⟨ca, za⟩ <;> rcases codeT_cases b with cb | ⟨cb, zb⟩ | ⟨cb, zb⟩
  · -- both are read
    rcases head_or (codeT_ne (by rw [cb]; decide)) with hn | hp
    · exact bad (badB_of (.inr (.inr (.inl (by obtain ⟨r, rfl⟩ := hn; rfl))))) (by decide) (qparse_y_neg w hs hcut ha hb ca rfl cb rfl hn)
    · by_cases h1 : b = [48]
      · exact bad (badB_of (.inr (.inr (.inr h1)))) (by decide) (qparse_y_one w hs hcut ha hb ca rfl cb rfl hp h1)
      · have hnb : ¬ badB a b := by
          rintro (h | h | h | h)
          · rw [ca] at h; exact absurd h (by decide)
          · rw [cb] at h; exact absurd h (by decide)
          · obtain ⟨x, r, rfl, hx⟩ := hp
            simp only [List.head?_cons, Option.some.injEq] at h
            exact hx h
          · exact h1 h
        have e0 : codeB a b = 0 := by unfold codeB; rw [if_neg hnb, if_pos ⟨ca, cb⟩]
        exact (qparse_y_ok w hs hcut ha hb ca rfl cb rfl hp h1 (by have := (codeB_zero e0).2.2.1; omega)).mono fun _ _ hr => .inl ⟨e0, hr⟩
  · rcases head_or (codeT_ne (by rw [cb]; decide)) with hn | hp
    · exact bad (badB_of (.inr (.inr (.inl (by obtain ⟨r, rfl⟩ := hn; rfl))))) (by decide) (qparse_y_neg03 w hs hcut ha hb ca rfl cb rfl hn)
    · have h1 : b ≠ [48] := fun h => by rw [h, codeT_one] at cb; exact absurd cb (by decide)
      refine bad (codeB_three ?_ fun h => by rw [cb] at h; exact absurd h.2 (by decide)) (by decide) (qparse_y_b3 w hs hcut ha hb ca rfl cb rfl hp h1)
      rintro (h | h | h | h)
      · rw [ca] at h; exact absurd h (by decide)
      · rw [cb] at h; exact absurd h (by decide)
      · obtain ⟨x, r, rfl, hx⟩ := hp
        simp only [List.head?_cons, Option.some.injEq] at h
        exact hx h
      · exact h1 h
  · exact bad (badB_of (.inr (.inl cb))) (by decide) (qparse_y_b4 w hs hcut ha hb ca rfl cb rfl)
  · rcases head_or (codeT_ne (by rw [cb]; decide)) with hn | hp
    · exact bad (badB_of (.inr (.inr (.inl (by obtain ⟨r, rfl⟩ := hn; rfl))))) (by decide) (qparse_y_neg30 w hs hcut ha hb ca rfl cb rfl hn)
    · by_cases h1 : b = [48]
      · exact bad (badB_of (.inr (.inr (.inr h1)))) (by decide) (qparse_y_one3 w hs hcut ha hb ca rfl cb rfl hp h1)
      · refine bad (codeB_three ?_ fun h => by rw [ca] at h; exact absurd h.1 (by decide)) (by decide) (qparse_y_a3 w hs hcut ha hb ca rfl cb rfl hp h1)
        rintro (h | h | h | h)
        · rw [ca] at h; exact absurd h (by decide)
        · rw [cb] at h; exact absurd h (by decide)
        · obtain ⟨x, r, rfl, hx⟩ := hp
          simp only [List.head?_cons, Option.some.injEq] at h
          exact hx h
        · exact h1 h
  · rcases head_or (codeT_ne (by rw [cb]; decide)) with hn | hp
    · exact bad (badB_of (.inr (.inr (.inl (by obtain ⟨r, rfl⟩ := hn; rfl))))) (by decide) (qparse_y_neg33 w hs hcut ha hb ca rfl cb rfl hn)
    · have h1 : b ≠ [48] := fun h => by rw [h, codeT_one] at cb; exact absurd cb (by decide)
      refine bad (codeB_three ?_ fun h => by rw [cb] at h; exact absurd h.2 (by decide)) (by decide) (qparse_y_33 w hs hcut ha hb ca rfl cb rfl hp h1)
      rintro (h | h | h | h)
      · rw [ca] at h; exact absurd h (by decide)
      · rw [cb] at h; exact absurd h (by decide)
      · obtain ⟨x, r, rfl, hx⟩ := hp
        simp only [List.head?_cons, Option.some.injEq] at h
        exact hx h
      · exact h1 h
  · exact bad (badB_of (.inr (.inl cb))) (by decide) (qparse_y_b43 w hs hcut ha hb ca rfl cb rfl)
  · exact bad (badB_of (.inl ca)) (by decide) (qparse_y_a4 w hs hcut ha hb ca rfl cb rfl)
  · exact bad (badB_of (.inl ca)) (by decide) (qparse_y_a43 w hs hcut ha hb ca rfl cb rfl)
  · exact bad (badB_of (.inl ca)) (by decide) (qparse_y_a44 w hs hcut ha hb ca rfl cb rfl)
theorem good1 {a : List UInt8} (h : codeT a ≠ 4) : ¬ badB a [49] := by
  rintro (h' | h' | h' | h')
  · exact h h'
  · rw [code1] at h'; exact absurd h' (by decide)
  · exact absurd h' (by decide)
  · exact absurd h' (by decide)
/-- One text alone. -/
theorem qparse_n {s : ByteArray} {a b : List UInt8} (w : World) (hs : s.size ≤ 9223372036854775807) (hcut : Lib.cut s.data.toList [47] = (a, b, false)) (ha : a.length ≤ 9223372036854775807) :
    Calls Tryz.prog 12 #[.string s] w fun e w' => (codeB a [49] = 0 ∧ RFE w (ratB a [49]) 0 e w') ∨ (codeB a [49] ≠ 0 ∧ RFX w (codeB a [49]) e w') := by
  rcases codeT_cases a with ca | ⟨ca, za⟩ | ⟨ca, za⟩
  · have e0 : codeB a [49] = 0 := by unfold codeB; rw [if_neg (good1 (by rw [ca]; decide)), if_pos ⟨ca, code1⟩]
    refine (qparse_n_ok w hs hcut ha ca rfl).mono fun _ _ hr => .inl ⟨e0, ?_⟩
    unfold ratB; rw [num1]; exact hr
  · have e3 : codeB a [49] = 3 := codeB_three (good1 (by rw [ca]; decide)) fun h => by rw [ca] at h; exact absurd h.1 (by decide)
    exact (qparse_n_a3 w hs hcut ha ca rfl).mono fun _ _ hr => .inr ⟨by rw [e3]; decide, by rw [e3]; exact hr⟩
  · have e4 : codeB a [49] = 4 := badB_of (.inl ca)
    exact (qparse_n_a4 w hs hcut ha ca rfl).mono fun _ _ hr => .inr ⟨by rw [e4]; decide, by rw [e4]; exact hr⟩
theorem qparse_any (s : ByteArray) (w : World) (hs : s.size ≤ 9223372036854775807) :
    Calls Tryz.prog 12 #[.string s] w fun e w' => (codeF s.data.toList = 0 ∧ RFE w (ratF s.data.toList) 0 e w') ∨ (codeF s.data.toList ≠ 0 ∧ RFX w (codeF s.data.toList) e w') := by
  have hl : s.data.toList.length ≤ 9223372036854775807 := by rw [Array.length_toList]; exact hs
  unfold codeF ratF aboveT belowT
  rcases cut_cases s.data.toList with ⟨a, b, e, hc⟩ | hc
  · have h2 := congrArg List.length e
    rw [List.length_append, List.length_cons] at h2
    rw [hc]
    have g1 : a.length ≤ 9223372036854775807 := by omega
    have g2 : b.length ≤ 9223372036854775807 := by omega
    exact qparse_y w hs hc g1 g2
  · rw [hc]
    exact qparse_n w hs hc hl
theorem qparse_z {s : ByteArray} (w : World) (hs : s.size ≤ 9223372036854775807) {q : Rat} (h : codeF s.data.toList = 0) (hq : ratF s.data.toList = q) : Calls Tryz.prog 12 #[.string s] w (RFE w q 0) :=
  (qparse_any s w hs).mono fun _ _ hr => hr.elim (fun h2 => by rw [← hq]; exact h2.2) (fun h2 => absurd h h2.1)
theorem qparse_c {s : ByteArray} (w : World) (hs : s.size ≤ 9223372036854775807) {c : Int} (h : codeF s.data.toList = c) (hc : c ≠ 0) : Calls Tryz.prog 12 #[.string s] w (RFX w c) :=
  (qparse_any s w hs).mono fun _ _ hr => hr.elim (fun h2 => absurd h2.1 (by rw [h]; exact hc)) (fun h2 => by rw [← h]; exact h2.2)
/-- How great what is read can be. -/
theorem ratF_len {s : List UInt8} (h : codeF s = 0) : LQ (ratF s) 23 := by
  unfold codeF at h
  unfold ratF ratB
  exact LQ.make (by have := (codeB_zero h).2.2.1; omega) (numT_len _) (numT_len _)
end Go.Proofs.YtklidpbdgliemaaGreatDoor.Limb
