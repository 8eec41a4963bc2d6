/-
  The reference's Parse of fractions, at any text.
-/
import Derived.Test.YtklidpbdgliemaaGreatDoorQwK
set_option linter.unusedSimpArgs false
set_option linter.unusedVariables false
namespace Go.Proofs.YtklidpbdgliemaaGreatDoor.Limb
open Go.RowKit Go.Sort
def RKE (w : World) (q : Rat) (e : Ending) (w' : World) : Prop := ∃ y : FV, e = .returned (.tuple #[y.v, .int .i64 0]) ∧ KF w' y q ∧ Below w.heap.size w w'
theorem ext0 {l : List UInt8} {k n : Nat} {a : List UInt8} (ha : l.take k = a) (hn : n = k) : (ByteArray.mk l.toArray).extract 0 n = ⟨a.toArray⟩ := by
  subst hn
  apply ByteArray.ext
  rw [ByteArray.data_extract]
  apply Array.ext'
  rw [Array.toList_extract, List.extract_eq_take_drop, List.drop_zero, Nat.sub_zero]
  exact ha
theorem ext1 {l : List UInt8} {k n : Nat} {b : List UInt8} (hb : l.drop k = b) (hn : n = l.length) : (ByteArray.mk l.toArray).extract k n = ⟨b.toArray⟩ := by
  subst hn
  apply ByteArray.ext
  rw [ByteArray.data_extract]
  apply Array.ext'
  rw [Array.toList_extract, List.extract_eq_take_drop]
  show List.take (l.length - k) (l.drop k) = _
  rw [List.take_of_length_le (by rw [List.length_drop]; exact Nat.le_refl _)]
  exact hb
theorem chr_app {a b : List UInt8} (h : (47 : UInt8) ∉ a) : (∀ j, j < a.length → chr (a ++ 47 :: b) j ≠ 47) ∧ chr (a ++ 47 :: b) a.length = 47 := by
  refine ⟨fun j hj e => h ?_, ?_⟩
  · unfold chr at e
    rw [List.getD_eq_getElem?_getD, List.getElem?_append_left hj, List.getElem?_eq_getElem hj] at e
    have e' : a[j] = 47 := e
    rw [← e']; exact List.getElem_mem hj
  · unfold chr
    rw [List.getD_eq_getElem?_getD, List.getElem?_append_right (Nat.le_refl _), Nat.sub_self]; rfl
theorem chr_no {a : List UInt8} (h : (47 : UInt8) ∉ a) : ∀ j, j < a.length → chr a j ≠ 47 := fun j hj e => h (by
  unfold chr at e
  rw [List.getD_eq_getElem?_getD, List.getElem?_eq_getElem hj] at e
  have e' : a[j] = 47 := e
  rw [← e']; exact List.getElem_mem hj)
set_option maxRecDepth 100000 in
set_option maxHeartbeats 8000000 in
theorem rq_y_a4 {l a b : List UInt8} {z1 z2 : Int} {c2 : Int} (w : World) (hl : l = a ++ 47 :: b) (hsz : l.length ≤ 9223372036854775806) (h47 : (47 : UInt8) ∉ a) (ha : codeT a = 4) (hza : numT a = z1) (hb2 : codeT b = c2) (hzb : numT b = z2) : Calls Tryz.prog 13 #[.string ⟨l.toArray⟩] w (RFX w 4) := by
  have KG := Lib.hid (Below.refl w.heap.size w)
  have HA := Lib.hid ha
  have HZA := Lib.hid hza
  have LZz1 := Lib.hid (show lenB z1.natAbs ≤ 23 from by rw [← hza]; exact numT_len a)
  obtain ⟨K, hK⟩ : ∃ K, K = a.length := ⟨_, rfl⟩
  have HMX := Lib.hid hsz
  have hll : l.length = a.length + (b.length + 1) := by rw [hl, List.length_append, List.length_cons]
  have HL := Lib.hid (show ∀ j, j < K → chr l j ≠ 47 by rw [hK, hl]; exact (chr_app h47).1)
  have HK7 := Lib.hid (show chr l K = 47 by rw [hK, hl]; exact (chr_app h47).2)
  have HKL := Lib.hid (show K < l.length by omega)
  have HT := Lib.hid (show l.take K = a by rw [hK, hl, List.take_left'  rfl])
  have HDR := Lib.hid (show l.drop (K + 1) = b by rw [hK, hl, ← List.drop_drop, List.drop_left' rfl]; rfl)
  have HSA : a.length ≤ 9223372036854775806 := by omega
  have HSB : b.length ≤ 9223372036854775806 := by omega
  have HB2 := Lib.hid hb2
  have HZB := Lib.hid hzb
  have LZz2 := Lib.hid (show lenB z2.natAbs ≤ 23 from by rw [← hzb]; exact numT_len b)
  clear hl hsz h47 ha hza hb2 hzb hK hll
  go_enter Tryz.func13, Tryz.ntmps13
  go_upto_region 1 with (fail)
  obtain ⟨v2, hV⟩ : ∃ V, V = w.alloc (.cells #[.bool false, .slice none 0 0, .bool false, .slice none 0 0] 26) := ⟨_, rfl⟩
  have hbV : Below w.heap.size w v2 := by rw [hV]; exact ((Below.refl _ _).alloc (Nat.le_refl _) _)
  have BX1 := Lib.hid (show Bxs v2 (w.heap.size) 26 [.bool false, .slice none 0 0, .bool false, .slice none 0 0] by have h := Bxs.new (w) 26 [.bool false, .slice none 0 0, .bool false, .slice none 0 0]; rw [hV]; exact h)
  rw [show w.alloc (.cells #[.bool false, .slice none 0 0, .bool false, .slice none 0 0] 26) = v2 from hV.symm]
  have KG := Lib.hid (KG.out.trans (hbV.mono KG.out.size))
  clear hV hbV
  go_wp2_with fail
  go_loop [4] (fun i => ∃ k : Nat, k ≤ K ∧ i = .int .i64 k) (fun i => K - (intOf i).toNat)
  case atStart => exact ⟨0, Nat.zero_le _, rfl⟩
  case round =>
    obtain ⟨k, hk, rfl⟩ := hrel
    by_cases hlk : k < K
    · have hin : (k : Int) < (l.length : Int) := by have := HKL.out; omega
      have hks : k < (ByteArray.mk l.toArray).size := by rw [bsz]; omega
      have h9 := chr_get l hks
      have d1 : ((((ByteArray.mk l.toArray)[k]'hks).toNat : Int) != 47) = true := by
        rw [h9]
        exact bne_iff_ne.2 fun e => HL.out k hlk (UInt8.toNat_inj.1 (by show _ = 47; omega))
      clear h9
      have hmx := HMX.out
      go_wp2_with fail
      go_round
      case rel => exact ⟨k + 1, by omega, by go_num⟩
      case measure => simp [intOf]; omega
    · have hkK : k = K := by omega
      subst hkK
      have hks : k < (ByteArray.mk l.toArray).size := by rw [bsz]; have := HKL.out; omega
      have h9 := chr_get l hks
      have h47v : (((ByteArray.mk l.toArray)[k]'hks).toNat : Int) = 47 := by rw [h9, HK7.out]; rfl
      clear h9
      have hin : (k : Int) < (l.length : Int) := by have := HKL.out; omega
      have ewk : IntKind.i64.wrap ((k : Int) + 1) = (k : Int) + 1 := IntWalk.i64_in _ (by have := HMX.out; have := HKL.out; omega)
      have b1 : (0 : Int) ≤ (k : Int) + 1 := by omega
      have b2 : (k : Int) + 1 ≤ (l.length : Int) := by omega
      have b0 : (k : Int) ≤ (l.length : Int) := by omega
      have ex1 := ext1 (n := (ByteArray.mk l.toArray).size) HDR.out (bsz l)
      have ex1' := ext1 HDR.out rfl
      have ex0 := ext0 HT.out rfl
      go_wp2_with fail
      have CT := Lib.hid (rparse_k v2 HSA HZA.out HA.out)
      with_reducible refine CT.out.mono ?_
      rintro e w3 ⟨x4, rfl, hN5, hb⟩
      have N5 := Lib.hid hN5
      clear hN5
      clear CT
      have BX1 := Lib.hid (BX1.out.below hb BX1.out.lt)
      have KG := Lib.hid (KG.out.trans (hb.mono KG.out.size))
      clear hb
      clear N5
      go_upto_region 8 with (fail)
      obtain ⟨v7, hV⟩ : ∃ V, V = w3.alloc (.cells #[.bool x4.s, .slice x4.a x4.n x4.c] 24) := ⟨_, rfl⟩
      have hbV : Below w3.heap.size w3 v7 := by rw [hV]; exact ((Below.refl _ _).alloc (Nat.le_refl _) _)
      have BX6 := Lib.hid (show Bxs v7 (w3.heap.size) 24 [.bool x4.s, .slice x4.a x4.n x4.c] by have h := Bxs.new (w3) 24 [.bool x4.s, .slice x4.a x4.n x4.c]; rw [hV]; exact h)
      rw [show w3.alloc (.cells #[.bool x4.s, .slice x4.a x4.n x4.c] 24) = v7 from hV.symm]
      have BX1 := Lib.hid (BX1.out.below hbV BX1.out.lt)
      have KG := Lib.hid (KG.out.trans (hbV.mono KG.out.size))
      clear hV hbV
      clear BX6
      go_wp2_with fail
      have CT := Lib.hid (rparse_k v7 HSB HZB.out HB2.out)
      with_reducible refine CT.out.mono ?_
      rintro e w8 ⟨x9, rfl, hN10, hb⟩
      have N10 := Lib.hid hN10
      clear hN10
      clear CT
      have BX1 := Lib.hid (BX1.out.below hb BX1.out.lt)
      have KG := Lib.hid (KG.out.trans (hb.mono KG.out.size))
      clear hb
      clear N10
      go_upto_region 9 with (fail)
      obtain ⟨v12, hV⟩ : ∃ V, V = w8.alloc (.cells #[.bool x9.s, .slice x9.a x9.n x9.c] 24) := ⟨_, rfl⟩
      have hbV : Below w8.heap.size w8 v12 := by rw [hV]; exact ((Below.refl _ _).alloc (Nat.le_refl _) _)
      have BX11 := Lib.hid (show Bxs v12 (w8.heap.size) 24 [.bool x9.s, .slice x9.a x9.n x9.c] by have h := Bxs.new (w8) 24 [.bool x9.s, .slice x9.a x9.n x9.c]; rw [hV]; exact h)
      rw [show w8.alloc (.cells #[.bool x9.s, .slice x9.a x9.n x9.c] 24) = v12 from hV.symm]
      have BX1 := Lib.hid (BX1.out.below hbV BX1.out.lt)
      have KG := Lib.hid (KG.out.trans (hbV.mono KG.out.size))
      clear hV hbV
      clear BX11
      have cBX10 := BX1.out.cell (i := 0) rfl
      have cBX11 := BX1.out.cell (i := 1) rfl
      have cBX12 := BX1.out.cell (i := 2) rfl
      have cBX13 := BX1.out.cell (i := 3) rfl
      have cBX1f := BX1.out.fz
      have cBX1l := BX1.out.lt
      go_wp2_with fail
      refine bodyPost_ret (results_ct rfl _ _ _ _ _ _ _ rfl ((((BX1.out.put 0 _).put 1 _).put 2 _).put 3 _) Tryz.underlying26 rfl (by kernel_rfl)) rfl ⟨rfl, (((KG.out.setCell (Nat.le_refl _) _).setCell (Nat.le_refl _) _).setCell (Nat.le_refl _) _).setCell (Nat.le_refl _) _⟩
set_option maxRecDepth 100000 in
set_option maxHeartbeats 8000000 in
theorem rq_y_b4 {l a b : List UInt8} {z1 z2 : Int} {c1 : Int} (w : World) (hl : l = a ++ 47 :: b) (hsz : l.length ≤ 9223372036854775806) (h47 : (47 : UInt8) ∉ a) (ha : codeT a = c1) (hza : numT a = z1) (hb2 : codeT b = 4) (hzb : numT b = z2) (h4a : c1 ≠ 4) : Calls Tryz.prog 13 #[.string ⟨l.toArray⟩] w (RFX w 4) := by
  have KG := Lib.hid (Below.refl w.heap.size w)
  have HA := Lib.hid ha
  have HZA := Lib.hid hza
  have LZz1 := Lib.hid (show lenB z1.natAbs ≤ 23 from by rw [← hza]; exact numT_len a)
  obtain ⟨K, hK⟩ : ∃ K, K = a.length := ⟨_, rfl⟩
  have HMX := Lib.hid hsz
  have hll : l.length = a.length + (b.length + 1) := by rw [hl, List.length_append, List.length_cons]
  have HL := Lib.hid (show ∀ j, j < K → chr l j ≠ 47 by rw [hK, hl]; exact (chr_app h47).1)
  have HK7 := Lib.hid (show chr l K = 47 by rw [hK, hl]; exact (chr_app h47).2)
  have HKL := Lib.hid (show K < l.length by omega)
  have HT := Lib.hid (show l.take K = a by rw [hK, hl, List.take_left'  rfl])
  have HDR := Lib.hid (show l.drop (K + 1) = b by rw [hK, hl, ← List.drop_drop, List.drop_left' rfl]; rfl)
  have HSA : a.length ≤ 9223372036854775806 := by omega
  have HSB : b.length ≤ 9223372036854775806 := by omega
  have HB2 := Lib.hid hb2
  have HZB := Lib.hid hzb
  have LZz2 := Lib.hid (show lenB z2.natAbs ≤ 23 from by rw [← hzb]; exact numT_len b)
  have f4a : (c1 == 4) = false := beq_eq_false_iff_ne.2 h4a
  clear hl hsz h47 ha hza hb2 hzb h4a hK hll
  go_enter Tryz.func13, Tryz.ntmps13
  go_upto_region 1 with (fail)
  obtain ⟨v2, hV⟩ : ∃ V, V = w.alloc (.cells #[.bool false, .slice none 0 0, .bool false, .slice none 0 0] 26) := ⟨_, rfl⟩
  have hbV : Below w.heap.size w v2 := by rw [hV]; exact ((Below.refl _ _).alloc (Nat.le_refl _) _)
  have BX1 := Lib.hid (show Bxs v2 (w.heap.size) 26 [.bool false, .slice none 0 0, .bool false, .slice none 0 0] by have h := Bxs.new (w) 26 [.bool false, .slice none 0 0, .bool false, .slice none 0 0]; rw [hV]; exact h)
  rw [show w.alloc (.cells #[.bool false, .slice none 0 0, .bool false, .slice none 0 0] 26) = v2 from hV.symm]
  have KG := Lib.hid (KG.out.trans (hbV.mono KG.out.size))
  clear hV hbV
  go_wp2_with fail
  go_loop [4] (fun i => ∃ k : Nat, k ≤ K ∧ i = .int .i64 k) (fun i => K - (intOf i).toNat)
  case atStart => exact ⟨0, Nat.zero_le _, rfl⟩
  case round =>
    obtain ⟨k, hk, rfl⟩ := hrel
    by_cases hlk : k < K
    · have hin : (k : Int) < (l.length : Int) := by have := HKL.out; omega
      have hks : k < (ByteArray.mk l.toArray).size := by rw [bsz]; omega
      have h9 := chr_get l hks
      have d1 : ((((ByteArray.mk l.toArray)[k]'hks).toNat : Int) != 47) = true := by
        rw [h9]
        exact bne_iff_ne.2 fun e => HL.out k hlk (UInt8.toNat_inj.1 (by show _ = 47; omega))
      clear h9
      have hmx := HMX.out
      go_wp2_with fail
      go_round
      case rel => exact ⟨k + 1, by omega, by go_num⟩
      case measure => simp [intOf]; omega
    · have hkK : k = K := by omega
      subst hkK
      have hks : k < (ByteArray.mk l.toArray).size := by rw [bsz]; have := HKL.out; omega
      have h9 := chr_get l hks
      have h47v : (((ByteArray.mk l.toArray)[k]'hks).toNat : Int) = 47 := by rw [h9, HK7.out]; rfl
      clear h9
      have hin : (k : Int) < (l.length : Int) := by have := HKL.out; omega
      have ewk : IntKind.i64.wrap ((k : Int) + 1) = (k : Int) + 1 := IntWalk.i64_in _ (by have := HMX.out; have := HKL.out; omega)
      have b1 : (0 : Int) ≤ (k : Int) + 1 := by omega
      have b2 : (k : Int) + 1 ≤ (l.length : Int) := by omega
      have b0 : (k : Int) ≤ (l.length : Int) := by omega
      have ex1 := ext1 (n := (ByteArray.mk l.toArray).size) HDR.out (bsz l)
      have ex1' := ext1 HDR.out rfl
      have ex0 := ext0 HT.out rfl
      go_wp2_with fail
      have CT := Lib.hid (rparse_k v2 HSA HZA.out HA.out)
      with_reducible refine CT.out.mono ?_
      rintro e w3 ⟨x4, rfl, hN5, hb⟩
      have N5 := Lib.hid hN5
      clear hN5
      clear CT
      have BX1 := Lib.hid (BX1.out.below hb BX1.out.lt)
      have KG := Lib.hid (KG.out.trans (hb.mono KG.out.size))
      clear hb
      clear N5
      go_upto_region 8 with (fail)
      obtain ⟨v7, hV⟩ : ∃ V, V = w3.alloc (.cells #[.bool x4.s, .slice x4.a x4.n x4.c] 24) := ⟨_, rfl⟩
      have hbV : Below w3.heap.size w3 v7 := by rw [hV]; exact ((Below.refl _ _).alloc (Nat.le_refl _) _)
      have BX6 := Lib.hid (show Bxs v7 (w3.heap.size) 24 [.bool x4.s, .slice x4.a x4.n x4.c] by have h := Bxs.new (w3) 24 [.bool x4.s, .slice x4.a x4.n x4.c]; rw [hV]; exact h)
      rw [show w3.alloc (.cells #[.bool x4.s, .slice x4.a x4.n x4.c] 24) = v7 from hV.symm]
      have BX1 := Lib.hid (BX1.out.below hbV BX1.out.lt)
      have KG := Lib.hid (KG.out.trans (hbV.mono KG.out.size))
      clear hV hbV
      clear BX6
      go_wp2_with fail
      have CT := Lib.hid (rparse_k v7 HSB HZB.out HB2.out)
      with_reducible refine CT.out.mono ?_
      rintro e w8 ⟨x9, rfl, hN10, hb⟩
      have N10 := Lib.hid hN10
      clear hN10
      clear CT
      have BX1 := Lib.hid (BX1.out.below hb BX1.out.lt)
      have KG := Lib.hid (KG.out.trans (hb.mono KG.out.size))
      clear hb
      clear N10
      go_upto_region 9 with (fail)
      obtain ⟨v12, hV⟩ : ∃ V, V = w8.alloc (.cells #[.bool x9.s, .slice x9.a x9.n x9.c] 24) := ⟨_, rfl⟩
      have hbV : Below w8.heap.size w8 v12 := by rw [hV]; exact ((Below.refl _ _).alloc (Nat.le_refl _) _)
      have BX11 := Lib.hid (show Bxs v12 (w8.heap.size) 24 [.bool x9.s, .slice x9.a x9.n x9.c] by have h := Bxs.new (w8) 24 [.bool x9.s, .slice x9.a x9.n x9.c]; rw [hV]; exact h)
      rw [show w8.alloc (.cells #[.bool x9.s, .slice x9.a x9.n x9.c] 24) = v12 from hV.symm]
      have BX1 := Lib.hid (BX1.out.below hbV BX1.out.lt)
      have KG := Lib.hid (KG.out.trans (hbV.mono KG.out.size))
      clear hV hbV
      clear BX11
      have cBX10 := BX1.out.cell (i := 0) rfl
      have cBX11 := BX1.out.cell (i := 1) rfl
      have cBX12 := BX1.out.cell (i := 2) rfl
      have cBX13 := BX1.out.cell (i := 3) rfl
      have cBX1f := BX1.out.fz
      have cBX1l := BX1.out.lt
      go_wp2_with fail
      refine bodyPost_ret (results_ct rfl _ _ _ _ _ _ _ rfl ((((BX1.out.put 0 _).put 1 _).put 2 _).put 3 _) Tryz.underlying26 rfl (by kernel_rfl)) rfl ⟨rfl, (((KG.out.setCell (Nat.le_refl _) _).setCell (Nat.le_refl _) _).setCell (Nat.le_refl _) _).setCell (Nat.le_refl _) _⟩
set_option maxRecDepth 100000 in
set_option maxHeartbeats 8000000 in
theorem rq_y_neg {l a b : List UInt8} {z1 z2 : Int} {c1 : Int} {c2 : Int} (w : World) (hl : l = a ++ 47 :: b) (hsz : l.length ≤ 9223372036854775806) (h47 : (47 : UInt8) ∉ a) (ha : codeT a = c1) (hza : numT a = z1) (hb2 : codeT b = c2) (hzb : numT b = z2) (h4a : c1 ≠ 4) (h4b : c2 ≠ 4) (hneg : ∃ r, b = 45 :: r) : Calls Tryz.prog 13 #[.string ⟨l.toArray⟩] w (RFX w 4) := by
  have KG := Lib.hid (Below.refl w.heap.size w)
  have HA := Lib.hid ha
  have HZA := Lib.hid hza
  have LZz1 := Lib.hid (show lenB z1.natAbs ≤ 23 from by rw [← hza]; exact numT_len a)
  obtain ⟨K, hK⟩ : ∃ K, K = a.length := ⟨_, rfl⟩
  have HMX := Lib.hid hsz
  have hll : l.length = a.length + (b.length + 1) := by rw [hl, List.length_append, List.length_cons]
  have HL := Lib.hid (show ∀ j, j < K → chr l j ≠ 47 by rw [hK, hl]; exact (chr_app h47).1)
  have HK7 := Lib.hid (show chr l K = 47 by rw [hK, hl]; exact (chr_app h47).2)
  have HKL := Lib.hid (show K < l.length by omega)
  have HT := Lib.hid (show l.take K = a by rw [hK, hl, List.take_left'  rfl])
  have HDR := Lib.hid (show l.drop (K + 1) = b by rw [hK, hl, ← List.drop_drop, List.drop_left' rfl]; rfl)
  have HSA : a.length ≤ 9223372036854775806 := by omega
  have HSB : b.length ≤ 9223372036854775806 := by omega
  have HB2 := Lib.hid hb2
  have HZB := Lib.hid hzb
  have LZz2 := Lib.hid (show lenB z2.natAbs ≤ 23 from by rw [← hzb]; exact numT_len b)
  have f4a : (c1 == 4) = false := beq_eq_false_iff_ne.2 h4a
  have f4b : (c2 == 4) = false := beq_eq_false_iff_ne.2 h4b
  have hp0 : 0 < (ByteArray.mk b.toArray).size := by obtain ⟨r, rfl⟩ := hneg; exact Nat.succ_pos _
  have hp1 : (((ByteArray.mk b.toArray)[0]'hp0).toNat : Int) = 45 := by obtain ⟨r, rfl⟩ := hneg; rfl
  have hp2 : (b == [48]) = false := beq_eq_false_iff_ne.2 (by obtain ⟨r, rfl⟩ := hneg; intro h; simp at h)
  clear hl hsz h47 ha hza hb2 hzb h4a h4b hneg hK hll
  go_enter Tryz.func13, Tryz.ntmps13
  go_upto_region 1 with (fail)
  obtain ⟨v2, hV⟩ : ∃ V, V = w.alloc (.cells #[.bool false, .slice none 0 0, .bool false, .slice none 0 0] 26) := ⟨_, rfl⟩
  have hbV : Below w.heap.size w v2 := by rw [hV]; exact ((Below.refl _ _).alloc (Nat.le_refl _) _)
  have BX1 := Lib.hid (show Bxs v2 (w.heap.size) 26 [.bool false, .slice none 0 0, .bool false, .slice none 0 0] by have h := Bxs.new (w) 26 [.bool false, .slice none 0 0, .bool false, .slice none 0 0]; rw [hV]; exact h)
  rw [show w.alloc (.cells #[.bool false, .slice none 0 0, .bool false, .slice none 0 0] 26) = v2 from hV.symm]
  have KG := Lib.hid (KG.out.trans (hbV.mono KG.out.size))
  clear hV hbV
  go_wp2_with fail
  go_loop [4] (fun i => ∃ k : Nat, k ≤ K ∧ i = .int .i64 k) (fun i => K - (intOf i).toNat)
  case atStart => exact ⟨0, Nat.zero_le _, rfl⟩
  case round =>
    obtain ⟨k, hk, rfl⟩ := hrel
    by_cases hlk : k < K
    · have hin : (k : Int) < (l.length : Int) := by have := HKL.out; omega
      have hks : k < (ByteArray.mk l.toArray).size := by rw [bsz]; omega
      have h9 := chr_get l hks
      have d1 : ((((ByteArray.mk l.toArray)[k]'hks).toNat : Int) != 47) = true := by
        rw [h9]
        exact bne_iff_ne.2 fun e => HL.out k hlk (UInt8.toNat_inj.1 (by show _ = 47; omega))
      clear h9
      have hmx := HMX.out
      go_wp2_with fail
      go_round
      case rel => exact ⟨k + 1, by omega, by go_num⟩
      case measure => simp [intOf]; omega
    · have hkK : k = K := by omega
      subst hkK
      have hks : k < (ByteArray.mk l.toArray).size := by rw [bsz]; have := HKL.out; omega
      have h9 := chr_get l hks
      have h47v : (((ByteArray.mk l.toArray)[k]'hks).toNat : Int) = 47 := by rw [h9, HK7.out]; rfl
      clear h9
      have hin : (k : Int) < (l.length : Int) := by have := HKL.out; omega
      have ewk : IntKind.i64.wrap ((k : Int) + 1) = (k : Int) + 1 := IntWalk.i64_in _ (by have := HMX.out; have := HKL.out; omega)
      have b1 : (0 : Int) ≤ (k : Int) + 1 := by omega
      have b2 : (k : Int) + 1 ≤ (l.length : Int) := by omega
      have b0 : (k : Int) ≤ (l.length : Int) := by omega
      have ex1 := ext1 (n := (ByteArray.mk l.toArray).size) HDR.out (bsz l)
      have ex1' := ext1 HDR.out rfl
      have ex0 := ext0 HT.out rfl
      go_wp2_with fail
      have CT := Lib.hid (rparse_k v2 HSA HZA.out HA.out)
      with_reducible refine CT.out.mono ?_
      rintro e w3 ⟨x4, rfl, hN5, hb⟩
      have N5 := Lib.hid hN5
      clear hN5
      clear CT
      have BX1 := Lib.hid (BX1.out.below hb BX1.out.lt)
      have KG := Lib.hid (KG.out.trans (hb.mono KG.out.size))
      clear hb
      clear N5
      go_upto_region 8 with (fail)
      obtain ⟨v7, hV⟩ : ∃ V, V = w3.alloc (.cells #[.bool x4.s, .slice x4.a x4.n x4.c] 24) := ⟨_, rfl⟩
      have hbV : Below w3.heap.size w3 v7 := by rw [hV]; exact ((Below.refl _ _).alloc (Nat.le_refl _) _)
      have BX6 := Lib.hid (show Bxs v7 (w3.heap.size) 24 [.bool x4.s, .slice x4.a x4.n x4.c] by have h := Bxs.new (w3) 24 [.bool x4.s, .slice x4.a x4.n x4.c]; rw [hV]; exact h)
      rw [show w3.alloc (.cells #[.bool x4.s, .slice x4.a x4.n x4.c] 24) = v7 from hV.symm]
      have BX1 := Lib.hid (BX1.out.below hbV BX1.out.lt)
      have KG := Lib.hid (KG.out.trans (hbV.mono KG.out.size))
      clear hV hbV
      clear BX6
      go_wp2_with fail
      have CT := Lib.hid (rparse_k v7 HSB HZB.out HB2.out)
      with_reducible refine CT.out.mono ?_
      rintro e w8 ⟨x9, rfl, hN10, hb⟩
      have N10 := Lib.hid hN10
      clear hN10
      clear CT
      have BX1 := Lib.hid (BX1.out.below hb BX1.out.lt)
      have KG := Lib.hid (KG.out.trans (hb.mono KG.out.size))
      clear hb
      clear N10
      go_upto_region 9 with (fail)
      obtain ⟨v12, hV⟩ : ∃ V, V = w8.alloc (.cells #[.bool x9.s, .slice x9.a x9.n x9.c] 24) := ⟨_, rfl⟩
      have hbV : Below w8.heap.size w8 v12 := by rw [hV]; exact ((Below.refl _ _).alloc (Nat.le_refl _) _)
      have BX11 := Lib.hid (show Bxs v12 (w8.heap.size) 24 [.bool x9.s, .slice x9.a x9.n x9.c] by have h := Bxs.new (w8) 24 [.bool x9.s, .slice x9.a x9.n x9.c]; rw [hV]; exact h)
      rw [show w8.alloc (.cells #[.bool x9.s, .slice x9.a x9.n x9.c] 24) = v12 from hV.symm]
      have BX1 := Lib.hid (BX1.out.below hbV BX1.out.lt)
      have KG := Lib.hid (KG.out.trans (hbV.mono KG.out.size))
      clear hV hbV
      clear BX11
      have cBX10 := BX1.out.cell (i := 0) rfl
      have cBX11 := BX1.out.cell (i := 1) rfl
      have cBX12 := BX1.out.cell (i := 2) rfl
      have cBX13 := BX1.out.cell (i := 3) rfl
      have cBX1f := BX1.out.fz
      have cBX1l := BX1.out.lt
      go_wp2_with fail
      refine bodyPost_ret (results_ct rfl _ _ _ _ _ _ _ rfl ((((BX1.out.put 0 _).put 1 _).put 2 _).put 3 _) Tryz.underlying26 rfl (by kernel_rfl)) rfl ⟨rfl, (((KG.out.setCell (Nat.le_refl _) _).setCell (Nat.le_refl _) _).setCell (Nat.le_refl _) _).setCell (Nat.le_refl _) _⟩
set_option maxRecDepth 100000 in
set_option maxHeartbeats 8000000 in
theorem rq_y_one {l a b : List UInt8} {z1 z2 : Int} {c1 : Int} (w : World) (hl : l = a ++ 47 :: b) (hsz : l.length ≤ 9223372036854775806) (h47 : (47 : UInt8) ∉ a) (ha : codeT a = c1) (hza : numT a = z1) (hb2 : codeT b = 0) (hzb : numT b = z2) (h4a : c1 ≠ 4) (hone : b = [48]) : Calls Tryz.prog 13 #[.string ⟨l.toArray⟩] w (RFX w 4) := by
  have KG := Lib.hid (Below.refl w.heap.size w)
  have HA := Lib.hid ha
  have HZA := Lib.hid hza
  have LZz1 := Lib.hid (show lenB z1.natAbs ≤ 23 from by rw [← hza]; exact numT_len a)
  obtain ⟨K, hK⟩ : ∃ K, K = a.length := ⟨_, rfl⟩
  have HMX := Lib.hid hsz
  have hll : l.length = a.length + (b.length + 1) := by rw [hl, List.length_append, List.length_cons]
  have HL := Lib.hid (show ∀ j, j < K → chr l j ≠ 47 by rw [hK, hl]; exact (chr_app h47).1)
  have HK7 := Lib.hid (show chr l K = 47 by rw [hK, hl]; exact (chr_app h47).2)
  have HKL := Lib.hid (show K < l.length by omega)
  have HT := Lib.hid (show l.take K = a by rw [hK, hl, List.take_left'  rfl])
  have HDR := Lib.hid (show l.drop (K + 1) = b by rw [hK, hl, ← List.drop_drop, List.drop_left' rfl]; rfl)
  have HSA : a.length ≤ 9223372036854775806 := by omega
  have HSB : b.length ≤ 9223372036854775806 := by omega
  have HB2 := Lib.hid hb2
  have HZB := Lib.hid hzb
  have LZz2 := Lib.hid (show lenB z2.natAbs ≤ 23 from by rw [← hzb]; exact numT_len b)
  have f4a : (c1 == 4) = false := beq_eq_false_iff_ne.2 h4a
  have hp2 : (b == [48]) = true := by rw [hone]; rfl
  clear hl hsz h47 ha hza hb2 hzb h4a hone hK hll
  go_enter Tryz.func13, Tryz.ntmps13
  go_upto_region 1 with (fail)
  obtain ⟨v2, hV⟩ : ∃ V, V = w.alloc (.cells #[.bool false, .slice none 0 0, .bool false, .slice none 0 0] 26) := ⟨_, rfl⟩
  have hbV : Below w.heap.size w v2 := by rw [hV]; exact ((Below.refl _ _).alloc (Nat.le_refl _) _)
  have BX1 := Lib.hid (show Bxs v2 (w.heap.size) 26 [.bool false, .slice none 0 0, .bool false, .slice none 0 0] by have h := Bxs.new (w) 26 [.bool false, .slice none 0 0, .bool false, .slice none 0 0]; rw [hV]; exact h)
  rw [show w.alloc (.cells #[.bool false, .slice none 0 0, .bool false, .slice none 0 0] 26) = v2 from hV.symm]
  have KG := Lib.hid (KG.out.trans (hbV.mono KG.out.size))
  clear hV hbV
  go_wp2_with fail
  go_loop [4] (fun i => ∃ k : Nat, k ≤ K ∧ i = .int .i64 k) (fun i => K - (intOf i).toNat)
  case atStart => exact ⟨0, Nat.zero_le _, rfl⟩
  case round =>
    obtain ⟨k, hk, rfl⟩ := hrel
    by_cases hlk : k < K
    · have hin : (k : Int) < (l.length : Int) := by have := HKL.out; omega
      have hks : k < (ByteArray.mk l.toArray).size := by rw [bsz]; omega
      have h9 := chr_get l hks
      have d1 : ((((ByteArray.mk l.toArray)[k]'hks).toNat : Int) != 47) = true := by
        rw [h9]
        exact bne_iff_ne.2 fun e => HL.out k hlk (UInt8.toNat_inj.1 (by show _ = 47; omega))
      clear h9
      have hmx := HMX.out
      go_wp2_with fail
      go_round
      case rel => exact ⟨k + 1, by omega, by go_num⟩
      case measure => simp [intOf]; omega
    · have hkK : k = K := by omega
      subst hkK
      have hks : k < (ByteArray.mk l.toArray).size := by rw [bsz]; have := HKL.out; omega
      have h9 := chr_get l hks
      have h47v : (((ByteArray.mk l.toArray)[k]'hks).toNat : Int) = 47 := by rw [h9, HK7.out]; rfl
      clear h9
      have hin : (k : Int) < (l.length : Int) := by have := HKL.out; omega
      have ewk : IntKind.i64.wrap ((k : Int) + 1) = (k : Int) + 1 := IntWalk.i64_in _ (by have := HMX.out; have := HKL.out; omega)
      have b1 : (0 : Int) ≤ (k : Int) + 1 := by omega
      have b2 : (k : Int) + 1 ≤ (l.length : Int) := by omega
      have b0 : (k : Int) ≤ (l.length : Int) := by omega
      have ex1 := ext1 (n := (ByteArray.mk l.toArray).size) HDR.out (bsz l)
      have ex1' := ext1 HDR.out rfl
      have ex0 := ext0 HT.out rfl
      go_wp2_with fail
      have CT := Lib.hid (rparse_k v2 HSA HZA.out HA.out)
      with_reducible refine CT.out.mono ?_
      rintro e w3 ⟨x4, rfl, hN5, hb⟩
      have N5 := Lib.hid hN5
      clear hN5
      clear CT
      have BX1 := Lib.hid (BX1.out.below hb BX1.out.lt)
      have KG := Lib.hid (KG.out.trans (hb.mono KG.out.size))
      clear hb
      clear N5
      go_upto_region 8 with (fail)
      obtain ⟨v7, hV⟩ : ∃ V, V = w3.alloc (.cells #[.bool x4.s, .slice x4.a x4.n x4.c] 24) := ⟨_, rfl⟩
      have hbV : Below w3.heap.size w3 v7 := by rw [hV]; exact ((Below.refl _ _).alloc (Nat.le_refl _) _)
      have BX6 := Lib.hid (show Bxs v7 (w3.heap.size) 24 [.bool x4.s, .slice x4.a x4.n x4.c] by have h := Bxs.new (w3) 24 [.bool x4.s, .slice x4.a x4.n x4.c]; rw [hV]; exact h)
      rw [show w3.alloc (.cells #[.bool x4.s, .slice x4.a x4.n x4.c] 24) = v7 from hV.symm]
      have BX1 := Lib.hid (BX1.out.below hbV BX1.out.lt)
      have KG := Lib.hid (KG.out.trans (hbV.mono KG.out.size))
      clear hV hbV
      clear BX6
      go_wp2_with fail
      have CT := Lib.hid (rparse_k v7 HSB HZB.out HB2.out)
      with_reducible refine CT.out.mono ?_
      rintro e w8 ⟨x9, rfl, hN10, hb⟩
      have N10 := Lib.hid hN10
      clear hN10
      clear CT
      have BX1 := Lib.hid (BX1.out.below hb BX1.out.lt)
      have KG := Lib.hid (KG.out.trans (hb.mono KG.out.size))
      clear hb
      clear N10
      go_upto_region 9 with (fail)
      obtain ⟨v12, hV⟩ : ∃ V, V = w8.alloc (.cells #[.bool x9.s, .slice x9.a x9.n x9.c] 24) := ⟨_, rfl⟩
      have hbV : Below w8.heap.size w8 v12 := by rw [hV]; exact ((Below.refl _ _).alloc (Nat.le_refl _) _)
      have BX11 := Lib.hid (show Bxs v12 (w8.heap.size) 24 [.bool x9.s, .slice x9.a x9.n x9.c] by have h := Bxs.new (w8) 24 [.bool x9.s, .slice x9.a x9.n x9.c]; rw [hV]; exact h)
      rw [show w8.alloc (.cells #[.bool x9.s, .slice x9.a x9.n x9.c] 24) = v12 from hV.symm]
      have BX1 := Lib.hid (BX1.out.below hbV BX1.out.lt)
      have KG := Lib.hid (KG.out.trans (hbV.mono KG.out.size))
      clear hV hbV
      clear BX11
      have cBX10 := BX1.out.cell (i := 0) rfl
      have cBX11 := BX1.out.cell (i := 1) rfl
      have cBX12 := BX1.out.cell (i := 2) rfl
      have cBX13 := BX1.out.cell (i := 3) rfl
      have cBX1f := BX1.out.fz
      have cBX1l := BX1.out.lt
      go_wp2_with fail
      refine bodyPost_ret (results_ct rfl _ _ _ _ _ _ _ rfl ((((BX1.out.put 0 _).put 1 _).put 2 _).put 3 _) Tryz.underlying26 rfl (by kernel_rfl)) rfl ⟨rfl, (((KG.out.setCell (Nat.le_refl _) _).setCell (Nat.le_refl _) _).setCell (Nat.le_refl _) _).setCell (Nat.le_refl _) _⟩
set_option maxRecDepth 100000 in
set_option maxHeartbeats 8000000 in
theorem rq_y_03 {l a b : List UInt8} {z1 z2 : Int} (w : World) (hl : l = a ++ 47 :: b) (hsz : l.length ≤ 9223372036854775806) (h47 : (47 : UInt8) ∉ a) (ha : codeT a = 0) (hza : numT a = z1) (hb2 : codeT b = 3) (hzb : numT b = z2) (hpos : ∃ x r, b = x :: r ∧ x ≠ 45) (hone : b ≠ [48]) : Calls Tryz.prog 13 #[.string ⟨l.toArray⟩] w (RFX w 3) := by
  have KG := Lib.hid (Below.refl w.heap.size w)
  have HA := Lib.hid ha
  have HZA := Lib.hid hza
  have LZz1 := Lib.hid (show lenB z1.natAbs ≤ 23 from by rw [← hza]; exact numT_len a)
  obtain ⟨K, hK⟩ : ∃ K, K = a.length := ⟨_, rfl⟩
  have HMX := Lib.hid hsz
  have hll : l.length = a.length + (b.length + 1) := by rw [hl, List.length_append, List.length_cons]
  have HL := Lib.hid (show ∀ j, j < K → chr l j ≠ 47 by rw [hK, hl]; exact (chr_app h47).1)
  have HK7 := Lib.hid (show chr l K = 47 by rw [hK, hl]; exact (chr_app h47).2)
  have HKL := Lib.hid (show K < l.length by omega)
  have HT := Lib.hid (show l.take K = a by rw [hK, hl, List.take_left'  rfl])
  have HDR := Lib.hid (show l.drop (K + 1) = b by rw [hK, hl, ← List.drop_drop, List.drop_left' rfl]; rfl)
  have HSA : a.length ≤ 9223372036854775806 := by omega
  have HSB : b.length ≤ 9223372036854775806 := by omega
  have HB2 := Lib.hid hb2
  have HZB := Lib.hid hzb
  have LZz2 := Lib.hid (show lenB z2.natAbs ≤ 23 from by rw [← hzb]; exact numT_len b)
  have hp0 : 0 < (ByteArray.mk b.toArray).size := by obtain ⟨x, r, rfl, h⟩ := hpos; exact Nat.succ_pos _
  have hp1 : ¬ (((ByteArray.mk b.toArray)[0]'hp0).toNat : Int) = 45 := by obtain ⟨x, r, rfl, h⟩ := hpos; exact fun h2 => h (UInt8.toNat_inj.1 (Int.ofNat_inj.1 h2))
  have hp2 : (b == [48]) = false := beq_eq_false_iff_ne.2 hone
  clear hl hsz h47 ha hza hb2 hzb hpos hone hK hll
  go_enter Tryz.func13, Tryz.ntmps13
  go_upto_region 1 with (fail)
  obtain ⟨v2, hV⟩ : ∃ V, V = w.alloc (.cells #[.bool false, .slice none 0 0, .bool false, .slice none 0 0] 26) := ⟨_, rfl⟩
  have hbV : Below w.heap.size w v2 := by rw [hV]; exact ((Below.refl _ _).alloc (Nat.le_refl _) _)
  have BX1 := Lib.hid (show Bxs v2 (w.heap.size) 26 [.bool false, .slice none 0 0, .bool false, .slice none 0 0] by have h := Bxs.new (w) 26 [.bool false, .slice none 0 0, .bool false, .slice none 0 0]; rw [hV]; exact h)
  rw [show w.alloc (.cells #[.bool false, .slice none 0 0, .bool false, .slice none 0 0] 26) = v2 from hV.symm]
  have KG := Lib.hid (KG.out.trans (hbV.mono KG.out.size))
  clear hV hbV
  go_wp2_with fail
  go_loop [4] (fun i => ∃ k : Nat, k ≤ K ∧ i = .int .i64 k) (fun i => K - (intOf i).toNat)
  case atStart => exact ⟨0, Nat.zero_le _, rfl⟩
  case round =>
    obtain ⟨k, hk, rfl⟩ := hrel
    by_cases hlk : k < K
    · have hin : (k : Int) < (l.length : Int) := by have := HKL.out; omega
      have hks : k < (ByteArray.mk l.toArray).size := by rw [bsz]; omega
      have h9 := chr_get l hks
      have d1 : ((((ByteArray.mk l.toArray)[k]'hks).toNat : Int) != 47) = true := by
        rw [h9]
        exact bne_iff_ne.2 fun e => HL.out k hlk (UInt8.toNat_inj.1 (by show _ = 47; omega))
      clear h9
      have hmx := HMX.out
      go_wp2_with fail
      go_round
      case rel => exact ⟨k + 1, by omega, by go_num⟩
      case measure => simp [intOf]; omega
    · have hkK : k = K := by omega
      subst hkK
      have hks : k < (ByteArray.mk l.toArray).size := by rw [bsz]; have := HKL.out; omega
      have h9 := chr_get l hks
      have h47v : (((ByteArray.mk l.toArray)[k]'hks).toNat : Int) = 47 := by rw [h9, HK7.out]; rfl
      clear h9
      have hin : (k : Int) < (l.length : Int) := by have := HKL.out; omega
      have ewk : IntKind.i64.wrap ((k : Int) + 1) = (k : Int) + 1 := IntWalk.i64_in _ (by have := HMX.out; have := HKL.out; omega)
      have b1 : (0 : Int) ≤ (k : Int) + 1 := by omega
      have b2 : (k : Int) + 1 ≤ (l.length : Int) := by omega
      have b0 : (k : Int) ≤ (l.length : Int) := by omega
      have ex1 := ext1 (n := (ByteArray.mk l.toArray).size) HDR.out (bsz l)
      have ex1' := ext1 HDR.out rfl
      have ex0 := ext0 HT.out rfl
      go_wp2_with fail
      have CT := Lib.hid (rparse_k v2 HSA HZA.out HA.out)
      with_reducible refine CT.out.mono ?_
      rintro e w3 ⟨x4, rfl, hN5, hb⟩
      have N5 := Lib.hid hN5
      clear hN5
      clear CT
      have BX1 := Lib.hid (BX1.out.below hb BX1.out.lt)
      have KG := Lib.hid (KG.out.trans (hb.mono KG.out.size))
      clear hb
      clear N5
      go_upto_region 8 with (fail)
      obtain ⟨v7, hV⟩ : ∃ V, V = w3.alloc (.cells #[.bool x4.s, .slice x4.a x4.n x4.c] 24) := ⟨_, rfl⟩
      have hbV : Below w3.heap.size w3 v7 := by rw [hV]; exact ((Below.refl _ _).alloc (Nat.le_refl _) _)
      have BX6 := Lib.hid (show Bxs v7 (w3.heap.size) 24 [.bool x4.s, .slice x4.a x4.n x4.c] by have h := Bxs.new (w3) 24 [.bool x4.s, .slice x4.a x4.n x4.c]; rw [hV]; exact h)
      rw [show w3.alloc (.cells #[.bool x4.s, .slice x4.a x4.n x4.c] 24) = v7 from hV.symm]
      have BX1 := Lib.hid (BX1.out.below hbV BX1.out.lt)
      have KG := Lib.hid (KG.out.trans (hbV.mono KG.out.size))
      clear hV hbV
      clear BX6
      go_wp2_with fail
      have CT := Lib.hid (rparse_k v7 HSB HZB.out HB2.out)
      with_reducible refine CT.out.mono ?_
      rintro e w8 ⟨x9, rfl, hN10, hb⟩
      have N10 := Lib.hid hN10
      clear hN10
      clear CT
      have BX1 := Lib.hid (BX1.out.below hb BX1.out.lt)
      have KG := Lib.hid (KG.out.trans (hb.mono KG.out.size))
      clear hb
      clear N10
      go_upto_region 9 with (fail)
      obtain ⟨v12, hV⟩ : ∃ V, V = w8.alloc (.cells #[.bool x9.s, .slice x9.a x9.n x9.c] 24) := ⟨_, rfl⟩
      have hbV : Below w8.heap.size w8 v12 := by rw [hV]; exact ((Below.refl _ _).alloc (Nat.le_refl _) _)
      have BX11 := Lib.hid (show Bxs v12 (w8.heap.size) 24 [.bool x9.s, .slice x9.a x9.n x9.c] by have h := Bxs.new (w8) 24 [.bool x9.s, .slice x9.a x9.n x9.c]; rw [hV]; exact h)
      rw [show w8.alloc (.cells #[.bool x9.s, .slice x9.a x9.n x9.c] 24) = v12 from hV.symm]
      have BX1 := Lib.hid (BX1.out.below hbV BX1.out.lt)
      have KG := Lib.hid (KG.out.trans (hbV.mono KG.out.size))
      clear hV hbV
      clear BX11
      have cBX10 := BX1.out.cell (i := 0) rfl
      have cBX11 := BX1.out.cell (i := 1) rfl
      have cBX12 := BX1.out.cell (i := 2) rfl
      have cBX13 := BX1.out.cell (i := 3) rfl
      have cBX1f := BX1.out.fz
      have cBX1l := BX1.out.lt
      go_wp2_with fail
      refine bodyPost_ret (results_ct rfl _ _ _ _ _ _ _ rfl ((((BX1.out.put 0 _).put 1 _).put 2 _).put 3 _) Tryz.underlying26 rfl (by kernel_rfl)) rfl ⟨rfl, (((KG.out.setCell (Nat.le_refl _) _).setCell (Nat.le_refl _) _).setCell (Nat.le_refl _) _).setCell (Nat.le_refl _) _⟩
set_option maxRecDepth 100000 in
set_option maxHeartbeats 8000000 in
theorem rq_y_30 {l a b : List UInt8} {z1 z2 : Int} {c2 : Int} (w : World) (hl : l = a ++ 47 :: b) (hsz : l.length ≤ 9223372036854775806) (h47 : (47 : UInt8) ∉ a) (ha : codeT a = 3) (hza : numT a = z1) (hb2 : codeT b = c2) (hzb : numT b = z2) (h4b : c2 ≠ 4) (hpos : ∃ x r, b = x :: r ∧ x ≠ 45) (hone : b ≠ [48]) : Calls Tryz.prog 13 #[.string ⟨l.toArray⟩] w (RFX w 3) := by
  have KG := Lib.hid (Below.refl w.heap.size w)
  have HA := Lib.hid ha
  have HZA := Lib.hid hza
  have LZz1 := Lib.hid (show lenB z1.natAbs ≤ 23 from by rw [← hza]; exact numT_len a)
  obtain ⟨K, hK⟩ : ∃ K, K = a.length := ⟨_, rfl⟩
  have HMX := Lib.hid hsz
  have hll : l.length = a.length + (b.length + 1) := by rw [hl, List.length_append, List.length_cons]
  have HL := Lib.hid (show ∀ j, j < K → chr l j ≠ 47 by rw [hK, hl]; exact (chr_app h47).1)
  have HK7 := Lib.hid (show chr l K = 47 by rw [hK, hl]; exact (chr_app h47).2)
  have HKL := Lib.hid (show K < l.length by omega)
  have HT := Lib.hid (show l.take K = a by rw [hK, hl, List.take_left'  rfl])
  have HDR := Lib.hid (show l.drop (K + 1) = b by rw [hK, hl, ← List.drop_drop, List.drop_left' rfl]; rfl)
  have HSA : a.length ≤ 9223372036854775806 := by omega
  have HSB : b.length ≤ 9223372036854775806 := by omega
  have HB2 := Lib.hid hb2
  have HZB := Lib.hid hzb
  have LZz2 := Lib.hid (show lenB z2.natAbs ≤ 23 from by rw [← hzb]; exact numT_len b)
  have f4b : (c2 == 4) = false := beq_eq_false_iff_ne.2 h4b
  have hp0 : 0 < (ByteArray.mk b.toArray).size := by obtain ⟨x, r, rfl, h⟩ := hpos; exact Nat.succ_pos _
  have hp1 : ¬ (((ByteArray.mk b.toArray)[0]'hp0).toNat : Int) = 45 := by obtain ⟨x, r, rfl, h⟩ := hpos; exact fun h2 => h (UInt8.toNat_inj.1 (Int.ofNat_inj.1 h2))
  have hp2 : (b == [48]) = false := beq_eq_false_iff_ne.2 hone
  clear hl hsz h47 ha hza hb2 hzb h4b hpos hone hK hll
  go_enter Tryz.func13, Tryz.ntmps13
  go_upto_region 1 with (fail)
  obtain ⟨v2, hV⟩ : ∃ V, V = w.alloc (.cells #[.bool false, .slice none 0 0, .bool false, .slice none 0 0] 26) := ⟨_, rfl⟩
  have hbV : Below w.heap.size w v2 := by rw [hV]; exact ((Below.refl _ _).alloc (Nat.le_refl _) _)
  have BX1 := Lib.hid (show Bxs v2 (w.heap.size) 26 [.bool false, .slice none 0 0, .bool false, .slice none 0 0] by have h := Bxs.new (w) 26 [.bool false, .slice none 0 0, .bool false, .slice none 0 0]; rw [hV]; exact h)
  rw [show w.alloc (.cells #[.bool false, .slice none 0 0, .bool false, .slice none 0 0] 26) = v2 from hV.symm]
  have KG := Lib.hid (KG.out.trans (hbV.mono KG.out.size))
  clear hV hbV
  go_wp2_with fail
  go_loop [4] (fun i => ∃ k : Nat, k ≤ K ∧ i = .int .i64 k) (fun i => K - (intOf i).toNat)
  case atStart => exact ⟨0, Nat.zero_le _, rfl⟩
  case round =>
    obtain ⟨k, hk, rfl⟩ := hrel
    by_cases hlk : k < K
    · have hin : (k : Int) < (l.length : Int) := by have := HKL.out; omega
      have hks : k < (ByteArray.mk l.toArray).size := by rw [bsz]; omega
      have h9 := chr_get l hks
      have d1 : ((((ByteArray.mk l.toArray)[k]'hks).toNat : Int) != 47) = true := by
        rw [h9]
        exact bne_iff_ne.2 fun e => HL.out k hlk (UInt8.toNat_inj.1 (by show _ = 47; omega))
      clear h9
      have hmx := HMX.out
      go_wp2_with fail
      go_round
      case rel => exact ⟨k + 1, by omega, by go_num⟩
      case measure => simp [intOf]; omega
    · have hkK : k = K := by omega
      subst hkK
      have hks : k < (ByteArray.mk l.toArray).size := by rw [bsz]; have := HKL.out; omega
      have h9 := chr_get l hks
      have h47v : (((ByteArray.mk l.toArray)[k]'hks).toNat : Int) = 47 := by rw [h9, HK7.out]; rfl
      clear h9
      have hin : (k : Int) < (l.length : Int) := by have := HKL.out; omega
      have ewk : IntKind.i64.wrap ((k : Int) + 1) = (k : Int) + 1 := IntWalk.i64_in _ (by have := HMX.out; have := HKL.out; omega)
      have b1 : (0 : Int) ≤ (k : Int) + 1 := by omega
      have b2 : (k : Int) + 1 ≤ (l.length : Int) := by omega
      have b0 : (k : Int) ≤ (l.length : Int) := by omega
      have ex1 := ext1 (n := (ByteArray.mk l.toArray).size) HDR.out (bsz l)
      have ex1' := ext1 HDR.out rfl
      have ex0 := ext0 HT.out rfl
      go_wp2_with fail
      have CT := Lib.hid (rparse_k v2 HSA HZA.out HA.out)
      with_reducible refine CT.out.mono ?_
      rintro e w3 ⟨x4, rfl, hN5, hb⟩
      have N5 := Lib.hid hN5
      clear hN5
      clear CT
      have BX1 := Lib.hid (BX1.out.below hb BX1.out.lt)
      have KG := Lib.hid (KG.out.trans (hb.mono KG.out.size))
      clear hb
      clear N5
      go_upto_region 8 with (fail)
      obtain ⟨v7, hV⟩ : ∃ V, V = w3.alloc (.cells #[.bool x4.s, .slice x4.a x4.n x4.c] 24) := ⟨_, rfl⟩
      have hbV : Below w3.heap.size w3 v7 := by rw [hV]; exact ((Below.refl _ _).alloc (Nat.le_refl _) _)
      have BX6 := Lib.hid (show Bxs v7 (w3.heap.size) 24 [.bool x4.s, .slice x4.a x4.n x4.c] by have h := Bxs.new (w3) 24 [.bool x4.s, .slice x4.a x4.n x4.c]; rw [hV]; exact h)
      rw [show w3.alloc (.cells #[.bool x4.s, .slice x4.a x4.n x4.c] 24) = v7 from hV.symm]
      have BX1 := Lib.hid (BX1.out.below hbV BX1.out.lt)
      have KG := Lib.hid (KG.out.trans (hbV.mono KG.out.size))
      clear hV hbV
      clear BX6
      go_wp2_with fail
      have CT := Lib.hid (rparse_k v7 HSB HZB.out HB2.out)
      with_reducible refine CT.out.mono ?_
      rintro e w8 ⟨x9, rfl, hN10, hb⟩
      have N10 := Lib.hid hN10
      clear hN10
      clear CT
      have BX1 := Lib.hid (BX1.out.below hb BX1.out.lt)
      have KG := Lib.hid (KG.out.trans (hb.mono KG.out.size))
      clear hb
      clear N10
      go_upto_region 9 with (fail)
      obtain ⟨v12, hV⟩ : ∃ V, V = w8.alloc (.cells #[.bool x9.s, .slice x9.a x9.n x9.c] 24) := ⟨_, rfl⟩
      have hbV : Below w8.heap.size w8 v12 := by rw [hV]; exact ((Below.refl _ _).alloc (Nat.le_refl _) _)
      have BX11 := Lib.hid (show Bxs v12 (w8.heap.size) 24 [.bool x9.s, .slice x9.a x9.n x9.c] by have h := Bxs.new (w8) 24 [.bool x9.s, .slice x9.a x9.n x9.c]; rw [hV]; exact h)
      rw [show w8.alloc (.cells #[.bool x9.s, .slice x9.a x9.n x9.c] 24) = v12 from hV.symm]
      have BX1 := Lib.hid (BX1.out.below hbV BX1.out.lt)
      have KG := Lib.hid (KG.out.trans (hbV.mono KG.out.size))
      clear hV hbV
      clear BX11
      have cBX10 := BX1.out.cell (i := 0) rfl
      have cBX11 := BX1.out.cell (i := 1) rfl
      have cBX12 := BX1.out.cell (i := 2) rfl
      have cBX13 := BX1.out.cell (i := 3) rfl
      have cBX1f := BX1.out.fz
      have cBX1l := BX1.out.lt
      go_wp2_with fail
      refine bodyPost_ret (results_ct rfl _ _ _ _ _ _ _ rfl ((((BX1.out.put 0 _).put 1 _).put 2 _).put 3 _) Tryz.underlying26 rfl (by kernel_rfl)) rfl ⟨rfl, (((KG.out.setCell (Nat.le_refl _) _).setCell (Nat.le_refl _) _).setCell (Nat.le_refl _) _).setCell (Nat.le_refl _) _⟩
set_option maxRecDepth 100000 in
set_option maxHeartbeats 8000000 in
theorem rq_y_ok {l a b : List UInt8} {z1 z2 : Int} (w : World) (hl : l = a ++ 47 :: b) (hsz : l.length ≤ 9223372036854775806) (h47 : (47 : UInt8) ∉ a) (ha : codeT a = 0) (hza : numT a = z1) (hb2 : codeT b = 0) (hzb : numT b = z2) (hpos : ∃ x r, b = x :: r ∧ x ≠ 45) (hone : b ≠ [48]) (hnz : z2 ≠ 0) : Calls Tryz.prog 13 #[.string ⟨l.toArray⟩] w (RKE w ((z1 : Rat) / ((z2 : Int) : Rat))) := by
  have KG := Lib.hid (Below.refl w.heap.size w)
  have HA := Lib.hid ha
  have HZA := Lib.hid hza
  have LZz1 := Lib.hid (show lenB z1.natAbs ≤ 23 from by rw [← hza]; exact numT_len a)
  obtain ⟨K, hK⟩ : ∃ K, K = a.length := ⟨_, rfl⟩
  have HMX := Lib.hid hsz
  have hll : l.length = a.length + (b.length + 1) := by rw [hl, List.length_append, List.length_cons]
  have HL := Lib.hid (show ∀ j, j < K → chr l j ≠ 47 by rw [hK, hl]; exact (chr_app h47).1)
  have HK7 := Lib.hid (show chr l K = 47 by rw [hK, hl]; exact (chr_app h47).2)
  have HKL := Lib.hid (show K < l.length by omega)
  have HT := Lib.hid (show l.take K = a by rw [hK, hl, List.take_left'  rfl])
  have HDR := Lib.hid (show l.drop (K + 1) = b by rw [hK, hl, ← List.drop_drop, List.drop_left' rfl]; rfl)
  have HSA : a.length ≤ 9223372036854775806 := by omega
  have HSB : b.length ≤ 9223372036854775806 := by omega
  have HB2 := Lib.hid hb2
  have HZB := Lib.hid hzb
  have LZz2 := Lib.hid (show lenB z2.natAbs ≤ 23 from by rw [← hzb]; exact numT_len b)
  have hp0 : 0 < (ByteArray.mk b.toArray).size := by obtain ⟨x, r, rfl, h⟩ := hpos; exact Nat.succ_pos _
  have hp1 : ¬ (((ByteArray.mk b.toArray)[0]'hp0).toNat : Int) = 45 := by obtain ⟨x, r, rfl, h⟩ := hpos; exact fun h2 => h (UInt8.toNat_inj.1 (Int.ofNat_inj.1 h2))
  have hp2 : (b == [48]) = false := beq_eq_false_iff_ne.2 hone
  have HNZ := Lib.hid hnz
  clear hl hsz h47 ha hza hb2 hzb hpos hone hnz hK hll
  obtain ⟨q13, hq13⟩ : ∃ z : Rat, z = (z1 : Rat) / (z2 : Rat) := ⟨_, rfl⟩
  have Hq13 := Lib.hid hq13
  have LQq13 := Lib.hid (show LQ q13 23 by rw [hq13]; exact LQ.make (HNZ.out) (Nat.le_trans LZz1.out (by decide)) (Nat.le_trans LZz2.out (by decide)))
  clear hq13
  go_enter Tryz.func13, Tryz.ntmps13
  go_upto_region 1 with (fail)
  obtain ⟨v2, hV⟩ : ∃ V, V = w.alloc (.cells #[.bool false, .slice none 0 0, .bool false, .slice none 0 0] 26) := ⟨_, rfl⟩
  have hbV : Below w.heap.size w v2 := by rw [hV]; exact ((Below.refl _ _).alloc (Nat.le_refl _) _)
  have BX1 := Lib.hid (show Bxs v2 (w.heap.size) 26 [.bool false, .slice none 0 0, .bool false, .slice none 0 0] by have h := Bxs.new (w) 26 [.bool false, .slice none 0 0, .bool false, .slice none 0 0]; rw [hV]; exact h)
  rw [show w.alloc (.cells #[.bool false, .slice none 0 0, .bool false, .slice none 0 0] 26) = v2 from hV.symm]
  have KG := Lib.hid (KG.out.trans (hbV.mono KG.out.size))
  clear hV hbV
  go_wp2_with fail
  go_loop [4] (fun i => ∃ k : Nat, k ≤ K ∧ i = .int .i64 k) (fun i => K - (intOf i).toNat)
  case atStart => exact ⟨0, Nat.zero_le _, rfl⟩
  case round =>
    obtain ⟨k, hk, rfl⟩ := hrel
    by_cases hlk : k < K
    · have hin : (k : Int) < (l.length : Int) := by have := HKL.out; omega
      have hks : k < (ByteArray.mk l.toArray).size := by rw [bsz]; omega
      have h9 := chr_get l hks
      have d1 : ((((ByteArray.mk l.toArray)[k]'hks).toNat : Int) != 47) = true := by
        rw [h9]
        exact bne_iff_ne.2 fun e => HL.out k hlk (UInt8.toNat_inj.1 (by show _ = 47; omega))
      clear h9
      have hmx := HMX.out
      go_wp2_with fail
      go_round
      case rel => exact ⟨k + 1, by omega, by go_num⟩
      case measure => simp [intOf]; omega
    · have hkK : k = K := by omega
      subst hkK
      have hks : k < (ByteArray.mk l.toArray).size := by rw [bsz]; have := HKL.out; omega
      have h9 := chr_get l hks
      have h47v : (((ByteArray.mk l.toArray)[k]'hks).toNat : Int) = 47 := by rw [h9, HK7.out]; rfl
      clear h9
      have hin : (k : Int) < (l.length : Int) := by have := HKL.out; omega
      have ewk : IntKind.i64.wrap ((k : Int) + 1) = (k : Int) + 1 := IntWalk.i64_in _ (by have := HMX.out; have := HKL.out; omega)
      have b1 : (0 : Int) ≤ (k : Int) + 1 := by omega
      have b2 : (k : Int) + 1 ≤ (l.length : Int) := by omega
      have b0 : (k : Int) ≤ (l.length : Int) := by omega
      have ex1 := ext1 (n := (ByteArray.mk l.toArray).size) HDR.out (bsz l)
      have ex1' := ext1 HDR.out rfl
      have ex0 := ext0 HT.out rfl
      go_wp2_with fail
      have CT := Lib.hid (rparse_k v2 HSA HZA.out HA.out)
      with_reducible refine CT.out.mono ?_
      rintro e w3 ⟨x4, rfl, hN5, hb⟩
      have N5 := Lib.hid hN5
      clear hN5
      clear CT
      have BX1 := Lib.hid (BX1.out.below hb BX1.out.lt)
      have KG := Lib.hid (KG.out.trans (hb.mono KG.out.size))
      clear hb
      go_upto_region 8 with (fail)
      obtain ⟨v7, hV⟩ : ∃ V, V = w3.alloc (.cells #[.bool x4.s, .slice x4.a x4.n x4.c] 24) := ⟨_, rfl⟩
      have hbV : Below w3.heap.size w3 v7 := by rw [hV]; exact ((Below.refl _ _).alloc (Nat.le_refl _) _)
      have BX6 := Lib.hid (show Bxs v7 (w3.heap.size) 24 [.bool x4.s, .slice x4.a x4.n x4.c] by have h := Bxs.new (w3) 24 [.bool x4.s, .slice x4.a x4.n x4.c]; rw [hV]; exact h)
      rw [show w3.alloc (.cells #[.bool x4.s, .slice x4.a x4.n x4.c] 24) = v7 from hV.symm]
      have N5 := Lib.hid (N5.out.below hbV)
      have BX1 := Lib.hid (BX1.out.below hbV BX1.out.lt)
      have KG := Lib.hid (KG.out.trans (hbV.mono KG.out.size))
      clear hV hbV
      go_wp2_with fail
      have CT := Lib.hid (rparse_k v7 HSB HZB.out HB2.out)
      with_reducible refine CT.out.mono ?_
      rintro e w8 ⟨x9, rfl, hN10, hb⟩
      have N10 := Lib.hid hN10
      clear hN10
      clear CT
      have N5 := Lib.hid (N5.out.below hb)
      have BX1 := Lib.hid (BX1.out.below hb BX1.out.lt)
      have BX6 := Lib.hid (BX6.out.below hb BX6.out.lt)
      have KG := Lib.hid (KG.out.trans (hb.mono KG.out.size))
      clear hb
      go_upto_region 9 with (fail)
      obtain ⟨v12, hV⟩ : ∃ V, V = w8.alloc (.cells #[.bool x9.s, .slice x9.a x9.n x9.c] 24) := ⟨_, rfl⟩
      have hbV : Below w8.heap.size w8 v12 := by rw [hV]; exact ((Below.refl _ _).alloc (Nat.le_refl _) _)
      have BX11 := Lib.hid (show Bxs v12 (w8.heap.size) 24 [.bool x9.s, .slice x9.a x9.n x9.c] by have h := Bxs.new (w8) 24 [.bool x9.s, .slice x9.a x9.n x9.c]; rw [hV]; exact h)
      rw [show w8.alloc (.cells #[.bool x9.s, .slice x9.a x9.n x9.c] 24) = v12 from hV.symm]
      have N5 := Lib.hid (N5.out.below hbV)
      have N10 := Lib.hid (N10.out.below hbV)
      have BX1 := Lib.hid (BX1.out.below hbV BX1.out.lt)
      have BX6 := Lib.hid (BX6.out.below hbV BX6.out.lt)
      have KG := Lib.hid (KG.out.trans (hbV.mono KG.out.size))
      clear hV hbV
      have cBX60 := BX6.out.cell (i := 0) rfl
      have cBX61 := BX6.out.cell (i := 1) rfl
      have cBX6f := BX6.out.fz
      have cBX6l := BX6.out.lt
      have cBX110 := BX11.out.cell (i := 0) rfl
      have cBX111 := BX11.out.cell (i := 1) rfl
      have cBX11f := BX11.out.fz
      have cBX11l := BX11.out.lt
      go_wp2_with fail
      have CT := Lib.hid (rlowQ N5.out.k (N5.out.k.len LZz1.out (by decide)) N10.out.k (N10.out.k.len LZz2.out (by decide)) (HNZ.out))
      rw [show (z1 : Rat) / (z2 : Rat) = q13 from Hq13.out.symm] at CT
      with_reducible refine CT.out.mono ?_
      rintro e w14 ⟨x15, rfl, hN16, hb⟩
      have N16 := Lib.hid hN16
      clear hN16
      clear CT
      clear cBX60 cBX61 cBX6f cBX6l
      clear cBX110 cBX111 cBX11f cBX11l
      clear N5
      clear N10
      have BX1 := Lib.hid (BX1.out.below hb BX1.out.lt)
      clear BX6
      clear BX11
      have KG := Lib.hid (KG.out.trans (hb.mono KG.out.size))
      clear hb
      have cBX10 := BX1.out.cell (i := 0) rfl
      have cBX11 := BX1.out.cell (i := 1) rfl
      have cBX12 := BX1.out.cell (i := 2) rfl
      have cBX13 := BX1.out.cell (i := 3) rfl
      have cBX1f := BX1.out.fz
      have cBX1l := BX1.out.lt
      go_wp2_with fail
      refine bodyPost_ret (results_ct rfl _ _ _ _ _ _ _ rfl ((((BX1.out.put 0 _).put 1 _).put 2 _).put 3 _) Tryz.underlying26 rfl (by kernel_rfl)) rfl ⟨x15, rfl, ?_, ?_⟩
      · rw [← Hq13.out]
        exact ((((N16.out.setBxs BX1.out rfl 0 _).setBxs (BX1.out.put 0 _) rfl 1 _).setBxs ((BX1.out.put 0 _).put 1 _) rfl 2 _).setBxs (((BX1.out.put 0 _).put 1 _).put 2 _) rfl 3 _)
      · exact (((KG.out.setCell (Nat.le_refl _) _).setCell (Nat.le_refl _) _).setCell (Nat.le_refl _) _).setCell (Nat.le_refl _) _
set_option maxRecDepth 100000 in
set_option maxHeartbeats 8000000 in
theorem rq_n_4 {l a : List UInt8} {z1 : Int} (w : World) (hl : l = a) (hsz : l.length ≤ 9223372036854775806) (h47 : (47 : UInt8) ∉ a) (ha : codeT a = 4) (hza : numT a = z1) : Calls Tryz.prog 13 #[.string ⟨l.toArray⟩] w (RFX w 4) := by
  have KG := Lib.hid (Below.refl w.heap.size w)
  have HA := Lib.hid ha
  have HZA := Lib.hid hza
  have LZz1 := Lib.hid (show lenB z1.natAbs ≤ 23 from by rw [← hza]; exact numT_len a)
  obtain ⟨K, hK⟩ : ∃ K, K = a.length := ⟨_, rfl⟩
  have HMX := Lib.hid hsz
  have HL := Lib.hid (show ∀ j, j < K → chr l j ≠ 47 by rw [hK, hl]; exact chr_no h47)
  have HKL := Lib.hid (show K ≤ l.length by rw [hK, hl]; exact Nat.le_refl _)
  have HKE := Lib.hid (show K = l.length by rw [hK, hl])
  have HT := Lib.hid (show l.take K = a by rw [hK, hl, List.take_length])
  have HSA : a.length ≤ 9223372036854775806 := by rw [← hl]; exact hsz
  have LZz2 := Lib.hid (show lenB (1 : Int).natAbs ≤ 23 from Nat.le_trans (len1 (by decide) (by decide)) (by decide))
  clear hl hsz h47 ha hza hK
  go_enter Tryz.func13, Tryz.ntmps13
  go_upto_region 1 with (fail)
  obtain ⟨v2, hV⟩ : ∃ V, V = w.alloc (.cells #[.bool false, .slice none 0 0, .bool false, .slice none 0 0] 26) := ⟨_, rfl⟩
  have hbV : Below w.heap.size w v2 := by rw [hV]; exact ((Below.refl _ _).alloc (Nat.le_refl _) _)
  have BX1 := Lib.hid (show Bxs v2 (w.heap.size) 26 [.bool false, .slice none 0 0, .bool false, .slice none 0 0] by have h := Bxs.new (w) 26 [.bool false, .slice none 0 0, .bool false, .slice none 0 0]; rw [hV]; exact h)
  rw [show w.alloc (.cells #[.bool false, .slice none 0 0, .bool false, .slice none 0 0] 26) = v2 from hV.symm]
  have KG := Lib.hid (KG.out.trans (hbV.mono KG.out.size))
  clear hV hbV
  go_wp2_with fail
  go_loop [4] (fun i => ∃ k : Nat, k ≤ K ∧ i = .int .i64 k) (fun i => K - (intOf i).toNat)
  case atStart => exact ⟨0, Nat.zero_le _, rfl⟩
  case round =>
    obtain ⟨k, hk, rfl⟩ := hrel
    by_cases hlk : k < K
    · have hin : (k : Int) < (l.length : Int) := by have := HKL.out; omega
      have hks : k < (ByteArray.mk l.toArray).size := by rw [bsz]; omega
      have h9 := chr_get l hks
      have d1 : ((((ByteArray.mk l.toArray)[k]'hks).toNat : Int) != 47) = true := by
        rw [h9]
        exact bne_iff_ne.2 fun e => HL.out k hlk (UInt8.toNat_inj.1 (by show _ = 47; omega))
      clear h9
      have hmx := HMX.out
      go_wp2_with fail
      go_round
      case rel => exact ⟨k + 1, by omega, by go_num⟩
      case measure => simp [intOf]; omega
    · have hkK : k = K := by omega
      subst hkK
      have hin : ¬ (k : Int) < (l.length : Int) := by have := HKE.out; omega
      have b0 : (k : Int) ≤ (l.length : Int) := by have := HKE.out; omega
      have ex0 := ext0 HT.out rfl
      go_wp2_with fail
      have CT := Lib.hid (rparse_k v2 HSA HZA.out HA.out)
      with_reducible refine CT.out.mono ?_
      rintro e w3 ⟨x4, rfl, hN5, hb⟩
      have N5 := Lib.hid hN5
      clear hN5
      clear CT
      have BX1 := Lib.hid (BX1.out.below hb BX1.out.lt)
      have KG := Lib.hid (KG.out.trans (hb.mono KG.out.size))
      clear hb
      clear N5
      go_upto_region 8 with (fail)
      obtain ⟨v7, hV⟩ : ∃ V, V = w3.alloc (.cells #[.bool x4.s, .slice x4.a x4.n x4.c] 24) := ⟨_, rfl⟩
      have hbV : Below w3.heap.size w3 v7 := by rw [hV]; exact ((Below.refl _ _).alloc (Nat.le_refl _) _)
      have BX6 := Lib.hid (show Bxs v7 (w3.heap.size) 24 [.bool x4.s, .slice x4.a x4.n x4.c] by have h := Bxs.new (w3) 24 [.bool x4.s, .slice x4.a x4.n x4.c]; rw [hV]; exact h)
      rw [show w3.alloc (.cells #[.bool x4.s, .slice x4.a x4.n x4.c] 24) = v7 from hV.symm]
      have BX1 := Lib.hid (BX1.out.below hbV BX1.out.lt)
      have KG := Lib.hid (KG.out.trans (hbV.mono KG.out.size))
      clear hV hbV
      clear BX6
      go_wp2_with fail
      have CT := Lib.hid (rparse_k v7 (l := [49]) (by decide) num1 code1)
      with_reducible refine CT.out.mono ?_
      rintro e w8 ⟨x9, rfl, hN10, hb⟩
      have N10 := Lib.hid hN10
      clear hN10
      clear CT
      have BX1 := Lib.hid (BX1.out.below hb BX1.out.lt)
      have KG := Lib.hid (KG.out.trans (hb.mono KG.out.size))
      clear hb
      clear N10
      go_upto_region 9 with (fail)
      obtain ⟨v12, hV⟩ : ∃ V, V = w8.alloc (.cells #[.bool x9.s, .slice x9.a x9.n x9.c] 24) := ⟨_, rfl⟩
      have hbV : Below w8.heap.size w8 v12 := by rw [hV]; exact ((Below.refl _ _).alloc (Nat.le_refl _) _)
      have BX11 := Lib.hid (show Bxs v12 (w8.heap.size) 24 [.bool x9.s, .slice x9.a x9.n x9.c] by have h := Bxs.new (w8) 24 [.bool x9.s, .slice x9.a x9.n x9.c]; rw [hV]; exact h)
      rw [show w8.alloc (.cells #[.bool x9.s, .slice x9.a x9.n x9.c] 24) = v12 from hV.symm]
      have BX1 := Lib.hid (BX1.out.below hbV BX1.out.lt)
      have KG := Lib.hid (KG.out.trans (hbV.mono KG.out.size))
      clear hV hbV
      clear BX11
      have cBX10 := BX1.out.cell (i := 0) rfl
      have cBX11 := BX1.out.cell (i := 1) rfl
      have cBX12 := BX1.out.cell (i := 2) rfl
      have cBX13 := BX1.out.cell (i := 3) rfl
      have cBX1f := BX1.out.fz
      have cBX1l := BX1.out.lt
      go_wp2_with fail
      refine bodyPost_ret (results_ct rfl _ _ _ _ _ _ _ rfl ((((BX1.out.put 0 _).put 1 _).put 2 _).put 3 _) Tryz.underlying26 rfl (by kernel_rfl)) rfl ⟨rfl, (((KG.out.setCell (Nat.le_refl _) _).setCell (Nat.le_refl _) _).setCell (Nat.le_refl _) _).setCell (Nat.le_refl _) _⟩
set_option maxRecDepth 100000 in
set_option maxHeartbeats 8000000 in
theorem rq_n_3 {l a : List UInt8} {z1 : Int} (w : World) (hl : l = a) (hsz : l.length ≤ 9223372036854775806) (h47 : (47 : UInt8) ∉ a) (ha : codeT a = 3) (hza : numT a = z1) : Calls Tryz.prog 13 #[.string ⟨l.toArray⟩] w (RFX w 3) := by
  have KG := Lib.hid (Below.refl w.heap.size w)
  have HA := Lib.hid ha
  have HZA := Lib.hid hza
  have LZz1 := Lib.hid (show lenB z1.natAbs ≤ 23 from by rw [← hza]; exact numT_len a)
  obtain ⟨K, hK⟩ : ∃ K, K = a.length := ⟨_, rfl⟩
  have HMX := Lib.hid hsz
  have HL := Lib.hid (show ∀ j, j < K → chr l j ≠ 47 by rw [hK, hl]; exact chr_no h47)
  have HKL := Lib.hid (show K ≤ l.length by rw [hK, hl]; exact Nat.le_refl _)
  have HKE := Lib.hid (show K = l.length by rw [hK, hl])
  have HT := Lib.hid (show l.take K = a by rw [hK, hl, List.take_length])
  have HSA : a.length ≤ 9223372036854775806 := by rw [← hl]; exact hsz
  have LZz2 := Lib.hid (show lenB (1 : Int).natAbs ≤ 23 from Nat.le_trans (len1 (by decide) (by decide)) (by decide))
  clear hl hsz h47 ha hza hK
  go_enter Tryz.func13, Tryz.ntmps13
  go_upto_region 1 with (fail)
  obtain ⟨v2, hV⟩ : ∃ V, V = w.alloc (.cells #[.bool false, .slice none 0 0, .bool false, .slice none 0 0] 26) := ⟨_, rfl⟩
  have hbV : Below w.heap.size w v2 := by rw [hV]; exact ((Below.refl _ _).alloc (Nat.le_refl _) _)
  have BX1 := Lib.hid (show Bxs v2 (w.heap.size) 26 [.bool false, .slice none 0 0, .bool false, .slice none 0 0] by have h := Bxs.new (w) 26 [.bool false, .slice none 0 0, .bool false, .slice none 0 0]; rw [hV]; exact h)
  rw [show w.alloc (.cells #[.bool false, .slice none 0 0, .bool false, .slice none 0 0] 26) = v2 from hV.symm]
  have KG := Lib.hid (KG.out.trans (hbV.mono KG.out.size))
  clear hV hbV
  go_wp2_with fail
  go_loop [4] (fun i => ∃ k : Nat, k ≤ K ∧ i = .int .i64 k) (fun i => K - (intOf i).toNat)
  case atStart => exact ⟨0, Nat.zero_le _, rfl⟩
  case round =>
    obtain ⟨k, hk, rfl⟩ := hrel
    by_cases hlk : k < K
    · have hin : (k : Int) < (l.length : Int) := by have := HKL.out; omega
      have hks : k < (ByteArray.mk l.toArray).size := by rw [bsz]; omega
      have h9 := chr_get l hks
      have d1 : ((((ByteArray.mk l.toArray)[k]'hks).toNat : Int) != 47) = true := by
        rw [h9]
        exact bne_iff_ne.2 fun e => HL.out k hlk (UInt8.toNat_inj.1 (by show _ = 47; omega))
      clear h9
      have hmx := HMX.out
      go_wp2_with fail
      go_round
      case rel => exact ⟨k + 1, by omega, by go_num⟩
      case measure => simp [intOf]; omega
    · have hkK : k = K := by omega
      subst hkK
      have hin : ¬ (k : Int) < (l.length : Int) := by have := HKE.out; omega
      have b0 : (k : Int) ≤ (l.length : Int) := by have := HKE.out; omega
      have ex0 := ext0 HT.out rfl
      go_wp2_with fail
      have CT := Lib.hid (rparse_k v2 HSA HZA.out HA.out)
      with_reducible refine CT.out.mono ?_
      rintro e w3 ⟨x4, rfl, hN5, hb⟩
      have N5 := Lib.hid hN5
      clear hN5
      clear CT
      have BX1 := Lib.hid (BX1.out.below hb BX1.out.lt)
      have KG := Lib.hid (KG.out.trans (hb.mono KG.out.size))
      clear hb
      clear N5
      go_upto_region 8 with (fail)
      obtain ⟨v7, hV⟩ : ∃ V, V = w3.alloc (.cells #[.bool x4.s, .slice x4.a x4.n x4.c] 24) := ⟨_, rfl⟩
      have hbV : Below w3.heap.size w3 v7 := by rw [hV]; exact ((Below.refl _ _).alloc (Nat.le_refl _) _)
      have BX6 := Lib.hid (show Bxs v7 (w3.heap.size) 24 [.bool x4.s, .slice x4.a x4.n x4.c] by have h := Bxs.new (w3) 24 [.bool x4.s, .slice x4.a x4.n x4.c]; rw [hV]; exact h)
      rw [show w3.alloc (.cells #[.bool x4.s, .slice x4.a x4.n x4.c] 24) = v7 from hV.symm]
      have BX1 := Lib.hid (BX1.out.below hbV BX1.out.lt)
      have KG := Lib.hid (KG.out.trans (hbV.mono KG.out.size))
      clear hV hbV
      clear BX6
      go_wp2_with fail
      have CT := Lib.hid (rparse_k v7 (l := [49]) (by decide) num1 code1)
      with_reducible refine CT.out.mono ?_
      rintro e w8 ⟨x9, rfl, hN10, hb⟩
      have N10 := Lib.hid hN10
      clear hN10
      clear CT
      have BX1 := Lib.hid (BX1.out.below hb BX1.out.lt)
      have KG := Lib.hid (KG.out.trans (hb.mono KG.out.size))
      clear hb
      clear N10
      go_upto_region 9 with (fail)
      obtain ⟨v12, hV⟩ : ∃ V, V = w8.alloc (.cells #[.bool x9.s, .slice x9.a x9.n x9.c] 24) := ⟨_, rfl⟩
      have hbV : Below w8.heap.size w8 v12 := by rw [hV]; exact ((Below.refl _ _).alloc (Nat.le_refl _) _)
      have BX11 := Lib.hid (show Bxs v12 (w8.heap.size) 24 [.bool x9.s, .slice x9.a x9.n x9.c] by have h := Bxs.new (w8) 24 [.bool x9.s, .slice x9.a x9.n x9.c]; rw [hV]; exact h)
      rw [show w8.alloc (.cells #[.bool x9.s, .slice x9.a x9.n x9.c] 24) = v12 from hV.symm]
      have BX1 := Lib.hid (BX1.out.below hbV BX1.out.lt)
      have KG := Lib.hid (KG.out.trans (hbV.mono KG.out.size))
      clear hV hbV
      clear BX11
      have cBX10 := BX1.out.cell (i := 0) rfl
      have cBX11 := BX1.out.cell (i := 1) rfl
      have cBX12 := BX1.out.cell (i := 2) rfl
      have cBX13 := BX1.out.cell (i := 3) rfl
      have cBX1f := BX1.out.fz
      have cBX1l := BX1.out.lt
      go_wp2_with fail
      refine bodyPost_ret (results_ct rfl _ _ _ _ _ _ _ rfl ((((BX1.out.put 0 _).put 1 _).put 2 _).put 3 _) Tryz.underlying26 rfl (by kernel_rfl)) rfl ⟨rfl, (((KG.out.setCell (Nat.le_refl _) _).setCell (Nat.le_refl _) _).setCell (Nat.le_refl _) _).setCell (Nat.le_refl _) _⟩
set_option maxRecDepth 100000 in
set_option maxHeartbeats 8000000 in
theorem rq_n_ok {l a : List UInt8} {z1 : Int} (w : World) (hl : l = a) (hsz : l.length ≤ 9223372036854775806) (h47 : (47 : UInt8) ∉ a) (ha : codeT a = 0) (hza : numT a = z1) : Calls Tryz.prog 13 #[.string ⟨l.toArray⟩] w (RKE w ((z1 : Rat) / ((1 : Int) : Rat))) := by
  have KG := Lib.hid (Below.refl w.heap.size w)
  have HA := Lib.hid ha
  have HZA := Lib.hid hza
  have LZz1 := Lib.hid (show lenB z1.natAbs ≤ 23 from by rw [← hza]; exact numT_len a)
  obtain ⟨K, hK⟩ : ∃ K, K = a.length := ⟨_, rfl⟩
  have HMX := Lib.hid hsz
  have HL := Lib.hid (show ∀ j, j < K → chr l j ≠ 47 by rw [hK, hl]; exact chr_no h47)
  have HKL := Lib.hid (show K ≤ l.length by rw [hK, hl]; exact Nat.le_refl _)
  have HKE := Lib.hid (show K = l.length by rw [hK, hl])
  have HT := Lib.hid (show l.take K = a by rw [hK, hl, List.take_length])
  have HSA : a.length ≤ 9223372036854775806 := by rw [← hl]; exact hsz
  have LZz2 := Lib.hid (show lenB (1 : Int).natAbs ≤ 23 from Nat.le_trans (len1 (by decide) (by decide)) (by decide))
  clear hl hsz h47 ha hza hK
  obtain ⟨q13, hq13⟩ : ∃ z : Rat, z = (z1 : Rat) / ((1 : Int) : Rat) := ⟨_, rfl⟩
  have Hq13 := Lib.hid hq13
  have LQq13 := Lib.hid (show LQ q13 23 by rw [hq13]; exact LQ.make (by decide) (Nat.le_trans LZz1.out (by decide)) (Nat.le_trans LZz2.out (by decide)))
  clear hq13
  go_enter Tryz.func13, Tryz.ntmps13
  go_upto_region 1 with (fail)
  obtain ⟨v2, hV⟩ : ∃ V, V = w.alloc (.cells #[.bool false, .slice none 0 0, .bool false, .slice none 0 0] 26) := ⟨_, rfl⟩
  have hbV : Below w.heap.size w v2 := by rw [hV]; exact ((Below.refl _ _).alloc (Nat.le_refl _) _)
  have BX1 := Lib.hid (show Bxs v2 (w.heap.size) 26 [.bool false, .slice none 0 0, .bool false, .slice none 0 0] by have h := Bxs.new (w) 26 [.bool false, .slice none 0 0, .bool false, .slice none 0 0]; rw [hV]; exact h)
  rw [show w.alloc (.cells #[.bool false, .slice none 0 0, .bool false, .slice none 0 0] 26) = v2 from hV.symm]
  have KG := Lib.hid (KG.out.trans (hbV.mono KG.out.size))
  clear hV hbV
  go_wp2_with fail
  go_loop [4] (fun i => ∃ k : Nat, k ≤ K ∧ i = .int .i64 k) (fun i => K - (intOf i).toNat)
  case atStart => exact ⟨0, Nat.zero_le _, rfl⟩
  case round =>
    obtain ⟨k, hk, rfl⟩ := hrel
    by_cases hlk : k < K
    · have hin : (k : Int) < (l.length : Int) := by have := HKL.out; omega
      have hks : k < (ByteArray.mk l.toArray).size := by rw [bsz]; omega
      have h9 := chr_get l hks
      have d1 : ((((ByteArray.mk l.toArray)[k]'hks).toNat : Int) != 47) = true := by
        rw [h9]
        exact bne_iff_ne.2 fun e => HL.out k hlk (UInt8.toNat_inj.1 (by show _ = 47; omega))
      clear h9
      have hmx := HMX.out
      go_wp2_with fail
      go_round
      case rel => exact ⟨k + 1, by omega, by go_num⟩
      case measure => simp [intOf]; omega
    · have hkK : k = K := by omega
      subst hkK
      have hin : ¬ (k : Int) < (l.length : Int) := by have := HKE.out; omega
      have b0 : (k : Int) ≤ (l.length : Int) := by have := HKE.out; omega
      have ex0 := ext0 HT.out rfl
      go_wp2_with fail
      have CT := Lib.hid (rparse_k v2 HSA HZA.out HA.out)
      with_reducible refine CT.out.mono ?_
      rintro e w3 ⟨x4, rfl, hN5, hb⟩
      have N5 := Lib.hid hN5
      clear hN5
      clear CT
      have BX1 := Lib.hid (BX1.out.below hb BX1.out.lt)
      have KG := Lib.hid (KG.out.trans (hb.mono KG.out.size))
      clear hb
      go_upto_region 8 with (fail)
      obtain ⟨v7, hV⟩ : ∃ V, V = w3.alloc (.cells #[.bool x4.s, .slice x4.a x4.n x4.c] 24) := ⟨_, rfl⟩
      have hbV : Below w3.heap.size w3 v7 := by rw [hV]; exact ((Below.refl _ _).alloc (Nat.le_refl _) _)
      have BX6 := Lib.hid (show Bxs v7 (w3.heap.size) 24 [.bool x4.s, .slice x4.a x4.n x4.c] by have h := Bxs.new (w3) 24 [.bool x4.s, .slice x4.a x4.n x4.c]; rw [hV]; exact h)
      rw [show w3.alloc (.cells #[.bool x4.s, .slice x4.a x4.n x4.c] 24) = v7 from hV.symm]
      have N5 := Lib.hid (N5.out.below hbV)
      have BX1 := Lib.hid (BX1.out.below hbV BX1.out.lt)
      have KG := Lib.hid (KG.out.trans (hbV.mono KG.out.size))
      clear hV hbV
      go_wp2_with fail
      have CT := Lib.hid (rparse_k v7 (l := [49]) (by decide) num1 code1)
      with_reducible refine CT.out.mono ?_
      rintro e w8 ⟨x9, rfl, hN10, hb⟩
      have N10 := Lib.hid hN10
      clear hN10
      clear CT
      have N5 := Lib.hid (N5.out.below hb)
      have BX1 := Lib.hid (BX1.out.below hb BX1.out.lt)
      have BX6 := Lib.hid (BX6.out.below hb BX6.out.lt)
      have KG := Lib.hid (KG.out.trans (hb.mono KG.out.size))
      clear hb
      go_upto_region 9 with (fail)
      obtain ⟨v12, hV⟩ : ∃ V, V = w8.alloc (.cells #[.bool x9.s, .slice x9.a x9.n x9.c] 24) := ⟨_, rfl⟩
      have hbV : Below w8.heap.size w8 v12 := by rw [hV]; exact ((Below.refl _ _).alloc (Nat.le_refl _) _)
      have BX11 := Lib.hid (show Bxs v12 (w8.heap.size) 24 [.bool x9.s, .slice x9.a x9.n x9.c] by have h := Bxs.new (w8) 24 [.bool x9.s, .slice x9.a x9.n x9.c]; rw [hV]; exact h)
      rw [show w8.alloc (.cells #[.bool x9.s, .slice x9.a x9.n x9.c] 24) = v12 from hV.symm]
      have N5 := Lib.hid (N5.out.below hbV)
      have N10 := Lib.hid (N10.out.below hbV)
      have BX1 := Lib.hid (BX1.out.below hbV BX1.out.lt)
      have BX6 := Lib.hid (BX6.out.below hbV BX6.out.lt)
      have KG := Lib.hid (KG.out.trans (hbV.mono KG.out.size))
      clear hV hbV
      have cBX60 := BX6.out.cell (i := 0) rfl
      have cBX61 := BX6.out.cell (i := 1) rfl
      have cBX6f := BX6.out.fz
      have cBX6l := BX6.out.lt
      have cBX110 := BX11.out.cell (i := 0) rfl
      have cBX111 := BX11.out.cell (i := 1) rfl
      have cBX11f := BX11.out.fz
      have cBX11l := BX11.out.lt
      go_wp2_with fail
      have CT := Lib.hid (rlowQ N5.out.k (N5.out.k.len LZz1.out (by decide)) N10.out.k (N10.out.k.len LZz2.out (by decide)) (by decide))
      rw [show (z1 : Rat) / ((1 : Int) : Rat) = q13 from Hq13.out.symm] at CT
      with_reducible refine CT.out.mono ?_
      rintro e w14 ⟨x15, rfl, hN16, hb⟩
      have N16 := Lib.hid hN16
      clear hN16
      clear CT
      clear cBX60 cBX61 cBX6f cBX6l
      clear cBX110 cBX111 cBX11f cBX11l
      clear N5
      clear N10
      have BX1 := Lib.hid (BX1.out.below hb BX1.out.lt)
      clear BX6
      clear BX11
      have KG := Lib.hid (KG.out.trans (hb.mono KG.out.size))
      clear hb
      have cBX10 := BX1.out.cell (i := 0) rfl
      have cBX11 := BX1.out.cell (i := 1) rfl
      have cBX12 := BX1.out.cell (i := 2) rfl
      have cBX13 := BX1.out.cell (i := 3) rfl
      have cBX1f := BX1.out.fz
      have cBX1l := BX1.out.lt
      go_wp2_with fail
      refine bodyPost_ret (results_ct rfl _ _ _ _ _ _ _ rfl ((((BX1.out.put 0 _).put 1 _).put 2 _).put 3 _) Tryz.underlying26 rfl (by kernel_rfl)) rfl ⟨x15, rfl, ?_, ?_⟩
      · rw [← Hq13.out]
        exact ((((N16.out.setBxs BX1.out rfl 0 _).setBxs (BX1.out.put 0 _) rfl 1 _).setBxs ((BX1.out.put 0 _).put 1 _) rfl 2 _).setBxs (((BX1.out.put 0 _).put 1 _).put 2 _) rfl 3 _)
      · exact (((KG.out.setCell (Nat.le_refl _) _).setCell (Nat.le_refl _) _).setCell (Nat.le_refl _) _).setCell (Nat.le_refl _) _
theorem rq_y {l a b : List UInt8} (w : World) (hl : l = a ++ 47 :: b) (hs : l.length ≤ 9223372036854775806) (h47 : (47 : UInt8) ∉ a) :
    Calls Tryz.prog 13 #[.string ⟨l.toArray⟩] w fun e w' => (codeB a b = 0 ∧ RKE w (ratB a b) e w') ∨ (codeB a b ≠ 0 ∧ RFX w (codeB a b) e w') := by
  have bad : ∀ {c : Int}, codeB a b = c → c ≠ 0 → Calls Tryz.prog 13 #[.string ⟨l.toArray⟩] w (RFX w c) → Calls Tryz.prog 13 #[.string ⟨l.toArray⟩] w fun e w' => (codeB a b = 0 ∧ RKE w (ratB a b) e w') ∨ (codeB a b ≠ 0 ∧ RFX w (codeB a b) e w') :=
    fun e h0 h => h.mono fun _ _ hr => .inr ⟨by rw [e]; exact h0, by rw [e]; exact hr⟩
  rcases codeT_cases a with ca | ⟨ca, za⟩ | ⟨ca, za⟩ <;> rcases codeT_cases b with cb | ⟨cb, zb⟩ | ⟨cb, zb⟩
  · -- both are read
    rcases head_or (codeT_ne (by rw [cb]; decide)) with hn | hp
    · exact bad (badB_of (.inr (.inr (.inl (by obtain ⟨r, rfl⟩ := hn; rfl))))) (by decide) (rq_y_neg w hl hs h47 ca rfl cb rfl (by decide) (by decide) hn)
    · by_cases h1 : b = [48]
      · exact bad (badB_of (.inr (.inr (.inr h1)))) (by decide) (rq_y_one w hl hs h47 ca rfl cb rfl (by decide) h1)
      · have hnb : ¬ badB a b := by
          rintro (h | h | h | h)
          · rw [ca] at h; exact absurd h (by decide)
          · rw [cb] at h; exact absurd h (by decide)
          · obtain ⟨x, r, rfl, hx⟩ := hp
            simp only [List.head?_cons, Option.some.injEq] at h
            exact hx h
          · exact h1 h
        have e0 : codeB a b = 0 := by unfold codeB; rw [if_neg hnb, if_pos ⟨ca, cb⟩]
        exact (rq_y_ok w hl hs h47 ca rfl cb rfl hp h1 (by have := (codeB_zero e0).2.2.1; omega)).mono fun _ _ hr => .inl ⟨e0, hr⟩
  · rcases head_or (codeT_ne (by rw [cb]; decide)) with hn | hp
    · exact bad (badB_of (.inr (.inr (.inl (by obtain ⟨r, rfl⟩ := hn; rfl))))) (by decide) (rq_y_neg w hl hs h47 ca rfl cb rfl (by decide) (by decide) hn)
    · have h1 : b ≠ [48] := fun h => by rw [h, codeT_one] at cb; exact absurd cb (by decide)
      refine bad (codeB_three ?_ fun h => by rw [cb] at h; exact absurd h.2 (by decide)) (by decide) (rq_y_03 w hl hs h47 ca rfl cb rfl hp h1)
      rintro (h | h | h | h)
      · rw [ca] at h; exact absurd h (by decide)
      · rw [cb] at h; exact absurd h (by decide)
      · obtain ⟨x, r, rfl, hx⟩ := hp
        simp only [List.head?_cons, Option.some.injEq] at h
        exact hx h
      · exact h1 h
  · exact bad (badB_of (.inr (.inl cb))) (by decide) (rq_y_b4 w hl hs h47 ca rfl cb rfl (by decide))
  · rcases head_or (codeT_ne (by rw [cb]; decide)) with hn | hp
    · exact bad (badB_of (.inr (.inr (.inl (by obtain ⟨r, rfl⟩ := hn; rfl))))) (by decide) (rq_y_neg w hl hs h47 ca rfl cb rfl (by decide) (by decide) hn)
    · by_cases h1 : b = [48]
      · exact bad (badB_of (.inr (.inr (.inr h1)))) (by decide) (rq_y_one w hl hs h47 ca rfl cb rfl (by decide) h1)
      · refine bad (codeB_three ?_ fun h => by rw [ca] at h; exact absurd h.1 (by decide)) (by decide) (rq_y_30 w hl hs h47 ca rfl cb rfl (by decide) hp h1)
        rintro (h | h | h | h)
        · rw [ca] at h; exact absurd h (by decide)
        · rw [cb] at h; exact absurd h (by decide)
        · obtain ⟨x, r, rfl, hx⟩ := hp
          simp only [List.head?_cons, Option.some.injEq] at h
          exact hx h
        · exact h1 h
  · rcases head_or (codeT_ne (by rw [cb]; decide)) with hn | hp
    · exact bad (badB_of (.inr (.inr (.inl (by obtain ⟨r, rfl⟩ := hn; rfl))))) (by decide) (rq_y_neg w hl hs h47 ca rfl cb rfl (by decide) (by decide) hn)
    · have h1 : b ≠ [48] := fun h => by rw [h, codeT_one] at cb; exact absurd cb (by decide)
      refine bad (codeB_three ?_ fun h => by rw [cb] at h; exact absurd h.2 (by decide)) (by decide) (rq_y_30 w hl hs h47 ca rfl cb rfl (by decide) hp h1)
      rintro (h | h | h | h)
      · rw [ca] at h; exact absurd h (by decide)
      · rw [cb] at h; exact absurd h (by decide)
      · obtain ⟨x, r, rfl, hx⟩ := hp
        simp only [List.head?_cons, Option.some.injEq] at h
        exact hx h
      · exact h1 h
  · exact bad (badB_of (.inr (.inl cb))) (by decide) (rq_y_b4 w hl hs h47 ca rfl cb rfl (by decide))
  · exact bad (badB_of (.inl ca)) (by decide) (rq_y_a4 w hl hs h47 ca rfl cb rfl)
  · exact bad (badB_of (.inl ca)) (by decide) (rq_y_a4 w hl hs h47 ca rfl cb rfl)
  · exact bad (badB_of (.inl ca)) (by decide) (rq_y_a4 w hl hs h47 ca rfl cb rfl)
theorem good1' {a : List UInt8} (h : codeT a ≠ 4) : ¬ badB a [49] := by
  rintro (h' | h' | h' | h')
  · exact h h'
  · rw [code1] at h'; exact absurd h' (by decide)
  · exact absurd h' (by decide)
  · exact absurd h' (by decide)
theorem rq_n {l a : List UInt8} (w : World) (hl : l = a) (hs : l.length ≤ 9223372036854775806) (h47 : (47 : UInt8) ∉ a) :
    Calls Tryz.prog 13 #[.string ⟨l.toArray⟩] w fun e w' => (codeB a [49] = 0 ∧ RKE w (ratB a [49]) e w') ∨ (codeB a [49] ≠ 0 ∧ RFX w (codeB a [49]) e w') := by
  rcases codeT_cases a with ca | ⟨ca, za⟩ | ⟨ca, za⟩
  · have e0 : codeB a [49] = 0 := by unfold codeB; rw [if_neg (good1' (by rw [ca]; decide)), if_pos ⟨ca, code1⟩]
    refine (rq_n_ok w hl hs h47 ca rfl).mono fun _ _ hr => .inl ⟨e0, ?_⟩
    unfold ratB; rw [num1]; exact hr
  · have e3 : codeB a [49] = 3 := codeB_three (good1' (by rw [ca]; decide)) fun h => by rw [ca] at h; exact absurd h.1 (by decide)
    exact (rq_n_3 w hl hs h47 ca rfl).mono fun _ _ hr => .inr ⟨by rw [e3]; decide, by rw [e3]; exact hr⟩
  · have e4 : codeB a [49] = 4 := badB_of (.inl ca)
    exact (rq_n_4 w hl hs h47 ca rfl).mono fun _ _ hr => .inr ⟨by rw [e4]; decide, by rw [e4]; exact hr⟩
theorem rq_any (l : List UInt8) (w : World) (hs : l.length ≤ 9223372036854775806) :
    Calls Tryz.prog 13 #[.string ⟨l.toArray⟩] w fun e w' => (codeF l = 0 ∧ RKE w (ratF l) e w') ∨ (codeF l ≠ 0 ∧ RFX w (codeF l) e w') := by
  unfold codeF ratF
  by_cases h : (47 : UInt8) ∈ l
  · obtain ⟨a, b, e, ha⟩ := List.eq_append_cons_of_mem h
    obtain ⟨p1, p2⟩ := parts_of (b := b) ha
    rw [← e] at p1 p2
    rw [p1, p2]
    exact rq_y w e hs ha
  · obtain ⟨p1, p2⟩ := parts_ofn h
    rw [p1, p2]
    exact rq_n w rfl hs h
end Go.Proofs.YtklidpbdgliemaaGreatDoor.Limb
