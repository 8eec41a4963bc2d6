/-
  The law LimbsShift: whatever it is handed, it returns true, and what it was handed reads behind the call as it read before; the card ties the listed tables to the program's text.
-/
import Derived.Test.YtefjjhfahebmeaaGreatDoorRsG
import Derived.Test.YtefjjhfahebmeaaGreatDoorCards
import Derived.Test.YtefjjhfahebmeaaGreatDoorTie
import Derived.Lay
import Derived.MakeChecks
import Derived.Stop.LaidErr
import Derived.Deep.DeepWitnessRowRef
import Derived.WalkKit
import Derived.ProofKit
import Derived.OpenShut
import Derived.Deep.DeepHandedRow
import Derived.Lib.LaidTab
set_option linter.unusedSimpArgs false
set_option linter.unusedVariables false
namespace Go.Proofs.YtefjjhfahebmeaaGreatDoor.Limb
open Go.RowKit Go.Sort
structure LowIs (M K j : Nat) : Prop where
  le : j ≤ K
  z : ∀ i, j ≤ i → i < K → dg M i = 0
  n : 0 < j → dg M (j - 1) ≠ 0
theorem nine_more (l : List UInt8) (j : Nat) : (⟨(l ++ List.replicate (9 * j) 48).toArray⟩ : ByteArray) ++ ⟨#[48, 48, 48, 48, 48, 48, 48, 48, 48]⟩ = ⟨(l ++ List.replicate (9 * (j + 1)) 48).toArray⟩ := by
  have e : (#[48, 48, 48, 48, 48, 48, 48, 48, 48] : Array UInt8) = (List.replicate 9 (48 : UInt8)).toArray := by simp [List.replicate]
  apply ByteArray.ext
  rw [ByteArray.data_append, e, List.append_toArray, List.append_assoc, List.replicate_append_replicate, show 9 * j + 9 = 9 * (j + 1) by omega]
theorem rd_off {w : World} {b off n : Nat} {o : Nat → Int} (h : Rd w (some ⟨b, off, none⟩) n o) {k : Nat} (hk : k ≤ n) : Rd w (some ⟨b, off + k, none⟩) (n - k) (fun i => o (k + i)) := by
  refine ⟨fun hn => ?_, fun i hi => h.rng _ (by omega)⟩
  obtain ⟨b', off', e, hc⟩ := h.cells (by omega)
  cases e
  exact ⟨b, off + k, rfl, fun i hi => by rw [Nat.add_assoc]; exact hc (k + i) (by omega)⟩
theorem sameLimbs_b (a b : Option Addr) (n n' ca cb : Nat) (o : Nat → Int) (w : World) (e : n = n') (ha : Rd w a n o) (hb : Rd w b n' o) (hn : n ≤ 1000000000) :
    Calls Tryz.prog 26 #[.slice a n ca, .slice b n' cb] w fun e w' => e = .returned (.bool true) ∧ Below w.heap.size w w' := by
  subst e
  exact (sameLimbs_any a b n ca cb o w ha hb hn).mono fun e w' ⟨h1, m, h2⟩ => ⟨h1, by rw [h2]; exact bdrewN (Below.refl _ _) m⟩
set_option maxRecDepth 100000 in
set_option maxHeartbeats 16000000 in
theorem shift_long (n1 c1 : Nat) (a1 : Option Addr) (o1 : Nat → Int) (m : Int) (w : World) (htab : Tab w) (hr : Rd w a1 n1 o1) (l1 : n1 ≤ c1) (hl : 60 < n1) : Calls Tryz.prog 4 #[.slice a1 n1 c1, .int .u8 m] w fun e w' => e = .returned (.bool true) ∧ Below w.heap.size w w' := by
  have HT := Lib.hid htab
  have KG := Lib.hid (Below.refl w.heap.size w)
  have N1 := Lib.hid (AN.raw (s := false) hr l1)
  have HL := Lib.hid hl
  clear hl
  clear htab hr l1
  go_enter Tryz.func4, Tryz.ntmps4
  go_upto_region 2 with (fail)
  obtain ⟨v2, hV⟩ : ∃ V, V = w.alloc (.cells #[.bool false, .slice a1 n1 c1] 24) := ⟨_, rfl⟩
  have hbV : Below w.heap.size w v2 := by rw [hV]; exact ((Below.refl _ _).alloc (Nat.le_refl _) _)
  have BX1 := Lib.hid (show Bxs v2 (w.heap.size) 24 [.bool false, .slice a1 n1 c1] by have h := Bxs.new (w) 24 [.bool false, .slice a1 n1 c1]; rw [hV]; exact h)
  rw [show w.alloc (.cells #[.bool false, .slice a1 n1 c1] 24) = v2 from hV.symm]
  have KG := Lib.hid (KG.out.trans (hbV.mono KG.out.size))
  clear hV hbV
  clear BX1
  have g60 : ((n1 : Int) > 60) := by have := HL.out; omega
  go_wp2_with fail
  have CT := Lib.hid (alive_true v2 (HT.out.on KG.out))
  with_reducible refine CT.out.mono ?_
  rintro e w3 ⟨rfl, hb⟩
  clear CT
  have KG := Lib.hid (KG.out.trans (hb.mono KG.out.size))
  clear hb
  go_wp2_with fail
  have CT := Lib.hid (alive_true w3 (HT.out.on KG.out))
  with_reducible refine CT.out.mono ?_
  rintro e w4 ⟨rfl, hb⟩
  clear CT
  have KG := Lib.hid (KG.out.trans (hb.mono KG.out.size))
  clear hb
  go_wp2_with fail
  go_ret
  exact ⟨rfl, KG.out⟩
set_option maxRecDepth 100000 in
set_option maxHeartbeats 16000000 in
theorem shift_none (n1 c1 : Nat) (a1 : Option Addr) (o1 : Nat → Int) (m : Int) (w : World) (htab : Tab w) (hr : Rd w a1 n1 o1) (l1 : n1 ≤ c1) (hl : n1 = 0) : Calls Tryz.prog 4 #[.slice a1 n1 c1, .int .u8 m] w fun e w' => e = .returned (.bool true) ∧ Below w.heap.size w w' := by
  have HT := Lib.hid htab
  have KG := Lib.hid (Below.refl w.heap.size w)
  have N1 := Lib.hid (AN.raw (s := false) hr l1)
  have HL := Lib.hid hl
  clear hl
  clear htab hr l1
  go_enter Tryz.func4, Tryz.ntmps4
  go_upto_region 2 with (fail)
  obtain ⟨v2, hV⟩ : ∃ V, V = w.alloc (.cells #[.bool false, .slice a1 n1 c1] 24) := ⟨_, rfl⟩
  have hbV : Below w.heap.size w v2 := by rw [hV]; exact ((Below.refl _ _).alloc (Nat.le_refl _) _)
  have BX1 := Lib.hid (show Bxs v2 (w.heap.size) 24 [.bool false, .slice a1 n1 c1] by have h := Bxs.new (w) 24 [.bool false, .slice a1 n1 c1]; rw [hV]; exact h)
  rw [show w.alloc (.cells #[.bool false, .slice a1 n1 c1] 24) = v2 from hV.symm]
  have KG := Lib.hid (KG.out.trans (hbV.mono KG.out.size))
  clear hV hbV
  clear BX1
  have g60 : ¬ ((n1 : Int) > 60) := by have := HL.out; omega
  have g0 : ((n1 : Int) == 0) = true := by have := HL.out; rw [this]; rfl
  go_wp2_with fail
  have CT := Lib.hid (alive_true v2 (HT.out.on KG.out))
  with_reducible refine CT.out.mono ?_
  rintro e w3 ⟨rfl, hb⟩
  clear CT
  have KG := Lib.hid (KG.out.trans (hb.mono KG.out.size))
  clear hb
  go_wp2_with fail
  have CT := Lib.hid (alive_true w3 (HT.out.on KG.out))
  with_reducible refine CT.out.mono ?_
  rintro e w4 ⟨rfl, hb⟩
  clear CT
  have KG := Lib.hid (KG.out.trans (hb.mono KG.out.size))
  clear hb
  go_wp2_with fail
  go_ret
  exact ⟨rfl, KG.out⟩
set_option maxRecDepth 100000 in
set_option maxHeartbeats 16000000 in
theorem shift_bad (n1 c1 : Nat) (a1 : Option Addr) (o1 : Nat → Int) (m : Int) (w : World) (htab : Tab w) (hr : Rd w a1 n1 o1) (l1 : n1 ≤ c1) (b1 : n1 ≤ 60) (hk : ¬ okN false n1 o1) (hl : 0 < n1) : Calls Tryz.prog 4 #[.slice a1 n1 c1, .int .u8 m] w fun e w' => e = .returned (.bool true) ∧ Below w.heap.size w w' := by
  have HT := Lib.hid htab
  have KG := Lib.hid (Below.refl w.heap.size w)
  have Bx1 := Lib.hid b1
  have N1 := Lib.hid (XN.raw (s := false) hr l1 hk)
  have HL := Lib.hid (And.intro hl b1)
  clear hl
  clear htab hr l1 b1 hk
  go_enter Tryz.func4, Tryz.ntmps4
  go_upto_region 2 with (fail)
  obtain ⟨v2, hV⟩ : ∃ V, V = w.alloc (.cells #[.bool false, .slice a1 n1 c1] 24) := ⟨_, rfl⟩
  have hbV : Below w.heap.size w v2 := by rw [hV]; exact ((Below.refl _ _).alloc (Nat.le_refl _) _)
  have BX1 := Lib.hid (show Bxs v2 (w.heap.size) 24 [.bool false, .slice a1 n1 c1] by have h := Bxs.new (w) 24 [.bool false, .slice a1 n1 c1]; rw [hV]; exact h)
  rw [show w.alloc (.cells #[.bool false, .slice a1 n1 c1] 24) = v2 from hV.symm]
  have KG := Lib.hid (KG.out.trans (hbV.mono KG.out.size))
  clear hV hbV
  have g60 : ¬ ((n1 : Int) > 60) := by have := HL.out; omega
  have g0 : ((n1 : Int) == 0) = false := by have := HL.out; simp; omega
  go_wp2_with fail
  have CT := Lib.hid (alive_true v2 (HT.out.on KG.out))
  with_reducible refine CT.out.mono ?_
  rintro e w3 ⟨rfl, hb⟩
  clear CT
  have BX1 := Lib.hid (BX1.out.below hb BX1.out.lt)
  have KG := Lib.hid (KG.out.trans (hb.mono KG.out.size))
  clear hb
  have cBX10 := BX1.out.cell (i := 0) rfl
  have cBX11 := BX1.out.cell (i := 1) rfl
  have cBX1f := BX1.out.fz
  have cBX1l := BX1.out.lt
  go_wp2_with fail
  have CT := Lib.hid (checkBN (N1.out.below KG.out) (show n1 ≤ 10000000 from Nat.le_trans Bx1.out (by decide)))
  with_reducible refine CT.out.mono ?_
  rintro e w4 ⟨rfl, hb⟩
  clear CT
  clear cBX10 cBX11 cBX1f cBX1l
  clear BX1
  have KG := Lib.hid (KG.out.trans (hb.mono KG.out.size))
  clear hb
  go_wp2_with fail
  have CT := Lib.hid (alive_true w4 (HT.out.on KG.out))
  with_reducible refine CT.out.mono ?_
  rintro e w5 ⟨rfl, hb⟩
  clear CT
  have KG := Lib.hid (KG.out.trans (hb.mono KG.out.size))
  clear hb
  go_wp2_with fail
  go_ret
  exact ⟨rfl, KG.out⟩
set_option maxRecDepth 100000 in
set_option maxHeartbeats 16000000 in
theorem shift_small (xb xo n1 c1 : Nat) (o1 : Nat → Int) (m : Int) (w : World) (htab : Tab w) (hr : Rd w (some ⟨xb, xo, none⟩) n1 o1) (l1 : n1 ≤ c1) (b1 : n1 ≤ 60) (hk : okN false n1 o1) (hl : 0 < n1) (hm1 : 0 ≤ m) (hm2 : m ≤ 255) (hKn : (n1 : Int) ≤ m.tmod 20) : Calls Tryz.prog 4 #[.slice (some ⟨xb, xo, none⟩) n1 c1, .int .u8 m] w fun e w' => e = .returned (.bool true) ∧ Below w.heap.size w w' := by
  have HT := Lib.hid htab
  have KG := Lib.hid (Below.refl w.heap.size w)
  have Bx1 := Lib.hid b1
  obtain ⟨p1, hp1⟩ : ∃ q, q = valN false n1 o1 := ⟨_, rfl⟩
  have N1 := Lib.hid (show KN w (⟨false, (some ⟨xb, xo, none⟩), n1, c1⟩ : NV) p1 by rw [hp1]; exact KN.raw hr l1 hk)
  have LZp1 := Lib.hid (show lenB p1.natAbs ≤ 60 by have h : n1 = _ := N1.out.n; omega)
  have HL := Lib.hid (And.intro hl b1)
  have ht1 := Int.tmod_nonneg 20 hm1
  have ht2 := Int.tmod_lt_of_pos m (show (0 : Int) < 20 by decide)
  obtain ⟨K, hK⟩ : ∃ K : Nat, m.tmod 20 = (K : Int) := ⟨(m.tmod 20).toNat, by omega⟩
  have HK1 := Lib.hid hK
  have HK := Lib.hid (show K < 20 by omega)
  obtain ⟨N, hN⟩ : ∃ N, N = K + 1 := ⟨_, rfl⟩
  have HN := Lib.hid hN
  obtain ⟨M, hM⟩ : ∃ M, M = p1.natAbs := ⟨_, rfl⟩
  have HPM := Lib.hid hM.symm
  have HP1 := Lib.hid (show p1 = (M : Int) by have h := N1.out.s; have h := of_decide_eq_false h.symm; omega)
  have HLM := Lib.hid (show lenB M = n1 by rw [hM]; exact N1.out.n.symm)
  have HM0 := Lib.hid (show 0 < M by rw [← pos_of_len, HLM.out]; exact hl)
  obtain ⟨zb, hzb⟩ : ∃ z : Int, z = (pw K : Int) := ⟨_, rfl⟩
  have HZB := Lib.hid hzb
  have LZzb := Lib.hid (show lenB zb.natAbs ≤ 21 by rw [hzb, Int.natAbs_natCast, lenB_pw]; omega)
  have HNZ := Lib.hid (show zb ≠ 0 by have := pw_pos K; omega)
  obtain ⟨TA, hTA⟩ : ∃ t : ByteArray, t = ⟨(Lib.itoa p1).toArray⟩ := ⟨_, rfl⟩
  have HTA := Lib.hid hTA.symm
  have HTL := Lib.hid (show (Lib.itoa p1).length ≤ 9 * 60 + 2 by have h1 : Lib.nDigits p1.natAbs ≤ 9 * 60 + 1 := itoa_lenN LZp1.out rfl; rw [itoa_len_eq]; split <;> omega)
  obtain ⟨nw, hnw⟩ : ∃ k, k = n1 + K := ⟨_, rfl⟩
  have HNW := Lib.hid hnw
  have HKn := Lib.hid (show n1 ≤ K by omega)
  clear ht1 ht2 hl hK hN hM hzb hTA hnw hKn hm1 hm2
  clear htab hr l1 b1 hk hp1
  obtain ⟨zw, hzw⟩ : ∃ z : Int, z = p1 * zb := ⟨_, rfl⟩
  have Hzw := Lib.hid hzw
  have LZzw := Lib.hid (show lenB zw.natAbs ≤ 81 by rw [hzw]; exact lenZ_mul LZp1.out LZzb.out)
  clear hzw
  obtain ⟨zq, hzq⟩ : ∃ z : Int, z = p1 / zb := ⟨_, rfl⟩
  have Hzq := Lib.hid hzq
  have LZzq := Lib.hid (show lenB zq.natAbs ≤ 61 by rw [hzq]; exact len_ediv (Nat.le_trans LZp1.out (by decide) : lenB p1.natAbs ≤ 60) (by decide) (HNZ.out))
  clear hzq
  obtain ⟨zr, hzr⟩ : ∃ z : Int, z = p1 % zb := ⟨_, rfl⟩
  have Hzr := Lib.hid hzr
  have LZzr := Lib.hid (show lenB zr.natAbs ≤ 21 by rw [hzr]; exact len_emod (x := p1) LZzb.out (HNZ.out))
  clear hzr
  have HZA := Lib.hid (show zw.natAbs = M * pw K by rw [Hzw.out, HP1.out, HZB.out, ← Int.natCast_mul, Int.natAbs_natCast])
  have HZN := Lib.hid (show lenB zw.natAbs = nw by rw [HZA.out, lenB_mul_pw HM0.out, HLM.out, HNW.out])
  obtain ⟨TB, hTB⟩ : ∃ t : ByteArray, t = ⟨(Lib.itoa zw).toArray⟩ := ⟨_, rfl⟩
  have HTB := Lib.hid hTB.symm
  have HTBE := Lib.hid (show (⟨(Lib.itoa p1 ++ List.replicate (9 * K) 48).toArray⟩ : ByteArray) = TB by rw [hTB, Hzw.out, HP1.out, HZB.out, ← Int.natCast_mul, itoa_shift HM0.out])
  clear hTB
  have HQ0 := Lib.hid (show zq = 0 by rw [Hzq.out, HP1.out, HZB.out, ← Int.natCast_ediv, (div_small_pw (by rw [HLM.out]; exact HKn.out)).1]; rfl)
  have HR0 := Lib.hid (show zr = p1 by rw [Hzr.out, HP1.out, HZB.out, ← Int.natCast_emod, (div_small_pw (by rw [HLM.out]; exact HKn.out)).2])
  go_enter Tryz.func4, Tryz.ntmps4
  go_upto_region 2 with (fail)
  obtain ⟨v2, hV⟩ : ∃ V, V = w.alloc (.cells #[.bool false, .slice (some ⟨xb, xo, none⟩) n1 c1] 24) := ⟨_, rfl⟩
  have hbV : Below w.heap.size w v2 := by rw [hV]; exact ((Below.refl _ _).alloc (Nat.le_refl _) _)
  have BX1 := Lib.hid (show Bxs v2 (w.heap.size) 24 [.bool false, .slice (some ⟨xb, xo, none⟩) n1 c1] by have h := Bxs.new (w) 24 [.bool false, .slice (some ⟨xb, xo, none⟩) n1 c1]; rw [hV]; exact h)
  rw [show w.alloc (.cells #[.bool false, .slice (some ⟨xb, xo, none⟩) n1 c1] 24) = v2 from hV.symm]
  have KG := Lib.hid (KG.out.trans (hbV.mono KG.out.size))
  clear hV hbV
  have g60 : ¬ ((n1 : Int) > 60) := by have := HL.out; omega
  have g0 : ((n1 : Int) == 0) = false := by have := HL.out; simp; omega
  go_wp2_with fail
  have CT := Lib.hid (alive_true v2 (HT.out.on KG.out))
  with_reducible refine CT.out.mono ?_
  rintro e w3 ⟨rfl, hb⟩
  clear CT
  have BX1 := Lib.hid (BX1.out.below hb BX1.out.lt)
  have KG := Lib.hid (KG.out.trans (hb.mono KG.out.size))
  clear hb
  have cBX10 := BX1.out.cell (i := 0) rfl
  have cBX11 := BX1.out.cell (i := 1) rfl
  have cBX1f := BX1.out.fz
  have cBX1l := BX1.out.lt
  go_wp2_with fail
  have CT := Lib.hid (checkN (N1.out.below KG.out) (show n1 ≤ 10000000 from Nat.le_trans Bx1.out (by decide)))
  with_reducible refine CT.out.mono ?_
  rintro e w4 ⟨rfl, hb⟩
  clear CT
  clear cBX10 cBX11 cBX1f cBX1l
  have BX1 := Lib.hid (BX1.out.below hb BX1.out.lt)
  have KG := Lib.hid (KG.out.trans (hb.mono KG.out.size))
  clear hb
  have hk1 := HK1.out
  have hk2 : IntKind.i64.wrap (K : Int) = K := IntWalk.i64_in _ (by have := HK.out; omega)
  have hk3 : IntKind.i64.wrap ((K : Int) + 1) = (N : Int) := by have := HN.out; have := HK.out; rw [IntWalk.i64_in _ (by omega)]; omega
  have hmk := run_make_row' (P := Tryz.prog) 22 54 (.int .u32 0) 4 Tryz.underlying22 info32 rfl .i64 .i64 N (by have := HN.out; have := HK.out; omega) (by have := HN.out; have := HK.out; omega)
  go_upto_region 6 with (fail)
  obtain ⟨W1, hW1⟩ : ∃ W1, W1 = w4.alloc (.cells (madeCells #[Value.int .u32 0] N) 54) := ⟨_, rfl⟩
  have R1 := Lib.hid (show W1.rowIs w4.heap.size 54 N (fun _ => .int .u32 0) by rw [hW1]; exact World.rowIs_made w4 (.int .u32 0) N 54)
  have hb1 : Below w4.heap.size w4 W1 := by rw [hW1]; exact (Below.refl _ _).alloc (Nat.le_refl _) _
  have hs1 : W1.heap.size = w4.heap.size + 1 := by rw [hW1, World.size_alloc]
  obtain ⟨W2, hW2⟩ : ∃ W2, W2 = W1.alloc (.cells #[.bool false, .slice (some ⟨w4.heap.size, 0, none⟩) N N] 24) := ⟨_, rfl⟩
  have BXB := Lib.hid (show Bxs W2 (w4.heap.size + 1) 24 [.bool false, .slice (some ⟨w4.heap.size, 0, none⟩) N N] by have h := Bxs.new W1 24 [.bool false, .slice (some ⟨w4.heap.size, 0, none⟩) N N]; rw [hs1] at h; rw [hW2]; exact h)
  have R2 := Lib.hid (show W2.rowIs w4.heap.size 54 N (fun _ => .int .u32 0) by rw [hW2]; exact R1.out.alloc _)
  have hb2 : Below w4.heap.size w4 W2 := by rw [hW2]; exact hb1.alloc (by rw [hs1]; omega) _
  obtain ⟨gb, hgb⟩ : ∃ g, g = w4.heap.size := ⟨_, rfl⟩
  rw [← hW1, ← hW2, ← hgb]
  rw [← hgb] at R2 BXB
  have HGB := Lib.hid hgb
  have HB2 := Lib.hid hb2
  clear R1 hb1 hmk hgb hW1 hW2 hs1 hb2 hk1 hk3
  have c0 := BXB.out.cell (i := 0) rfl
  have c1 := BXB.out.cell (i := 1) rfl
  have cf := BXB.out.fz
  have cl := BXB.out.lt
  have hkN : K < N := by have := HN.out; omega
  have r1 := R2.out.cell (i := K) hkN
  have r2 := R2.out.frozen K
  go_upto_region 7 with (fail)
  clear c0 c1 cf cl r1 r2
  obtain ⟨W3, hW3⟩ : ∃ W3, W3 = W2.setCell ⟨gb, K, none⟩ (.int .u32 1) := ⟨_, rfl⟩
  have R3 := R2.out.set K (.int .u32 1)
  have hb3 : Below w4.heap.size w4 W3 := by rw [hW3]; exact HB2.out.setCell (by rw [HGB.out]; exact Nat.le_refl _) _
  have BXB := Lib.hid (show Bxs W3 (gb + 1) 24 [.bool false, .slice (some ⟨gb, 0, none⟩) N N] by rw [hW3]; exact BXB.out.other (by dsimp only; omega) _)
  have NB := Lib.hid (show KN W3 (⟨false, some ⟨gb, 0, none⟩, N, N⟩ : NV) zb by
    have hz : zb.natAbs = pw K := by have := HZB.out; omega
    refine ⟨(decide_eq_false (by have := HZB.out; omega)).symm, by rw [hz, lenB_pw]; exact HN.out, ⟨fun _ => ⟨gb, 0, rfl, fun i hi => ?_⟩, fun i hi => ?_⟩, Nat.le_refl _⟩
    · have h := R3.cell (i := i) hi
      rw [hW3, Nat.zero_add, h, hz]
      show some _ = some (Value.int .u32 ((dg (pw K) i : Nat) : Int))
      rw [dg_pw K i (by have := HN.out; have : i < N := hi; omega)]
      by_cases e : i = K <;> simp [e]
    · rw [hz]
      have := dg_lt (pw K) i
      show (0 : Int) ≤ ((dg (pw K) i : Nat) : Int) ∧ ((dg (pw K) i : Nat) : Int) ≤ _
      omega)
  rw [show W2.setCell ⟨gb, K, none⟩ (.int .u32 1) = W3 from hW3.symm]
  clear R3 R2 hkN HGB HB2 hW3 hk2
  have BX1 := Lib.hid (BX1.out.below hb3 BX1.out.lt)
  have KG := Lib.hid (KG.out.trans (hb3.mono KG.out.size))
  clear hb3
  have cBX10 := BX1.out.cell (i := 0) rfl
  have cBX11 := BX1.out.cell (i := 1) rfl
  have cBX1f := BX1.out.fz
  have cBX1l := BX1.out.lt
  have cBXB0 := BXB.out.cell (i := 0) rfl
  have cBXB1 := BXB.out.cell (i := 1) rfl
  have cBXBf := BXB.out.fz
  have cBXBl := BXB.out.lt
  go_wp2_with fail
  have CT := Lib.hid (mulN (N1.out.below KG.out).any (show n1 ≤ 10000000 from Nat.le_trans Bx1.out (by decide)) NB.out.any (NB.out.len LZzb.out (by decide)))
  rw [show p1 * zb = zw from Hzw.out.symm] at CT
  with_reducible refine CT.out.mono ?_
  rintro e w5 ⟨x6, rfl, hN7, hb⟩
  have N7 := Lib.hid hN7
  clear hN7
  clear CT
  clear cBX10 cBX11 cBX1f cBX1l
  clear cBXB0 cBXB1 cBXBf cBXBl
  have NB := Lib.hid (NB.out.below hb)
  have BX1 := Lib.hid (BX1.out.below hb BX1.out.lt)
  have BXB := Lib.hid (BXB.out.below hb BXB.out.lt)
  have KG := Lib.hid (KG.out.trans (hb.mono KG.out.size))
  clear hb
  go_upto_region 8 with (fail)
  obtain ⟨v9, hV⟩ : ∃ V, V = w5.alloc (.cells #[.bool x6.s, .slice x6.a x6.n x6.c] 24) := ⟨_, rfl⟩
  have hbV : Below w5.heap.size w5 v9 := by rw [hV]; exact ((Below.refl _ _).alloc (Nat.le_refl _) _)
  have BX8 := Lib.hid (show Bxs v9 (w5.heap.size) 24 [.bool x6.s, .slice x6.a x6.n x6.c] by have h := Bxs.new (w5) 24 [.bool x6.s, .slice x6.a x6.n x6.c]; rw [hV]; exact h)
  rw [show w5.alloc (.cells #[.bool x6.s, .slice x6.a x6.n x6.c] 24) = v9 from hV.symm]
  have NB := Lib.hid (NB.out.below hbV)
  have N7 := Lib.hid (N7.out.below hbV)
  have BX1 := Lib.hid (BX1.out.below hbV BX1.out.lt)
  have BXB := Lib.hid (BXB.out.below hbV BXB.out.lt)
  have KG := Lib.hid (KG.out.trans (hbV.mono KG.out.size))
  clear hV hbV
  have cBX10 := BX1.out.cell (i := 0) rfl
  have cBX11 := BX1.out.cell (i := 1) rfl
  have cBX1f := BX1.out.fz
  have cBX1l := BX1.out.lt
  have cBXB0 := BXB.out.cell (i := 0) rfl
  have cBXB1 := BXB.out.cell (i := 1) rfl
  have cBXBf := BXB.out.fz
  have cBXBl := BXB.out.lt
  go_wp2_with fail
  have CT := Lib.hid (divN (N1.out.below KG.out) (show n1 ≤ 10000000 from Nat.le_trans Bx1.out (by decide)) NB.out (NB.out.len LZzb.out (by decide)) (HNZ.out))
  rw [show p1 / zb = zq from Hzq.out.symm] at CT
  rw [show p1 % zb = zr from Hzr.out.symm] at CT
  with_reducible refine CT.out.mono ?_
  rintro e w10 ⟨x11, x12, rfl, hN13, hN14, hb⟩
  have N13 := Lib.hid hN13
  clear hN13
  have N14 := Lib.hid hN14
  clear hN14
  clear CT
  clear cBX10 cBX11 cBX1f cBX1l
  clear cBXB0 cBXB1 cBXBf cBXBl
  clear NB
  have N7 := Lib.hid (N7.out.below hb)
  have BX1 := Lib.hid (BX1.out.below hb BX1.out.lt)
  clear BXB
  have BX8 := Lib.hid (BX8.out.below hb BX8.out.lt)
  have KG := Lib.hid (KG.out.trans (hb.mono KG.out.size))
  clear hb
  go_upto_region 9 with (fail)
  obtain ⟨v17, hV⟩ : ∃ V, V = (w10.alloc (.cells #[.bool x11.s, .slice x11.a x11.n x11.c] 24)).alloc (.cells #[.bool x12.s, .slice x12.a x12.n x12.c] 24) := ⟨_, rfl⟩
  have hbV : Below w10.heap.size w10 v17 := by rw [hV]; exact (((Below.refl _ _).alloc (Nat.le_refl _) _).alloc (by go_size) _)
  have BX15 := Lib.hid (show Bxs v17 (w10.heap.size) 24 [.bool x11.s, .slice x11.a x11.n x11.c] by have h := (Bxs.new (w10) 24 [.bool x11.s, .slice x11.a x11.n x11.c]).alloc (.cells #[.bool x12.s, .slice x12.a x12.n x12.c] 24); rw [hV]; exact h)
  have BX16 := Lib.hid (show Bxs v17 (w10.heap.size + 1) 24 [.bool x12.s, .slice x12.a x12.n x12.c] by have h := Bxs.new (w10.alloc (.cells #[.bool x11.s, .slice x11.a x11.n x11.c] 24)) 24 [.bool x12.s, .slice x12.a x12.n x12.c]; simp only [World.size_alloc] at h; rw [hV]; exact h)
  rw [show (w10.alloc (.cells #[.bool x11.s, .slice x11.a x11.n x11.c] 24)).alloc (.cells #[.bool x12.s, .slice x12.a x12.n x12.c] 24) = v17 from hV.symm]
  have N7 := Lib.hid (N7.out.below hbV)
  have N13 := Lib.hid (N13.out.below hbV)
  have N14 := Lib.hid (N14.out.below hbV)
  have BX1 := Lib.hid (BX1.out.below hbV BX1.out.lt)
  have BX8 := Lib.hid (BX8.out.below hbV BX8.out.lt)
  have KG := Lib.hid (KG.out.trans (hbV.mono KG.out.size))
  clear hV hbV
  have cBX10 := BX1.out.cell (i := 0) rfl
  have cBX11 := BX1.out.cell (i := 1) rfl
  have cBX1f := BX1.out.fz
  have cBX1l := BX1.out.lt
  go_wp2_with fail
  have CT := Lib.hid (textN (N1.out.below KG.out).any (show n1 ≤ 10000000 from Nat.le_trans Bx1.out (by decide)) (HT.out.on KG.out))
  rw [show (⟨(Lib.itoa p1).toArray⟩ : ByteArray) = TA from HTA.out] at CT
  with_reducible refine CT.out.mono ?_
  rintro e w18 ⟨rfl, hb⟩
  clear CT
  clear cBX10 cBX11 cBX1f cBX1l
  have N7 := Lib.hid (N7.out.below hb)
  have N13 := Lib.hid (N13.out.below hb)
  have N14 := Lib.hid (N14.out.below hb)
  have BX1 := Lib.hid (BX1.out.below hb BX1.out.lt)
  have BX8 := Lib.hid (BX8.out.below hb BX8.out.lt)
  have BX15 := Lib.hid (BX15.out.below hb BX15.out.lt)
  have BX16 := Lib.hid (BX16.out.below hb BX16.out.lt)
  have KG := Lib.hid (KG.out.trans (hb.mono KG.out.size))
  clear hb
  go_upto_block 0 with (fail)
  go_cut [12, 13] (fun t i wx => t = .string TB ∧ ∃ j : Int, i = .int .i64 j ∧ wx = w18)
  case first =>
    go_wp2_with fail
    go_loopw [12, 13] (fun t i wr => ∃ j : Nat, j ≤ K ∧ i = .int .i64 j ∧ t = .string ⟨(Lib.itoa p1 ++ List.replicate (9 * j) 48).toArray⟩ ∧ wr = w18) (fun _ i _ => K - (intOf i).toNat)
    case atStart => exact ⟨0, Nat.zero_le _, rfl, by rw [← HTA.out, Nat.mul_zero, List.replicate_zero, List.append_nil], rfl⟩
    case round =>
      obtain ⟨j, hj, rfl, rfl, rfl⟩ := hrel
      by_cases hjk : j < K
      · have e1 : IntKind.i64.wrap ((j : Int) + 1) = (j : Int) + 1 := IntWalk.i64_in _ (by have := HK.out; omega)
        have l1 : ¬ (9223372036854775807 < (Lib.itoa p1 ++ List.replicate (9 * j) 48).length + 9) := by
          have h1 := HTL.out
          rw [List.length_append, List.length_replicate]
          have := HK.out
          omega
        obtain ⟨TC, hTC⟩ : ∃ t : ByteArray, t = ⟨(Lib.itoa p1 ++ List.replicate (9 * j) 48).toArray⟩ := ⟨_, rfl⟩
        have l2 : ¬ (9223372036854775807 < TC.size + 9) := by rw [hTC]; show ¬ (_ < (List.toArray _).size + 9); rw [List.size_toArray]; exact l1
        obtain ⟨TD, hTD⟩ : ∃ t : ByteArray, t = TC ++ ⟨#[48, 48, 48, 48, 48, 48, 48, 48, 48]⟩ := ⟨_, rfl⟩
        have eTD := hTD.symm
        rw [← hTC]
        have HTC := Lib.hid hTC
        have HTD := Lib.hid hTD
        clear hTC hTD l1
        go_wp2_with fail
        go_roundw
        case rel => exact ⟨j + 1, by omega, by simp [*], by rw [HTD.out, HTC.out]; exact congrArg Value.string (nine_more _ _), trivial⟩
        case measure => simp [intOf]; omega
      · obtain rfl : j = K := by omega
        have HQ := Lib.hid hjk
        clear hjk
        go_wp2_with fail
        go_meet
        case rel => exact ⟨by rw [HTBE.out], _, rfl, rfl⟩
  case rest =>
    obtain ⟨rfl, j13, rfl, rfl⟩ := hcut
    have cBX80 := BX8.out.cell (i := 0) rfl
    have cBX81 := BX8.out.cell (i := 1) rfl
    have cBX8f := BX8.out.fz
    have cBX8l := BX8.out.lt
    go_wp2_with fail
    have CT := Lib.hid (textN N7.out.k.any (N7.out.k.len LZzw.out (by decide)) (HT.out.on KG.out))
    rw [show (⟨(Lib.itoa zw).toArray⟩ : ByteArray) = TB from HTB.out] at CT
    with_reducible refine CT.out.mono ?_
    rintro e w19 ⟨rfl, hb⟩
    clear CT
    clear cBX80 cBX81 cBX8f cBX8l
    have N7 := Lib.hid (N7.out.below hb)
    have N13 := Lib.hid (N13.out.below hb)
    have N14 := Lib.hid (N14.out.below hb)
    have BX1 := Lib.hid (BX1.out.below hb BX1.out.lt)
    have BX8 := Lib.hid (BX8.out.below hb BX8.out.lt)
    have BX15 := Lib.hid (BX15.out.below hb BX15.out.lt)
    have BX16 := Lib.hid (BX16.out.below hb BX16.out.lt)
    have KG := Lib.hid (KG.out.trans (hb.mono KG.out.size))
    clear hb
    obtain ⟨wb, wo, hwa, -⟩ := (N7.out.k.rd).cells (by rw [N7.out.n, HZN.out]; have := HNW.out; have := HL.out; omega)
    have BX8 := Lib.hid (show Bxs w19 (w5.heap.size) 24 [.bool x6.s, .slice (some ⟨wb, wo, none⟩) nw x6.c] by have h := BX8.out; rw [hwa, N7.out.n, HZN.out] at h; exact h)
    have HW := Lib.hid (show Rd w19 (some ⟨wb, wo + K, none⟩) (nw - K) (dgi p1.natAbs) from (by have h := N7.out.k.rd; rw [hwa, N7.out.n, HZN.out] at h; exact (rd_off h (by have := HNW.out; omega)).congr fun i _ => by show ((dg _ _ : Nat) : Int) = ((dg _ _ : Nat) : Int); rw [HZA.out, dg_mul_pw, HPM.out])) 
    have HWC := Lib.hid (show nw ≤ x6.c by have h := N7.out.k.le; rw [N7.out.n, HZN.out] at h; exact h)
    clear hwa
    have sk1 : K ≤ x6.c := by have := HWC.out; have := HNW.out; omega
    have sk5 : ¬ (x6.c = K) := by have := HWC.out; have := HNW.out; have := HL.out; omega
    have sk2 : K ≤ nw := by have := HNW.out; omega
    have sk3 : (K : Int) ≤ (nw : Int) := by omega
    have sk4 : (0 : Int) ≤ (K : Int) := by omega
    have esz : IntKind.i64.wrap ((n1 : Int) + (K : Int)) = (nw : Int) := by rw [IntWalk.i64_in _ (by have := HK.out; have := Bx1.out; omega)]; have := HNW.out; omega
    have cBX80 := BX8.out.cell (i := 0) rfl
    have cBX81 := BX8.out.cell (i := 1) rfl
    have cBX8f := BX8.out.fz
    have cBX8l := BX8.out.lt
    go_wp2_with fail
    have CT := Lib.hid (sameLimbs_b (some ⟨wb, wo + K, none⟩) (some ⟨xb, xo, none⟩) (nw - K) n1 (x6.c - K) c1 (dgi p1.natAbs) w19 (by have := HNW.out; omega) HW.out (N1.out.below KG.out).rd (by have := Bx1.out; have := HNW.out; omega))
    with_reducible refine CT.out.mono ?_
    rintro e w20 ⟨rfl, hb⟩
    clear CT
    clear cBX80 cBX81 cBX8f cBX8l
    clear N7
    have N13 := Lib.hid (N13.out.below hb)
    have N14 := Lib.hid (N14.out.below hb)
    have BX1 := Lib.hid (BX1.out.below hb BX1.out.lt)
    clear BX8
    have BX15 := Lib.hid (BX15.out.below hb BX15.out.lt)
    have BX16 := Lib.hid (BX16.out.below hb BX16.out.lt)
    have KG := Lib.hid (KG.out.trans (hb.mono KG.out.size))
    clear hb
    have g16 : ((n1 : Int) ≤ (K : Int)) := by have := HKn.out; omega
    have e17 : (x11.n : Int) = 0 := by have h := N13.out.k.n; rw [HQ0.out, show lenB (0 : Int).natAbs = 0 from lenB_zero] at h; omega
    have cBX150 := BX15.out.cell (i := 0) rfl
    have cBX151 := BX15.out.cell (i := 1) rfl
    have cBX15f := BX15.out.fz
    have cBX15l := BX15.out.lt
    have cBX160 := BX16.out.cell (i := 0) rfl
    have cBX161 := BX16.out.cell (i := 1) rfl
    have cBX16f := BX16.out.fz
    have cBX16l := BX16.out.lt
    have cBX10 := BX1.out.cell (i := 0) rfl
    have cBX11 := BX1.out.cell (i := 1) rfl
    have cBX1f := BX1.out.fz
    have cBX1l := BX1.out.lt
    go_wp2_with fail
    have CT := Lib.hid (sameTN N14.out.k (N14.out.k.len LZzr.out (by decide)) (N1.out.below KG.out) (show n1 ≤ 10000000 from Nat.le_trans Bx1.out (by decide)) (HR0.out))
    with_reducible refine CT.out.mono ?_
    rintro e w21 ⟨rfl, hb⟩
    clear CT
    clear cBX150 cBX151 cBX15f cBX15l
    clear cBX160 cBX161 cBX16f cBX16l
    clear cBX10 cBX11 cBX1f cBX1l
    clear N13
    clear N14
    clear BX1
    clear BX15
    clear BX16
    have KG := Lib.hid (KG.out.trans (hb.mono KG.out.size))
    clear hb
    go_wp2_with fail
    go_ret
    exact ⟨rfl, KG.out⟩
set_option maxRecDepth 100000 in
set_option maxHeartbeats 16000000 in
theorem shift_big (xb xo n1 c1 : Nat) (o1 : Nat → Int) (m : Int) (w : World) (htab : Tab w) (hr : Rd w (some ⟨xb, xo, none⟩) n1 o1) (l1 : n1 ≤ c1) (b1 : n1 ≤ 60) (hk : okN false n1 o1) (hl : 0 < n1) (hm1 : 0 ≤ m) (hm2 : m ≤ 255) (hKn : ¬ (n1 : Int) ≤ m.tmod 20) : Calls Tryz.prog 4 #[.slice (some ⟨xb, xo, none⟩) n1 c1, .int .u8 m] w fun e w' => e = .returned (.bool true) ∧ Below w.heap.size w w' := by
  have HT := Lib.hid htab
  have KG := Lib.hid (Below.refl w.heap.size w)
  have Bx1 := Lib.hid b1
  obtain ⟨p1, hp1⟩ : ∃ q, q = valN false n1 o1 := ⟨_, rfl⟩
  have N1 := Lib.hid (show KN w (⟨false, (some ⟨xb, xo, none⟩), n1, c1⟩ : NV) p1 by rw [hp1]; exact KN.raw hr l1 hk)
  have LZp1 := Lib.hid (show lenB p1.natAbs ≤ 60 by have h : n1 = _ := N1.out.n; omega)
  have HL := Lib.hid (And.intro hl b1)
  have ht1 := Int.tmod_nonneg 20 hm1
  have ht2 := Int.tmod_lt_of_pos m (show (0 : Int) < 20 by decide)
  obtain ⟨K, hK⟩ : ∃ K : Nat, m.tmod 20 = (K : Int) := ⟨(m.tmod 20).toNat, by omega⟩
  have HK1 := Lib.hid hK
  have HK := Lib.hid (show K < 20 by omega)
  obtain ⟨N, hN⟩ : ∃ N, N = K + 1 := ⟨_, rfl⟩
  have HN := Lib.hid hN
  obtain ⟨M, hM⟩ : ∃ M, M = p1.natAbs := ⟨_, rfl⟩
  have HPM := Lib.hid hM.symm
  have HP1 := Lib.hid (show p1 = (M : Int) by have h := N1.out.s; have h := of_decide_eq_false h.symm; omega)
  have HLM := Lib.hid (show lenB M = n1 by rw [hM]; exact N1.out.n.symm)
  have HM0 := Lib.hid (show 0 < M by rw [← pos_of_len, HLM.out]; exact hl)
  obtain ⟨zb, hzb⟩ : ∃ z : Int, z = (pw K : Int) := ⟨_, rfl⟩
  have HZB := Lib.hid hzb
  have LZzb := Lib.hid (show lenB zb.natAbs ≤ 21 by rw [hzb, Int.natAbs_natCast, lenB_pw]; omega)
  have HNZ := Lib.hid (show zb ≠ 0 by have := pw_pos K; omega)
  obtain ⟨TA, hTA⟩ : ∃ t : ByteArray, t = ⟨(Lib.itoa p1).toArray⟩ := ⟨_, rfl⟩
  have HTA := Lib.hid hTA.symm
  have HTL := Lib.hid (show (Lib.itoa p1).length ≤ 9 * 60 + 2 by have h1 : Lib.nDigits p1.natAbs ≤ 9 * 60 + 1 := itoa_lenN LZp1.out rfl; rw [itoa_len_eq]; split <;> omega)
  obtain ⟨nw, hnw⟩ : ∃ k, k = n1 + K := ⟨_, rfl⟩
  have HNW := Lib.hid hnw
  have HKn := Lib.hid (show K < n1 by omega)
  have HKC := Lib.hid (show K ≤ c1 by omega)
  have HKL := Lib.hid l1
  clear ht1 ht2 hl hK hN hM hzb hTA hnw hKn hm1 hm2
  clear htab hr l1 b1 hk hp1
  obtain ⟨zw, hzw⟩ : ∃ z : Int, z = p1 * zb := ⟨_, rfl⟩
  have Hzw := Lib.hid hzw
  have LZzw := Lib.hid (show lenB zw.natAbs ≤ 81 by rw [hzw]; exact lenZ_mul LZp1.out LZzb.out)
  clear hzw
  obtain ⟨zq, hzq⟩ : ∃ z : Int, z = p1 / zb := ⟨_, rfl⟩
  have Hzq := Lib.hid hzq
  have LZzq := Lib.hid (show lenB zq.natAbs ≤ 61 by rw [hzq]; exact len_ediv (Nat.le_trans LZp1.out (by decide) : lenB p1.natAbs ≤ 60) (by decide) (HNZ.out))
  clear hzq
  obtain ⟨zr, hzr⟩ : ∃ z : Int, z = p1 % zb := ⟨_, rfl⟩
  have Hzr := Lib.hid hzr
  have LZzr := Lib.hid (show lenB zr.natAbs ≤ 21 by rw [hzr]; exact len_emod (x := p1) LZzb.out (HNZ.out))
  clear hzr
  have HZA := Lib.hid (show zw.natAbs = M * pw K by rw [Hzw.out, HP1.out, HZB.out, ← Int.natCast_mul, Int.natAbs_natCast])
  have HZN := Lib.hid (show lenB zw.natAbs = nw by rw [HZA.out, lenB_mul_pw HM0.out, HLM.out, HNW.out])
  obtain ⟨TB, hTB⟩ : ∃ t : ByteArray, t = ⟨(Lib.itoa zw).toArray⟩ := ⟨_, rfl⟩
  have HTB := Lib.hid hTB.symm
  have HTBE := Lib.hid (show (⟨(Lib.itoa p1 ++ List.replicate (9 * K) 48).toArray⟩ : ByteArray) = TB by rw [hTB, Hzw.out, HP1.out, HZB.out, ← Int.natCast_mul, itoa_shift HM0.out])
  clear hTB
  have HQA := Lib.hid (show zq.natAbs = M / pw K by rw [Hzq.out, HP1.out, HZB.out, ← Int.natCast_ediv, Int.natAbs_natCast])
  have HQA2 := Lib.hid (show 0 ≤ zq by rw [Hzq.out, HP1.out, HZB.out, ← Int.natCast_ediv]; exact Int.natCast_nonneg _)
  have HRA := Lib.hid (show zr.natAbs = M % pw K by rw [Hzr.out, HP1.out, HZB.out, ← Int.natCast_emod, Int.natAbs_natCast])
  have HRA2 := Lib.hid (show 0 ≤ zr by rw [Hzr.out, HP1.out, HZB.out, ← Int.natCast_emod]; exact Int.natCast_nonneg _)
  have HQN := Lib.hid (show lenB zq.natAbs = n1 - K by rw [HQA.out, lenB_div_pw (by rw [HLM.out]; exact HKn.out), HLM.out])
  go_enter Tryz.func4, Tryz.ntmps4
  go_upto_region 2 with (fail)
  obtain ⟨v2, hV⟩ : ∃ V, V = w.alloc (.cells #[.bool false, .slice (some ⟨xb, xo, none⟩) n1 c1] 24) := ⟨_, rfl⟩
  have hbV : Below w.heap.size w v2 := by rw [hV]; exact ((Below.refl _ _).alloc (Nat.le_refl _) _)
  have BX1 := Lib.hid (show Bxs v2 (w.heap.size) 24 [.bool false, .slice (some ⟨xb, xo, none⟩) n1 c1] by have h := Bxs.new (w) 24 [.bool false, .slice (some ⟨xb, xo, none⟩) n1 c1]; rw [hV]; exact h)
  rw [show w.alloc (.cells #[.bool false, .slice (some ⟨xb, xo, none⟩) n1 c1] 24) = v2 from hV.symm]
  have KG := Lib.hid (KG.out.trans (hbV.mono KG.out.size))
  clear hV hbV
  have g60 : ¬ ((n1 : Int) > 60) := by have := HL.out; omega
  have g0 : ((n1 : Int) == 0) = false := by have := HL.out; simp; omega
  go_wp2_with fail
  have CT := Lib.hid (alive_true v2 (HT.out.on KG.out))
  with_reducible refine CT.out.mono ?_
  rintro e w3 ⟨rfl, hb⟩
  clear CT
  have BX1 := Lib.hid (BX1.out.below hb BX1.out.lt)
  have KG := Lib.hid (KG.out.trans (hb.mono KG.out.size))
  clear hb
  have cBX10 := BX1.out.cell (i := 0) rfl
  have cBX11 := BX1.out.cell (i := 1) rfl
  have cBX1f := BX1.out.fz
  have cBX1l := BX1.out.lt
  go_wp2_with fail
  have CT := Lib.hid (checkN (N1.out.below KG.out) (show n1 ≤ 10000000 from Nat.le_trans Bx1.out (by decide)))
  with_reducible refine CT.out.mono ?_
  rintro e w4 ⟨rfl, hb⟩
  clear CT
  clear cBX10 cBX11 cBX1f cBX1l
  have BX1 := Lib.hid (BX1.out.below hb BX1.out.lt)
  have KG := Lib.hid (KG.out.trans (hb.mono KG.out.size))
  clear hb
  have hk1 := HK1.out
  have hk2 : IntKind.i64.wrap (K : Int) = K := IntWalk.i64_in _ (by have := HK.out; omega)
  have hk3 : IntKind.i64.wrap ((K : Int) + 1) = (N : Int) := by have := HN.out; have := HK.out; rw [IntWalk.i64_in _ (by omega)]; omega
  have hmk := run_make_row' (P := Tryz.prog) 22 54 (.int .u32 0) 4 Tryz.underlying22 info32 rfl .i64 .i64 N (by have := HN.out; have := HK.out; omega) (by have := HN.out; have := HK.out; omega)
  go_upto_region 6 with (fail)
  obtain ⟨W1, hW1⟩ : ∃ W1, W1 = w4.alloc (.cells (madeCells #[Value.int .u32 0] N) 54) := ⟨_, rfl⟩
  have R1 := Lib.hid (show W1.rowIs w4.heap.size 54 N (fun _ => .int .u32 0) by rw [hW1]; exact World.rowIs_made w4 (.int .u32 0) N 54)
  have hb1 : Below w4.heap.size w4 W1 := by rw [hW1]; exact (Below.refl _ _).alloc (Nat.le_refl _) _
  have hs1 : W1.heap.size = w4.heap.size + 1 := by rw [hW1, World.size_alloc]
  obtain ⟨W2, hW2⟩ : ∃ W2, W2 = W1.alloc (.cells #[.bool false, .slice (some ⟨w4.heap.size, 0, none⟩) N N] 24) := ⟨_, rfl⟩
  have BXB := Lib.hid (show Bxs W2 (w4.heap.size + 1) 24 [.bool false, .slice (some ⟨w4.heap.size, 0, none⟩) N N] by have h := Bxs.new W1 24 [.bool false, .slice (some ⟨w4.heap.size, 0, none⟩) N N]; rw [hs1] at h; rw [hW2]; exact h)
  have R2 := Lib.hid (show W2.rowIs w4.heap.size 54 N (fun _ => .int .u32 0) by rw [hW2]; exact R1.out.alloc _)
  have hb2 : Below w4.heap.size w4 W2 := by rw [hW2]; exact hb1.alloc (by rw [hs1]; omega) _
  obtain ⟨gb, hgb⟩ : ∃ g, g = w4.heap.size := ⟨_, rfl⟩
  rw [← hW1, ← hW2, ← hgb]
  rw [← hgb] at R2 BXB
  have HGB := Lib.hid hgb
  have HB2 := Lib.hid hb2
  clear R1 hb1 hmk hgb hW1 hW2 hs1 hb2 hk1 hk3
  have c0 := BXB.out.cell (i := 0) rfl
  have c1 := BXB.out.cell (i := 1) rfl
  have cf := BXB.out.fz
  have cl := BXB.out.lt
  have hkN : K < N := by have := HN.out; omega
  have r1 := R2.out.cell (i := K) hkN
  have r2 := R2.out.frozen K
  go_upto_region 7 with (fail)
  clear c0 c1 cf cl r1 r2
  obtain ⟨W3, hW3⟩ : ∃ W3, W3 = W2.setCell ⟨gb, K, none⟩ (.int .u32 1) := ⟨_, rfl⟩
  have R3 := R2.out.set K (.int .u32 1)
  have hb3 : Below w4.heap.size w4 W3 := by rw [hW3]; exact HB2.out.setCell (by rw [HGB.out]; exact Nat.le_refl _) _
  have BXB := Lib.hid (show Bxs W3 (gb + 1) 24 [.bool false, .slice (some ⟨gb, 0, none⟩) N N] by rw [hW3]; exact BXB.out.other (by dsimp only; omega) _)
  have NB := Lib.hid (show KN W3 (⟨false, some ⟨gb, 0, none⟩, N, N⟩ : NV) zb by
    have hz : zb.natAbs = pw K := by have := HZB.out; omega
    refine ⟨(decide_eq_false (by have := HZB.out; omega)).symm, by rw [hz, lenB_pw]; exact HN.out, ⟨fun _ => ⟨gb, 0, rfl, fun i hi => ?_⟩, fun i hi => ?_⟩, Nat.le_refl _⟩
    · have h := R3.cell (i := i) hi
      rw [hW3, Nat.zero_add, h, hz]
      show some _ = some (Value.int .u32 ((dg (pw K) i : Nat) : Int))
      rw [dg_pw K i (by have := HN.out; have : i < N := hi; omega)]
      by_cases e : i = K <;> simp [e]
    · rw [hz]
      have := dg_lt (pw K) i
      show (0 : Int) ≤ ((dg (pw K) i : Nat) : Int) ∧ ((dg (pw K) i : Nat) : Int) ≤ _
      omega)
  rw [show W2.setCell ⟨gb, K, none⟩ (.int .u32 1) = W3 from hW3.symm]
  clear R3 R2 hkN HGB HB2 hW3 hk2
  have BX1 := Lib.hid (BX1.out.below hb3 BX1.out.lt)
  have KG := Lib.hid (KG.out.trans (hb3.mono KG.out.size))
  clear hb3
  have cBX10 := BX1.out.cell (i := 0) rfl
  have cBX11 := BX1.out.cell (i := 1) rfl
  have cBX1f := BX1.out.fz
  have cBX1l := BX1.out.lt
  have cBXB0 := BXB.out.cell (i := 0) rfl
  have cBXB1 := BXB.out.cell (i := 1) rfl
  have cBXBf := BXB.out.fz
  have cBXBl := BXB.out.lt
  go_wp2_with fail
  have CT := Lib.hid (mulN (N1.out.below KG.out).any (show n1 ≤ 10000000 from Nat.le_trans Bx1.out (by decide)) NB.out.any (NB.out.len LZzb.out (by decide)))
  rw [show p1 * zb = zw from Hzw.out.symm] at CT
  with_reducible refine CT.out.mono ?_
  rintro e w5 ⟨x6, rfl, hN7, hb⟩
  have N7 := Lib.hid hN7
  clear hN7
  clear CT
  clear cBX10 cBX11 cBX1f cBX1l
  clear cBXB0 cBXB1 cBXBf cBXBl
  have NB := Lib.hid (NB.out.below hb)
  have BX1 := Lib.hid (BX1.out.below hb BX1.out.lt)
  have BXB := Lib.hid (BXB.out.below hb BXB.out.lt)
  have KG := Lib.hid (KG.out.trans (hb.mono KG.out.size))
  clear hb
  go_upto_region 8 with (fail)
  obtain ⟨v9, hV⟩ : ∃ V, V = w5.alloc (.cells #[.bool x6.s, .slice x6.a x6.n x6.c] 24) := ⟨_, rfl⟩
  have hbV : Below w5.heap.size w5 v9 := by rw [hV]; exact ((Below.refl _ _).alloc (Nat.le_refl _) _)
  have BX8 := Lib.hid (show Bxs v9 (w5.heap.size) 24 [.bool x6.s, .slice x6.a x6.n x6.c] by have h := Bxs.new (w5) 24 [.bool x6.s, .slice x6.a x6.n x6.c]; rw [hV]; exact h)
  rw [show w5.alloc (.cells #[.bool x6.s, .slice x6.a x6.n x6.c] 24) = v9 from hV.symm]
  have NB := Lib.hid (NB.out.below hbV)
  have N7 := Lib.hid (N7.out.below hbV)
  have BX1 := Lib.hid (BX1.out.below hbV BX1.out.lt)
  have BXB := Lib.hid (BXB.out.below hbV BXB.out.lt)
  have KG := Lib.hid (KG.out.trans (hbV.mono KG.out.size))
  clear hV hbV
  have cBX10 := BX1.out.cell (i := 0) rfl
  have cBX11 := BX1.out.cell (i := 1) rfl
  have cBX1f := BX1.out.fz
  have cBX1l := BX1.out.lt
  have cBXB0 := BXB.out.cell (i := 0) rfl
  have cBXB1 := BXB.out.cell (i := 1) rfl
  have cBXBf := BXB.out.fz
  have cBXBl := BXB.out.lt
  go_wp2_with fail
  have CT := Lib.hid (divN (N1.out.below KG.out) (show n1 ≤ 10000000 from Nat.le_trans Bx1.out (by decide)) NB.out (NB.out.len LZzb.out (by decide)) (HNZ.out))
  rw [show p1 / zb = zq from Hzq.out.symm] at CT
  rw [show p1 % zb = zr from Hzr.out.symm] at CT
  with_reducible refine CT.out.mono ?_
  rintro e w10 ⟨x11, x12, rfl, hN13, hN14, hb⟩
  have N13 := Lib.hid hN13
  clear hN13
  have N14 := Lib.hid hN14
  clear hN14
  clear CT
  clear cBX10 cBX11 cBX1f cBX1l
  clear cBXB0 cBXB1 cBXBf cBXBl
  clear NB
  have N7 := Lib.hid (N7.out.below hb)
  have BX1 := Lib.hid (BX1.out.below hb BX1.out.lt)
  clear BXB
  have BX8 := Lib.hid (BX8.out.below hb BX8.out.lt)
  have KG := Lib.hid (KG.out.trans (hb.mono KG.out.size))
  clear hb
  go_upto_region 9 with (fail)
  obtain ⟨v17, hV⟩ : ∃ V, V = (w10.alloc (.cells #[.bool x11.s, .slice x11.a x11.n x11.c] 24)).alloc (.cells #[.bool x12.s, .slice x12.a x12.n x12.c] 24) := ⟨_, rfl⟩
  have hbV : Below w10.heap.size w10 v17 := by rw [hV]; exact (((Below.refl _ _).alloc (Nat.le_refl _) _).alloc (by go_size) _)
  have BX15 := Lib.hid (show Bxs v17 (w10.heap.size) 24 [.bool x11.s, .slice x11.a x11.n x11.c] by have h := (Bxs.new (w10) 24 [.bool x11.s, .slice x11.a x11.n x11.c]).alloc (.cells #[.bool x12.s, .slice x12.a x12.n x12.c] 24); rw [hV]; exact h)
  have BX16 := Lib.hid (show Bxs v17 (w10.heap.size + 1) 24 [.bool x12.s, .slice x12.a x12.n x12.c] by have h := Bxs.new (w10.alloc (.cells #[.bool x11.s, .slice x11.a x11.n x11.c] 24)) 24 [.bool x12.s, .slice x12.a x12.n x12.c]; simp only [World.size_alloc] at h; rw [hV]; exact h)
  rw [show (w10.alloc (.cells #[.bool x11.s, .slice x11.a x11.n x11.c] 24)).alloc (.cells #[.bool x12.s, .slice x12.a x12.n x12.c] 24) = v17 from hV.symm]
  have N7 := Lib.hid (N7.out.below hbV)
  have N13 := Lib.hid (N13.out.below hbV)
  have N14 := Lib.hid (N14.out.below hbV)
  have BX1 := Lib.hid (BX1.out.below hbV BX1.out.lt)
  have BX8 := Lib.hid (BX8.out.below hbV BX8.out.lt)
  have KG := Lib.hid (KG.out.trans (hbV.mono KG.out.size))
  clear hV hbV
  have cBX10 := BX1.out.cell (i := 0) rfl
  have cBX11 := BX1.out.cell (i := 1) rfl
  have cBX1f := BX1.out.fz
  have cBX1l := BX1.out.lt
  go_wp2_with fail
  have CT := Lib.hid (textN (N1.out.below KG.out).any (show n1 ≤ 10000000 from Nat.le_trans Bx1.out (by decide)) (HT.out.on KG.out))
  rw [show (⟨(Lib.itoa p1).toArray⟩ : ByteArray) = TA from HTA.out] at CT
  with_reducible refine CT.out.mono ?_
  rintro e w18 ⟨rfl, hb⟩
  clear CT
  clear cBX10 cBX11 cBX1f cBX1l
  have N7 := Lib.hid (N7.out.below hb)
  have N13 := Lib.hid (N13.out.below hb)
  have N14 := Lib.hid (N14.out.below hb)
  clear BX1
  have BX8 := Lib.hid (BX8.out.below hb BX8.out.lt)
  have BX15 := Lib.hid (BX15.out.below hb BX15.out.lt)
  have BX16 := Lib.hid (BX16.out.below hb BX16.out.lt)
  have KG := Lib.hid (KG.out.trans (hb.mono KG.out.size))
  clear hb
  go_upto_block 0 with (fail)
  go_cut [12, 13] (fun t i wx => t = .string TB ∧ ∃ j : Int, i = .int .i64 j ∧ wx = w18)
  case first =>
    go_wp2_with fail
    go_loopw [12, 13] (fun t i wr => ∃ j : Nat, j ≤ K ∧ i = .int .i64 j ∧ t = .string ⟨(Lib.itoa p1 ++ List.replicate (9 * j) 48).toArray⟩ ∧ wr = w18) (fun _ i _ => K - (intOf i).toNat)
    case atStart => exact ⟨0, Nat.zero_le _, rfl, by rw [← HTA.out, Nat.mul_zero, List.replicate_zero, List.append_nil], rfl⟩
    case round =>
      obtain ⟨j, hj, rfl, rfl, rfl⟩ := hrel
      by_cases hjk : j < K
      · have e1 : IntKind.i64.wrap ((j : Int) + 1) = (j : Int) + 1 := IntWalk.i64_in _ (by have := HK.out; omega)
        have l1 : ¬ (9223372036854775807 < (Lib.itoa p1 ++ List.replicate (9 * j) 48).length + 9) := by
          have h1 := HTL.out
          rw [List.length_append, List.length_replicate]
          have := HK.out
          omega
        obtain ⟨TC, hTC⟩ : ∃ t : ByteArray, t = ⟨(Lib.itoa p1 ++ List.replicate (9 * j) 48).toArray⟩ := ⟨_, rfl⟩
        have l2 : ¬ (9223372036854775807 < TC.size + 9) := by rw [hTC]; show ¬ (_ < (List.toArray _).size + 9); rw [List.size_toArray]; exact l1
        obtain ⟨TD, hTD⟩ : ∃ t : ByteArray, t = TC ++ ⟨#[48, 48, 48, 48, 48, 48, 48, 48, 48]⟩ := ⟨_, rfl⟩
        have eTD := hTD.symm
        rw [← hTC]
        have HTC := Lib.hid hTC
        have HTD := Lib.hid hTD
        clear hTC hTD l1
        go_wp2_with fail
        go_roundw
        case rel => exact ⟨j + 1, by omega, by simp [*], by rw [HTD.out, HTC.out]; exact congrArg Value.string (nine_more _ _), trivial⟩
        case measure => simp [intOf]; omega
      · obtain rfl : j = K := by omega
        have HQ := Lib.hid hjk
        clear hjk
        go_wp2_with fail
        go_meet
        case rel => exact ⟨by rw [HTBE.out], _, rfl, rfl⟩
  case rest =>
    obtain ⟨rfl, j13, rfl, rfl⟩ := hcut
    have cBX80 := BX8.out.cell (i := 0) rfl
    have cBX81 := BX8.out.cell (i := 1) rfl
    have cBX8f := BX8.out.fz
    have cBX8l := BX8.out.lt
    go_wp2_with fail
    have CT := Lib.hid (textN N7.out.k.any (N7.out.k.len LZzw.out (by decide)) (HT.out.on KG.out))
    rw [show (⟨(Lib.itoa zw).toArray⟩ : ByteArray) = TB from HTB.out] at CT
    with_reducible refine CT.out.mono ?_
    rintro e w19 ⟨rfl, hb⟩
    clear CT
    clear cBX80 cBX81 cBX8f cBX8l
    have N7 := Lib.hid (N7.out.below hb)
    have N13 := Lib.hid (N13.out.below hb)
    have N14 := Lib.hid (N14.out.below hb)
    have BX8 := Lib.hid (BX8.out.below hb BX8.out.lt)
    have BX15 := Lib.hid (BX15.out.below hb BX15.out.lt)
    have BX16 := Lib.hid (BX16.out.below hb BX16.out.lt)
    have KG := Lib.hid (KG.out.trans (hb.mono KG.out.size))
    clear hb
    obtain ⟨wb, wo, hwa, -⟩ := (N7.out.k.rd).cells (by rw [N7.out.n, HZN.out]; have := HNW.out; have := HL.out; omega)
    have BX8 := Lib.hid (show Bxs w19 (w5.heap.size) 24 [.bool x6.s, .slice (some ⟨wb, wo, none⟩) nw x6.c] by have h := BX8.out; rw [hwa, N7.out.n, HZN.out] at h; exact h)
    have HW := Lib.hid (show Rd w19 (some ⟨wb, wo + K, none⟩) (nw - K) (dgi p1.natAbs) from (by have h := N7.out.k.rd; rw [hwa, N7.out.n, HZN.out] at h; exact (rd_off h (by have := HNW.out; omega)).congr fun i _ => by show ((dg _ _ : Nat) : Int) = ((dg _ _ : Nat) : Int); rw [HZA.out, dg_mul_pw, HPM.out])) 
    have HWC := Lib.hid (show nw ≤ x6.c by have h := N7.out.k.le; rw [N7.out.n, HZN.out] at h; exact h)
    clear hwa
    have sk1 : K ≤ x6.c := by have := HWC.out; have := HNW.out; omega
    have sk5 : ¬ (x6.c = K) := by have := HWC.out; have := HNW.out; have := HL.out; omega
    have sk2 : K ≤ nw := by have := HNW.out; omega
    have sk3 : (K : Int) ≤ (nw : Int) := by omega
    have sk4 : (0 : Int) ≤ (K : Int) := by omega
    have esz : IntKind.i64.wrap ((n1 : Int) + (K : Int)) = (nw : Int) := by rw [IntWalk.i64_in _ (by have := HK.out; have := Bx1.out; omega)]; have := HNW.out; omega
    have cBX80 := BX8.out.cell (i := 0) rfl
    have cBX81 := BX8.out.cell (i := 1) rfl
    have cBX8f := BX8.out.fz
    have cBX8l := BX8.out.lt
    go_wp2_with fail
    have CT := Lib.hid (sameLimbs_b (some ⟨wb, wo + K, none⟩) (some ⟨xb, xo, none⟩) (nw - K) n1 (x6.c - K) c1 (dgi p1.natAbs) w19 (by have := HNW.out; omega) HW.out (N1.out.below KG.out).rd (by have := Bx1.out; have := HNW.out; omega))
    with_reducible refine CT.out.mono ?_
    rintro e w20 ⟨rfl, hb⟩
    clear CT
    clear cBX80 cBX81 cBX8f cBX8l
    clear N7
    have N13 := Lib.hid (N13.out.below hb)
    have N14 := Lib.hid (N14.out.below hb)
    clear BX8
    have BX15 := Lib.hid (BX15.out.below hb BX15.out.lt)
    have BX16 := Lib.hid (BX16.out.below hb BX16.out.lt)
    have KG := Lib.hid (KG.out.trans (hb.mono KG.out.size))
    clear hb
    have g16 : ¬ ((n1 : Int) ≤ (K : Int)) := by have := HKn.out; omega
    go_upto_block 2 with (fail)
    go_cut [14] from 15 (fun lo wx => ∃ j : Nat, LowIs M K j ∧ lo = .int .i64 j ∧ w20 = wx)
    case first =>
      have HRD := Lib.hid (N1.out.below KG.out).rd
      have hpM := HPM.out
      go_wp2_with fail
      go_loopw [14] (fun lo wr => ∃ j : Nat, j ≤ K ∧ (∀ i, j ≤ i → i < K → dg M i = 0) ∧ lo = .int .i64 j ∧ w20 = wr) (fun lo _ => (intOf lo).toNat)
      case atStart => exact ⟨K, Nat.le_refl _, fun i h1 h2 => by omega, rfl, rfl⟩
      case round =>
        obtain ⟨j, hj, hz, rfl, rfl⟩ := hrel
        have HZ := Lib.hid hz
        clear hz
        rcases Nat.eq_zero_or_pos j with h0 | h0
        · subst h0
          clear hpM
          go_wp2_with fail
          go_meet
          case rel => exact ⟨0, ⟨by omega, HZ.out, fun h => absurd h (by omega)⟩, rfl, rfl⟩
        · obtain ⟨q, rfl⟩ : ∃ q, j = q + 1 := ⟨j - 1, by omega⟩
          obtain ⟨xb', xo', ha, hc⟩ := HRD.out.cells (by have := HKn.out; show 0 < n1; omega)
          have hc1 := hc q (by have := HKn.out; show q < n1; omega)
          cases ha
          have hq9 : q < n1 := by have := HKn.out; omega
          have ed : dgi p1.natAbs q = (dg M q : Int) := by rw [hpM]
          have e1 : IntKind.i64.wrap (((q + 1 : Nat) : Int) - 1) = (q : Int) := by rw [IntWalk.i64_in _ (by have := HK.out; omega)]; omega
          by_cases hd : dg M q = 0
          · have hd2 : ((dg M q : Nat) : Int) = 0 := by omega
            have c1 : w20.cell? ⟨xb, xo + q, none⟩ = some (.int .u32 0) := by rw [← hd2, ← ed]; exact hc1
            clear hc hc1 ed hd2 hpM
            have HD := Lib.hid hd
            clear hd
            go_wp2_with fail
            go_roundw
            case rel => exact ⟨q, by omega, fun i h1 h2 => by
              by_cases e : i = q
              · rw [e]; exact HD.out
              · exact HZ.out i (by omega) h2, by simp [*], trivial⟩
            case measure => simp [intOf]
          · have hd2 : (((dg M q : Nat) : Int) == 0) = false := by simp; omega
            have c1 : w20.cell? ⟨xb, xo + q, none⟩ = some (.int .u32 ((dg M q : Nat) : Int)) := by rw [← ed]; exact hc1
            clear hc hc1 ed hpM
            have HD := Lib.hid hd
            clear hd
            go_wp2_with fail
            go_meet
            case rel => exact ⟨q + 1, ⟨hj, HZ.out, fun _ => HD.out⟩, rfl, rfl⟩
    case rest =>
      obtain ⟨low, hlow, rfl, rfl⟩ := hcut
      have HLOW := Lib.hid hlow
      have HLC := Lib.hid (show low ≤ c1 by have := hlow.le; have := HKC.out; omega)
      have HLN := Lib.hid (show low ≤ n1 by have := hlow.le; have := HKn.out; omega)
      clear hlow
      have HRN := Lib.hid (show lenB zr.natAbs = low by rw [HRA.out]; exact lenB_mod_pw HLOW.out.le HLOW.out.z HLOW.out.n)
      have BX15 := Lib.hid (show Bxs w20 (w10.heap.size) 24 [.bool false, .slice x11.a (n1 - K) x11.c] by have h := BX15.out; rw [N13.out.n, HQN.out, show x11.s = false from (N13.out.s.trans (decide_eq_false (by have := HQA2.out; omega)))] at h; exact h)
      have BX16 := Lib.hid (show Bxs w20 (w10.heap.size + 1) 24 [.bool false, .slice x12.a low x12.c] by have h := BX16.out; rw [N14.out.n, HRN.out, show x12.s = false from (N14.out.s.trans (decide_eq_false (by have := HRA2.out; omega)))] at h; exact h)
      go_upto_region 21 with (fail)
      refine Go.FreshS.wp_region_fresh 24 [] (Go.FreshS.spOf [(5, Go.FreshS.Sp.know (.bool true)), (12, Go.FreshS.Sp.know (.bool true))])
        (fun w' => Below w20.heap.size w20 w') (by kernel_rfl) (by kernel_rfl) (by kernel_rfl)
        (Go.FreshS.spOf_cons (Go.FreshS.Sp.know_keeps _ _) (Go.FreshS.spOf_cons (Go.FreshS.Sp.know_keeps _ _) (Go.FreshS.spOf_nil))) (fun _ _ h hb => h.trans (hb.mono h.size)) ((Below.refl _ _).drew) ?_
      simp only [List.append_eq, List.cons_append, List.nil_append, List.take_succ_cons, List.take_zero, List.drop_succ_cons, List.drop_zero]
      refine Go.FreshS.wpF_reads rfl rfl rfl ?_ (fun w' hw' => ?_) ?_
      rotate_left
      · have hb' := hw'.world
        skip
        clear hw'
        go_simp
        try rfl
      conv => arg 10; simp only [Act.put, List.setIfInBounds_toArray, List.set_cons_succ, List.set_cons_zero]
      refine Go.FreshS.wpF_reads rfl rfl rfl ?_ (fun w' hw' => ?_) ?_
      rotate_left
      · have hb' := hw'.world
        have hs0 := (BX15.out.below hb' BX15.out.lt).cell (i := 0) rfl
        have hs1 := (BX15.out.below hb' BX15.out.lt).cell (i := 1) rfl
        have hsf := (BX15.out.below hb' BX15.out.lt).fz
        have hsl := (BX15.out.below hb' BX15.out.lt).lt
        clear hw'
        go_simp
        try rfl
      conv => arg 10; simp only [Act.put, List.setIfInBounds_toArray, List.set_cons_succ, List.set_cons_zero]
      refine Go.FreshS.wpF_reads rfl rfl rfl ?_ (fun w' hw' => ?_) ?_
      rotate_left
      · have hb' := hw'.world
        skip
        clear hw'
        go_simp
        try rfl
      conv => arg 10; simp only [Act.put, List.setIfInBounds_toArray, List.set_cons_succ, List.set_cons_zero]
      refine Go.FreshS.wpF_reads rfl rfl rfl ?_ (fun w' hw' => ?_) ?_
      rotate_left
      · have hb' := hw'.world
        skip
        clear hw'
        go_simp
        try rfl
      conv => arg 10; simp only [Act.put, List.setIfInBounds_toArray, List.set_cons_succ, List.set_cons_zero]
      refine Go.FreshS.wpF_reads rfl rfl rfl ?_ (fun w' hw' => ?_) ?_
      rotate_left
      · have hb' := hw'.world
        have hk8 : ¬ (c1 = K) := by have := HKn.out; have := HKL.out; omega
        have hk9 : ¬ (c1 = 0) := by have := HKn.out; have := HKL.out; omega
        have hk4 : K ≤ c1 := HKC.out
        have hk5 : K ≤ n1 := by have := HKn.out; omega
        have hk6 : low ≤ c1 := HLC.out
        have hk7 : low ≤ n1 := HLN.out
        clear hw'
        go_simp
        try rfl
      conv => arg 10; simp only [Act.put, List.setIfInBounds_toArray, List.set_cons_succ, List.set_cons_zero]
      refine Go.FreshS.wpF_spec rfl rfl rfl (fun w' hw' => ?_) ?_
      · have hb' := hw'.world
        refine Go.FreshS.gives_of (Go.FreshS.PK (.bool true)) ?_ (fun _ _ h => h.post)
        go_simp
        have CT := sameLimbs_b x11.a (some ⟨xb, xo + K, none⟩) (n1 - K) (n1 - K) x11.c (c1 - K) (dgi zq.natAbs) w' rfl (by have h := (N13.out.below hb').k.rd; rw [(N13.out.k.n).trans HQN.out] at h; exact h) ((rd_off (N1.out.below (KG.out.trans (hb'.mono KG.out.size))).rd (by have := HKn.out; show K ≤ n1; omega)).congr fun i _ => by show ((dg _ _ : Nat) : Int) = ((dg _ _ : Nat) : Int); rw [HQA.out, HPM.out, dg_div_pw]) (by have := Bx1.out; omega)
        refine CT.mono ?_
        rintro e w'' ⟨rfl, hb⟩
        exact ⟨_, rfl, rfl, hb⟩
      rintro _ rfl
      conv => arg 10; simp only [Act.put, List.setIfInBounds_toArray, List.set_cons_succ, List.set_cons_zero]
      refine Go.FreshS.wpF_reads rfl rfl rfl ?_ (fun w' hw' => ?_) ?_
      rotate_left
      · have hb' := hw'.world
        skip
        clear hw'
        go_simp
        try rfl
      conv => arg 10; simp only [Act.put, List.setIfInBounds_toArray, List.set_cons_succ, List.set_cons_zero]
      refine Go.FreshS.wpF_readsG (by rfl) rfl rfl ?_ (fun w' hw' => ?_) ?_
      rotate_left
      · have hb' := hw'.world
        skip
        clear hw'
        go_simp
        try rfl
      conv => arg 10; simp only [Act.put, List.setIfInBounds_toArray, List.set_cons_succ, List.set_cons_zero]
      refine Go.FreshS.wpF_readsG (by rfl) rfl rfl ?_ (fun w' hw' => ?_) ?_
      rotate_left
      · have hb' := hw'.world
        have hs0 := (BX16.out.below hb' BX16.out.lt).cell (i := 0) rfl
        have hs1 := (BX16.out.below hb' BX16.out.lt).cell (i := 1) rfl
        have hsf := (BX16.out.below hb' BX16.out.lt).fz
        have hsl := (BX16.out.below hb' BX16.out.lt).lt
        clear hw'
        go_simp
        try rfl
      conv => arg 10; simp only [Act.put, List.setIfInBounds_toArray, List.set_cons_succ, List.set_cons_zero]
      refine Go.FreshS.wpF_readsG (by rfl) rfl rfl ?_ (fun w' hw' => ?_) ?_
      rotate_left
      · have hb' := hw'.world
        skip
        clear hw'
        go_simp
        try rfl
      conv => arg 10; simp only [Act.put, List.setIfInBounds_toArray, List.set_cons_succ, List.set_cons_zero]
      refine Go.FreshS.wpF_readsG (by rfl) rfl rfl ?_ (fun w' hw' => ?_) ?_
      rotate_left
      · have hb' := hw'.world
        skip
        clear hw'
        go_simp
        try rfl
      conv => arg 10; simp only [Act.put, List.setIfInBounds_toArray, List.set_cons_succ, List.set_cons_zero]
      refine Go.FreshS.wpF_readsG (by rfl) rfl rfl ?_ (fun w' hw' => ?_) ?_
      rotate_left
      · have hb' := hw'.world
        have hk8 : ¬ (c1 = K) := by have := HKn.out; have := HKL.out; omega
        have hk9 : ¬ (c1 = 0) := by have := HKn.out; have := HKL.out; omega
        have hk4 : K ≤ c1 := HKC.out
        have hk5 : K ≤ n1 := by have := HKn.out; omega
        have hk6 : low ≤ c1 := HLC.out
        have hk7 : low ≤ n1 := HLN.out
        clear hw'
        go_simp
        try rfl
      conv => arg 10; simp only [Act.put, List.setIfInBounds_toArray, List.set_cons_succ, List.set_cons_zero]
      refine Go.FreshS.wpF_gspec (by rfl) rfl rfl (fun w' hw' => ?_) ?_
      · have hb' := hw'.world
        refine Go.FreshS.gives_of (Go.FreshS.PK (.bool true)) ?_ (fun _ _ h => h.post)
        go_simp
        have CT := sameLimbs_b x12.a (some ⟨xb, xo, none⟩) low low x12.c c1 (dgi zr.natAbs) w' rfl (by have h := (N14.out.below hb').k.rd; rw [(N14.out.k.n).trans HRN.out] at h; exact h) (((N1.out.below (KG.out.trans (hb'.mono KG.out.size))).rd.le (by have := HLOW.out.le; have := HKn.out; show low ≤ n1; omega)).congr fun i hi => by show ((dg _ _ : Nat) : Int) = ((dg _ _ : Nat) : Int); rw [HRA.out, HPM.out, dg_mod_pw (by have := HLOW.out.le; omega)]) (by have := Bx1.out; have := HLN.out; omega)
        refine CT.mono ?_
        rintro e w'' ⟨rfl, hb⟩
        exact ⟨_, rfl, rfl, hb⟩
      rintro _ rfl
      conv => arg 10; simp only [Act.put, List.setIfInBounds_toArray, List.set_cons_succ, List.set_cons_zero]
      refine Go.FreshS.wpF_reads rfl rfl rfl ?_ (fun w' hw' => ?_) ?_
      rotate_left
      · have hb' := hw'.world
        skip
        clear hw'
        go_simp
        try rfl
      conv => arg 10; simp only [Act.put, List.setIfInBounds_toArray, List.set_cons_succ, List.set_cons_zero]
      refine Go.FreshS.wpF_reads rfl rfl rfl ?_ (fun w' hw' => ?_) ?_
      rotate_left
      · have hb' := hw'.world
        skip
        clear hw'
        go_simp
        try rfl
      conv => arg 10; simp only [Act.put, List.setIfInBounds_toArray, List.set_cons_succ, List.set_cons_zero]
      refine Go.FreshS.wpF_readsG (by rfl) rfl rfl ?_ (fun w' hw' => ?_) ?_
      rotate_left
      · have hb' := hw'.world
        skip
        clear hw'
        go_simp
        try rfl
      conv => arg 10; simp only [Act.put, List.setIfInBounds_toArray, List.set_cons_succ, List.set_cons_zero]
      refine Go.FreshS.wpF_readsG (by rfl) rfl rfl ?_ (fun w' hw' => ?_) ?_
      rotate_left
      · have hb' := hw'.world
        have hs0 := (BX15.out.below hb' BX15.out.lt).cell (i := 0) rfl
        have hs1 := (BX15.out.below hb' BX15.out.lt).cell (i := 1) rfl
        have hsf := (BX15.out.below hb' BX15.out.lt).fz
        have hsl := (BX15.out.below hb' BX15.out.lt).lt
        clear hw'
        go_simp
        try rfl
      conv => arg 10; simp only [Act.put, List.setIfInBounds_toArray, List.set_cons_succ, List.set_cons_zero]
      refine Go.FreshS.wpF_readsG (by rfl) rfl rfl ?_ (fun w' hw' => ?_) ?_
      rotate_left
      · have hb' := hw'.world
        skip
        clear hw'
        go_simp
        try rfl
      conv => arg 10; simp only [Act.put, List.setIfInBounds_toArray, List.set_cons_succ, List.set_cons_zero]
      refine Go.FreshS.wpF_reads rfl rfl rfl ?_ (fun w' hw' => ?_) ?_
      rotate_left
      · have hb' := hw'.world
        skip
        clear hw'
        go_simp
        try rfl
      conv => arg 10; simp only [Act.put, List.setIfInBounds_toArray, List.set_cons_succ, List.set_cons_zero]
      refine Go.FreshS.wpF_reads rfl rfl rfl ?_ (fun w' hw' => ?_) ?_
      rotate_left
      · have hb' := hw'.world
        skip
        clear hw'
        go_simp
        try rfl
      conv => arg 10; simp only [Act.put, List.setIfInBounds_toArray, List.set_cons_succ, List.set_cons_zero]
      refine Go.FreshS.wpF_readsG (by rfl) rfl rfl ?_ (fun w' hw' => ?_) ?_
      rotate_left
      · have hb' := hw'.world
        skip
        clear hw'
        go_simp
        try rfl
      conv => arg 10; simp only [Act.put, List.setIfInBounds_toArray, List.set_cons_succ, List.set_cons_zero]
      refine Go.FreshS.wpF_readsG (by rfl) rfl rfl ?_ (fun w' hw' => ?_) ?_
      rotate_left
      · have hb' := hw'.world
        have hs0 := (BX16.out.below hb' BX16.out.lt).cell (i := 0) rfl
        have hs1 := (BX16.out.below hb' BX16.out.lt).cell (i := 1) rfl
        have hsf := (BX16.out.below hb' BX16.out.lt).fz
        have hsl := (BX16.out.below hb' BX16.out.lt).lt
        clear hw'
        go_simp
        try rfl
      conv => arg 10; simp only [Act.put, List.setIfInBounds_toArray, List.set_cons_succ, List.set_cons_zero]
      refine Go.FreshS.wpF_readsG (by rfl) rfl rfl ?_ (fun w' hw' => ?_) ?_
      rotate_left
      · have hb' := hw'.world
        skip
        clear hw'
        go_simp
        try rfl
      conv => arg 10; simp only [Act.put, List.setIfInBounds_toArray, List.set_cons_succ, List.set_cons_zero]
      refine Go.FreshS.wpF_reads rfl rfl rfl ?_ (fun w' hw' => ?_) ?_
      rotate_left
      · have hb' := hw'.world
        skip
        clear hw'
        go_simp
        try rfl
      conv => arg 10; simp only [Act.put, List.setIfInBounds_toArray, List.set_cons_succ, List.set_cons_zero]
      refine Go.FreshS.wpF_nil (fun w21 hb hF => ?_)
      clear hF
      clear N13
      clear N14
      clear BX15
      clear BX16
      have KG := Lib.hid (KG.out.trans (hb.mono KG.out.size))
      clear hb
      go_wp2_with fail
      go_ret
      exact ⟨rfl, KG.out⟩
theorem limbsShift_law (a1 : Option Addr) (n1 c1 : Nat) (o1 : Nat → Int) (m : Int) (w : World) (htab : Tab w) (h1 : Rd w a1 n1 o1) (hc1 : n1 ≤ c1) (hm1 : 0 ≤ m) (hm2 : m ≤ 255) :
    Calls Tryz.prog 4 #[.slice a1 n1 c1, .int .u8 m] w fun e w' => e = .returned (.bool true) ∧ Below w.heap.size w w' := by
  by_cases hg : 60 < n1
  · exact shift_long n1 c1 a1 o1 m w htab h1 hc1 hg
  have b1 : n1 ≤ 60 := by omega
  by_cases h0 : n1 = 0
  · exact shift_none n1 c1 a1 o1 m w htab h1 hc1 h0
  have hl : 0 < n1 := by omega
  by_cases k1 : okN false n1 o1
  · obtain ⟨xb, xo, rfl, _⟩ := h1.cells hl
    by_cases hK : (n1 : Int) ≤ m.tmod 20
    · exact shift_small xb xo n1 c1 o1 m w htab h1 hc1 b1 k1 hl hm1 hm2 hK
    · exact shift_big xb xo n1 c1 o1 m w htab h1 hc1 b1 k1 hl hm1 hm2 hK
  · exact shift_bad n1 c1 a1 o1 m w htab h1 hc1 b1 k1 hl
set_option maxRecDepth 100000 in
theorem open_limbs {H : Type} {enc : TypeId × Value → H} {W : World} {base : Nat} {r : Reach} {sp : Nat → Bool} {hd : Bool} {v : Value} {d : DataW H} {p : List MemPlace}
    (hok : Value.okWide Tryz.prog W r base 22 v) (h : DataW.Trod enc Tryz.prog W 0 sp hd 22 v d p) : ∃ a n c o, v = .slice a n c ∧ Rd W a n o ∧ n ≤ c := by
  obtain ⟨fuel, hf⟩ := h
  obtain ⟨a, n, c, rfl⟩ := Go.WideShapes.okWide_slice Tryz.underlying22 hok
  exact open_list hf
open Go.ChangeShapes Go.WideShapes Go.ChangeAt
namespace LimbsShiftC
theorem own : ownKnob Tryz.prog.godebug = none := by kernel_rfl
theorem laidOut : laidOutB Tryz.prog = true := by kernel_rfl
theorem tab_of_laid (W : World) (hL : laidMet Tryz.prog Rows.limbsShiftRow.laid W) : Tab W :=
  Lib.tabIs_of_head (g := 2) (by kernel_rfl) (by kernel_rfl) (t := 232) (n := 20) (e := 69) Tryz.underlying232 Tryz.underlying69 (by kernel_rfl) (by kernel_rfl) hL.tail.tail
noncomputable def laidWorld (os : Os) : World := World.laidAll Tryz.prog os Rows.limbsShiftRow.laid
noncomputable def witArgs : Array Value := #[.slice none 0 0, .int .u8 0]
theorem laid_met (os : Os) : laidMet Tryz.prog Rows.limbsShiftRow.laid ((laidWorld os).forCall (fun _ _ => 0) ⟨#[], witArgs, []⟩).memory :=
  laidMet_laidAll _ (by kernel_rfl) (by kernel_rfl)
theorem reads (os : Os) {H : Type} (enc : TypeId × Value → H) : ∃ places, DataW.whole enc Tryz.prog ((laidWorld os).forCall (fun _ _ => 0) ⟨#[], witArgs, []⟩).memory Tryz.f4.params.toList Rows.limbsShiftSpec.vars false witArgs.toList 8 = some ([.nil, .lit (.int .u8 0)], [], places) :=
  ⟨[], by kernel_rfl⟩
set_option maxRecDepth 100000 in
theorem lifted (os : Os) (started : os.Started) (H : Type) (enc : TypeId × Value → H) (F : Stop.Interp) :
    ReturnsInHanded {} Tryz.checked os 4 .any ((OpenSpec.ofChange Rows.limbsShiftSpec).preRow enc Tryz.prog Tryz.f4 Rows.limbsShiftRow.domain false Rows.limbsShiftRow.laid) (((OpenSpec.ofChange Rows.limbsShiftSpec).at F).post enc Tryz.prog Tryz.f4 false true false false) := by
  obtain ⟨places, hx⟩ := reads os enc
  refine returnsInHanded_of_row (C := Tryz.checked) (s := OpenSpec.ofChange Rows.limbsShiftSpec) own started (by kernel_rfl) Tryz.func4
    (witness_row_atRef (enc := enc) (C := Tryz.checked) false (laidWorld os) witArgs (World.laidAll_os _ _ _) (by kernel_rfl) (by kernel_rfl) (by kernel_rfl)
      (OpenSpec.preRow_of_cond 8 hx (by kernel_rfl) (fun k hk => by cases hk) (by kernel_rfl) (laid_met os))) ?_
  intro W base args ds gs before hval0 hW _ _ _ hL _ _
  rw [MakeChecks.laidMetH_plain _ _ _ (by kernel_rfl)] at hL
  have htab : Tab W := tab_of_laid W hL
  have hval : ∀ (j : Nat) t v, Tryz.f4.params[j]? = some t → args[j]? = some v → Value.okWide Tryz.prog W .any base t v := hval0
  have hW' := hW
  obtain ⟨p, q, hA0, hV, rfl, hfz, hnd⟩ := hW
  have hA : DataW.TrodAll enc Tryz.prog W 0 (fun _ => true) true Tryz.f4.params.toList args.toList ds p := hA0
  rw [Tryz.params4] at hA hval
  obtain ⟨v0, v1, d0, d1, p0, p1, rfl, rfl, rfl, h0, h1⟩ := trodAll_two hA
  obtain ⟨rfl, rfl⟩ := trodVars_none hV
  obtain ⟨a1, n1, c1, o1, rfl, r1, l1⟩ := open_limbs (hval 0 22 v0 rfl rfl) h0
  obtain ⟨z1, rfl, -, -, wz1⟩ := open_int Tryz.underlying5 (hval 1 5 v1 rfl rfl) h1
  refine (limbsShift_law a1 n1 c1 o1 z1 W htab r1 l1 (bounds_u8 wz1).1 (bounds_u8 wz1).2).mono fun e W' ⟨he, hg⟩ => ?_
  subst he
  exact ⟨_, rfl, LawPost.law_post laidOut (by kernel_rfl) (by kernel_rfl) Tryz.underlying4 hW' rfl rfl hg⟩
theorem said : Rows.LimbsShiftSaid :=
  OpenClaim.holds_of_cond 4 Tryz.f4 rfl rfl rfl rfl rfl rfl rfl ⟨rfl, rfl, rfl, rfl, rfl⟩ rfl rfl rfl rfl rfl (by kernel_rfl) Tryz.func4 (by kernel_rfl)
    (of_decide_eq_true (by kernel_rfl)) (by unfold Func.isWrapper; first | (rw [if_pos (by decide +kernel)]; kernel_rfl) | (rw [if_neg (by decide +kernel)]; exact ⟨rfl, rfl⟩))
    (fun os started H enc _ F => by rw [OpenClaim.pre_eq_preRow]; exact lifted os started H enc F)
theorem plain (f : FuncId) (fn : Func) (hf : Tryz.pinned.checked.prog.funcNamed "reckoner/reckonerlaw01.LimbsShift" = some f) (hfn : Tryz.pinned.checked.prog.funcs[f]? = some fn) :
    true = Tryz.pinned.checked.prog.looks [] ∧ ∀ (j : Nat) t, fn.params[j]? = some t → Tryz.pinned.checked.prog.wantsStandIn t = false := by
  obtain rfl : f = 4 := Option.some.inj ((show Tryz.prog.funcNamed "reckoner/reckonerlaw01.LimbsShift" = some 4 by kernel_rfl).symm.trans hf) |>.symm
  obtain rfl : fn = Tryz.f4 := (Option.some.inj (Tryz.func4.symm.trans hfn)).symm
  refine ⟨by kernel_rfl, fun j t ht => ?_⟩
  rw [Tryz.params4] at ht
  have hm : t = 22 ∨ t = 5 := by simpa using Array.mem_of_getElem? ht
  rcases hm with rfl | rfl
  · exact (show Tryz.prog.wantsStandIn 22 = false by kernel_rfl)
  · exact (show Tryz.prog.wantsStandIn 5 = false by kernel_rfl)
theorem card : Rows.LimbsShiftCardSaid :=
  Claim7.holds_tied_plain_at .later [] _ _ _ _ said (fun _ h => by cases h) (by kernel_rfl) (fun _ h => by cases h) limbsShift_row_tie rfl ⟨rfl, rfl⟩ (by kernel_rfl) rfl plain (by kernel_rfl)
#print axioms card
end LimbsShiftC
end Go.Proofs.YtefjjhfahebmeaaGreatDoor.Limb
