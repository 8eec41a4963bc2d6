/-
  The law LimbsSmall: whatever it is handed, it returns true, and what it was handed reads behind the call as it read before; the card ties the listed tables to the program's text.
-/
import Derived.Test.YtkpajfjjhbbieaaGreatDoorPoG
import Derived.Test.YtkpajfjjhbbieaaGreatDoorCards
import Derived.Test.YtkpajfjjhbbieaaGreatDoorTie
import Derived.Lay
import Derived.MakeChecks
import Derived.Stop.LaidErr
import Derived.Deep.DeepWitnessRowRef
import Derived.WalkKit
import Derived.ProofKit
import Derived.OpenShut
import Derived.Deep.DeepHandedRow
import Derived.Lib.LaidTab
set_option linter.unusedSimpArgs false
set_option linter.unusedVariables false
namespace Go.Proofs.YtkpajfjjhbbieaaGreatDoor.Limb
open Go.RowKit Go.Sort Go.Fresh

theorem bx_of {w : World} {lo b : Nat} {t : TypeId} {x y : Value} (h : ∃ g : Nat, Value.pointer (some ⟨b, 0, none⟩) = Value.pointer (some ⟨g, 0, none⟩) ∧ Bx w g t x y ∧ lo ≤ g) : Bx w b t x y ∧ lo ≤ b := by
  obtain ⟨g, e, h⟩ := h
  cases e
  exact h
theorem numC_zero (a : Option Addr) (c : Nat) : numC 0 a c = numV false a 0 c := by
  show numV (decide ((0 : Int) < 0)) a (lenB (0 : Int).natAbs) c = _
  rw [show lenB (0 : Int).natAbs = 0 from lenB_zero]
  rfl
open Classical in
theorem badC (s : Bool) (a : Option Addr) (n c : Nat) (o : Nat → Int) (w : World) (h : Rd w a n o) (hn : n ≤ 1000000000) (hk : ¬ okN s n o) :
    Calls Tryz.prog 20 #[numV s a n c] w fun e w' => e = .returned (.bool false) ∧ Below w.heap.size w w' := by
  have h := check_any s a n c o w h hn
  rw [decide_eq_false hk] at h
  exact h
open Classical in
theorem goodC (s : Bool) (a : Option Addr) (n c : Nat) (o : Nat → Int) (w : World) (h : Rd w a n o) (hn : n ≤ 1000000000) (hk : okN s n o) :
    Calls Tryz.prog 20 #[numV s a n c] w fun e w' => e = .returned (.bool true) ∧ Below w.heap.size w w' := by
  have h := check_any s a n c o w h hn
  rw [decide_eq_true hk] at h
  exact h
theorem cmpZ_cases (x : Int) : (x < 0 ∧ cmpZ x 0 = -1) ∨ (x = 0 ∧ cmpZ x 0 = 0) ∨ (0 < x ∧ cmpZ x 0 = 1) := by
  rcases Int.lt_trichotomy x 0 with h | h | h
  · exact Or.inl ⟨h, cmpZ_lt h⟩
  · exact Or.inr (Or.inl ⟨h, cmpZ_eq h⟩)
  · exact Or.inr (Or.inr ⟨h, cmpZ_gt h⟩)
theorem cmpZ_range (x y : Int) : -1 ≤ cmpZ x y ∧ cmpZ x y ≤ 1 := by
  unfold cmpZ
  split
  · omega
  · split <;> omega
theorem cmpZ_negz (x : Int) : cmpZ (-x) 0 = - cmpZ x 0 := by
  rcases cmpZ_cases x with ⟨h, e⟩ | ⟨h, e⟩ | ⟨h, e⟩ <;> rw [e]
  · exact cmpZ_gt (by omega)
  · exact cmpZ_eq (by omega)
  · exact cmpZ_lt (by omega)
theorem cmpZ_mulz (x y : Int) : cmpZ (x * y) 0 = cmpZ x 0 * cmpZ y 0 := by
  rcases cmpZ_cases x with ⟨h, e⟩ | ⟨h, e⟩ | ⟨h, e⟩ <;> rcases cmpZ_cases y with ⟨k, f⟩ | ⟨k, f⟩ | ⟨k, f⟩ <;> rw [e, f]
  · exact cmpZ_gt (Int.mul_pos_of_neg_of_neg h k)
  · exact cmpZ_eq (by rw [k, Int.mul_zero])
  · exact cmpZ_lt (Int.mul_neg_of_neg_of_pos h k)
  · exact cmpZ_eq (by rw [h, Int.zero_mul])
  · exact cmpZ_eq (by rw [h, Int.zero_mul])
  · exact cmpZ_eq (by rw [h, Int.zero_mul])
  · exact cmpZ_lt (Int.mul_neg_of_pos_of_neg h k)
  · exact cmpZ_eq (by rw [k, Int.mul_zero])
  · exact cmpZ_gt (Int.mul_pos h k)
theorem cmpZ_subz (x y : Int) : cmpZ (x - y) 0 = cmpZ x y := cmpZ_congr (by omega) (by omega)
theorem cmpZ_same (x y : Int) : (cmpZ x y == 0) = decide (x = y) := by
  unfold cmpZ
  by_cases h : x = y
  · rw [if_neg (by omega), if_neg (by omega), decide_eq_true h]; rfl
  · rw [decide_eq_false h]
    split
    · rfl
    · rw [if_pos (by omega)]; rfl
theorem len1 {z : Int} (h1 : -9223372036854775808 ≤ z) (h2 : z ≤ 9223372036854775807) : lenB z.natAbs ≤ 3 := len3 (by omega)
theorem whole1 {w : World} {z : Int} {a : Option Addr} {c : Nat} (h : NumR w z a c) (e1 : z = 1) :
    Calls Tryz.prog 38 #[numC z a c] w fun e w' => e = .returned (.int .i64 1) ∧ Below w.heap.size w w' := by
  refine (wholeC h (by omega) (by omega)).mono ?_
  rintro e w' ⟨rfl, hb⟩
  rw [e1]
  exact ⟨rfl, hb⟩
theorem wrap_small (x : Int) (h : -9223372036854775808 ≤ x ∧ x ≤ 9223372036854775807) : IntKind.i64.wrap x = x := IntWalk.i64_in _ h
end Go.Proofs.YtkpajfjjhbbieaaGreatDoor.Limb
namespace Go.Proofs.YtkpajfjjhbbieaaGreatDoor.Limb
open Go.RowKit Go.Sort Go.Fresh

theorem wholeE {w : World} {z : Int} {a : Option Addr} {c : Nat} (v : Int) (h : NumR w z a c) (e1 : z = v) (h1 : -9223372036854775808 ≤ v) (h2 : v ≤ 9223372036854775807) :
    Calls Tryz.prog 38 #[numC z a c] w fun e w' => e = .returned (.int .i64 v) ∧ Below w.heap.size w w' := by
  refine (wholeC h (by omega) (by omega)).mono ?_
  rintro e w' ⟨rfl, hb⟩
  rw [e1]
  exact ⟨rfl, hb⟩
theorem mul32 (m n : Int) (hm : -2147483648 ≤ m ∧ m ≤ 2147483647) (hn : -2147483648 ≤ n ∧ n ≤ 2147483647) : -9223372036854775808 ≤ m * n ∧ m * n ≤ 9223372036854775807 := by
  have h : (m * n).natAbs ≤ 2147483648 * 2147483648 := by rw [Int.natAbs_mul]; exact Nat.mul_le_mul (by omega) (by omega)
  omega
/-- What goes into it, rounded down, of what goes into it, rounded to nought. -/
theorem tdiv32 (m n : Int) (hn : n ≠ 0) : n * m.tdiv n + m.tmod n = m ∧ (m.tmod n).natAbs < n.natAbs ∧ (m.tdiv n).natAbs ≤ m.natAbs := by
  refine ⟨Int.mul_tdiv_add_tmod m n, ?_, ?_⟩
  · rw [Int.natAbs_tmod]; exact Nat.mod_lt _ (by omega)
  · rw [Int.natAbs_tdiv]; exact Nat.div_le_self _ _
theorem dn32 {m n q r : Int} (h : n * q + r = m) : n * (q - 1) + (r + n) = m := by rw [Int.mul_sub, Int.mul_one]; omega
theorem up32 {m n q r : Int} (h : n * q + r = m) : n * (q + 1) + (r - n) = m := by rw [Int.mul_add, Int.mul_one]; omega
theorem ediv32_of (m n q r : Int) (h : n * q + r = m) (h0 : 0 ≤ r) (h1 : r.natAbs < n.natAbs) : m / n = q ∧ m % n = r := by
  have hn : n ≠ 0 := by omega
  have e1 : (r + n * q) / n = r / n + q := Int.add_mul_ediv_left r q hn
  have e2 : (r + n * q) % n = r % n := Int.add_mul_emod_self_left r n q
  rw [show r + n * q = m by omega] at e1 e2
  have e3 : r % n = r := by
    rcases Int.lt_or_le n 0 with k | k
    · rw [← Int.emod_neg]; exact Int.emod_eq_of_lt h0 (by omega)
    · exact Int.emod_eq_of_lt h0 (by omega)
  have e4 := Int.mul_ediv_add_emod r n
  rw [e3] at e2 e4
  have e5 : n * (r / n) = 0 := by omega
  have e6 : r / n = 0 := (Int.mul_eq_zero.1 e5).resolve_left hn
  exact ⟨by omega, e2⟩
set_option maxRecDepth 100000 in
set_option maxHeartbeats 8000000 in
theorem limbsSmall_law (m n z : Int) (w : World) (htab : Tab w) (hm1 : -2147483648 ≤ m) (hm2 : m ≤ 2147483647) (hn1 : -2147483648 ≤ n) (hn2 : n ≤ 2147483647) (hz1 : -9223372036854775808 ≤ z) (hz2 : z ≤ 9223372036854775807) :
    Calls Tryz.prog 9 #[.int .i32 m, .int .i32 n, .int .i64 z] w fun e w' => e = .returned (.bool true) ∧ Below w.heap.size w w' := by
  have HT := Lib.hid htab
  have KG := Lib.hid (Below.refl w.heap.size w)
  have HM := Lib.hid (And.intro hm1 hm2)
  have HN := Lib.hid (And.intro hn1 hn2)
  have HZ := Lib.hid (And.intro hz1 hz2)
  clear htab
  have Bm := Lib.hid (len64 (by omega : (-9223372036854775808 : Int) ≤ m) (by omega))
  have Bn := Lib.hid (len64 (by omega : (-9223372036854775808 : Int) ≤ n) (by omega))
  have Bz := Lib.hid (len64 hz1 hz2)
  obtain ⟨zs, hzs⟩ : ∃ z : Int, z = m + n := ⟨_, rfl⟩
  have Bzs := Lib.hid (show lenB zs.natAbs ≤ 10000000 by rw [hzs]; have := hm1; exact len64 (by omega) (by omega))
  have Hzs := Lib.hid hzs
  clear hzs
  obtain ⟨zd, hzd⟩ : ∃ z : Int, z = m - n := ⟨_, rfl⟩
  have Bzd := Lib.hid (show lenB zd.natAbs ≤ 10000000 by rw [hzd]; have := hm1; exact len64 (by omega) (by omega))
  have Hzd := Lib.hid hzd
  clear hzd
  have MB := Lib.hid (mul32 m n ⟨hm1, hm2⟩ ⟨hn1, hn2⟩)
  obtain ⟨zm, hzm⟩ : ∃ z : Int, z = m * n := ⟨_, rfl⟩
  have Bzm := Lib.hid (show lenB zm.natAbs ≤ 10000000 by rw [hzm]; have := MB.out; exact len64 (by omega) (by omega))
  have Hzm := Lib.hid hzm
  clear hzm
  obtain ⟨c, hc⟩ : ∃ c, c = cmpZ m n := ⟨_, rfl⟩
  obtain ⟨qb, hqb⟩ : ∃ q : Bool, q = decide (m < n) := ⟨_, rfl⟩
  have q1 : (c == -1) = qb := by
    rw [hc, hqb]; unfold cmpZ
    by_cases h : m < n
    · rw [if_pos h, decide_eq_true h]; rfl
    · rw [if_neg h, decide_eq_false h]; split <;> rfl
  have q2 : decide (m < n) = qb := hqb.symm
  obtain ⟨sz, hsz⟩ : ∃ c, c = cmpZ z 0 := ⟨_, rfl⟩
  obtain ⟨qz, hqz⟩ : ∃ q : Bool, q = decide (z < 0) := ⟨_, rfl⟩
  have q3 : decide (sz < 0) = qz := by
    rw [hsz, hqz]; unfold cmpZ
    by_cases h : z < 0
    · rw [if_pos h, decide_eq_true h]; rfl
    · rw [if_neg h, decide_eq_false h]; split <;> rfl
  have q4 : decide (z < 0) = qz := hqz.symm
  have Hc := Lib.hid hc
  clear hc
  have Hsz := Lib.hid hsz
  clear hsz
  clear hqb hqz
  have em : IntKind.i64.wrap m = m := wrap_small _ (by omega)
  have en : IntKind.i64.wrap n = n := wrap_small _ (by omega)
  have es : IntKind.i64.wrap (m + n) = m + n := wrap_small _ (by omega)
  have ed : IntKind.i64.wrap (m - n) = m - n := wrap_small _ (by omega)
  have ep : IntKind.i64.wrap (m * n) = m * n := wrap_small _ MB.out
  clear hm1 hm2 hn1 hn2 hz1 hz2
  go_enter Tryz.func9, Tryz.ntmps9
  go_wp2_with fail
  have CT := Lib.hid (ofA m w (by have := HM.out; omega) (by have := HM.out; omega))
  with_reducible refine CT.out.mono ?_
  rintro e w1 ⟨a1, c1, rfl, h1, hb⟩
  have N1 := Lib.hid h1
  clear h1
  clear CT
  have KG := Lib.hid (KG.out.trans (hb.mono KG.out.size))
  clear hb
  go_upto_region 4 with (fail)
  obtain ⟨v2, hV⟩ : ∃ V, V = w1.alloc (.cells #[.bool (decide (m < 0)), .slice a1 (lenB m.natAbs) c1] 24) := ⟨_, rfl⟩
  have hbV : Below w1.heap.size w1 v2 := by rw [hV]; exact ((Below.refl _ _).alloc (Nat.le_refl _) _)
  have BX1 := Lib.hid (show Bx v2 (w1.heap.size) 24 (.bool (decide (m < 0))) (.slice a1 (lenB m.natAbs) c1) by rw [hV]; exact Bx.new w1 _ _ _)
  rw [show w1.alloc (.cells #[.bool (decide (m < 0)), .slice a1 (lenB m.natAbs) c1] 24) = v2 from hV.symm]
  have N1 := Lib.hid (N1.out.below hbV)
  have KG := Lib.hid (KG.out.trans (hbV.mono KG.out.size))
  clear hV hbV
  go_wp2_with fail
  have CT := Lib.hid (ofA n v2 (by have := HN.out; omega) (by have := HN.out; omega))
  with_reducible refine CT.out.mono ?_
  rintro e w3 ⟨a2, c2, rfl, h2, hb⟩
  have N2 := Lib.hid h2
  clear h2
  clear CT
  have N1 := Lib.hid (N1.out.below hb)
  have BX1 := Lib.hid (BX1.out.below hb BX1.out.lt)
  have KG := Lib.hid (KG.out.trans (hb.mono KG.out.size))
  clear hb
  go_upto_region 5 with (fail)
  obtain ⟨v4, hV⟩ : ∃ V, V = w3.alloc (.cells #[.bool (decide (n < 0)), .slice a2 (lenB n.natAbs) c2] 24) := ⟨_, rfl⟩
  have hbV : Below w3.heap.size w3 v4 := by rw [hV]; exact ((Below.refl _ _).alloc (Nat.le_refl _) _)
  have BX2 := Lib.hid (show Bx v4 (w3.heap.size) 24 (.bool (decide (n < 0))) (.slice a2 (lenB n.natAbs) c2) by rw [hV]; exact Bx.new w3 _ _ _)
  rw [show w3.alloc (.cells #[.bool (decide (n < 0)), .slice a2 (lenB n.natAbs) c2] 24) = v4 from hV.symm]
  have N1 := Lib.hid (N1.out.below hbV)
  have N2 := Lib.hid (N2.out.below hbV)
  have BX1 := Lib.hid (BX1.out.below hbV BX1.out.lt)
  have KG := Lib.hid (KG.out.trans (hbV.mono KG.out.size))
  clear hV hbV
  go_wp2_with fail
  have CT := Lib.hid (alive_true v4 (HT.out.on KG.out))
  with_reducible refine CT.out.mono ?_
  rintro e w5 ⟨rfl, hb⟩
  clear CT
  have N1 := Lib.hid (N1.out.below hb)
  have N2 := Lib.hid (N2.out.below hb)
  have BX1 := Lib.hid (BX1.out.below hb BX1.out.lt)
  have BX2 := Lib.hid (BX2.out.below hb BX2.out.lt)
  have KG := Lib.hid (KG.out.trans (hb.mono KG.out.size))
  clear hb
  obtain ⟨xBX10, xBX11, xBX12, xBX13⟩ := BX1.out.all
  obtain ⟨xBX20, xBX21, xBX22, xBX23⟩ := BX2.out.all
  go_wp2_with fail
  have CT := Lib.hid (addA N1.out.any Bm.out N2.out.any Bn.out)
  rw [← Hzs.out] at CT
  with_reducible refine CT.out.mono ?_
  rintro e w6 ⟨a3, c3, rfl, h3, hb⟩
  have N3 := Lib.hid h3
  clear h3
  clear CT
  clear xBX10 xBX11 xBX12 xBX13
  clear xBX20 xBX21 xBX22 xBX23
  have N1 := Lib.hid (N1.out.below hb)
  have N2 := Lib.hid (N2.out.below hb)
  have BX1 := Lib.hid (BX1.out.below hb BX1.out.lt)
  have BX2 := Lib.hid (BX2.out.below hb BX2.out.lt)
  have KG := Lib.hid (KG.out.trans (hb.mono KG.out.size))
  clear hb
  go_wp2_with fail
  have CT := Lib.hid (wholeE (m + n) N3.out.r Hzs.out (by have := HM.out; have := HN.out; omega) (by have := HM.out; have := HN.out; omega))
  with_reducible refine CT.out.mono ?_
  rintro e w7 ⟨rfl, hb⟩
  clear CT
  have N1 := Lib.hid (N1.out.below hb)
  have N2 := Lib.hid (N2.out.below hb)
  have N3 := Lib.hid (N3.out.below hb)
  have BX1 := Lib.hid (BX1.out.below hb BX1.out.lt)
  have BX2 := Lib.hid (BX2.out.below hb BX2.out.lt)
  have KG := Lib.hid (KG.out.trans (hb.mono KG.out.size))
  clear hb
  obtain ⟨xBX10, xBX11, xBX12, xBX13⟩ := BX1.out.all
  obtain ⟨xBX20, xBX21, xBX22, xBX23⟩ := BX2.out.all
  go_wp2_with fail
  have CT := Lib.hid (subA N1.out.any Bm.out N2.out.any Bn.out)
  rw [← Hzd.out] at CT
  with_reducible refine CT.out.mono ?_
  rintro e w8 ⟨a4, c4, rfl, h4, hb⟩
  have N4 := Lib.hid h4
  clear h4
  clear CT
  clear xBX10 xBX11 xBX12 xBX13
  clear xBX20 xBX21 xBX22 xBX23
  have N1 := Lib.hid (N1.out.below hb)
  have N2 := Lib.hid (N2.out.below hb)
  have N3 := Lib.hid (N3.out.below hb)
  have BX1 := Lib.hid (BX1.out.below hb BX1.out.lt)
  have BX2 := Lib.hid (BX2.out.below hb BX2.out.lt)
  have KG := Lib.hid (KG.out.trans (hb.mono KG.out.size))
  clear hb
  go_wp2_with fail
  have CT := Lib.hid (wholeE (m - n) N4.out.r Hzd.out (by have := HM.out; have := HN.out; omega) (by have := HM.out; have := HN.out; omega))
  with_reducible refine CT.out.mono ?_
  rintro e w9 ⟨rfl, hb⟩
  clear CT
  have N1 := Lib.hid (N1.out.below hb)
  have N2 := Lib.hid (N2.out.below hb)
  have N3 := Lib.hid (N3.out.below hb)
  have N4 := Lib.hid (N4.out.below hb)
  have BX1 := Lib.hid (BX1.out.below hb BX1.out.lt)
  have BX2 := Lib.hid (BX2.out.below hb BX2.out.lt)
  have KG := Lib.hid (KG.out.trans (hb.mono KG.out.size))
  clear hb
  obtain ⟨xBX10, xBX11, xBX12, xBX13⟩ := BX1.out.all
  obtain ⟨xBX20, xBX21, xBX22, xBX23⟩ := BX2.out.all
  go_wp2_with fail
  have CT := Lib.hid (mulA N1.out.any Bm.out N2.out.any Bn.out)
  rw [← Hzm.out] at CT
  with_reducible refine CT.out.mono ?_
  rintro e w10 ⟨a5, c5, rfl, h5, hb⟩
  have N5 := Lib.hid h5
  clear h5
  clear CT
  clear xBX10 xBX11 xBX12 xBX13
  clear xBX20 xBX21 xBX22 xBX23
  have N1 := Lib.hid (N1.out.below hb)
  have N2 := Lib.hid (N2.out.below hb)
  have N3 := Lib.hid (N3.out.below hb)
  have N4 := Lib.hid (N4.out.below hb)
  have BX1 := Lib.hid (BX1.out.below hb BX1.out.lt)
  have BX2 := Lib.hid (BX2.out.below hb BX2.out.lt)
  have KG := Lib.hid (KG.out.trans (hb.mono KG.out.size))
  clear hb
  go_wp2_with fail
  have CT := Lib.hid (wholeE (m * n) N5.out.r Hzm.out MB.out.1 MB.out.2)
  with_reducible refine CT.out.mono ?_
  rintro e w11 ⟨rfl, hb⟩
  clear CT
  have N1 := Lib.hid (N1.out.below hb)
  have N2 := Lib.hid (N2.out.below hb)
  have N3 := Lib.hid (N3.out.below hb)
  have N4 := Lib.hid (N4.out.below hb)
  have N5 := Lib.hid (N5.out.below hb)
  have BX1 := Lib.hid (BX1.out.below hb BX1.out.lt)
  have BX2 := Lib.hid (BX2.out.below hb BX2.out.lt)
  have KG := Lib.hid (KG.out.trans (hb.mono KG.out.size))
  clear hb
  obtain ⟨xBX10, xBX11, xBX12, xBX13⟩ := BX1.out.all
  obtain ⟨xBX20, xBX21, xBX22, xBX23⟩ := BX2.out.all
  go_wp2_with fail
  have CT := Lib.hid (cmpA N1.out.any Bm.out N2.out.any Bn.out)
  rw [← Hc.out] at CT
  with_reducible refine CT.out.mono ?_
  rintro e w12 ⟨rfl, hb⟩
  clear CT
  clear xBX10 xBX11 xBX12 xBX13
  clear xBX20 xBX21 xBX22 xBX23
  have N1 := Lib.hid (N1.out.below hb)
  have N2 := Lib.hid (N2.out.below hb)
  have N3 := Lib.hid (N3.out.below hb)
  have N4 := Lib.hid (N4.out.below hb)
  have N5 := Lib.hid (N5.out.below hb)
  have BX1 := Lib.hid (BX1.out.below hb BX1.out.lt)
  have BX2 := Lib.hid (BX2.out.below hb BX2.out.lt)
  have KG := Lib.hid (KG.out.trans (hb.mono KG.out.size))
  clear hb
  go_wp2_with fail
  have CT := Lib.hid (ofA z w12 HZ.out.1 HZ.out.2)
  with_reducible refine CT.out.mono ?_
  rintro e w13 ⟨a6, c6, rfl, h6, hb⟩
  have N6 := Lib.hid h6
  clear h6
  clear CT
  have N1 := Lib.hid (N1.out.below hb)
  have N2 := Lib.hid (N2.out.below hb)
  have N3 := Lib.hid (N3.out.below hb)
  have N4 := Lib.hid (N4.out.below hb)
  have N5 := Lib.hid (N5.out.below hb)
  have BX1 := Lib.hid (BX1.out.below hb BX1.out.lt)
  have BX2 := Lib.hid (BX2.out.below hb BX2.out.lt)
  have KG := Lib.hid (KG.out.trans (hb.mono KG.out.size))
  clear hb
  go_wp2_with fail
  have CT := Lib.hid (wholeE z N6.out.r rfl HZ.out.1 HZ.out.2)
  with_reducible refine CT.out.mono ?_
  rintro e w14 ⟨rfl, hb⟩
  clear CT
  have N1 := Lib.hid (N1.out.below hb)
  have N2 := Lib.hid (N2.out.below hb)
  have N3 := Lib.hid (N3.out.below hb)
  have N4 := Lib.hid (N4.out.below hb)
  have N5 := Lib.hid (N5.out.below hb)
  have N6 := Lib.hid (N6.out.below hb)
  have BX1 := Lib.hid (BX1.out.below hb BX1.out.lt)
  have BX2 := Lib.hid (BX2.out.below hb BX2.out.lt)
  have KG := Lib.hid (KG.out.trans (hb.mono KG.out.size))
  clear hb
  go_wp2_with fail
  have CT := Lib.hid (ofA z w14 HZ.out.1 HZ.out.2)
  with_reducible refine CT.out.mono ?_
  rintro e w15 ⟨a7, c7, rfl, h7, hb⟩
  have N7 := Lib.hid h7
  clear h7
  clear CT
  have N1 := Lib.hid (N1.out.below hb)
  have N2 := Lib.hid (N2.out.below hb)
  have N3 := Lib.hid (N3.out.below hb)
  have N4 := Lib.hid (N4.out.below hb)
  have N5 := Lib.hid (N5.out.below hb)
  have N6 := Lib.hid (N6.out.below hb)
  have BX1 := Lib.hid (BX1.out.below hb BX1.out.lt)
  have BX2 := Lib.hid (BX2.out.below hb BX2.out.lt)
  have KG := Lib.hid (KG.out.trans (hb.mono KG.out.size))
  clear hb
  go_wp2_with fail
  have CT := Lib.hid (signA N7.out.any Bz.out)
  rw [← Hsz.out] at CT
  with_reducible refine CT.out.mono ?_
  rintro e w16 ⟨rfl, hb⟩
  clear CT
  have N1 := Lib.hid (N1.out.below hb)
  have N2 := Lib.hid (N2.out.below hb)
  have N3 := Lib.hid (N3.out.below hb)
  have N4 := Lib.hid (N4.out.below hb)
  have N5 := Lib.hid (N5.out.below hb)
  have N6 := Lib.hid (N6.out.below hb)
  have N7 := Lib.hid (N7.out.below hb)
  have BX1 := Lib.hid (BX1.out.below hb BX1.out.lt)
  have BX2 := Lib.hid (BX2.out.below hb BX2.out.lt)
  have KG := Lib.hid (KG.out.trans (hb.mono KG.out.size))
  clear hb
  by_cases h0 : n = 0
  · skip
    have q0 : (n == 0) = true := by simpa using h0
    go_wp2_with fail
    go_ret
    exact ⟨rfl, KG.out⟩
  · skip
    have q0 : (n == 0) = false := by simpa using h0
    have HF := Lib.hid (tdiv32 m n h0)
    obtain ⟨q, hq⟩ : ∃ q, q = m.tdiv n := ⟨_, rfl⟩
    obtain ⟨r, hr⟩ : ∃ r, r = m.tmod n := ⟨_, rfl⟩
    rw [← hq, ← hr] at HF
    have hq1 : m.tdiv n = q := hq.symm
    have hr1 : m.tmod n = r := hr.symm
    clear hq hr
    have eq1 : IntKind.i64.wrap q = q := wrap_small _ (by have := HF.out.2.2; have := HM.out; omega)
    have er1 : IntKind.i64.wrap r = r := wrap_small _ (by have := HF.out.2.1; have := HN.out; omega)
    have H0 := Lib.hid h0
    clear h0
    by_cases hr0 : r < 0
    · skip
      by_cases hn0 : n > 0
      · skip
        have HS := Lib.hid (And.intro hr0 hn0)
        have x2 : ¬ r + n < 0 := by have := HF.out; have := HM.out; have := HN.out; omega
        have e2 : IntKind.i64.wrap (q - 1) = q - 1 := wrap_small _ (by have := HF.out; have := HM.out; have := HN.out; omega)
        have e3 : IntKind.i64.wrap (r + n) = r + n := wrap_small _ (by have := HF.out; have := HM.out; have := HN.out; omega)
        go_wp2_with fail
        have CT := Lib.hid (divsC m n (q - 1) (r + n) w16 (by have := HM.out; omega) (by have := HM.out; omega) (by have := HN.out; omega) (by have := HN.out; omega) H0.out (ediv32_of m n (q - 1) (r + n) (dn32 HF.out.1) (by have := HF.out; have := HM.out; have := HN.out; have := HS.out; omega) (by have := HF.out; have := HM.out; have := HN.out; have := HS.out; omega)).1 (ediv32_of m n (q - 1) (r + n) (dn32 HF.out.1) (by have := HF.out; have := HM.out; have := HN.out; have := HS.out; omega) (by have := HF.out; have := HM.out; have := HN.out; have := HS.out; omega)).2 (by have := HF.out; have := HM.out; have := HN.out; have := HS.out; omega) (by have := HF.out; have := HM.out; have := HN.out; have := HS.out; omega) (by have := HF.out; have := HM.out; have := HN.out; have := HS.out; omega) (by have := HF.out; have := HM.out; have := HN.out; have := HS.out; omega))
        with_reducible refine CT.out.mono ?_
        rintro e w17 ⟨rfl, hb⟩
        clear CT
        have N1 := Lib.hid (N1.out.below hb)
        have N2 := Lib.hid (N2.out.below hb)
        have N3 := Lib.hid (N3.out.below hb)
        have N4 := Lib.hid (N4.out.below hb)
        have N5 := Lib.hid (N5.out.below hb)
        have N6 := Lib.hid (N6.out.below hb)
        have N7 := Lib.hid (N7.out.below hb)
        have BX1 := Lib.hid (BX1.out.below hb BX1.out.lt)
        have BX2 := Lib.hid (BX2.out.below hb BX2.out.lt)
        have KG := Lib.hid (KG.out.trans (hb.mono KG.out.size))
        clear hb
        go_wp2_with fail
        go_ret
        exact ⟨rfl, KG.out⟩
      · skip
        have hn2 : n < 0 := by have := H0.out; omega
        have HS := Lib.hid (And.intro hr0 hn2)
        have e2 : IntKind.i64.wrap (q + 1) = q + 1 := wrap_small _ (by have := HF.out; have := HM.out; have := HN.out; omega)
        have e3 : IntKind.i64.wrap (r - n) = r - n := wrap_small _ (by have := HF.out; have := HM.out; have := HN.out; omega)
        go_wp2_with fail
        have CT := Lib.hid (divsC m n (q + 1) (r - n) w16 (by have := HM.out; omega) (by have := HM.out; omega) (by have := HN.out; omega) (by have := HN.out; omega) H0.out (ediv32_of m n (q + 1) (r - n) (up32 HF.out.1) (by have := HF.out; have := HM.out; have := HN.out; have := HS.out; omega) (by have := HF.out; have := HM.out; have := HN.out; have := HS.out; omega)).1 (ediv32_of m n (q + 1) (r - n) (up32 HF.out.1) (by have := HF.out; have := HM.out; have := HN.out; have := HS.out; omega) (by have := HF.out; have := HM.out; have := HN.out; have := HS.out; omega)).2 (by have := HF.out; have := HM.out; have := HN.out; have := HS.out; omega) (by have := HF.out; have := HM.out; have := HN.out; have := HS.out; omega) (by have := HF.out; have := HM.out; have := HN.out; have := HS.out; omega) (by have := HF.out; have := HM.out; have := HN.out; have := HS.out; omega))
        with_reducible refine CT.out.mono ?_
        rintro e w17 ⟨rfl, hb⟩
        clear CT
        have N1 := Lib.hid (N1.out.below hb)
        have N2 := Lib.hid (N2.out.below hb)
        have N3 := Lib.hid (N3.out.below hb)
        have N4 := Lib.hid (N4.out.below hb)
        have N5 := Lib.hid (N5.out.below hb)
        have N6 := Lib.hid (N6.out.below hb)
        have N7 := Lib.hid (N7.out.below hb)
        have BX1 := Lib.hid (BX1.out.below hb BX1.out.lt)
        have BX2 := Lib.hid (BX2.out.below hb BX2.out.lt)
        have KG := Lib.hid (KG.out.trans (hb.mono KG.out.size))
        clear hb
        go_wp2_with fail
        go_ret
        exact ⟨rfl, KG.out⟩
    · skip
      have HS := Lib.hid hr0
      go_wp2_with fail
      have CT := Lib.hid (divsC m n (q) (r) w16 (by have := HM.out; omega) (by have := HM.out; omega) (by have := HN.out; omega) (by have := HN.out; omega) H0.out (ediv32_of m n (q) (r) HF.out.1 (by have := HF.out; have := HM.out; have := HN.out; have := HS.out; omega) (by have := HF.out; have := HM.out; have := HN.out; have := HS.out; omega)).1 (ediv32_of m n (q) (r) HF.out.1 (by have := HF.out; have := HM.out; have := HN.out; have := HS.out; omega) (by have := HF.out; have := HM.out; have := HN.out; have := HS.out; omega)).2 (by have := HF.out; have := HM.out; have := HN.out; have := HS.out; omega) (by have := HF.out; have := HM.out; have := HN.out; have := HS.out; omega) (by have := HF.out; have := HM.out; have := HN.out; have := HS.out; omega) (by have := HF.out; have := HM.out; have := HN.out; have := HS.out; omega))
      with_reducible refine CT.out.mono ?_
      rintro e w17 ⟨rfl, hb⟩
      clear CT
      have N1 := Lib.hid (N1.out.below hb)
      have N2 := Lib.hid (N2.out.below hb)
      have N3 := Lib.hid (N3.out.below hb)
      have N4 := Lib.hid (N4.out.below hb)
      have N5 := Lib.hid (N5.out.below hb)
      have N6 := Lib.hid (N6.out.below hb)
      have N7 := Lib.hid (N7.out.below hb)
      have BX1 := Lib.hid (BX1.out.below hb BX1.out.lt)
      have BX2 := Lib.hid (BX2.out.below hb BX2.out.lt)
      have KG := Lib.hid (KG.out.trans (hb.mono KG.out.size))
      clear hb
      go_wp2_with fail
      go_ret
      exact ⟨rfl, KG.out⟩
end Go.Proofs.YtkpajfjjhbbieaaGreatDoor.Limb
namespace Go.Proofs.YtkpajfjjhbbieaaGreatDoor.Limb
open Go.RowKit Go.Sort

/-! ### The row and the card -/
open Go.ChangeShapes Go.WideShapes Go.ChangeAt
namespace LimbsSmallC
theorem own : ownKnob Tryz.prog.godebug = none := by kernel_rfl
theorem laidOut : laidOutB Tryz.prog = true := by kernel_rfl

theorem tab_of_laid (W : World) (hL : laidMet Tryz.prog Rows.limbsSmallRow.laid W) : Tab W :=
  Lib.tabIs_of_head (g := 2) (by kernel_rfl) (by kernel_rfl) (t := 235) (n := 20) (e := 74) Tryz.underlying235 Tryz.underlying74 (by kernel_rfl) (by kernel_rfl) hL.tail.tail
/-- A WORLD FOR THE WITNESS: the settled one, the tables holding what their initialisers lay. -/
noncomputable def laidWorld (os : Os) : World := World.laidAll Tryz.prog os Rows.limbsSmallRow.laid
noncomputable def witArgs : Array Value := #[.int .i32 0, .int .i32 0, .int .i64 0]
theorem laid_met (os : Os) : laidMet Tryz.prog Rows.limbsSmallRow.laid ((laidWorld os).forCall (fun _ _ => 0) ⟨#[], witArgs, []⟩).memory :=
  laidMet_laidAll _ (by kernel_rfl) (by kernel_rfl)
theorem reads (os : Os) {H : Type} (enc : TypeId × Value → H) : ∃ places, DataW.whole enc Tryz.prog ((laidWorld os).forCall (fun _ _ => 0) ⟨#[], witArgs, []⟩).memory Tryz.f9.params.toList Rows.limbsSmallSpec.vars false witArgs.toList 8 = some ([.lit (.int .i32 0), .lit (.int .i32 0), .lit (.int .i64 0)], [], places) :=
  ⟨[], by kernel_rfl⟩

set_option maxRecDepth 100000 in
theorem lifted (os : Os) (started : os.Started) (H : Type) (enc : TypeId × Value → H) (F : Stop.Interp) :
    ReturnsInHanded {} Tryz.checked os 9 .any ((OpenSpec.ofChange Rows.limbsSmallSpec).preRow enc Tryz.prog Tryz.f9 Rows.limbsSmallRow.domain false Rows.limbsSmallRow.laid) (((OpenSpec.ofChange Rows.limbsSmallSpec).at F).post enc Tryz.prog Tryz.f9 false true false false) := by
  obtain ⟨places, hx⟩ := reads os enc
  refine returnsInHanded_of_row (C := Tryz.checked) (s := OpenSpec.ofChange Rows.limbsSmallSpec) own started (by kernel_rfl) Tryz.func9
    (witness_row_atRef (enc := enc) (C := Tryz.checked) false (laidWorld os) witArgs (World.laidAll_os _ _ _) (by kernel_rfl) (by kernel_rfl) (by kernel_rfl)
      (OpenSpec.preRow_of_cond 8 hx (by kernel_rfl) (fun k hk => by cases hk) (by kernel_rfl) (laid_met os))) ?_
  intro W base args ds gs before hval0 hW _ _ _ hL _ _
  rw [MakeChecks.laidMetH_plain _ _ _ (by kernel_rfl)] at hL
  have htab : Tab W := tab_of_laid W hL
  have hval : ∀ (j : Nat) t v, Tryz.f9.params[j]? = some t → args[j]? = some v → Value.okWide Tryz.prog W .any base t v := hval0
  have hW' := hW
  obtain ⟨p, q, hA0, hV, rfl, hfz, hnd⟩ := hW
  have hA : DataW.TrodAll enc Tryz.prog W 0 (fun _ => true) true Tryz.f9.params.toList args.toList ds p := hA0
  rw [Tryz.params9] at hA hval
  obtain ⟨v0, v1, v2, d0, d1, d2, p0, p1, p2, rfl, rfl, rfl, h0, h1, h2⟩ := trodAll_three hA
  obtain ⟨rfl, rfl⟩ := trodVars_none hV
  obtain ⟨z0, rfl, -, -, wz0⟩ := open_int Tryz.underlying21 (hval 0 21 v0 rfl rfl) h0
  obtain ⟨z1, rfl, -, -, wz1⟩ := open_int Tryz.underlying21 (hval 1 21 v1 rfl rfl) h1
  obtain ⟨z2, rfl, -, -, wz2⟩ := open_int Tryz.underlying2 (hval 2 2 v2 rfl rfl) h2
  refine (limbsSmall_law z0 z1 z2 W htab (bounds_i32 wz0).1 (bounds_i32 wz0).2 (bounds_i32 wz1).1 (bounds_i32 wz1).2 (bounds_i64 wz2).1 (bounds_i64 wz2).2).mono fun e W' ⟨he, hg⟩ => ?_
  subst he
  exact ⟨_, rfl, LawPost.law_post laidOut (by kernel_rfl) (by kernel_rfl) Tryz.underlying4 hW' rfl rfl hg⟩

theorem said : Rows.LimbsSmallSaid :=
  OpenClaim.holds_of_cond 9 Tryz.f9 rfl rfl rfl rfl rfl rfl rfl ⟨rfl, rfl, rfl, rfl, rfl⟩ rfl rfl rfl rfl rfl (by kernel_rfl) Tryz.func9 (by kernel_rfl)
    (of_decide_eq_true (by kernel_rfl)) (by unfold Func.isWrapper; first | (rw [if_pos (by decide +kernel)]; kernel_rfl) | (rw [if_neg (by decide +kernel)]; exact ⟨rfl, rfl⟩))
    (fun os started H enc _ F => by rw [OpenClaim.pre_eq_preRow]; exact lifted os started H enc F)

/-- No parameter wants a stand-in; the program's own looks are off: what the card asks. -/
theorem plain (f : FuncId) (fn : Func) (hf : Tryz.pinned.checked.prog.funcNamed "reckoner/reckonerlaw01.LimbsSmall" = some f) (hfn : Tryz.pinned.checked.prog.funcs[f]? = some fn) :
    true = Tryz.pinned.checked.prog.looks [] ∧ ∀ (j : Nat) t, fn.params[j]? = some t → Tryz.pinned.checked.prog.wantsStandIn t = false := by
  obtain rfl : f = 9 := Option.some.inj ((show Tryz.prog.funcNamed "reckoner/reckonerlaw01.LimbsSmall" = some 9 by kernel_rfl).symm.trans hf) |>.symm
  obtain rfl : fn = Tryz.f9 := (Option.some.inj (Tryz.func9.symm.trans hfn)).symm
  refine ⟨by kernel_rfl, fun j t ht => ?_⟩
  rw [Tryz.params9] at ht
  have hm : t = 21 ∨ t = 21 ∨ t = 2 := by simpa using Array.mem_of_getElem? ht
  rcases hm with rfl | rfl | rfl
  · exact (show Tryz.prog.wantsStandIn 21 = false by kernel_rfl)
  · exact (show Tryz.prog.wantsStandIn 21 = false by kernel_rfl)
  · exact (show Tryz.prog.wantsStandIn 2 = false by kernel_rfl)

/-- The card. -/
theorem card : Rows.LimbsSmallCardSaid :=
  Claim7.holds_tied_plain_at .later [] _ _ _ _ said (fun _ h => by cases h) (by kernel_rfl) (fun _ h => by cases h) limbsSmall_row_tie rfl ⟨rfl, rfl⟩ (by kernel_rfl) rfl plain (by kernel_rfl)
#print axioms card
end LimbsSmallC
end Go.Proofs.YtkpajfjjhbbieaaGreatDoor.Limb
