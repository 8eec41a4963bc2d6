/-
  The law PolysBuilt: whatever it is handed, it returns true, and what it was handed reads behind the call as it read before; the card ties the listed tables to the program's text.
-/
import Derived.Test.YtkkbegkdbcenkaaGreatDoorPqM
import Derived.Test.YtkkbegkdbcenkaaGreatDoorCards
import Derived.Test.YtkkbegkdbcenkaaGreatDoorTie
import Derived.Lay
import Derived.MakeChecks
import Derived.Stop.LaidErr
import Derived.Deep.DeepWitnessRowRef
import Derived.WalkKit
import Derived.ProofKit
import Derived.OpenShut
import Derived.Deep.DeepHandedRow
import Derived.Lib.LaidTab
set_option linter.unusedSimpArgs false
set_option linter.unusedVariables false
namespace Go.Proofs.YtkkbegkdbcenkaaGreatDoor.Pol
open Go.RowKit Go.Sort Go.Proofs.YtkkbegkdbcenkaaGreatDoor.Limb
theorem deg_rng {P : List Tm} {n k e : Nat} (h : PC P n k e) (i : Nat) : -1 ≤ degP P i ∧ degP P i ≤ e := by
 refine ⟨degP_ge P i, ?_⟩
 by_cases hz : P = []
 ·rw [hz]
  show (-1 : Int) ≤ _
  omega
 ·obtain ⟨t, ht, h1⟩ := degP_has hz i
  rw [h1]
  have := at_one t.1 i e (h.b.ex t ht)
  omega
theorem PC.low {P : List Tm} {n k e : Nat} (h : PC P n k e) (i j : Nat) : PC (lowP P i j) n k e :=
 ⟨h.c.filter _, Nat.le_trans (List.length_filter_le _ _) h.b.len, fun t ht => h.b.lq t (List.mem_filter.1 ht).1, fun t ht => h.b.ex t (List.mem_filter.1 ht).1⟩
theorem powM_le (i : Nat) {j e : Nat} (h : j ≤ e) : (powM i j).le e := by
 unfold powM
 split
 ·exact ⟨h, Nat.zero_le _, Nat.zero_le _, Nat.zero_le _⟩
 ·split
  ·exact ⟨Nat.zero_le _, h, Nat.zero_le _, Nat.zero_le _⟩
  ·split
   ·exact ⟨Nat.zero_le _, Nat.zero_le _, h, Nat.zero_le _⟩
   ·exact ⟨Nat.zero_le _, Nat.zero_le _, Nat.zero_le _, h⟩
theorem PC.pow (i : Nat) {j e : Nat} (h : j ≤ e) : PC [(powM i j, (1 : Rat))] 1 3 e :=
 ⟨pow_canon i j, Nat.le_refl _, fun t ht => by
  rw [List.mem_singleton.1 ht]
  show LQ (1 : Rat) 3
  rw [show ((1 : Rat)) = ((1 : Int) : Rat) by decide +kernel]
  exact lq_one, fun t ht => by rw [List.mem_singleton.1 ht]; exact powM_le i h⟩
theorem pow_zero (i : Nat) : nf [(Mo.one, ((1 : Int) : Rat))] = [(powM i 0, 1)] := by
 rw [show powM i 0 = Mo.one by unfold powM Mo.one; split <;> (try rfl); split <;> (try rfl); split <;> rfl]
 decide +kernel
theorem letP_pow {i : Nat} (h : i < 4) : letP i = [(powM i 1, 1)] := by
 match i, h with
 | 0, _ => rfl
 | 1, _ => rfl
 | 2, _ => rfl
 | 3, _ => rfl
theorem degP_coef (P : List Tm) (i j : Nat) : degP (coefP P i j) i ≤ 0 := by
 by_cases hz : coefP P i j = []
 ·rw [hz]
  show (-1 : Int) ≤ 0
  omega
 ·obtain ⟨t, ht, h⟩ := degP_has hz i
  obtain ⟨s, _, rfl⟩ := List.mem_map.1 ht
  rw [h]
  show (((s.1.cut i).at i : Nat) : Int) ≤ 0
  rw [cut_at]
  exact Int.le_refl _
theorem coef_mem {P : List Tm} {t : Tm} (ht : t ∈ P) {i j : Nat} (h : t.1.at i = j) : (t.1.cut i, t.2) ∈ coefP P i j :=
 List.mem_map.2 ⟨t, List.mem_filter.2 ⟨ht, by simpa using h⟩, rfl⟩
set_option maxRecDepth 100000 in
set_option maxHeartbeats 4000000 in
theorem coefs_out (x : PV) (l : Int) (hl : l < 0 ∨ 4 ≤ l) (w : World) : Calls Tryz.prog 22 #[x.v, .int .i64 l] w fun e w' => e = .returned (.slice none 0 0) ∧ Below w.heap.size w w' := by
 have DG := Lib.hid (degree_out x l hl w)
 obtain ⟨xa, xn, xc⟩ := x
 change Calls Tryz.prog 22 #[.slice xa xn xc, .int .i64 l] w _
 clear hl
 go_enter Tryz.func22, Tryz.ntmps22
 go_wp2_with fail
 with_reducible refine DG.out.mono ?_
 rintro e w1 ⟨rfl, hb⟩
 have KG := Lib.hid hb
 clear hb DG
 go_wp2_with fail
 go_ret
 exact ⟨rfl, KG.out⟩
set_option maxRecDepth 100000 in
set_option maxHeartbeats 16000000 in
theorem built_neg (x1 : PV) (L1 : List TO) (n : Int) (w : World) (htab : Tab w) (h1 : RawQ w x1 L1) (hn : n < 0) :
  Calls Tryz.prog 5 #[.slice x1.a x1.n x1.c, .int .i64 n] w fun e w' => e = .returned (.bool true) ∧ Below w.heap.size w w' := by
 have HT := Lib.hid htab
 have KG := Lib.hid (Below.refl w.heap.size w)
 have N1 := Lib.hid h1
 have HN := Lib.hid hn
 clear htab h1
 go_enter Tryz.func5, Tryz.ntmps5
 go_wp2_with fail
 have CT := Lib.hid (palive w (HT.out.on KG.out))
 with_reducible refine CT.out.mono ?_
 rintro e w1 ⟨rfl, hb⟩
 clear CT
 have KG := Lib.hid (KG.out.trans (hb.mono KG.out.size))
 clear hb
 go_wp2_with fail
 obtain ⟨v3, hV⟩ : ∃ V, V = w1.alloc (.cells #[.slice x1.a x1.n x1.c] 23) := ⟨_, rfl⟩
 have hbV : Below w1.heap.size w1 v3 := by rw [hV]; exact ((Below.refl _ _).alloc (Nat.le_refl _) _)
 have BX2 := Lib.hid (show Bxs v3 (w1.heap.size) 23 [.slice x1.a x1.n x1.c] by have h := Bxs.new (w1) 23 [.slice x1.a x1.n x1.c]; rw [hV]; exact h)
 rw [show w1.alloc (.cells #[.slice x1.a x1.n x1.c] 23) = v3 from hV.symm]
 have KG := Lib.hid (KG.out.trans (hbV.mono KG.out.size))
 clear hV hbV
 have CT := Lib.hid (show Calls Tryz.prog 10 #[.int .i64 25, .slice (some ⟨w1.heap.size, 0, none⟩) 1 1] v3 _ from great1P (m := 25) BX2.out (N1.out.below KG.out) (by decide))
 with_reducible refine CT.out.mono ?_
 rintro e w4 ⟨b5, rfl, hn, hb⟩
 clear CT
 clear BX2
 have KG := Lib.hid (KG.out.trans (hb.mono KG.out.size))
 clear hb
 rcases Bool.eq_false_or_eq_true b5 with rfl | rfl
 ·clear hn
  go_wp2_with fail
  have CT := Lib.hid (palive w4 (HT.out.on KG.out))
  with_reducible refine CT.out.mono ?_
  rintro e w6 ⟨rfl, hb⟩
  clear CT
  have KG := Lib.hid (KG.out.trans (hb.mono KG.out.size))
  clear hb
  go_wp2_with fail
  go_ret
  exact ⟨rfl, KG.out⟩
 have g0 := hn rfl
 have Gx1 := Lib.hid g0
 clear hn g0
 go_wp2_with fail
 have CT := Lib.hid (ptall (N1.out.below KG.out) Gx1.out (by decide))
 with_reducible refine CT.out.mono ?_
 rintro e w7 ⟨b8, rfl, hn, hb⟩
 clear CT
 have KG := Lib.hid (KG.out.trans (hb.mono KG.out.size))
 clear hb
 rcases Bool.eq_false_or_eq_true b8 with rfl | rfl
 ·clear hn
  go_wp2_with fail
  have CT := Lib.hid (palive w7 (HT.out.on KG.out))
  with_reducible refine CT.out.mono ?_
  rintro e w9 ⟨rfl, hb⟩
  clear CT
  have KG := Lib.hid (KG.out.trans (hb.mono KG.out.size))
  clear hb
  go_wp2_with fail
  go_ret
  exact ⟨rfl, KG.out⟩
 have Wx1 := Lib.hid (hn rfl)
 clear hn
 rcases raw_cases3 N1.out Gx1.out Wx1.out with hbad | ⟨P1, hk, hc, hz⟩ | ⟨P1, hk, hc, hz⟩
 ·have Bx1 := Lib.hid hbad
  clear hbad
  go_wp2_with fail
  have CT := Lib.hid (check_b (Bx1.out.below KG.out) (Nat.le_trans (BP.n_le N1.out Gx1.out) (by decide)))
  with_reducible refine CT.out.mono ?_
  rintro e w10 ⟨rfl, hb⟩
  clear CT
  have KG := Lib.hid (KG.out.trans (hb.mono KG.out.size))
  clear hb
  go_wp2_with fail
  have CT := Lib.hid (palive w10 (HT.out.on KG.out))
  with_reducible refine CT.out.mono ?_
  rintro e w11 ⟨rfl, hb⟩
  clear CT
  have KG := Lib.hid (KG.out.trans (hb.mono KG.out.size))
  clear hb
  go_wp2_with fail
  go_ret
  exact ⟨rfl, KG.out⟩
 ·have Kx1 := Lib.hid hk
  have PCP1 := Lib.hid hc
  have Zx1 : ((x1.n : Nat) : Int) = 0 := by rw [hk.len, hz]; rfl
  clear hk hc
  go_wp2_with fail
  have CT := Lib.hid (pcheck (Kx1.out.below KG.out) PCP1.out (by decide) (by decide))
  with_reducible refine CT.out.mono ?_
  rintro e w12 ⟨rfl, hb⟩
  clear CT
  have KG := Lib.hid (KG.out.trans (hb.mono KG.out.size))
  clear hb
  go_wp2_with fail
  have CT := Lib.hid (coefs_out x1 n (Or.inl HN.out) w12)
  with_reducible refine CT.out.mono ?_
  rintro e w13 ⟨rfl, hb⟩
  clear CT
  have KG := Lib.hid (KG.out.trans (hb.mono KG.out.size))
  clear hb
  go_wp2_with fail
  have CT := Lib.hid (degree_out x1 n (Or.inl HN.out) w13)
  with_reducible refine CT.out.mono ?_
  rintro e w14 ⟨rfl, hb⟩
  clear CT
  have KG := Lib.hid (KG.out.trans (hb.mono KG.out.size))
  clear hb
  go_wp2_with fail
  go_ret
  exact ⟨rfl, KG.out⟩
 have Kx1 := Lib.hid hk
 have PCP1 := Lib.hid hc
 have Yx1 : ¬ (x1.n = 0) := by rw [hk.len]; have := List.length_pos_iff.2 hz; omega
 have Zx1 : ((((x1.n : Nat) : Int)) == 0) = false := beq_eq_false_iff_ne.2 (by omega)
 have Ex1 := Lib.hid hz
 clear hk hc hz
 go_wp2_with fail
 have CT := Lib.hid (pcheck (Kx1.out.below KG.out) PCP1.out (by decide) (by decide))
 with_reducible refine CT.out.mono ?_
 rintro e w15 ⟨rfl, hb⟩
 clear CT
 have KG := Lib.hid (KG.out.trans (hb.mono KG.out.size))
 clear hb
 go_wp2_with fail
 have CT := Lib.hid (coefs_out x1 n (Or.inl HN.out) w15)
 with_reducible refine CT.out.mono ?_
 rintro e w16 ⟨rfl, hb⟩
 clear CT
 have KG := Lib.hid (KG.out.trans (hb.mono KG.out.size))
 clear hb
 go_wp2_with fail
 have CT := Lib.hid (degree_out x1 n (Or.inl HN.out) w16)
 with_reducible refine CT.out.mono ?_
 rintro e w17 ⟨rfl, hb⟩
 clear CT
 have KG := Lib.hid (KG.out.trans (hb.mono KG.out.size))
 clear hb
 go_wp2_with fail
 go_ret
 exact ⟨rfl, KG.out⟩
set_option maxRecDepth 100000 in
set_option maxHeartbeats 16000000 in
theorem built_hi (x1 : PV) (L1 : List TO) (n : Int) (w : World) (htab : Tab w) (h1 : RawQ w x1 L1) (hn : 4 ≤ n) :
  Calls Tryz.prog 5 #[.slice x1.a x1.n x1.c, .int .i64 n] w fun e w' => e = .returned (.bool true) ∧ Below w.heap.size w w' := by
 have HT := Lib.hid htab
 have KG := Lib.hid (Below.refl w.heap.size w)
 have N1 := Lib.hid h1
 have HN := Lib.hid hn
 have hn2 : ¬ (n < 0) := by omega
 have hn3 : n > 3 := by omega
 have hn4 : 3 < n := by omega
 clear htab h1
 go_enter Tryz.func5, Tryz.ntmps5
 go_wp2_with fail
 have CT := Lib.hid (palive w (HT.out.on KG.out))
 with_reducible refine CT.out.mono ?_
 rintro e w1 ⟨rfl, hb⟩
 clear CT
 have KG := Lib.hid (KG.out.trans (hb.mono KG.out.size))
 clear hb
 go_wp2_with fail
 obtain ⟨v3, hV⟩ : ∃ V, V = w1.alloc (.cells #[.slice x1.a x1.n x1.c] 23) := ⟨_, rfl⟩
 have hbV : Below w1.heap.size w1 v3 := by rw [hV]; exact ((Below.refl _ _).alloc (Nat.le_refl _) _)
 have BX2 := Lib.hid (show Bxs v3 (w1.heap.size) 23 [.slice x1.a x1.n x1.c] by have h := Bxs.new (w1) 23 [.slice x1.a x1.n x1.c]; rw [hV]; exact h)
 rw [show w1.alloc (.cells #[.slice x1.a x1.n x1.c] 23) = v3 from hV.symm]
 have KG := Lib.hid (KG.out.trans (hbV.mono KG.out.size))
 clear hV hbV
 have CT := Lib.hid (show Calls Tryz.prog 10 #[.int .i64 25, .slice (some ⟨w1.heap.size, 0, none⟩) 1 1] v3 _ from great1P (m := 25) BX2.out (N1.out.below KG.out) (by decide))
 with_reducible refine CT.out.mono ?_
 rintro e w4 ⟨b5, rfl, hn, hb⟩
 clear CT
 clear BX2
 have KG := Lib.hid (KG.out.trans (hb.mono KG.out.size))
 clear hb
 rcases Bool.eq_false_or_eq_true b5 with rfl | rfl
 ·clear hn
  go_wp2_with fail
  have CT := Lib.hid (palive w4 (HT.out.on KG.out))
  with_reducible refine CT.out.mono ?_
  rintro e w6 ⟨rfl, hb⟩
  clear CT
  have KG := Lib.hid (KG.out.trans (hb.mono KG.out.size))
  clear hb
  go_wp2_with fail
  go_ret
  exact ⟨rfl, KG.out⟩
 have g0 := hn rfl
 have Gx1 := Lib.hid g0
 clear hn g0
 go_wp2_with fail
 have CT := Lib.hid (ptall (N1.out.below KG.out) Gx1.out (by decide))
 with_reducible refine CT.out.mono ?_
 rintro e w7 ⟨b8, rfl, hn, hb⟩
 clear CT
 have KG := Lib.hid (KG.out.trans (hb.mono KG.out.size))
 clear hb
 rcases Bool.eq_false_or_eq_true b8 with rfl | rfl
 ·clear hn
  go_wp2_with fail
  have CT := Lib.hid (palive w7 (HT.out.on KG.out))
  with_reducible refine CT.out.mono ?_
  rintro e w9 ⟨rfl, hb⟩
  clear CT
  have KG := Lib.hid (KG.out.trans (hb.mono KG.out.size))
  clear hb
  go_wp2_with fail
  go_ret
  exact ⟨rfl, KG.out⟩
 have Wx1 := Lib.hid (hn rfl)
 clear hn
 rcases raw_cases3 N1.out Gx1.out Wx1.out with hbad | ⟨P1, hk, hc, hz⟩ | ⟨P1, hk, hc, hz⟩
 ·have Bx1 := Lib.hid hbad
  clear hbad
  go_wp2_with fail
  have CT := Lib.hid (check_b (Bx1.out.below KG.out) (Nat.le_trans (BP.n_le N1.out Gx1.out) (by decide)))
  with_reducible refine CT.out.mono ?_
  rintro e w10 ⟨rfl, hb⟩
  clear CT
  have KG := Lib.hid (KG.out.trans (hb.mono KG.out.size))
  clear hb
  go_wp2_with fail
  have CT := Lib.hid (palive w10 (HT.out.on KG.out))
  with_reducible refine CT.out.mono ?_
  rintro e w11 ⟨rfl, hb⟩
  clear CT
  have KG := Lib.hid (KG.out.trans (hb.mono KG.out.size))
  clear hb
  go_wp2_with fail
  go_ret
  exact ⟨rfl, KG.out⟩
 ·have Kx1 := Lib.hid hk
  have PCP1 := Lib.hid hc
  have Zx1 : ((x1.n : Nat) : Int) = 0 := by rw [hk.len, hz]; rfl
  clear hk hc
  go_wp2_with fail
  have CT := Lib.hid (pcheck (Kx1.out.below KG.out) PCP1.out (by decide) (by decide))
  with_reducible refine CT.out.mono ?_
  rintro e w12 ⟨rfl, hb⟩
  clear CT
  have KG := Lib.hid (KG.out.trans (hb.mono KG.out.size))
  clear hb
  go_wp2_with fail
  have CT := Lib.hid (coefs_out x1 n (Or.inr HN.out) w12)
  with_reducible refine CT.out.mono ?_
  rintro e w13 ⟨rfl, hb⟩
  clear CT
  have KG := Lib.hid (KG.out.trans (hb.mono KG.out.size))
  clear hb
  go_wp2_with fail
  have CT := Lib.hid (degree_out x1 n (Or.inr HN.out) w13)
  with_reducible refine CT.out.mono ?_
  rintro e w14 ⟨rfl, hb⟩
  clear CT
  have KG := Lib.hid (KG.out.trans (hb.mono KG.out.size))
  clear hb
  go_wp2_with fail
  go_ret
  exact ⟨rfl, KG.out⟩
 have Kx1 := Lib.hid hk
 have PCP1 := Lib.hid hc
 have Yx1 : ¬ (x1.n = 0) := by rw [hk.len]; have := List.length_pos_iff.2 hz; omega
 have Zx1 : ((((x1.n : Nat) : Int)) == 0) = false := beq_eq_false_iff_ne.2 (by omega)
 have Ex1 := Lib.hid hz
 clear hk hc hz
 go_wp2_with fail
 have CT := Lib.hid (pcheck (Kx1.out.below KG.out) PCP1.out (by decide) (by decide))
 with_reducible refine CT.out.mono ?_
 rintro e w15 ⟨rfl, hb⟩
 clear CT
 have KG := Lib.hid (KG.out.trans (hb.mono KG.out.size))
 clear hb
 go_wp2_with fail
 have CT := Lib.hid (coefs_out x1 n (Or.inr HN.out) w15)
 with_reducible refine CT.out.mono ?_
 rintro e w16 ⟨rfl, hb⟩
 clear CT
 have KG := Lib.hid (KG.out.trans (hb.mono KG.out.size))
 clear hb
 go_wp2_with fail
 have CT := Lib.hid (degree_out x1 n (Or.inr HN.out) w16)
 with_reducible refine CT.out.mono ?_
 rintro e w17 ⟨rfl, hb⟩
 clear CT
 have KG := Lib.hid (KG.out.trans (hb.mono KG.out.size))
 clear hb
 go_wp2_with fail
 go_ret
 exact ⟨rfl, KG.out⟩
set_option maxRecDepth 100000 in
set_option maxHeartbeats 16000000 in
theorem built_in (x1 : PV) (L1 : List TO) (li : Nat) (w : World) (htab : Tab w) (h1 : RawQ w x1 L1) (hi : li < 4) :
  Calls Tryz.prog 5 #[.slice x1.a x1.n x1.c, .int .i64 (li : Int)] w fun e w' => e = .returned (.bool true) ∧ Below w.heap.size w w' := by
 have HT := Lib.hid htab
 have KG := Lib.hid (Below.refl w.heap.size w)
 have N1 := Lib.hid h1
 have HI := Lib.hid hi
 have hi1 : (li : Int) < 4 := by omega
 have hi2 : ¬ ((li : Int) < 0) := by omega
 have hi3 : ¬ ((li : Int) > 3) := by omega
 have hi4 : ¬ ((3 : Int) < (li : Int)) := by omega
 clear hi
 clear htab h1
 go_enter Tryz.func5, Tryz.ntmps5
 go_wp2_with fail
 have CT := Lib.hid (palive w (HT.out.on KG.out))
 with_reducible refine CT.out.mono ?_
 rintro e w1 ⟨rfl, hb⟩
 clear CT
 have KG := Lib.hid (KG.out.trans (hb.mono KG.out.size))
 clear hb
 go_wp2_with fail
 obtain ⟨v3, hV⟩ : ∃ V, V = w1.alloc (.cells #[.slice x1.a x1.n x1.c] 23) := ⟨_, rfl⟩
 have hbV : Below w1.heap.size w1 v3 := by rw [hV]; exact ((Below.refl _ _).alloc (Nat.le_refl _) _)
 have BX2 := Lib.hid (show Bxs v3 (w1.heap.size) 23 [.slice x1.a x1.n x1.c] by have h := Bxs.new (w1) 23 [.slice x1.a x1.n x1.c]; rw [hV]; exact h)
 rw [show w1.alloc (.cells #[.slice x1.a x1.n x1.c] 23) = v3 from hV.symm]
 have KG := Lib.hid (KG.out.trans (hbV.mono KG.out.size))
 clear hV hbV
 have CT := Lib.hid (show Calls Tryz.prog 10 #[.int .i64 25, .slice (some ⟨w1.heap.size, 0, none⟩) 1 1] v3 _ from great1P (m := 25) BX2.out (N1.out.below KG.out) (by decide))
 with_reducible refine CT.out.mono ?_
 rintro e w4 ⟨b5, rfl, hn, hb⟩
 clear CT
 clear BX2
 have KG := Lib.hid (KG.out.trans (hb.mono KG.out.size))
 clear hb
 rcases Bool.eq_false_or_eq_true b5 with rfl | rfl
 ·clear hn
  go_wp2_with fail
  have CT := Lib.hid (palive w4 (HT.out.on KG.out))
  with_reducible refine CT.out.mono ?_
  rintro e w6 ⟨rfl, hb⟩
  clear CT
  have KG := Lib.hid (KG.out.trans (hb.mono KG.out.size))
  clear hb
  go_wp2_with fail
  go_ret
  exact ⟨rfl, KG.out⟩
 have g0 := hn rfl
 have Gx1 := Lib.hid g0
 clear hn g0
 go_wp2_with fail
 have CT := Lib.hid (ptall (N1.out.below KG.out) Gx1.out (by decide))
 with_reducible refine CT.out.mono ?_
 rintro e w7 ⟨b8, rfl, hn, hb⟩
 clear CT
 have KG := Lib.hid (KG.out.trans (hb.mono KG.out.size))
 clear hb
 rcases Bool.eq_false_or_eq_true b8 with rfl | rfl
 ·clear hn
  go_wp2_with fail
  have CT := Lib.hid (palive w7 (HT.out.on KG.out))
  with_reducible refine CT.out.mono ?_
  rintro e w9 ⟨rfl, hb⟩
  clear CT
  have KG := Lib.hid (KG.out.trans (hb.mono KG.out.size))
  clear hb
  go_wp2_with fail
  go_ret
  exact ⟨rfl, KG.out⟩
 have Wx1 := Lib.hid (hn rfl)
 clear hn
 rcases raw_cases3 N1.out Gx1.out Wx1.out with hbad | ⟨P1, hk, hc, hz⟩ | ⟨P1, hk, hc, hz⟩
 ·have Bx1 := Lib.hid hbad
  clear hbad
  go_wp2_with fail
  have CT := Lib.hid (check_b (Bx1.out.below KG.out) (Nat.le_trans (BP.n_le N1.out Gx1.out) (by decide)))
  with_reducible refine CT.out.mono ?_
  rintro e w10 ⟨rfl, hb⟩
  clear CT
  have KG := Lib.hid (KG.out.trans (hb.mono KG.out.size))
  clear hb
  go_wp2_with fail
  have CT := Lib.hid (palive w10 (HT.out.on KG.out))
  with_reducible refine CT.out.mono ?_
  rintro e w11 ⟨rfl, hb⟩
  clear CT
  have KG := Lib.hid (KG.out.trans (hb.mono KG.out.size))
  clear hb
  go_wp2_with fail
  go_ret
  exact ⟨rfl, KG.out⟩
 ·have Kx1 := Lib.hid hk
  have PCP1 := Lib.hid hc
  have Zx1 : ((x1.n : Nat) : Int) = 0 := by rw [hk.len, hz]; rfl
  clear hk hc
  go_wp2_with fail
  have CT := Lib.hid (pcheck (Kx1.out.below KG.out) PCP1.out (by decide) (by decide))
  with_reducible refine CT.out.mono ?_
  rintro e w12 ⟨rfl, hb⟩
  clear CT
  have KG := Lib.hid (KG.out.trans (hb.mono KG.out.size))
  clear hb
  go_wp2_with fail
  have CT := Lib.hid (pcoefs li HI.out (Kx1.out.below KG.out) PCP1.out (by decide) (by decide))
  with_reducible refine CT.out.mono ?_
  rintro e w13 ⟨a14, n15, c16, rfl, hN17, hb⟩
  have N17 := Lib.hid hN17
  clear hN17
  clear CT
  have KG := Lib.hid (KG.out.trans (hb.mono KG.out.size))
  clear hb
  obtain rfl : n15 = 0 := by have h := N17.out.len; rw [hz] at h; have h2 : degP [] li = -1 := rfl; omega
  go_wp2_with fail
  have CT := Lib.hid (pdegree li HI.out (Kx1.out.below KG.out) PCP1.out (by decide) (by decide))
  rw [show degP P1 li = -1 by rw [hz]; rfl] at CT
  with_reducible refine CT.out.mono ?_
  rintro e w18 ⟨rfl, hb⟩
  clear CT
  clear N17
  have KG := Lib.hid (KG.out.trans (hb.mono KG.out.size))
  clear hb
  go_wp2_with fail
  go_ret
  exact ⟨rfl, KG.out⟩
 have Kx1 := Lib.hid hk
 have PCP1 := Lib.hid hc
 have Yx1 : ¬ (x1.n = 0) := by rw [hk.len]; have := List.length_pos_iff.2 hz; omega
 have Zx1 : ((((x1.n : Nat) : Int)) == 0) = false := beq_eq_false_iff_ne.2 (by omega)
 have Ex1 := Lib.hid hz
 clear hk hc hz
 go_wp2_with fail
 have CT := Lib.hid (pcheck (Kx1.out.below KG.out) PCP1.out (by decide) (by decide))
 with_reducible refine CT.out.mono ?_
 rintro e w19 ⟨rfl, hb⟩
 clear CT
 have KG := Lib.hid (KG.out.trans (hb.mono KG.out.size))
 clear hb
 go_wp2_with fail
 have CT := Lib.hid (pcoefs li HI.out (Kx1.out.below KG.out) PCP1.out (by decide) (by decide))
 with_reducible refine CT.out.mono ?_
 rintro e w20 ⟨a21, n22, c23, rfl, hN24, hb⟩
 have N24 := Lib.hid hN24
 clear hN24
 clear CT
 have KG := Lib.hid (KG.out.trans (hb.mono KG.out.size))
 clear hb
 go_wp2_with fail
 obtain ⟨q25, hq25⟩ : ∃ z : Rat, z = ((1 : Int) : Rat) := ⟨_, rfl⟩
 have Hq25 := Lib.hid hq25
 have LQq25 := Lib.hid (show LQ q25 3 by rw [hq25]; exact LQ.int (by decide) (by decide))
 clear hq25
 have CT := Lib.hid (qof 1 w20 (by decide) (by decide))
 rw [show ((1 : Int) : Rat) = q25 from Hq25.out.symm] at CT
 with_reducible refine CT.out.mono ?_
 rintro e w26 ⟨x27, rfl, hN28, hb⟩
 have N28 := Lib.hid hN28
 clear hN28
 clear CT
 have N24 := Lib.hid (N24.out.below hb)
 have KG := Lib.hid (KG.out.trans (hb.mono KG.out.size))
 clear hb
 go_wp2_with fail
 obtain ⟨p29, hp29⟩ : ∃ z : List Tm, z = nf [(Mo.one, q25)] := ⟨_, rfl⟩
 have Hp29 := Lib.hid hp29
 have PCp29 := Lib.hid (show PC p29 1 4 0 by rw [hp29]; exact PC.of LQq25.out)
 clear hp29
 have CT := Lib.hid (pof (N28.out).k.any (((N28.out).k).len LQq25.out (by decide : _ ≤ 900000)) LQq25.out (by decide))
 rw [show nf [(Mo.one, q25)] = p29 from Hp29.out.symm] at CT
 with_reducible refine CT.out.mono ?_
 rintro e w30 ⟨z31, rfl, hN32, hb⟩
 have N32 := Lib.hid hN32
 clear hN32
 clear CT
 have N24 := Lib.hid (N24.out.below hb)
 clear N28
 have KG := Lib.hid (KG.out.trans (hb.mono KG.out.size))
 clear hb
 have HPW := Lib.hid (show KP w30 z31 [(powM li 0, 1)] by have h := N32.out.k; rwa [show p29 = [(powM li 0, 1)] by simp only [Hp29.out, Hq25.out]; exact pow_zero li] at h)
 obtain ⟨D, hD⟩ : ∃ D, D = degP P1 li := ⟨_, rfl⟩
 have HD := Lib.hid hD
 have HLEN := Lib.hid (show (n22 : Int) = D + 1 by rw [hD]; exact N24.out.len)
 have hr := deg_rng PCP1.out li
 rw [← hD] at hr
 have HDR := Lib.hid hr
 have hdeg := degP_has Ex1.out li
 rw [← hD] at hdeg
 have HDG := Lib.hid hdeg
 clear hD hr hdeg
 go_wp2_with fail
 go_loopw [6, 7, 8] (fun p s i wr => ∃ (j : Nat) (zp zs : PV), j ≤ n22 ∧ i = .int .i64 j ∧ p = zp.v ∧ s = zs.v ∧ KP wr zp [(powM li j, 1)] ∧ KP wr zs (lowP P1 li j) ∧ Below w30.heap.size w30 wr) (fun _ _ i _ => n22 - (intOf i).toNat)
 case atStart => exact ⟨0, z31, ⟨none, 0, 0⟩, Nat.zero_le _, rfl, rfl, rfl, HPW.out, by rw [low_zero]; exact KP.nil _ _ _, Below.refl _ _⟩
 case round =>
  obtain ⟨j, ⟨pa, pn, pc⟩, ⟨sa, sn, sc⟩, hj, rfl, rfl, rfl, hp, hs, hb0⟩ := hrel
  have HJ := Lib.hid hj; have HP := Lib.hid hp; have HS := Lib.hid hs; have HB := Lib.hid hb0
  clear hj hp hs hb0
  have hcn : n22 ≤ 13 := by have h1 := HLEN.out; have h2 := HDR.out; omega
  have HCN := Lib.hid hcn
  by_cases hjn : j < n22
  ·have HJN := Lib.hid hjn
   obtain ⟨cb, ⟨za, zn, zc⟩, hca, hcc, hkz⟩ := (N24.out.below HB.out).get j hjn
   subst hca
   have HCC := Lib.hid (fun (w' : World) (hb' : Below wr.heap.size wr w') => show w'.cell? ⟨cb, j, none⟩ = some (.slice za zn zc) from (hb'.cell (p := ⟨cb, j, none⟩) (block_lt_of_cell hcc)).trans hcc)
   have HZ := Lib.hid hkz
   have PCZ := Lib.hid (PCP1.out.coef li j)
   have PCW := Lib.hid (PC.pow li (show j ≤ 13 by omega))
   have h1 : (j : Int) < (n22 : Int) := by omega
   have ej : IntKind.i64.wrap ((j : Int) + 1) = (j : Int) + 1 := IntWalk.i64_in _ (by omega)
   have HW := Lib.hid (Below.refl wr.heap.size wr)
   have CK := Lib.hid (pcheck HZ.out PCZ.out (by decide) (by decide))
   obtain ⟨E, hE⟩ : ∃ E, E = degP (coefP P1 li j) li := ⟨_, rfl⟩
   have g1 : ¬ (E > 0) := by rw [hE]; have := degP_coef P1 li j; omega
   have g2 : ¬ (0 < E) := g1
   have HE := Lib.hid hE
   clear hcc hkz hjn hcn hE
   have c0 := HCC.out wr HW.out
   go_wp2_with fail
   with_reducible refine CK.out.mono ?_
   rintro e w1 ⟨rfl, hb⟩
   have HW := Lib.hid (HW.out.trans (hb.mono HW.out.size))
   clear hb CK c0
   have DG := Lib.hid (pdegree li HI.out (HZ.out.below HW.out) PCZ.out (by decide) (by decide))
   rw [← HE.out] at DG
   have c0 := HCC.out w1 HW.out
   go_wp2_with fail
   with_reducible refine DG.out.mono ?_
   rintro e w2 ⟨rfl, hb⟩
   have HW := Lib.hid (HW.out.trans (hb.mono HW.out.size))
   clear hb DG c0
   have c0 := HCC.out w2 HW.out
   have MU := Lib.hid (plmul (HZ.out.below HW.out) PCZ.out (HP.out.below HW.out) PCW.out (by decide) (by decide) (by decide) (by decide) (by decide) (by decide) (by decide))
   go_wp2_with fail
   with_reducible refine MU.out.mono ?_
   rintro e w3 ⟨⟨ma, mn, mc⟩, he, hm, hb⟩
   obtain rfl : e = .returned (.slice ma mn mc) := he
   have HM := Lib.hid hm
   have HW := Lib.hid (HW.out.trans (hb.mono HW.out.size))
   clear hb MU c0 hm
   have AD := Lib.hid (padd (HS.out.below HW.out) (PCP1.out.low li j) HM.out.k (PCZ.out.mul PCW.out) 200 (by decide) (by decide) (by decide) (by decide))
   rw [low_next PCP1.out.c li j] at AD
   go_wp2_with fail
   with_reducible refine AD.out.mono ?_
   rintro e w4 ⟨⟨ta, tn, tc⟩, he, ht, hb⟩
   obtain rfl : e = .returned (.slice ta tn tc) := he
   have HT2 := Lib.hid ht
   have HW := Lib.hid (HW.out.trans (hb.mono HW.out.size))
   clear hb AD ht
   have LT := Lib.hid (llet_k li HI.out w4)
   go_wp2_with fail
   with_reducible refine LT.out.mono ?_
   rintro e w5 ⟨⟨la, ln, lc⟩, he, hl, hb⟩
   obtain rfl : e = .returned (.slice la ln lc) := he
   have HL := Lib.hid hl
   have HT2 := Lib.hid (HT2.out.below hb)
   have HW := Lib.hid (HW.out.trans (hb.mono HW.out.size))
   clear hb LT hl
   have MP := Lib.hid (plmul (HP.out.below HW.out) PCW.out HL.out.k (PC.letter li) (by decide) (by decide) (by decide) (by decide) (by decide) (by decide) (by decide))
   rw [show mulP [(powM li j, 1)] (letP li) = [(powM li (j + 1), 1)] by rw [letP_pow HI.out]; exact pow_next li j] at MP
   go_wp2_with fail
   with_reducible refine MP.out.mono ?_
   rintro e w6 ⟨⟨qa, qn, qc⟩, he, hq, hb⟩
   obtain rfl : e = .returned (.slice qa qn qc) := he
   have HQ := Lib.hid hq
   have HT2 := Lib.hid (HT2.out.below hb)
   have HW := Lib.hid (HW.out.trans (hb.mono HW.out.size))
   clear hb MP hq
   go_wp2_with fail
   go_roundw
   case rel => exact ⟨j + 1, ⟨qa, qn, qc⟩, ⟨ta, tn, tc⟩, by have := HJN.out; omega, rfl, rfl, rfl, HQ.out.k, HT2.out.k, HB.out.trans (HW.out.mono HB.out.size)⟩
   case measure => simp [intOf]; have := HJN.out; omega
  ·have hge : ¬ ((j : Int) < (n22 : Int)) := by omega
   have HJE := Lib.hid (show j = n22 by have := HJ.out; omega)
   have HW := Lib.hid (KG.out.trans (HB.out.mono KG.out.size))
   have HS := Lib.hid (show KP wr ⟨sa, sn, sc⟩ P1 by
    have h := HS.out
    rwa [low_all fun t ht => by
     have h1 := degP_le (i := li) ht
     rw [← HD.out] at h1
     have h2 := HLEN.out
     have h3 := HJE.out
     omega] at h)
   have hpos : n22 - 1 < n22 := by have h1 := HLEN.out; obtain ⟨t, _, h2⟩ := HDG.out; omega
   obtain ⟨cb, ⟨za, zn, zc⟩, hca, hcc, hkz⟩ := (N24.out.below HB.out).get (n22 - 1) hpos
   subst hca
   have HCC := Lib.hid (fun (w' : World) (hb' : Below wr.heap.size wr w') => show w'.cell? ⟨cb, n22 - 1, none⟩ = some (.slice za zn zc) from (hb'.cell (p := ⟨cb, n22 - 1, none⟩) (block_lt_of_cell hcc)).trans hcc)
   have hzn : 0 < zn := by
    have h := hkz.len
    change zn = _ at h
    rw [h]
    obtain ⟨t, ht, h2⟩ := HDG.out
    refine List.length_pos_iff.2 fun h0 => ?_
    have h3 : (t.1.cut li, t.2) ∈ coefP P1 li (n22 - 1) := coef_mem ht (by have h1 := HLEN.out; omega)
    rw [h0] at h3
    cases h3
   have e1 : IntKind.i64.wrap (D + 1) = (n22 : Int) := by have h1 := HLEN.out; have h2 := HDR.out; rw [IntWalk.i64_in _ (by omega), h1]
   have e2 : IntKind.i64.wrap ((n22 : Int) - 1) = ((n22 - 1 : Nat) : Int) := by rw [IntWalk.i64_in _ (by have := HCN.out; omega)]; omega
   have g1 : (zn : Int) > 0 := by omega
   have g2 : (0 : Int) < (zn : Int) := by omega
   have g3 : ((n22 - 1 : Nat) : Int) < (n22 : Int) := by omega
   have SM := Lib.hid (plsame HS.out (Kx1.out.below HW.out) rfl PCP1.out (by decide) (by decide))
   clear hjn hcc hkz hpos
   go_wp2_with fail
   with_reducible refine SM.out.mono ?_
   rintro e w1 ⟨rfl, hb⟩
   have HW1 := Lib.hid hb
   have DG := Lib.hid (pdegree li HI.out (Kx1.out.below (HW.out.trans (hb.mono HW.out.size))) PCP1.out (by decide) (by decide))
   rw [← HD.out] at DG
   clear hb SM
   go_wp2_with fail
   with_reducible refine DG.out.mono ?_
   rintro e w2 ⟨rfl, hb⟩
   have HW1 := Lib.hid (HW1.out.trans (hb.mono HW1.out.size))
   clear hb DG
   have c0 := HCC.out w2 HW1.out
   go_wp2_with fail
   go_ret
   exact ⟨rfl, HW.out.trans (HW1.out.mono HW.out.size)⟩
theorem polysBuilt_law (x1 : PV) (L1 : List TO) (n : Int) (w : World) (htab : Tab w) (h1 : RawQ w x1 L1) (_ : -9223372036854775808 ≤ n) (_ : n ≤ 9223372036854775807) :
  Calls Tryz.prog 5 #[.slice x1.a x1.n x1.c, .int .i64 n] w fun e w' => e = .returned (.bool true) ∧ Below w.heap.size w w' := by
 by_cases h : n < 0
 ·exact built_neg x1 L1 n w htab h1 h
 ·by_cases h4 : 4 ≤ n
  ·exact built_hi x1 L1 n w htab h1 h4
  ·obtain ⟨li, rfl⟩ : ∃ k : Nat, n = (k : Int) := ⟨n.toNat, by omega⟩
   exact built_in x1 L1 li w htab h1 (by omega)
end Go.Proofs.YtkkbegkdbcenkaaGreatDoor.Pol
namespace Go.Proofs.YtkkbegkdbcenkaaGreatDoor.Limb
open Go.RowKit Go.Sort Go.Proofs.YtkkbegkdbcenkaaGreatDoor.Pol
open Go.ChangeShapes Go.WideShapes Go.ChangeAt
namespace PolysBuiltC
theorem own : ownKnob Tryz.prog.godebug = none := by kernel_rfl
theorem laidOut : laidOutB Tryz.prog = true := by kernel_rfl
theorem tab_of_laid (W : World) (hL : laidMet Tryz.prog Rows.polysBuiltRow.laid W) : Tab W :=
 Lib.tabIs_of_head (g := 3) (by kernel_rfl) (by kernel_rfl) (t := 239) (n := 20) (e := 123) Tryz.underlying239 Tryz.underlying123 (by kernel_rfl) (by kernel_rfl) hL.tail.tail
noncomputable def laidWorld (os : Os) : World := World.laidAll Tryz.prog os Rows.polysBuiltRow.laid
noncomputable def witArgs : Array Value := #[.slice none 0 0, .int .i64 0]
theorem laid_met (os : Os) : laidMet Tryz.prog Rows.polysBuiltRow.laid ((laidWorld os).forCall (fun _ _ => 0) ⟨#[], witArgs, []⟩).memory :=
 laidMet_laidAll _ (by kernel_rfl) (by kernel_rfl)
theorem reads (os : Os) {H : Type} (enc : TypeId × Value → H) : ∃ places, DataW.whole enc Tryz.prog ((laidWorld os).forCall (fun _ _ => 0) ⟨#[], witArgs, []⟩).memory Tryz.f5.params.toList Rows.polysBuiltSpec.vars false witArgs.toList 8 = some ([.nil, .lit (.int .i64 0)], [], places) :=
 ⟨[], by kernel_rfl⟩
set_option maxRecDepth 100000 in
theorem lifted (os : Os) (started : os.Started) (H : Type) (enc : TypeId × Value → H) (F : Stop.Interp) :
  ReturnsInHanded {} Tryz.checked os 5 .any ((OpenSpec.ofChange Rows.polysBuiltSpec).preRow enc Tryz.prog Tryz.f5 Rows.polysBuiltRow.domain false Rows.polysBuiltRow.laid) (((OpenSpec.ofChange Rows.polysBuiltSpec).at F).post enc Tryz.prog Tryz.f5 false true false false) := by
 obtain ⟨places, hx⟩ := reads os enc
 refine returnsInHanded_of_row (C := Tryz.checked) (s := OpenSpec.ofChange Rows.polysBuiltSpec) own started (by kernel_rfl) Tryz.func5
  (witness_row_atRef (enc := enc) (C := Tryz.checked) false (laidWorld os) witArgs (World.laidAll_os _ _ _) (by kernel_rfl) (by kernel_rfl) (by kernel_rfl)
   (OpenSpec.preRow_of_cond 8 hx (by kernel_rfl) (fun k hk => by cases hk) (by kernel_rfl) (laid_met os))) ?_
 intro W base args ds gs before hval0 hW _ _ _ hL _ _
 rw [MakeChecks.laidMetH_plain _ _ _ (by kernel_rfl)] at hL
 have htab : Tab W := tab_of_laid W hL
 have hval : ∀ (j : Nat) t v, Tryz.f5.params[j]? = some t → args[j]? = some v → Value.okWide Tryz.prog W .any base t v := hval0
 have hW' := hW
 obtain ⟨p, q, hA0, hV, rfl, hfz, hnd⟩ := hW
 have hA : DataW.TrodAll enc Tryz.prog W 0 (fun _ => true) true Tryz.f5.params.toList args.toList ds p := hA0
 rw [Tryz.params5] at hA hval
 obtain ⟨v0, v1, d0, d1, p0, p1, rfl, rfl, rfl, h0, h1⟩ := trodAll_two hA
 obtain ⟨rfl, rfl⟩ := trodVars_none hV
 obtain ⟨x0, L0, rfl, r0⟩ := open_poly (hval 0 23 v0 rfl rfl) h0
 obtain ⟨z1, rfl, -, -, wz1⟩ := open_int Tryz.underlying3 (hval 1 3 v1 rfl rfl) h1
 refine (polysBuilt_law x0 L0 z1 W htab r0 (bounds_i64 wz1).1 (bounds_i64 wz1).2).mono fun e W' ⟨he, hg⟩ => ?_
 subst he
 exact ⟨_, rfl, LawPost.law_post laidOut (by kernel_rfl) (by kernel_rfl) Tryz.underlying4 hW' rfl rfl hg⟩
theorem said : Rows.PolysBuiltSaid :=
 OpenClaim.holds_of_cond 5 Tryz.f5 rfl rfl rfl rfl rfl rfl rfl ⟨rfl, rfl, rfl, rfl, rfl⟩ rfl rfl rfl rfl rfl (by kernel_rfl) Tryz.func5 (by kernel_rfl)
  (of_decide_eq_true (by kernel_rfl)) (by unfold Func.isWrapper; first | (rw [if_pos (by decide +kernel)]; kernel_rfl) | (rw [if_neg (by decide +kernel)]; exact ⟨rfl, rfl⟩))
  (fun os started H enc _ F => by rw [OpenClaim.pre_eq_preRow]; exact lifted os started H enc F)
theorem plain (f : FuncId) (fn : Func) (hf : Tryz.pinned.checked.prog.funcNamed "reckoner/reckonerlaw04.PolysBuilt" = some f) (hfn : Tryz.pinned.checked.prog.funcs[f]? = some fn) :
  true = Tryz.pinned.checked.prog.looks [] ∧ ∀ (j : Nat) t, fn.params[j]? = some t → Tryz.pinned.checked.prog.wantsStandIn t = false := by
 obtain rfl : f = 5 := Option.some.inj ((show Tryz.prog.funcNamed "reckoner/reckonerlaw04.PolysBuilt" = some 5 by kernel_rfl).symm.trans hf) |>.symm
 obtain rfl : fn = Tryz.f5 := (Option.some.inj (Tryz.func5.symm.trans hfn)).symm
 refine ⟨by kernel_rfl, fun j t ht => ?_⟩
 rw [Tryz.params5] at ht
 have hm : t = 23 ∨ t = 3 := by simpa using Array.mem_of_getElem? ht
 rcases hm with rfl | rfl
 ·exact (show Tryz.prog.wantsStandIn 23 = false by kernel_rfl)
 ·exact (show Tryz.prog.wantsStandIn 3 = false by kernel_rfl)
theorem card : Rows.PolysBuiltCardSaid :=
 Claim7.holds_tied_plain_at .later [] _ _ _ _ said (fun _ h => by cases h) (by kernel_rfl) (fun _ h => by cases h) polysBuilt_row_tie rfl ⟨rfl, rfl⟩ (by kernel_rfl) rfl plain (by kernel_rfl)
#print axioms card
end PolysBuiltC
end Go.Proofs.YtkkbegkdbcenkaaGreatDoor.Limb
