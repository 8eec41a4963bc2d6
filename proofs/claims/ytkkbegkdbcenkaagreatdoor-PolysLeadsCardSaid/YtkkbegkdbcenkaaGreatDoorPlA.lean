/-
  The law PolysLeads: whatever it is handed, it returns true, and what it was handed reads behind the call as it read before; the card ties the listed tables to the program's text.
-/
import Derived.Test.YtkkbegkdbcenkaaGreatDoorPqM
import Derived.Test.YtkkbegkdbcenkaaGreatDoorCards
import Derived.Test.YtkkbegkdbcenkaaGreatDoorTie
import Derived.Lay
import Derived.MakeChecks
import Derived.Stop.LaidErr
import Derived.Deep.DeepWitnessRowRef
import Derived.WalkKit
import Derived.ProofKit
import Derived.OpenShut
import Derived.Deep.DeepHandedRow
import Derived.Lib.LaidTab
set_option linter.unusedSimpArgs false
set_option linter.unusedVariables false
namespace Go.Proofs.YtkkbegkdbcenkaaGreatDoor.Mono
theorem mul_true {a b : Nat → Int} (h : mulB a b = true) (k : Nat) : mulM a b k = a k + b k := by simp [mulM, h]
theorem degM_mul {a b : Nat → Int} (h : mulB a b = true) : degM (mulM a b) = degM a + degM b := by
 unfold degM; rw [mul_true h, mul_true h, mul_true h, mul_true h]; omega
end Go.Proofs.YtkkbegkdbcenkaaGreatDoor.Mono
namespace Go.Proofs.YtkkbegkdbcenkaaGreatDoor.Mono
theorem KO_cases (o : Int) (P : (Nat → Int) → (Nat → Int) → Int → Int → Prop) (a b : Nat → Int)
  (h1 : P a b (degM a * 18446744073709551616 + key a) (degM b * 18446744073709551616 + key b)) (h2 : P a b (degM a * 18446744073709551616 - rkey a) (degM b * 18446744073709551616 - rkey b)) (h3 : P a b (key a) (key b)) : P a b (KO o a) (KO o b) := by
 unfold KO
 by_cases e1 : o = 1
 ·rw [if_pos e1, if_pos e1]; exact h1
 ·rw [if_neg e1, if_neg e1]
  by_cases e2 : o = 2
  ·rw [if_pos e2, if_pos e2]; exact h2
  ·rw [if_neg e2, if_neg e2]; exact h3
theorem key_inj {a b : Nat → Int} (ha : Small a) (hb : Small b) (h : key a = key b) : ∀ k, k < 4 → a k = b k := by
 obtain ⟨p0, p1, p2, p3⟩ := bds ha
 obtain ⟨q0, q1, q2, q3⟩ := bds hb
 rw [all4 fun k => a k = b k]
 unfold key at h; omega
theorem rkey_inj {a b : Nat → Int} (ha : Small a) (hb : Small b) (h : rkey a = rkey b) : ∀ k, k < 4 → a k = b k := by
 obtain ⟨p0, p1, p2, p3⟩ := bds ha
 obtain ⟨q0, q1, q2, q3⟩ := bds hb
 rw [all4 fun k => a k = b k]
 unfold rkey at h; omega
theorem KO_same {o : Int} {a b : Nat → Int} (ha : Small a) (hb : Small b) : KO o a = KO o b ↔ ∀ k, k < 4 → a k = b k := by
 have k1 := key_bd ha
 have k2 := key_bd hb
 have r1 := rkey_bd ha
 have r2 := rkey_bd hb
 constructor
 ·refine KO_cases o (fun a b x y => x = y → ∀ k, k < 4 → a k = b k) a b ?_ ?_ ?_
  ·intro h; exact key_inj ha hb (by omega)
  ·intro h; exact rkey_inj ha hb (by omega)
  ·intro h; exact key_inj ha hb h
 ·intro h
  have h := (all4 fun k => a k = b k).1 h
  obtain ⟨e0, e1, e2, e3⟩ := h
  refine KO_cases o (fun _ _ x y => x = y) a b ?_ ?_ ?_
  ·simp only [degM, key, e0, e1, e2, e3]
  ·simp only [degM, rkey, e0, e1, e2, e3]
  ·simp only [key, e0, e1, e2, e3]
theorem KO_mul {o : Int} {a c : Nat → Int} (h : mulB a c = true) : KO o (mulM a c) = KO o a + KO o c := by
 have e := degM_mul h
 have e0 := mul_true h 0
 have e1 := mul_true h 1
 have e2 := mul_true h 2
 have e3 := mul_true h 3
 unfold KO
 by_cases i1 : o = 1
 ·rw [if_pos i1, if_pos i1, if_pos i1]; simp only [key]; omega
 ·by_cases i2 : o = 2
  ·rw [if_neg i1, if_pos i2, if_neg i1, if_pos i2, if_neg i1, if_pos i2]; simp only [rkey]; omega
  ·rw [if_neg i1, if_neg i2, if_neg i1, if_neg i2, if_neg i1, if_neg i2]; simp only [key]; omega
end Go.Proofs.YtkkbegkdbcenkaaGreatDoor.Mono
namespace Go.Proofs.YtkkbegkdbcenkaaGreatDoor.Pol
open Go.RowKit Go.Sort Go.Proofs.YtkkbegkdbcenkaaGreatDoor.Limb
theorem moF_mul (a b : Mo) (i : Nat) : moF (a.mul b) i = moF a i + moF b i := by unfold moF; rw [at_mul]; omega
theorem keyO_key (o : Int) : Key 65535 (keyO o) where
 add a b ha hb hab := by
  have hB : Mono.mulB (moF a) (moF b) = true := decide_eq_true (by
   obtain ⟨h1, h2, h3, h4⟩ := hab
   rw [← moF_mul, ← moF_mul, ← moF_mul, ← moF_mul]
   show ((a.mul b).x : Int) ≤ 65535 ∧ ((a.mul b).y : Int) ≤ 65535 ∧ ((a.mul b).z : Int) ≤ 65535 ∧ ((a.mul b).t : Int) ≤ 65535
   omega)
  have h := Mono.KO_mul (o := o) hB
  unfold keyO
  rw [← h]
  congr 1
  funext i
  unfold Mono.mulM
  rw [if_pos hB, moF_mul]
 inj a b ha hb h := by
  have h1 := (Mono.KO_same (moF_small (show a.Small from ha)) (moF_small (show b.Small from hb))).1 h
  rw [Mo.eq_iff]
  have g := fun k hk => Int.ofNat.inj (show ((a.at k : Nat) : Int) = ((b.at k : Nat) : Int) from h1 k hk)
  exact ⟨g 0 (by omega), g 1 (by omega), g 2 (by omega), g 3 (by omega)⟩
theorem deg_rng {P : List Tm} {n k e : Nat} (h : PC P n k e) (i : Nat) : -1 ≤ degP P i ∧ degP P i ≤ e := by
 refine ⟨degP_ge P i, ?_⟩
 by_cases hz : P = []
 ·rw [hz]
  show (-1 : Int) ≤ _
  omega
 ·obtain ⟨t, ht, h1⟩ := degP_has hz i
  rw [h1]
  have := at_one t.1 i e (h.b.ex t ht)
  omega
theorem lead_prod {o : Int} {P Q : List Tm} {a b c : Tm} {n k e n' k' e' : Nat} (hP : PC P n k e) (hQ : PC Q n' k' e') (he : e + e' ≤ 65535) (ha : Lead (keyO o) P a) (hb : Lead (keyO o) Q b) (hc : Lead (keyO o) (mulP P Q) c) : c = (a.1.mul b.1, a.2 * b.2) := by
 have hl := lead_mul (keyO_key o) hP.c hQ.c hP.b hQ.b he ha hb
 have hB := hP.mul hQ
 have h1 := hc.2 _ hl.1
 have h2 := hl.2 _ hc.1
 have hm : c.1 = a.1.mul b.1 := (keyO_key o).inj _ _ ((hB.b.ex _ hc.1).up he) ((hB.b.ex _ hl.1).up he) (by have h3 : keyO o (a.1.mul b.1) ≤ keyO o c.1 := h1; have h4 : keyO o c.1 ≤ keyO o (a.1.mul b.1) := h2; omega)
 have g1 := (nf_mem hc.1).1
 have g2 : a.2 * b.2 = cf (mulL P Q) (a.1.mul b.1) := (nf_mem hl.1).1
 rw [hm, ← g2] at g1
 exact Prod.ext hm g1
set_option maxRecDepth 100000 in
set_option maxHeartbeats 16000000 in
theorem polysLeads_law (x1 : PV) (L1 : List TO) (x2 : PV) (L2 : List TO) (o : Int) (w : World) (htab : Tab w) (h1 : RawQ w x1 L1) (h2 : RawQ w x2 L2)  :
  Calls Tryz.prog 4 #[.slice x1.a x1.n x1.c, .slice x2.a x2.n x2.c, .int .u8 o] w fun e w' => e = .returned (.bool true) ∧ Below w.heap.size w w' := by
 have HT := Lib.hid htab
 have KG := Lib.hid (Below.refl w.heap.size w)
 have N1 := Lib.hid h1
 have N2 := Lib.hid h2
 clear htab h1 h2
 go_enter Tryz.func4, Tryz.ntmps4
 go_wp2_with fail
 have CT := Lib.hid (palive w (HT.out.on KG.out))
 with_reducible refine CT.out.mono ?_
 rintro e w1 ⟨rfl, hb⟩
 clear CT
 have KG := Lib.hid (KG.out.trans (hb.mono KG.out.size))
 clear hb
 go_wp2_with fail
 obtain ⟨v3, hV⟩ : ∃ V, V = w1.alloc (.cells #[.slice x1.a x1.n x1.c, .slice x2.a x2.n x2.c] 23) := ⟨_, rfl⟩
 have hbV : Below w1.heap.size w1 v3 := by rw [hV]; exact ((Below.refl _ _).alloc (Nat.le_refl _) _)
 have BX2 := Lib.hid (show Bxs v3 (w1.heap.size) 23 [.slice x1.a x1.n x1.c, .slice x2.a x2.n x2.c] by have h := Bxs.new (w1) 23 [.slice x1.a x1.n x1.c, .slice x2.a x2.n x2.c]; rw [hV]; exact h)
 rw [show w1.alloc (.cells #[.slice x1.a x1.n x1.c, .slice x2.a x2.n x2.c] 23) = v3 from hV.symm]
 have KG := Lib.hid (KG.out.trans (hbV.mono KG.out.size))
 clear hV hbV
 have CT := Lib.hid (show Calls Tryz.prog 10 #[.int .i64 15, .slice (some ⟨w1.heap.size, 0, none⟩) 2 2] v3 _ from great2P (m := 15) BX2.out (N1.out.below KG.out) (N2.out.below KG.out) (by decide))
 with_reducible refine CT.out.mono ?_
 rintro e w4 ⟨b5, rfl, hn, hb⟩
 clear CT
 clear BX2
 have KG := Lib.hid (KG.out.trans (hb.mono KG.out.size))
 clear hb
 rcases Bool.eq_false_or_eq_true b5 with rfl | rfl
 ·clear hn
  go_wp2_with fail
  have CT := Lib.hid (palive w4 (HT.out.on KG.out))
  with_reducible refine CT.out.mono ?_
  rintro e w6 ⟨rfl, hb⟩
  clear CT
  have KG := Lib.hid (KG.out.trans (hb.mono KG.out.size))
  clear hb
  go_wp2_with fail
  go_ret
  exact ⟨rfl, KG.out⟩
 obtain ⟨g0, g1⟩ := hn rfl
 have Gx1 := Lib.hid g0
 have Gx2 := Lib.hid g1
 clear hn g0 g1
 go_wp2_with fail
 have CT := Lib.hid (pwide (N1.out.below KG.out) Gx1.out (by decide))
 with_reducible refine CT.out.mono ?_
 rintro e w7 ⟨b8, rfl, hn, hb⟩
 clear CT
 have KG := Lib.hid (KG.out.trans (hb.mono KG.out.size))
 clear hb
 rcases Bool.eq_false_or_eq_true b8 with rfl | rfl
 ·clear hn
  go_wp2_with fail
  have CT := Lib.hid (palive w7 (HT.out.on KG.out))
  with_reducible refine CT.out.mono ?_
  rintro e w9 ⟨rfl, hb⟩
  clear CT
  have KG := Lib.hid (KG.out.trans (hb.mono KG.out.size))
  clear hb
  go_wp2_with fail
  go_ret
  exact ⟨rfl, KG.out⟩
 have Wx1 := Lib.hid (hn rfl)
 clear hn
 go_wp2_with fail
 have CT := Lib.hid (pwide (N2.out.below KG.out) Gx2.out (by decide))
 with_reducible refine CT.out.mono ?_
 rintro e w10 ⟨b11, rfl, hn, hb⟩
 clear CT
 have KG := Lib.hid (KG.out.trans (hb.mono KG.out.size))
 clear hb
 rcases Bool.eq_false_or_eq_true b11 with rfl | rfl
 ·clear hn
  go_wp2_with fail
  have CT := Lib.hid (palive w10 (HT.out.on KG.out))
  with_reducible refine CT.out.mono ?_
  rintro e w12 ⟨rfl, hb⟩
  clear CT
  have KG := Lib.hid (KG.out.trans (hb.mono KG.out.size))
  clear hb
  go_wp2_with fail
  go_ret
  exact ⟨rfl, KG.out⟩
 have Wx2 := Lib.hid (hn rfl)
 clear hn
 rcases raw_cases3 N1.out Gx1.out Wx1.out with hbad | ⟨P1, hk, hc, hz⟩ | ⟨P1, hk, hc, hz⟩
 ·have Bx1 := Lib.hid hbad
  clear hbad
  go_wp2_with fail
  have CT := Lib.hid (check_b (Bx1.out.below KG.out) (Nat.le_trans (BP.n_le N1.out Gx1.out) (by decide)))
  with_reducible refine CT.out.mono ?_
  rintro e w13 ⟨rfl, hb⟩
  clear CT
  have KG := Lib.hid (KG.out.trans (hb.mono KG.out.size))
  clear hb
  go_wp2_with fail
  have CT := Lib.hid (palive w13 (HT.out.on KG.out))
  with_reducible refine CT.out.mono ?_
  rintro e w14 ⟨rfl, hb⟩
  clear CT
  have KG := Lib.hid (KG.out.trans (hb.mono KG.out.size))
  clear hb
  go_wp2_with fail
  go_ret
  exact ⟨rfl, KG.out⟩
 ·have Kx1 := Lib.hid hk
  have PCP1 := Lib.hid hc
  have Zx1 : ((x1.n : Nat) : Int) = 0 := by rw [hk.len, hz]; rfl
  clear hk hc
  go_wp2_with fail
  have CT := Lib.hid (pcheck (Kx1.out.below KG.out) PCP1.out (by decide) (by decide))
  with_reducible refine CT.out.mono ?_
  rintro e w15 ⟨rfl, hb⟩
  clear CT
  have KG := Lib.hid (KG.out.trans (hb.mono KG.out.size))
  clear hb
  rcases raw_cases3 N2.out Gx2.out Wx2.out with hbad | ⟨P2, hk, hc, hz⟩ | ⟨P2, hk, hc, hz⟩
  ·have Bx2 := Lib.hid hbad
   clear hbad
   go_wp2_with fail
   have CT := Lib.hid (check_b (Bx2.out.below KG.out) (Nat.le_trans (BP.n_le N2.out Gx2.out) (by decide)))
   with_reducible refine CT.out.mono ?_
   rintro e w16 ⟨rfl, hb⟩
   clear CT
   have KG := Lib.hid (KG.out.trans (hb.mono KG.out.size))
   clear hb
   go_wp2_with fail
   have CT := Lib.hid (palive w16 (HT.out.on KG.out))
   with_reducible refine CT.out.mono ?_
   rintro e w17 ⟨rfl, hb⟩
   clear CT
   have KG := Lib.hid (KG.out.trans (hb.mono KG.out.size))
   clear hb
   go_wp2_with fail
   go_ret
   exact ⟨rfl, KG.out⟩
  ·have Kx2 := Lib.hid hk
   have PCP2 := Lib.hid hc
   have Zx2 : ((x2.n : Nat) : Int) = 0 := by rw [hk.len, hz]; rfl
   clear hk hc
   go_wp2_with fail
   have CT := Lib.hid (pcheck (Kx2.out.below KG.out) PCP2.out (by decide) (by decide))
   with_reducible refine CT.out.mono ?_
   rintro e w18 ⟨rfl, hb⟩
   clear CT
   have KG := Lib.hid (KG.out.trans (hb.mono KG.out.size))
   clear hb
   go_wp2_with fail
   have CT := Lib.hid (palive w18 (HT.out.on KG.out))
   with_reducible refine CT.out.mono ?_
   rintro e w19 ⟨rfl, hb⟩
   clear CT
   have KG := Lib.hid (KG.out.trans (hb.mono KG.out.size))
   clear hb
   go_wp2_with fail
   go_ret
   exact ⟨rfl, KG.out⟩
  have Kx2 := Lib.hid hk
  have PCP2 := Lib.hid hc
  have Yx2 : ¬ (x2.n = 0) := by rw [hk.len]; have := List.length_pos_iff.2 hz; omega
  have Zx2 : ((((x2.n : Nat) : Int)) == 0) = false := beq_eq_false_iff_ne.2 (by omega)
  have Ex2 := Lib.hid hz
  clear hk hc hz
  go_wp2_with fail
  have CT := Lib.hid (pcheck (Kx2.out.below KG.out) PCP2.out (by decide) (by decide))
  with_reducible refine CT.out.mono ?_
  rintro e w20 ⟨rfl, hb⟩
  clear CT
  have KG := Lib.hid (KG.out.trans (hb.mono KG.out.size))
  clear hb
  go_wp2_with fail
  have CT := Lib.hid (palive w20 (HT.out.on KG.out))
  with_reducible refine CT.out.mono ?_
  rintro e w21 ⟨rfl, hb⟩
  clear CT
  have KG := Lib.hid (KG.out.trans (hb.mono KG.out.size))
  clear hb
  go_wp2_with fail
  go_ret
  exact ⟨rfl, KG.out⟩
 have Kx1 := Lib.hid hk
 have PCP1 := Lib.hid hc
 have Yx1 : ¬ (x1.n = 0) := by rw [hk.len]; have := List.length_pos_iff.2 hz; omega
 have Zx1 : ((((x1.n : Nat) : Int)) == 0) = false := beq_eq_false_iff_ne.2 (by omega)
 have Ex1 := Lib.hid hz
 clear hk hc hz
 go_wp2_with fail
 have CT := Lib.hid (pcheck (Kx1.out.below KG.out) PCP1.out (by decide) (by decide))
 with_reducible refine CT.out.mono ?_
 rintro e w22 ⟨rfl, hb⟩
 clear CT
 have KG := Lib.hid (KG.out.trans (hb.mono KG.out.size))
 clear hb
 rcases raw_cases3 N2.out Gx2.out Wx2.out with hbad | ⟨P2, hk, hc, hz⟩ | ⟨P2, hk, hc, hz⟩
 ·have Bx2 := Lib.hid hbad
  clear hbad
  go_wp2_with fail
  have CT := Lib.hid (check_b (Bx2.out.below KG.out) (Nat.le_trans (BP.n_le N2.out Gx2.out) (by decide)))
  with_reducible refine CT.out.mono ?_
  rintro e w23 ⟨rfl, hb⟩
  clear CT
  have KG := Lib.hid (KG.out.trans (hb.mono KG.out.size))
  clear hb
  go_wp2_with fail
  have CT := Lib.hid (palive w23 (HT.out.on KG.out))
  with_reducible refine CT.out.mono ?_
  rintro e w24 ⟨rfl, hb⟩
  clear CT
  have KG := Lib.hid (KG.out.trans (hb.mono KG.out.size))
  clear hb
  go_wp2_with fail
  go_ret
  exact ⟨rfl, KG.out⟩
 ·have Kx2 := Lib.hid hk
  have PCP2 := Lib.hid hc
  have Zx2 : ((x2.n : Nat) : Int) = 0 := by rw [hk.len, hz]; rfl
  clear hk hc
  go_wp2_with fail
  have CT := Lib.hid (pcheck (Kx2.out.below KG.out) PCP2.out (by decide) (by decide))
  with_reducible refine CT.out.mono ?_
  rintro e w25 ⟨rfl, hb⟩
  clear CT
  have KG := Lib.hid (KG.out.trans (hb.mono KG.out.size))
  clear hb
  go_wp2_with fail
  have CT := Lib.hid (palive w25 (HT.out.on KG.out))
  with_reducible refine CT.out.mono ?_
  rintro e w26 ⟨rfl, hb⟩
  clear CT
  have KG := Lib.hid (KG.out.trans (hb.mono KG.out.size))
  clear hb
  go_wp2_with fail
  go_ret
  exact ⟨rfl, KG.out⟩
 have Kx2 := Lib.hid hk
 have PCP2 := Lib.hid hc
 have Yx2 : ¬ (x2.n = 0) := by rw [hk.len]; have := List.length_pos_iff.2 hz; omega
 have Zx2 : ((((x2.n : Nat) : Int)) == 0) = false := beq_eq_false_iff_ne.2 (by omega)
 have Ex2 := Lib.hid hz
 clear hk hc hz
 go_wp2_with fail
 have CT := Lib.hid (pcheck (Kx2.out.below KG.out) PCP2.out (by decide) (by decide))
 with_reducible refine CT.out.mono ?_
 rintro e w27 ⟨rfl, hb⟩
 clear CT
 have KG := Lib.hid (KG.out.trans (hb.mono KG.out.size))
 clear hb
 go_wp2_with fail
 obtain ⟨p28, hp28⟩ : ∃ z : List Tm, z = mulP P1 P2 := ⟨_, rfl⟩
 have Hp28 := Lib.hid hp28
 have PCp28 := Lib.hid (show PC p28 225 135 600 by rw [hp28]; exact PCP1.out.mul PCP2.out)
 clear hp28
 have CT := Lib.hid (plmul (Kx1.out.below KG.out) PCP1.out (Kx2.out.below KG.out) PCP2.out (by decide) (by decide) (by decide) (by decide) (by decide) (by decide) (by decide))
 rw [show mulP P1 P2 = p28 from Hp28.out.symm] at CT
 with_reducible refine CT.out.mono ?_
 rintro e w29 ⟨z30, rfl, hN31, hb⟩
 have N31 := Lib.hid hN31
 clear hN31
 clear CT
 have KG := Lib.hid (KG.out.trans (hb.mono KG.out.size))
 clear hb
 go_wp2_with fail
 have CT := Lib.hid (plead o (Kx1.out.below KG.out) PCP1.out (by decide) (by decide) (Ex1.out))
 with_reducible refine CT.out.mono ?_
 rintro e w32 ⟨x33, ⟨m36, q37⟩, rfl, hN, hld, hb⟩
 clear CT
 have N31 := Lib.hid (N31.out.below hb)
 have KG := Lib.hid (KG.out.trans (hb.mono KG.out.size))
 clear hb
 have N35 := Lib.hid (show DF w32 w29.heap.size x33 q37 from hN)
 have HLDm36 := Lib.hid (show Lead (keyO o) P1 (m36, q37) from hld)
 have LQq37 := Lib.hid (show LQ q37 4 from (PCP1.out.up (Nat.le_refl _) (by decide) (Nat.le_refl _)).b.lq _ hld.1)
 clear hN hld
 have HA := HLDm36
 go_upto_region 5 with (fail)
 obtain ⟨v39, hV⟩ : ∃ V, V = w32.alloc (.cells #[.bool x33.t.s, .slice x33.t.a x33.t.n x33.t.c, .bool x33.l.s, .slice x33.l.a x33.l.n x33.l.c, .int .u16 m36.x, .int .u16 m36.y, .int .u16 m36.z, .int .u16 m36.t] 40) := ⟨_, rfl⟩
 have hbV : Below w32.heap.size w32 v39 := by rw [hV]; exact ((Below.refl _ _).alloc (Nat.le_refl _) _)
 have BX38 := Lib.hid (show Bxs v39 (w32.heap.size) 40 [.bool x33.t.s, .slice x33.t.a x33.t.n x33.t.c, .bool x33.l.s, .slice x33.l.a x33.l.n x33.l.c, .int .u16 m36.x, .int .u16 m36.y, .int .u16 m36.z, .int .u16 m36.t] by have h := Bxs.new (w32) 40 [.bool x33.t.s, .slice x33.t.a x33.t.n x33.t.c, .bool x33.l.s, .slice x33.l.a x33.l.n x33.l.c, .int .u16 m36.x, .int .u16 m36.y, .int .u16 m36.z, .int .u16 m36.t]; rw [hV]; exact h)
 rw [show w32.alloc (.cells #[.bool x33.t.s, .slice x33.t.a x33.t.n x33.t.c, .bool x33.l.s, .slice x33.l.a x33.l.n x33.l.c, .int .u16 m36.x, .int .u16 m36.y, .int .u16 m36.z, .int .u16 m36.t] 40) = v39 from hV.symm]
 have N31 := Lib.hid (N31.out.below hbV)
 have N35 := Lib.hid (N35.out.below hbV)
 have KG := Lib.hid (KG.out.trans (hbV.mono KG.out.size))
 clear hV hbV
 go_wp2_with fail
 have CT := Lib.hid (plead o (Kx2.out.below KG.out) PCP2.out (by decide) (by decide) (Ex2.out))
 with_reducible refine CT.out.mono ?_
 rintro e w40 ⟨x41, ⟨m44, q45⟩, rfl, hN, hld, hb⟩
 clear CT
 have N31 := Lib.hid (N31.out.below hb)
 have N35 := Lib.hid (N35.out.below hb)
 have BX38 := Lib.hid (BX38.out.below hb BX38.out.lt)
 have KG := Lib.hid (KG.out.trans (hb.mono KG.out.size))
 clear hb
 have N43 := Lib.hid (show DF w40 v39.heap.size x41 q45 from hN)
 have HLDm44 := Lib.hid (show Lead (keyO o) P2 (m44, q45) from hld)
 have LQq45 := Lib.hid (show LQ q45 4 from (PCP2.out.up (Nat.le_refl _) (by decide) (Nat.le_refl _)).b.lq _ hld.1)
 clear hN hld
 have HBB := HLDm44
 go_upto_region 6 with (fail)
 obtain ⟨v47, hV⟩ : ∃ V, V = w40.alloc (.cells #[.bool x41.t.s, .slice x41.t.a x41.t.n x41.t.c, .bool x41.l.s, .slice x41.l.a x41.l.n x41.l.c, .int .u16 m44.x, .int .u16 m44.y, .int .u16 m44.z, .int .u16 m44.t] 40) := ⟨_, rfl⟩
 have hbV : Below w40.heap.size w40 v47 := by rw [hV]; exact ((Below.refl _ _).alloc (Nat.le_refl _) _)
 have BX46 := Lib.hid (show Bxs v47 (w40.heap.size) 40 [.bool x41.t.s, .slice x41.t.a x41.t.n x41.t.c, .bool x41.l.s, .slice x41.l.a x41.l.n x41.l.c, .int .u16 m44.x, .int .u16 m44.y, .int .u16 m44.z, .int .u16 m44.t] by have h := Bxs.new (w40) 40 [.bool x41.t.s, .slice x41.t.a x41.t.n x41.t.c, .bool x41.l.s, .slice x41.l.a x41.l.n x41.l.c, .int .u16 m44.x, .int .u16 m44.y, .int .u16 m44.z, .int .u16 m44.t]; rw [hV]; exact h)
 rw [show w40.alloc (.cells #[.bool x41.t.s, .slice x41.t.a x41.t.n x41.t.c, .bool x41.l.s, .slice x41.l.a x41.l.n x41.l.c, .int .u16 m44.x, .int .u16 m44.y, .int .u16 m44.z, .int .u16 m44.t] 40) = v47 from hV.symm]
 have N31 := Lib.hid (N31.out.below hbV)
 have N35 := Lib.hid (N35.out.below hbV)
 have N43 := Lib.hid (N43.out.below hbV)
 have BX38 := Lib.hid (BX38.out.below hbV BX38.out.lt)
 have KG := Lib.hid (KG.out.trans (hbV.mono KG.out.size))
 clear hV hbV
 go_wp2_with fail
 have CT := Lib.hid (plead o N31.out.k PCp28.out (by decide) (by decide) (fun h => by rw [Hp28.out] at h; rcases (mulP_nil PCP1.out.c PCP2.out.c PCP1.out.b PCP2.out.b).1 h with h | h; exact Ex1.out h; exact Ex2.out h))
 with_reducible refine CT.out.mono ?_
 rintro e w48 ⟨x49, ⟨m52, q53⟩, rfl, hN, hld, hb⟩
 clear CT
 have N31 := Lib.hid (N31.out.below hb)
 have N35 := Lib.hid (N35.out.below hb)
 have N43 := Lib.hid (N43.out.below hb)
 have BX38 := Lib.hid (BX38.out.below hb BX38.out.lt)
 have BX46 := Lib.hid (BX46.out.below hb BX46.out.lt)
 have KG := Lib.hid (KG.out.trans (hb.mono KG.out.size))
 clear hb
 have N51 := Lib.hid (show DF w48 v47.heap.size x49 q53 from hN)
 have HLDm52 := Lib.hid (show Lead (keyO o) p28 (m52, q53) from hld)
 have LQq53 := Lib.hid (show LQ q53 135 from (PCp28.out.up (Nat.le_refl _) (by decide) (Nat.le_refl _)).b.lq _ hld.1)
 clear hN hld
 have h3 := lead_prod PCP1.out PCP2.out (by decide) HA.out HBB.out (by have h := HLDm52.out; rw [Hp28.out] at h; exact h)
 have HM3 := Lib.hid (show m52 = m36.mul m44 from congrArg Prod.fst h3)
 have HQ3 := Lib.hid (show q53 = q37 * q45 from congrArg Prod.snd h3)
 have HSM := Lib.hid (show (m36.mul m44).Small from small_of_le ((PCP1.out.b.ex _ HA.out.1).mul (PCP2.out.b.ex _ HBB.out.1)) (by decide))
 clear h3
 go_upto_region 7 with (fail)
 obtain ⟨v55, hV⟩ : ∃ V, V = w48.alloc (.cells #[.bool x49.t.s, .slice x49.t.a x49.t.n x49.t.c, .bool x49.l.s, .slice x49.l.a x49.l.n x49.l.c, .int .u16 m52.x, .int .u16 m52.y, .int .u16 m52.z, .int .u16 m52.t] 40) := ⟨_, rfl⟩
 have hbV : Below w48.heap.size w48 v55 := by rw [hV]; exact ((Below.refl _ _).alloc (Nat.le_refl _) _)
 have BX54 := Lib.hid (show Bxs v55 (w48.heap.size) 40 [.bool x49.t.s, .slice x49.t.a x49.t.n x49.t.c, .bool x49.l.s, .slice x49.l.a x49.l.n x49.l.c, .int .u16 m52.x, .int .u16 m52.y, .int .u16 m52.z, .int .u16 m52.t] by have h := Bxs.new (w48) 40 [.bool x49.t.s, .slice x49.t.a x49.t.n x49.t.c, .bool x49.l.s, .slice x49.l.a x49.l.n x49.l.c, .int .u16 m52.x, .int .u16 m52.y, .int .u16 m52.z, .int .u16 m52.t]; rw [hV]; exact h)
 rw [show w48.alloc (.cells #[.bool x49.t.s, .slice x49.t.a x49.t.n x49.t.c, .bool x49.l.s, .slice x49.l.a x49.l.n x49.l.c, .int .u16 m52.x, .int .u16 m52.y, .int .u16 m52.z, .int .u16 m52.t] 40) = v55 from hV.symm]
 have N31 := Lib.hid (N31.out.below hbV)
 have N35 := Lib.hid (N35.out.below hbV)
 have N43 := Lib.hid (N43.out.below hbV)
 have N51 := Lib.hid (N51.out.below hbV)
 have BX38 := Lib.hid (BX38.out.below hbV BX38.out.lt)
 have BX46 := Lib.hid (BX46.out.below hbV BX46.out.lt)
 have KG := Lib.hid (KG.out.trans (hbV.mono KG.out.size))
 clear hV hbV
 have cBX380 := BX38.out.cell (i := 0) rfl
 have cBX381 := BX38.out.cell (i := 1) rfl
 have cBX382 := BX38.out.cell (i := 2) rfl
 have cBX383 := BX38.out.cell (i := 3) rfl
 have cBX384 := BX38.out.cell (i := 4) rfl
 have cBX385 := BX38.out.cell (i := 5) rfl
 have cBX386 := BX38.out.cell (i := 6) rfl
 have cBX387 := BX38.out.cell (i := 7) rfl
 have cBX38f := BX38.out.fz
 have cBX38l := BX38.out.lt
 have cBX460 := BX46.out.cell (i := 0) rfl
 have cBX461 := BX46.out.cell (i := 1) rfl
 have cBX462 := BX46.out.cell (i := 2) rfl
 have cBX463 := BX46.out.cell (i := 3) rfl
 have cBX464 := BX46.out.cell (i := 4) rfl
 have cBX465 := BX46.out.cell (i := 5) rfl
 have cBX466 := BX46.out.cell (i := 6) rfl
 have cBX467 := BX46.out.cell (i := 7) rfl
 have cBX46f := BX46.out.fz
 have cBX46l := BX46.out.lt
 go_wp2_with fail
 have CT := Lib.hid (mono_mul m36 m44 v55 HSM.out)
 rw [show m36.mul m44 = m52 from HM3.out.symm] at CT
 with_reducible refine CT.out.mono ?_
 rintro e w56 ⟨rfl, hb⟩
 clear CT
 clear cBX380 cBX381 cBX382 cBX383 cBX384 cBX385 cBX386 cBX387 cBX38f cBX38l
 clear cBX460 cBX461 cBX462 cBX463 cBX464 cBX465 cBX466 cBX467 cBX46f cBX46l
 have N31 := Lib.hid (N31.out.below hb)
 have N35 := Lib.hid (N35.out.below hb)
 have N43 := Lib.hid (N43.out.below hb)
 have N51 := Lib.hid (N51.out.below hb)
 have BX38 := Lib.hid (BX38.out.below hb BX38.out.lt)
 have BX46 := Lib.hid (BX46.out.below hb BX46.out.lt)
 have BX54 := Lib.hid (BX54.out.below hb BX54.out.lt)
 have KG := Lib.hid (KG.out.trans (hb.mono KG.out.size))
 clear hb
 go_upto_region 8 with (fail)
 obtain ⟨v58, hV⟩ : ∃ V, V = w56.alloc (.cells #[.int .u16 m52.x, .int .u16 m52.y, .int .u16 m52.z, .int .u16 m52.t] 38) := ⟨_, rfl⟩
 have hbV : Below w56.heap.size w56 v58 := by rw [hV]; exact ((Below.refl _ _).alloc (Nat.le_refl _) _)
 have BX57 := Lib.hid (show Bxs v58 (w56.heap.size) 38 [.int .u16 m52.x, .int .u16 m52.y, .int .u16 m52.z, .int .u16 m52.t] by have h := Bxs.new (w56) 38 [.int .u16 m52.x, .int .u16 m52.y, .int .u16 m52.z, .int .u16 m52.t]; rw [hV]; exact h)
 rw [show w56.alloc (.cells #[.int .u16 m52.x, .int .u16 m52.y, .int .u16 m52.z, .int .u16 m52.t] 38) = v58 from hV.symm]
 have N31 := Lib.hid (N31.out.below hbV)
 have N35 := Lib.hid (N35.out.below hbV)
 have N43 := Lib.hid (N43.out.below hbV)
 have N51 := Lib.hid (N51.out.below hbV)
 have BX38 := Lib.hid (BX38.out.below hbV BX38.out.lt)
 have BX46 := Lib.hid (BX46.out.below hbV BX46.out.lt)
 have BX54 := Lib.hid (BX54.out.below hbV BX54.out.lt)
 have KG := Lib.hid (KG.out.trans (hbV.mono KG.out.size))
 clear hV hbV
 go_wp2_with fail
 go_loopw [16] (fun i wr => ∃ j : Nat, j ≤ 4 ∧ i = .int .i64 j ∧ Below v58.heap.size v58 wr) (fun i _ => 4 - (intOf i).toNat)
 case atStart => exact ⟨0, by decide, rfl, Below.refl _ _⟩
 case round =>
  obtain ⟨j, hj, rfl, hb0⟩ := hrel
  have HB := Lib.hid hb0
  have HJ := Lib.hid hj
  clear hj hb0
  by_cases hjn : j < 4
  ·have HJN := Lib.hid hjn
   have h1 : (j : Int) < 4 := by omega
   have ej : IntKind.i64.wrap ((j : Int) + 1) = (j : Int) + 1 := IntWalk.i64_in _ (by omega)
   obtain ⟨D1, hD1⟩ : ∃ D, D = degP P1 j := ⟨_, rfl⟩
   obtain ⟨D2, hD2⟩ : ∃ D, D = degP P2 j := ⟨_, rfl⟩
   have hr1 := deg_rng PCP1.out j
   have hr2 := deg_rng PCP2.out j
   rw [← hD1] at hr1
   rw [← hD2] at hr2
   have es : IntKind.i64.wrap (D1 + D2) = D1 + D2 := IntWalk.i64_in _ (by omega)
   have C1 := Lib.hid (pdegree j HJN.out (N31.out.k.below HB.out) PCp28.out (by decide) (by decide))
   rw [show degP p28 j = D1 + D2 by rw [Hp28.out, hD1, hD2]; exact degP_mul PCP1.out.c PCP2.out.c PCP1.out.b PCP2.out.b Ex1.out Ex2.out j] at C1
   have HD1 := Lib.hid hD1
   have HD2 := Lib.hid hD2
   clear hjn hr1 hr2 hD1 hD2
   go_wp2_with fail
   with_reducible refine C1.out.mono ?_
   rintro e w1 ⟨rfl, hb⟩
   have HB := Lib.hid (HB.out.trans (hb.mono HB.out.size))
   clear hb C1
   have C2 := Lib.hid (pdegree j HJN.out (Kx1.out.below (KG.out.trans (HB.out.mono KG.out.size))) PCP1.out (by decide) (by decide))
   rw [← HD1.out] at C2
   go_wp2_with fail
   with_reducible refine C2.out.mono ?_
   rintro e w2 ⟨rfl, hb⟩
   have HB := Lib.hid (HB.out.trans (hb.mono HB.out.size))
   clear hb C2
   have C3 := Lib.hid (pdegree j HJN.out (Kx2.out.below (KG.out.trans (HB.out.mono KG.out.size))) PCP2.out (by decide) (by decide))
   rw [← HD2.out] at C3
   go_wp2_with fail
   with_reducible refine C3.out.mono ?_
   rintro e w3 ⟨rfl, hb⟩
   have HB := Lib.hid (HB.out.trans (hb.mono HB.out.size))
   clear hb C3
   go_wp2_with fail
   go_roundw
   case rel => exact ⟨j + 1, by have := HJN.out; omega, rfl, HB.out⟩
   case measure => simp [intOf]; have := HJN.out; omega
  ·have hge : ¬ ((j : Int) < 4) := by omega
   clear hjn
   clear N31
   have N35 := Lib.hid (N35.out.below HB.out)
   have N43 := Lib.hid (N43.out.below HB.out)
   have N51 := Lib.hid (N51.out.below HB.out)
   have BX38 := Lib.hid (BX38.out.below HB.out BX38.out.lt)
   have BX46 := Lib.hid (BX46.out.below HB.out BX46.out.lt)
   have BX54 := Lib.hid (BX54.out.below HB.out BX54.out.lt)
   have BX57 := Lib.hid (BX57.out.below HB.out BX57.out.lt)
   have KG := Lib.hid (KG.out.trans (HB.out.mono KG.out.size))
   obtain ⟨q59, hq59⟩ : ∃ z : Rat, z = q37 * q45 := ⟨_, rfl⟩
   have Hq59 := Lib.hid hq59
   have LQq59 := Lib.hid (show LQ q59 8 by rw [hq59]; exact LQ.mul (LQq37.out.up (by decide : _ ≤ 4)) (LQq45.out.up (by decide : _ ≤ 4)) (by decide))
   clear hq59
   go_upto_region 13 with (fail)
   refine Go.FreshS.wp_region_fresh 27 [] (Go.FreshS.spOf [(24, Go.FreshS.Sp.made (fun x : FV => x.v) (fun x w' => DF w' wr.heap.size x q59) FV.blk), (25, Go.FreshS.Sp.know (.bool true))])
    (fun w' => Below wr.heap.size wr w') (by kernel_rfl) (by kernel_rfl) (by kernel_rfl)
    (Go.FreshS.spOf_cons (Go.FreshS.Sp.made_keeps _ (fun _ _ _ h _ hk => h.kept hk) (Go.FreshS.notTaken (by kernel_rfl))) (Go.FreshS.spOf_cons (Go.FreshS.Sp.know_keeps _ _) (Go.FreshS.spOf_nil))) (fun _ _ h hb => h.trans (hb.mono h.size)) ((Below.refl _ _).drew) ?_
   simp only [List.append_eq, List.cons_append, List.nil_append, List.take_succ_cons, List.take_zero, List.drop_succ_cons, List.drop_zero]
   refine Go.FreshS.wpF_reads rfl rfl rfl ?_ (fun w' hw' => ?_) ?_
   rotate_left
   ·have hb' := hw'.world
    skip
    clear hw'
    go_simp
    try rfl
   conv => arg 10; simp only [Act.put, List.setIfInBounds_toArray, List.set_cons_succ, List.set_cons_zero]
   refine Go.FreshS.wpF_reads rfl rfl rfl ?_ (fun w' hw' => ?_) ?_
   rotate_left
   ·have hb' := hw'.world
    skip
    clear hw'
    go_simp
    try rfl
   conv => arg 10; simp only [Act.put, List.setIfInBounds_toArray, List.set_cons_succ, List.set_cons_zero]
   refine Go.FreshS.wpF_readsG (by rfl) rfl rfl ?_ (fun w' hw' => ?_) ?_
   rotate_left
   ·have hb' := hw'.world
    skip
    clear hw'
    go_simp
    try rfl
   conv => arg 10; simp only [Act.put, List.setIfInBounds_toArray, List.set_cons_succ, List.set_cons_zero]
   refine Go.FreshS.wpF_reads rfl rfl rfl ?_ (fun w' hw' => ?_) ?_
   rotate_left
   ·have hb' := hw'.world
    skip
    clear hw'
    go_simp
    try rfl
   conv => arg 10; simp only [Act.put, List.setIfInBounds_toArray, List.set_cons_succ, List.set_cons_zero]
   refine Go.FreshS.wpF_reads rfl rfl rfl ?_ (fun w' hw' => ?_) ?_
   rotate_left
   ·have hb' := hw'.world
    skip
    clear hw'
    go_simp
    try rfl
   conv => arg 10; simp only [Act.put, List.setIfInBounds_toArray, List.set_cons_succ, List.set_cons_zero]
   refine Go.FreshS.wpF_readsG (by rfl) rfl rfl ?_ (fun w' hw' => ?_) ?_
   rotate_left
   ·have hb' := hw'.world
    skip
    clear hw'
    go_simp
    try rfl
   conv => arg 10; simp only [Act.put, List.setIfInBounds_toArray, List.set_cons_succ, List.set_cons_zero]
   refine Go.FreshS.wpF_reads rfl rfl rfl ?_ (fun w' hw' => ?_) ?_
   rotate_left
   ·have hb' := hw'.world
    skip
    clear hw'
    go_simp
    try rfl
   conv => arg 10; simp only [Act.put, List.setIfInBounds_toArray, List.set_cons_succ, List.set_cons_zero]
   refine Go.FreshS.wpF_reads rfl rfl rfl ?_ (fun w' hw' => ?_) ?_
   rotate_left
   ·have hb' := hw'.world
    skip
    clear hw'
    go_simp
    try rfl
   conv => arg 10; simp only [Act.put, List.setIfInBounds_toArray, List.set_cons_succ, List.set_cons_zero]
   refine Go.FreshS.wpF_readsG (by rfl) rfl rfl ?_ (fun w' hw' => ?_) ?_
   rotate_left
   ·have hb' := hw'.world
    skip
    clear hw'
    go_simp
    try rfl
   conv => arg 10; simp only [Act.put, List.setIfInBounds_toArray, List.set_cons_succ, List.set_cons_zero]
   refine Go.FreshS.wpF_readsG (by rfl) rfl rfl ?_ (fun w' hw' => ?_) ?_
   rotate_left
   ·have hb' := hw'.world
    skip
    clear hw'
    go_simp
    try rfl
   conv => arg 10; simp only [Act.put, List.setIfInBounds_toArray, List.set_cons_succ, List.set_cons_zero]
   refine Go.FreshS.wpF_reads rfl rfl rfl ?_ (fun w' hw' => ?_) ?_
   rotate_left
   ·have hb' := hw'.world
    skip
    clear hw'
    go_simp
    try rfl
   conv => arg 10; simp only [Act.put, List.setIfInBounds_toArray, List.set_cons_succ, List.set_cons_zero]
   refine Go.FreshS.wpF_reads rfl rfl rfl ?_ (fun w' hw' => ?_) ?_
   rotate_left
   ·have hb' := hw'.world
    skip
    clear hw'
    go_simp
    try rfl
   conv => arg 10; simp only [Act.put, List.setIfInBounds_toArray, List.set_cons_succ, List.set_cons_zero]
   refine Go.FreshS.wpF_readsG (by rfl) rfl rfl ?_ (fun w' hw' => ?_) ?_
   rotate_left
   ·have hb' := hw'.world
    skip
    clear hw'
    go_simp
    try rfl
   conv => arg 10; simp only [Act.put, List.setIfInBounds_toArray, List.set_cons_succ, List.set_cons_zero]
   refine Go.FreshS.wpF_readsG (by rfl) rfl rfl ?_ (fun w' hw' => ?_) ?_
   rotate_left
   ·have hb' := hw'.world
    have hs0 := (BX54.out.below hb' BX54.out.lt).cell (i := 0) rfl
    have hs1 := (BX54.out.below hb' BX54.out.lt).cell (i := 1) rfl
    have hs2 := (BX54.out.below hb' BX54.out.lt).cell (i := 2) rfl
    have hs3 := (BX54.out.below hb' BX54.out.lt).cell (i := 3) rfl
    have hs4 := (BX54.out.below hb' BX54.out.lt).cell (i := 4) rfl
    have hs5 := (BX54.out.below hb' BX54.out.lt).cell (i := 5) rfl
    have hs6 := (BX54.out.below hb' BX54.out.lt).cell (i := 6) rfl
    have hs7 := (BX54.out.below hb' BX54.out.lt).cell (i := 7) rfl
    have hsf := (BX54.out.below hb' BX54.out.lt).fz
    have hsl := (BX54.out.below hb' BX54.out.lt).lt
    clear hw'
    go_simp
    try rfl
   conv => arg 10; simp only [Act.put, List.setIfInBounds_toArray, List.set_cons_succ, List.set_cons_zero]
   refine Go.FreshS.wpF_readsG (by rfl) rfl rfl ?_ (fun w' hw' => ?_) ?_
   rotate_left
   ·have hb' := hw'.world
    have hs0 := (BX57.out.below hb' BX57.out.lt).cell (i := 0) rfl
    have hs1 := (BX57.out.below hb' BX57.out.lt).cell (i := 1) rfl
    have hs2 := (BX57.out.below hb' BX57.out.lt).cell (i := 2) rfl
    have hs3 := (BX57.out.below hb' BX57.out.lt).cell (i := 3) rfl
    have hsf := (BX57.out.below hb' BX57.out.lt).fz
    have hsl := (BX57.out.below hb' BX57.out.lt).lt
    clear hw'
    go_simp
    try rfl
   conv => arg 10; simp only [Act.put, List.setIfInBounds_toArray, List.set_cons_succ, List.set_cons_zero]
   refine Go.FreshS.wpF_readsG (by rfl) rfl rfl ?_ (fun w' hw' => ?_) ?_
   rotate_left
   ·have hb' := hw'.world
    skip
    clear hw'
    go_simp
    try rfl
   conv => arg 10; simp only [Act.put, List.setIfInBounds_toArray, List.set_cons_succ, List.set_cons_zero]
   refine Go.FreshS.wpF_reads rfl rfl rfl ?_ (fun w' hw' => ?_) ?_
   rotate_left
   ·have hb' := hw'.world
    skip
    clear hw'
    go_simp
    try rfl
   conv => arg 10; simp only [Act.put, List.setIfInBounds_toArray, List.set_cons_succ, List.set_cons_zero]
   refine Go.FreshS.wpF_reads rfl rfl rfl ?_ (fun w' hw' => ?_) ?_
   rotate_left
   ·have hb' := hw'.world
    skip
    clear hw'
    go_simp
    try rfl
   conv => arg 10; simp only [Act.put, List.setIfInBounds_toArray, List.set_cons_succ, List.set_cons_zero]
   refine Go.FreshS.wpF_readsG (by rfl) rfl rfl ?_ (fun w' hw' => ?_) ?_
   rotate_left
   ·have hb' := hw'.world
    skip
    clear hw'
    go_simp
    try rfl
   conv => arg 10; simp only [Act.put, List.setIfInBounds_toArray, List.set_cons_succ, List.set_cons_zero]
   refine Go.FreshS.wpF_readsG (by rfl) rfl rfl ?_ (fun w' hw' => ?_) ?_
   rotate_left
   ·have hb' := hw'.world
    have hs0 := (BX54.out.below hb' BX54.out.lt).cell (i := 0) rfl
    have hs1 := (BX54.out.below hb' BX54.out.lt).cell (i := 1) rfl
    have hs2 := (BX54.out.below hb' BX54.out.lt).cell (i := 2) rfl
    have hs3 := (BX54.out.below hb' BX54.out.lt).cell (i := 3) rfl
    have hs4 := (BX54.out.below hb' BX54.out.lt).cell (i := 4) rfl
    have hs5 := (BX54.out.below hb' BX54.out.lt).cell (i := 5) rfl
    have hs6 := (BX54.out.below hb' BX54.out.lt).cell (i := 6) rfl
    have hs7 := (BX54.out.below hb' BX54.out.lt).cell (i := 7) rfl
    have hsf := (BX54.out.below hb' BX54.out.lt).fz
    have hsl := (BX54.out.below hb' BX54.out.lt).lt
    clear hw'
    go_simp
    try rfl
   conv => arg 10; simp only [Act.put, List.setIfInBounds_toArray, List.set_cons_succ, List.set_cons_zero]
   refine Go.FreshS.wpF_readsG (by rfl) rfl rfl ?_ (fun w' hw' => ?_) ?_
   rotate_left
   ·have hb' := hw'.world
    skip
    clear hw'
    go_simp
    try rfl
   conv => arg 10; simp only [Act.put, List.setIfInBounds_toArray, List.set_cons_succ, List.set_cons_zero]
   refine Go.FreshS.wpF_readsG (by rfl) rfl rfl ?_ (fun w' hw' => ?_) ?_
   rotate_left
   ·have hb' := hw'.world
    have hs0 := (BX38.out.below hb' BX38.out.lt).cell (i := 0) rfl
    have hs1 := (BX38.out.below hb' BX38.out.lt).cell (i := 1) rfl
    have hs2 := (BX38.out.below hb' BX38.out.lt).cell (i := 2) rfl
    have hs3 := (BX38.out.below hb' BX38.out.lt).cell (i := 3) rfl
    have hs4 := (BX38.out.below hb' BX38.out.lt).cell (i := 4) rfl
    have hs5 := (BX38.out.below hb' BX38.out.lt).cell (i := 5) rfl
    have hs6 := (BX38.out.below hb' BX38.out.lt).cell (i := 6) rfl
    have hs7 := (BX38.out.below hb' BX38.out.lt).cell (i := 7) rfl
    have hsf := (BX38.out.below hb' BX38.out.lt).fz
    have hsl := (BX38.out.below hb' BX38.out.lt).lt
    clear hw'
    go_simp
    try rfl
   conv => arg 10; simp only [Act.put, List.setIfInBounds_toArray, List.set_cons_succ, List.set_cons_zero]
   refine Go.FreshS.wpF_readsG (by rfl) rfl rfl ?_ (fun w' hw' => ?_) ?_
   rotate_left
   ·have hb' := hw'.world
    skip
    clear hw'
    go_simp
    try rfl
   conv => arg 10; simp only [Act.put, List.setIfInBounds_toArray, List.set_cons_succ, List.set_cons_zero]
   refine Go.FreshS.wpF_readsG (by rfl) rfl rfl ?_ (fun w' hw' => ?_) ?_
   rotate_left
   ·have hb' := hw'.world
    have hs0 := (BX46.out.below hb' BX46.out.lt).cell (i := 0) rfl
    have hs1 := (BX46.out.below hb' BX46.out.lt).cell (i := 1) rfl
    have hs2 := (BX46.out.below hb' BX46.out.lt).cell (i := 2) rfl
    have hs3 := (BX46.out.below hb' BX46.out.lt).cell (i := 3) rfl
    have hs4 := (BX46.out.below hb' BX46.out.lt).cell (i := 4) rfl
    have hs5 := (BX46.out.below hb' BX46.out.lt).cell (i := 5) rfl
    have hs6 := (BX46.out.below hb' BX46.out.lt).cell (i := 6) rfl
    have hs7 := (BX46.out.below hb' BX46.out.lt).cell (i := 7) rfl
    have hsf := (BX46.out.below hb' BX46.out.lt).fz
    have hsl := (BX46.out.below hb' BX46.out.lt).lt
    clear hw'
    go_simp
    try rfl
   conv => arg 10; simp only [Act.put, List.setIfInBounds_toArray, List.set_cons_succ, List.set_cons_zero]
   refine Go.FreshS.wpF_gspec (by rfl) rfl rfl (fun w' hw' => ?_) ?_
   ·have hb' := hw'.world
    refine Go.FreshS.gives_of (Go.FreshS.PM (fun x : FV => x.v) (fun x w' => DF w' wr.heap.size x q59) FV.blk w'.heap.size) ?_ (fun _ _ h => h.post (fun _ _ => FV.inj))
    go_simp
    have CT := qmul ((N35.out.below hb')).k.any ((((N35.out.below hb')).k).len LQq37.out (by decide : _ ≤ 900000)) ((N43.out.below hb')).k.any ((((N43.out.below hb')).k).len LQq45.out (by decide : _ ≤ 900000))
    rw [show q37 * q45 = q59 from Hq59.out.symm] at CT
    refine CT.mono ?_
    rintro e w'' ⟨za, rfl, ho, hb⟩
    exact ⟨_, rfl, ⟨za, rfl, ho.mono hb'.size, ho.blks⟩, hb⟩
   rintro _ ⟨y24, rfl⟩
   conv => arg 10; simp only [Act.put, List.setIfInBounds_toArray, List.set_cons_succ, List.set_cons_zero]
   refine Go.FreshS.wpF_gspec (by rfl) rfl rfl (fun w' hw' => ?_) ?_
   ·have hb' := hw'.world
    refine Go.FreshS.gives_of (Go.FreshS.PK (.bool true)) ?_ (fun _ _ h => h.post)
    go_simp
    have f24 := Go.FreshS.made_of (val := (fun x : FV => x.v)) (Φ := fun x w' => DF w' wr.heap.size x q59) (fun _ _ => FV.inj) (hw'.fact 24 (by kernel_rfl))
    have CT := qsameFr ((N51.out.below hb')).k ((((N51.out.below hb')).k).len LQq53.out (by decide : _ ≤ 900000)) (f24).k (((f24).k).len LQq59.out (by decide : _ ≤ 900000)) (by simp only [Hq59.out, Hp28.out]; exact HQ3.out)
    refine CT.mono ?_
    rintro e w'' ⟨rfl, hb⟩
    exact ⟨_, rfl, rfl, hb⟩
   rintro _ rfl
   conv => arg 10; simp only [Act.put, List.setIfInBounds_toArray, List.set_cons_succ, List.set_cons_zero]
   refine Go.FreshS.wpF_reads rfl rfl rfl ?_ (fun w' hw' => ?_) ?_
   rotate_left
   ·have hb' := hw'.world
    skip
    clear hw'
    go_simp
    try rfl
   conv => arg 10; simp only [Act.put, List.setIfInBounds_toArray, List.set_cons_succ, List.set_cons_zero]
   refine Go.FreshS.wpF_nil (fun w60 hb hF => ?_)
   clear hF
   clear N35
   clear N43
   clear N51
   clear BX38
   clear BX46
   clear BX54
   clear BX57
   have KG := Lib.hid (KG.out.trans (hb.mono KG.out.size))
   clear hb
   go_wp2_with fail
   go_ret
   exact ⟨rfl, KG.out⟩
end Go.Proofs.YtkkbegkdbcenkaaGreatDoor.Pol
namespace Go.Proofs.YtkkbegkdbcenkaaGreatDoor.Limb
open Go.RowKit Go.Sort Go.Proofs.YtkkbegkdbcenkaaGreatDoor.Pol
open Go.ChangeShapes Go.WideShapes Go.ChangeAt
namespace PolysLeadsC
theorem own : ownKnob Tryz.prog.godebug = none := by kernel_rfl
theorem laidOut : laidOutB Tryz.prog = true := by kernel_rfl
theorem tab_of_laid (W : World) (hL : laidMet Tryz.prog Rows.polysLeadsRow.laid W) : Tab W :=
 Lib.tabIs_of_head (g := 3) (by kernel_rfl) (by kernel_rfl) (t := 239) (n := 20) (e := 123) Tryz.underlying239 Tryz.underlying123 (by kernel_rfl) (by kernel_rfl) hL.tail.tail
noncomputable def laidWorld (os : Os) : World := World.laidAll Tryz.prog os Rows.polysLeadsRow.laid
noncomputable def witArgs : Array Value := #[.slice none 0 0, .slice none 0 0, .int .u8 0]
theorem laid_met (os : Os) : laidMet Tryz.prog Rows.polysLeadsRow.laid ((laidWorld os).forCall (fun _ _ => 0) ⟨#[], witArgs, []⟩).memory :=
 laidMet_laidAll _ (by kernel_rfl) (by kernel_rfl)
theorem reads (os : Os) {H : Type} (enc : TypeId × Value → H) : ∃ places, DataW.whole enc Tryz.prog ((laidWorld os).forCall (fun _ _ => 0) ⟨#[], witArgs, []⟩).memory Tryz.f4.params.toList Rows.polysLeadsSpec.vars false witArgs.toList 8 = some ([.nil, .nil, .lit (.int .u8 0)], [], places) :=
 ⟨[], by kernel_rfl⟩
set_option maxRecDepth 100000 in
theorem lifted (os : Os) (started : os.Started) (H : Type) (enc : TypeId × Value → H) (F : Stop.Interp) :
  ReturnsInHanded {} Tryz.checked os 4 .any ((OpenSpec.ofChange Rows.polysLeadsSpec).preRow enc Tryz.prog Tryz.f4 Rows.polysLeadsRow.domain false Rows.polysLeadsRow.laid) (((OpenSpec.ofChange Rows.polysLeadsSpec).at F).post enc Tryz.prog Tryz.f4 false true false false) := by
 obtain ⟨places, hx⟩ := reads os enc
 refine returnsInHanded_of_row (C := Tryz.checked) (s := OpenSpec.ofChange Rows.polysLeadsSpec) own started (by kernel_rfl) Tryz.func4
  (witness_row_atRef (enc := enc) (C := Tryz.checked) false (laidWorld os) witArgs (World.laidAll_os _ _ _) (by kernel_rfl) (by kernel_rfl) (by kernel_rfl)
   (OpenSpec.preRow_of_cond 8 hx (by kernel_rfl) (fun k hk => by cases hk) (by kernel_rfl) (laid_met os))) ?_
 intro W base args ds gs before hval0 hW _ _ _ hL _ _
 rw [MakeChecks.laidMetH_plain _ _ _ (by kernel_rfl)] at hL
 have htab : Tab W := tab_of_laid W hL
 have hval : ∀ (j : Nat) t v, Tryz.f4.params[j]? = some t → args[j]? = some v → Value.okWide Tryz.prog W .any base t v := hval0
 have hW' := hW
 obtain ⟨p, q, hA0, hV, rfl, hfz, hnd⟩ := hW
 have hA : DataW.TrodAll enc Tryz.prog W 0 (fun _ => true) true Tryz.f4.params.toList args.toList ds p := hA0
 rw [Tryz.params4] at hA hval
 obtain ⟨v0, v1, v2, d0, d1, d2, p0, p1, p2, rfl, rfl, rfl, h0, h1, h2⟩ := trodAll_three hA
 obtain ⟨rfl, rfl⟩ := trodVars_none hV
 obtain ⟨x0, L0, rfl, r0⟩ := open_poly (hval 0 23 v0 rfl rfl) h0
 obtain ⟨x1, L1, rfl, r1⟩ := open_poly (hval 1 23 v1 rfl rfl) h1
 obtain ⟨z2, rfl, -, -, wz2⟩ := open_int Tryz.underlying30 (hval 2 30 v2 rfl rfl) h2
 refine (polysLeads_law x0 L0 x1 L1 z2 W htab r0 r1).mono fun e W' ⟨he, hg⟩ => ?_
 subst he
 exact ⟨_, rfl, LawPost.law_post laidOut (by kernel_rfl) (by kernel_rfl) Tryz.underlying4 hW' rfl rfl hg⟩
theorem said : Rows.PolysLeadsSaid :=
 OpenClaim.holds_of_cond 4 Tryz.f4 rfl rfl rfl rfl rfl rfl rfl ⟨rfl, rfl, rfl, rfl, rfl⟩ rfl rfl rfl rfl rfl (by kernel_rfl) Tryz.func4 (by kernel_rfl)
  (of_decide_eq_true (by kernel_rfl)) (by unfold Func.isWrapper; first | (rw [if_pos (by decide +kernel)]; kernel_rfl) | (rw [if_neg (by decide +kernel)]; exact ⟨rfl, rfl⟩))
  (fun os started H enc _ F => by rw [OpenClaim.pre_eq_preRow]; exact lifted os started H enc F)
theorem plain (f : FuncId) (fn : Func) (hf : Tryz.pinned.checked.prog.funcNamed "reckoner/reckonerlaw04.PolysLeads" = some f) (hfn : Tryz.pinned.checked.prog.funcs[f]? = some fn) :
  true = Tryz.pinned.checked.prog.looks [] ∧ ∀ (j : Nat) t, fn.params[j]? = some t → Tryz.pinned.checked.prog.wantsStandIn t = false := by
 obtain rfl : f = 4 := Option.some.inj ((show Tryz.prog.funcNamed "reckoner/reckonerlaw04.PolysLeads" = some 4 by kernel_rfl).symm.trans hf) |>.symm
 obtain rfl : fn = Tryz.f4 := (Option.some.inj (Tryz.func4.symm.trans hfn)).symm
 refine ⟨by kernel_rfl, fun j t ht => ?_⟩
 rw [Tryz.params4] at ht
 have hm : t = 23 ∨ t = 23 ∨ t = 30 := by simpa using Array.mem_of_getElem? ht
 rcases hm with rfl | rfl | rfl
 ·exact (show Tryz.prog.wantsStandIn 23 = false by kernel_rfl)
 ·exact (show Tryz.prog.wantsStandIn 23 = false by kernel_rfl)
 ·exact (show Tryz.prog.wantsStandIn 30 = false by kernel_rfl)
theorem card : Rows.PolysLeadsCardSaid :=
 Claim7.holds_tied_plain_at .later [] _ _ _ _ said (fun _ h => by cases h) (by kernel_rfl) (fun _ h => by cases h) polysLeads_row_tie rfl ⟨rfl, rfl⟩ (by kernel_rfl) rfl plain (by kernel_rfl)
#print axioms card
end PolysLeadsC
end Go.Proofs.YtkkbegkdbcenkaaGreatDoor.Limb
