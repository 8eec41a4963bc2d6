/-
  The law PartsProduct: whatever it is handed, it returns true, and what it was handed reads behind the call as it read before; the card ties the listed tables to the program's text.
-/
import Derived.Test.YthcccdjfedbnfaaGreatDoorPkL
import Derived.Test.YthcccdjfedbnfaaGreatDoorCards
import Derived.Test.YthcccdjfedbnfaaGreatDoorTie
import Derived.Lay
import Derived.MakeChecks
import Derived.Stop.LaidErr
import Derived.Deep.DeepWitnessRowRef
import Derived.WalkKit
import Derived.ProofKit
import Derived.OpenShut
import Derived.Deep.DeepHandedRow
import Derived.Lib.LaidTab
set_option linter.unusedSimpArgs false
set_option linter.unusedVariables false
namespace Go.Proofs.YthcccdjfedbnfaaGreatDoor.Pol
open Go.RowKit Go.Sort Go.Proofs.YthcccdjfedbnfaaGreatDoor.Limb
theorem scale_mo {c : Rat} (hc : c ≠ 0) {P : List Tm} (h : Canon P) : ∀ Q : Mo → Prop, (∃ s ∈ scaleP c P, Q s.1) ↔ ∃ s ∈ P, Q s.1 := fun Q => by
 rw [scaleP_L hc h]
 constructor
 ·rintro ⟨s, hs, hq⟩
  obtain ⟨u, hu, rfl⟩ := List.mem_map.1 hs
  exact ⟨u, hu, hq⟩
 ·rintro ⟨s, hs, hq⟩
  exact ⟨_, scaleL_mem hs, hq⟩
theorem prim_mo {P : List Tm} (h : Canon P) (Q : Mo → Prop) : (∃ s ∈ primP P, Q s.1) ↔ ∃ s ∈ P, Q s.1 := by
 by_cases hz : P = []
 ·subst hz; rfl
 ·exact scale_mo (inv_ne (contP_ne h hz)) h Q
theorem ovf_prim {P Q : List Tm} (hP : Canon P) (hQ : Canon Q) : Ovf (primP P) (primP Q) ↔ Ovf P Q := by
 unfold Ovf
 rw [prim_mo hP (fun m => ∃ t ∈ primP Q, ¬ (m.mul t.1).Small)]
 constructor
 ·rintro ⟨s, hs, h⟩
  exact ⟨s, hs, (prim_mo hQ (fun m => ¬ (s.1.mul m).Small)).1 h⟩
 ·rintro ⟨s, hs, h⟩
  exact ⟨s, hs, (prim_mo hQ (fun m => ¬ (s.1.mul m).Small)).2 h⟩
def MulC (w w' : World) (P Q : List Tm) (z : PV) (c : Int) : Prop := (c = 3 ∧ Ovf P Q ∧ z = ⟨none, 0, 0⟩) ∨ (c = 0 ∧ ¬ Ovf P Q ∧ DP w' w.heap.size z (mulP P Q))
theorem pmulo {w : World} {x y : PV} {P Q : List Tm} {n1 k1 e1 n2 k2 e2 : Nat} (hx : KP w x P) (b1 : PC P n1 k1 e1) (hy : KP w y Q) (b2 : PC Q n2 k2 e2) (hk : n1 * (k1 + k2 + 1) ≤ 900000) (h2 : k2 ≤ 900000) (hn : n1 * n2 ≤ 1000000) (hn1 : n1 ≤ 1000000) (hn2 : n2 ≤ 1000000) :
  Calls Tryz.prog 20 #[x.v, y.v] w fun e w' => ∃ (z : PV) (c : Int), e = .returned (.tuple #[z.v, .int .i64 c]) ∧ MulC w w' P Q z c ∧ Below w.heap.size w w' :=
 (mul_o x y P Q k1 k2 w hx hy b1.b.lq b2.b.lq (Nat.le_trans (Nat.mul_le_mul_right _ b1.b.len) hk) h2 (Nat.le_trans (Nat.mul_le_mul b1.b.len b2.b.len) hn) (Nat.le_trans b1.b.len hn1) (Nat.le_trans b2.b.len hn2)).mono fun e w' h => by
  rcases h with ⟨z, h1, h2, h3, h4⟩ | ⟨h1, h2, h3⟩
  ·exact ⟨z, 0, h1, Or.inr ⟨rfl, h2, h3⟩, h4⟩
  ·exact ⟨⟨none, 0, 0⟩, 3, h1, Or.inl ⟨rfl, h2, rfl⟩, h3⟩
theorem pmulo_ov {w : World} {v1 v2 : Value} {P Q : List Tm} (h : Calls Tryz.prog 20 #[v1, v2] w fun e w' => ∃ (z : PV) (c : Int), e = .returned (.tuple #[z.v, .int .i64 c]) ∧ MulC w w' P Q z c ∧ Below w.heap.size w w') (ho : Ovf P Q) :
  Calls Tryz.prog 20 #[v1, v2] w fun e w' => e = .returned (.tuple #[.slice none 0 0, .int .i64 3]) ∧ Below w.heap.size w w' := h.mono fun e w' ⟨z, c, h1, h2, h3⟩ => by
 rcases h2 with ⟨rfl, _, rfl⟩ | ⟨_, h, _⟩
 ·exact ⟨h1, h3⟩
 ·exact absurd ho h
theorem pmulo_no {w : World} {v1 v2 : Value} {P Q : List Tm} (h : Calls Tryz.prog 20 #[v1, v2] w fun e w' => ∃ (z : PV) (c : Int), e = .returned (.tuple #[z.v, .int .i64 c]) ∧ MulC w w' P Q z c ∧ Below w.heap.size w w') (ho : ¬ Ovf P Q) :
  Calls Tryz.prog 20 #[v1, v2] w fun e w' => ∃ z : PV, e = .returned (.tuple #[z.v, .int .i64 0]) ∧ DP w' w.heap.size z (mulP P Q) ∧ Below w.heap.size w w' := h.mono fun e w' ⟨z, c, h1, h2, h3⟩ => by
 rcases h2 with ⟨_, h, _⟩ | ⟨rfl, _, h⟩
 ·exact absurd h ho
 ·exact ⟨z, h1, h, h3⟩
set_option maxRecDepth 100000 in
set_option maxHeartbeats 16000000 in
theorem partsProduct_law (x1 : PV) (L1 : List TO) (x2 : PV) (L2 : List TO) (w : World) (htab : Tab w) (h1 : RawQ w x1 L1) (h2 : RawQ w x2 L2) :
  Calls Tryz.prog 4 #[.slice x1.a x1.n x1.c, .slice x2.a x2.n x2.c] w fun e w' => e = .returned (.bool true) ∧ Below w.heap.size w w' := by
 have HT := Lib.hid htab
 have KG := Lib.hid (Below.refl w.heap.size w)
 have N1 := Lib.hid h1
 have N2 := Lib.hid h2
 have Wx1 := Lib.hid (show ∀ e ∈ L1, e.1.m.le 65535 from fun e he => h1.2.2.2.2 e he)
 have Wx2 := Lib.hid (show ∀ e ∈ L2, e.1.m.le 65535 from fun e he => h2.2.2.2.2 e he)
 clear htab h1 h2
 go_enter Tryz.func4, Tryz.ntmps4
 go_wp2_with fail
 have CT := Lib.hid (palive7 w (HT.out.on KG.out))
 with_reducible refine CT.out.mono ?_
 rintro e w1 ⟨rfl, hb⟩
 clear CT
 have KG := Lib.hid (KG.out.trans (hb.mono KG.out.size))
 clear hb
 go_wp2_with fail
 obtain ⟨v3, hV⟩ : ∃ V, V = w1.alloc (.cells #[.slice x1.a x1.n x1.c, .slice x2.a x2.n x2.c] 23) := ⟨_, rfl⟩
 have hbV : Below w1.heap.size w1 v3 := by rw [hV]; exact ((Below.refl _ _).alloc (Nat.le_refl _) _)
 have BX2 := Lib.hid (show Bxs v3 (w1.heap.size) 23 [.slice x1.a x1.n x1.c, .slice x2.a x2.n x2.c] by have h := Bxs.new (w1) 23 [.slice x1.a x1.n x1.c, .slice x2.a x2.n x2.c]; rw [hV]; exact h)
 rw [show w1.alloc (.cells #[.slice x1.a x1.n x1.c, .slice x2.a x2.n x2.c] 23) = v3 from hV.symm]
 have KG := Lib.hid (KG.out.trans (hbV.mono KG.out.size))
 clear hV hbV
 have CT := Lib.hid (show Calls Tryz.prog 9 #[.int .i64 10, .slice (some ⟨w1.heap.size, 0, none⟩) 2 2] v3 _ from great2P (m := 10) BX2.out (N1.out.below KG.out) (N2.out.below KG.out) (by decide))
 with_reducible refine CT.out.mono ?_
 rintro e w4 ⟨b5, rfl, hn, hb⟩
 clear CT
 clear BX2
 have KG := Lib.hid (KG.out.trans (hb.mono KG.out.size))
 clear hb
 rcases Bool.eq_false_or_eq_true b5 with rfl | rfl
 ·clear hn
  go_wp2_with fail
  have CT := Lib.hid (palive7 w4 (HT.out.on KG.out))
  with_reducible refine CT.out.mono ?_
  rintro e w6 ⟨rfl, hb⟩
  clear CT
  have KG := Lib.hid (KG.out.trans (hb.mono KG.out.size))
  clear hb
  go_wp2_with fail
  go_ret
  exact ⟨rfl, KG.out⟩
 obtain ⟨g0, g1⟩ := hn rfl
 have Gx1 := Lib.hid g0
 have Gx2 := Lib.hid g1
 clear hn g0 g1
 rcases (raw_cases N1.out Gx1.out Wx1.out).symm with hbad | ⟨P1, hk, hc⟩
 ·have Bx1 := Lib.hid hbad
  clear hbad
  go_wp2_with fail
  have CT := Lib.hid (check_b (Bx1.out.below KG.out) (Nat.le_trans (BP.n_le N1.out Gx1.out) (by decide)))
  with_reducible refine CT.out.mono ?_
  rintro e w7 ⟨rfl, hb⟩
  clear CT
  have KG := Lib.hid (KG.out.trans (hb.mono KG.out.size))
  clear hb
  go_wp2_with fail
  have CT := Lib.hid (palive7 w7 (HT.out.on KG.out))
  with_reducible refine CT.out.mono ?_
  rintro e w8 ⟨rfl, hb⟩
  clear CT
  have KG := Lib.hid (KG.out.trans (hb.mono KG.out.size))
  clear hb
  go_wp2_with fail
  go_ret
  exact ⟨rfl, KG.out⟩
 have Kx1 := Lib.hid hk
 have PCP1 := Lib.hid hc
 clear hk hc
 go_wp2_with fail
 have CT := Lib.hid (pcheck (Kx1.out.below KG.out) PCP1.out (by decide) (by decide))
 with_reducible refine CT.out.mono ?_
 rintro e w9 ⟨rfl, hb⟩
 clear CT
 have KG := Lib.hid (KG.out.trans (hb.mono KG.out.size))
 clear hb
 rcases (raw_cases N2.out Gx2.out Wx2.out).symm with hbad | ⟨P2, hk, hc⟩
 ·have Bx2 := Lib.hid hbad
  clear hbad
  go_wp2_with fail
  have CT := Lib.hid (check_b (Bx2.out.below KG.out) (Nat.le_trans (BP.n_le N2.out Gx2.out) (by decide)))
  with_reducible refine CT.out.mono ?_
  rintro e w10 ⟨rfl, hb⟩
  clear CT
  have KG := Lib.hid (KG.out.trans (hb.mono KG.out.size))
  clear hb
  go_wp2_with fail
  have CT := Lib.hid (palive7 w10 (HT.out.on KG.out))
  with_reducible refine CT.out.mono ?_
  rintro e w11 ⟨rfl, hb⟩
  clear CT
  have KG := Lib.hid (KG.out.trans (hb.mono KG.out.size))
  clear hb
  go_wp2_with fail
  go_ret
  exact ⟨rfl, KG.out⟩
 have Kx2 := Lib.hid hk
 have PCP2 := Lib.hid hc
 clear hk hc
 go_wp2_with fail
 have CT := Lib.hid (pcheck (Kx2.out.below KG.out) PCP2.out (by decide) (by decide))
 with_reducible refine CT.out.mono ?_
 rintro e w12 ⟨rfl, hb⟩
 clear CT
 have KG := Lib.hid (KG.out.trans (hb.mono KG.out.size))
 clear hb
 go_wp2_with fail
 have CT := Lib.hid (pmulo (Kx1.out.below KG.out) PCP1.out (Kx2.out.below KG.out) PCP2.out (by decide) (by decide) (by decide) (by decide) (by decide))
 with_reducible refine CT.out.mono ?_
 rintro e w13 ⟨z14, c15, rfl, hM, hb⟩
 clear CT
 have KG := Lib.hid (KG.out.trans (hb.mono KG.out.size))
 clear hb
 rcases hM with ⟨rfl, hov, rfl⟩ | ⟨rfl, hno, hN⟩
 ·have HOV := Lib.hid hov
  clear hov
  go_wp2_with fail
  obtain ⟨p17, hp17⟩ : ∃ z : List Tm, z = primP P1 := ⟨_, rfl⟩
  have Hp17 := Lib.hid hp17
  have PCp17 := Lib.hid (show PC p17 10 49 65535 by rw [hp17]; exact PCP1.out.prim (PCP1.out.cont))
  clear hp17
  have CT := Lib.hid (pprim (Kx1.out.below KG.out) PCP1.out (show LQ (contP P1) 45 from PCP1.out.cont) (by decide) (by decide) (by decide) (by decide) (by decide) (by decide))
  rw [show primP P1 = p17 from Hp17.out.symm] at CT
  with_reducible refine CT.out.mono ?_
  rintro e w18 ⟨z19, rfl, hN20, hb⟩
  have N20 := Lib.hid hN20
  clear hN20
  clear CT
  have KG := Lib.hid (KG.out.trans (hb.mono KG.out.size))
  clear hb
  go_wp2_with fail
  obtain ⟨p21, hp21⟩ : ∃ z : List Tm, z = primP P2 := ⟨_, rfl⟩
  have Hp21 := Lib.hid hp21
  have PCp21 := Lib.hid (show PC p21 10 49 65535 by rw [hp21]; exact PCP2.out.prim (PCP2.out.cont))
  clear hp21
  have CT := Lib.hid (pprim (Kx2.out.below KG.out) PCP2.out (show LQ (contP P2) 45 from PCP2.out.cont) (by decide) (by decide) (by decide) (by decide) (by decide) (by decide))
  rw [show primP P2 = p21 from Hp21.out.symm] at CT
  with_reducible refine CT.out.mono ?_
  rintro e w22 ⟨z23, rfl, hN24, hb⟩
  have N24 := Lib.hid hN24
  clear hN24
  clear CT
  have N20 := Lib.hid (N20.out.below hb)
  have KG := Lib.hid (KG.out.trans (hb.mono KG.out.size))
  clear hb
  go_wp2_with fail
  have CT := Lib.hid (pmulo_ov (pmulo N20.out.k PCp17.out N24.out.k PCp21.out (by decide) (by decide) (by decide) (by decide) (by decide)) (by simp only [Hp21.out, Hp17.out]; exact (ovf_prim PCP1.out.c PCP2.out.c).2 HOV.out))
  with_reducible refine CT.out.mono ?_
  rintro e w25 ⟨rfl, hb⟩
  clear CT
  clear N20
  clear N24
  have KG := Lib.hid (KG.out.trans (hb.mono KG.out.size))
  clear hb
  go_wp2_with fail
  go_ret
  exact ⟨rfl, KG.out⟩
 have HNO := Lib.hid hno
 clear hno
 obtain ⟨pr, hpr⟩ : ∃ z : List Tm, z = mulP P1 P2 := ⟨_, rfl⟩
 have Hpr := Lib.hid hpr
 clear hpr
 have N16 := Lib.hid (show DP w13 w12.heap.size z14 pr by rw [Hpr.out]; exact hN)
 have PCpr := Lib.hid (show PC pr 100 90 65535 from ⟨by rw [Hpr.out]; exact mulP_canon _ _, ⟨by rw [Hpr.out]; exact (PCP1.out.mul PCP2.out).b.len, by rw [Hpr.out]; exact (PCP1.out.mul PCP2.out).b.lq, fun t ht => N16.out.small t ht⟩⟩)
 clear hN
 go_wp2_with fail
 obtain ⟨p26, hp26⟩ : ∃ z : List Tm, z = primP P1 := ⟨_, rfl⟩
 have Hp26 := Lib.hid hp26
 have PCp26 := Lib.hid (show PC p26 10 49 65535 by rw [hp26]; exact PCP1.out.prim (PCP1.out.cont))
 clear hp26
 have CT := Lib.hid (pprim (Kx1.out.below KG.out) PCP1.out (show LQ (contP P1) 45 from PCP1.out.cont) (by decide) (by decide) (by decide) (by decide) (by decide) (by decide))
 rw [show primP P1 = p26 from Hp26.out.symm] at CT
 with_reducible refine CT.out.mono ?_
 rintro e w27 ⟨z28, rfl, hN29, hb⟩
 have N29 := Lib.hid hN29
 clear hN29
 clear CT
 have N16 := Lib.hid (N16.out.below hb)
 have KG := Lib.hid (KG.out.trans (hb.mono KG.out.size))
 clear hb
 go_wp2_with fail
 obtain ⟨p30, hp30⟩ : ∃ z : List Tm, z = primP P2 := ⟨_, rfl⟩
 have Hp30 := Lib.hid hp30
 have PCp30 := Lib.hid (show PC p30 10 49 65535 by rw [hp30]; exact PCP2.out.prim (PCP2.out.cont))
 clear hp30
 have CT := Lib.hid (pprim (Kx2.out.below KG.out) PCP2.out (show LQ (contP P2) 45 from PCP2.out.cont) (by decide) (by decide) (by decide) (by decide) (by decide) (by decide))
 rw [show primP P2 = p30 from Hp30.out.symm] at CT
 with_reducible refine CT.out.mono ?_
 rintro e w31 ⟨z32, rfl, hN33, hb⟩
 have N33 := Lib.hid hN33
 clear hN33
 clear CT
 have N16 := Lib.hid (N16.out.below hb)
 have N29 := Lib.hid (N29.out.below hb)
 have KG := Lib.hid (KG.out.trans (hb.mono KG.out.size))
 clear hb
 go_wp2_with fail
 obtain ⟨p34, hp34⟩ : ∃ z : List Tm, z = mulP p26 p30 := ⟨_, rfl⟩
 have Hp34 := Lib.hid hp34
 have PCp34 := Lib.hid (show PC p34 100 990 131070 by rw [hp34]; exact PCp26.out.mul PCp30.out)
 clear hp34
 have CT := Lib.hid (pmulo_no (pmulo N29.out.k PCp26.out N33.out.k PCp30.out (by decide) (by decide) (by decide) (by decide) (by decide)) (by simp only [Hp30.out, Hp26.out, Hpr.out]; exact fun h => HNO.out ((ovf_prim PCP1.out.c PCP2.out.c).1 h)))
 rw [show mulP p26 p30 = p34 from Hp34.out.symm] at CT
 with_reducible refine CT.out.mono ?_
 rintro e w35 ⟨z36, rfl, hN37, hb⟩
 have N37 := Lib.hid hN37
 clear hN37
 clear CT
 have N16 := Lib.hid (N16.out.below hb)
 clear N29
 clear N33
 have KG := Lib.hid (KG.out.trans (hb.mono KG.out.size))
 clear hb
 go_wp2_with fail
 obtain ⟨q38, hq38⟩ : ∃ z : Rat, z = contP pr := ⟨_, rfl⟩
 have Hq38 := Lib.hid hq38
 have LQq38 := Lib.hid (show LQ q38 90 by rw [hq38]; exact (show LQ (contP pr) 90 from by rw [Hpr.out, contP_mul PCP1.out.c PCP2.out.c]; exact LQ.mul PCP1.out.cont PCP2.out.cont (by decide)))
 clear hq38
 have CT := Lib.hid (pcontent N16.out.k PCpr.out (by decide) (by decide) (by decide))
 rw [show contP pr = q38 from Hq38.out.symm] at CT
 with_reducible refine CT.out.mono ?_
 rintro e w39 ⟨x40, rfl, hN41, hb⟩
 have N41 := Lib.hid hN41
 clear hN41
 clear CT
 have N16 := Lib.hid (N16.out.below hb)
 have N37 := Lib.hid (N37.out.below hb)
 have KG := Lib.hid (KG.out.trans (hb.mono KG.out.size))
 clear hb
 go_wp2_with fail
 obtain ⟨q42, hq42⟩ : ∃ z : Rat, z = contP P1 := ⟨_, rfl⟩
 have Hq42 := Lib.hid hq42
 have LQq42 := Lib.hid (show LQ q42 45 by rw [hq42]; exact PCP1.out.cont)
 clear hq42
 have CT := Lib.hid (pcontent (Kx1.out.below KG.out) PCP1.out (by decide) (by decide) (by decide))
 rw [show contP P1 = q42 from Hq42.out.symm] at CT
 with_reducible refine CT.out.mono ?_
 rintro e w43 ⟨x44, rfl, hN45, hb⟩
 have N45 := Lib.hid hN45
 clear hN45
 clear CT
 have N16 := Lib.hid (N16.out.below hb)
 have N37 := Lib.hid (N37.out.below hb)
 have N41 := Lib.hid (N41.out.below hb)
 have KG := Lib.hid (KG.out.trans (hb.mono KG.out.size))
 clear hb
 go_wp2_with fail
 obtain ⟨q46, hq46⟩ : ∃ z : Rat, z = contP P2 := ⟨_, rfl⟩
 have Hq46 := Lib.hid hq46
 have LQq46 := Lib.hid (show LQ q46 45 by rw [hq46]; exact PCP2.out.cont)
 clear hq46
 have CT := Lib.hid (pcontent (Kx2.out.below KG.out) PCP2.out (by decide) (by decide) (by decide))
 rw [show contP P2 = q46 from Hq46.out.symm] at CT
 with_reducible refine CT.out.mono ?_
 rintro e w47 ⟨x48, rfl, hN49, hb⟩
 have N49 := Lib.hid hN49
 clear hN49
 clear CT
 have N16 := Lib.hid (N16.out.below hb)
 have N37 := Lib.hid (N37.out.below hb)
 have N41 := Lib.hid (N41.out.below hb)
 have N45 := Lib.hid (N45.out.below hb)
 have KG := Lib.hid (KG.out.trans (hb.mono KG.out.size))
 clear hb
 go_wp2_with fail
 obtain ⟨q50, hq50⟩ : ∃ z : Rat, z = q42 * q46 := ⟨_, rfl⟩
 have Hq50 := Lib.hid hq50
 have LQq50 := Lib.hid (show LQ q50 90 by rw [hq50]; exact LQ.mul (LQq42.out.up (by decide : _ ≤ 45)) (LQq46.out.up (by decide : _ ≤ 45)) (by decide))
 clear hq50
 have CT := Lib.hid (qmul (N45.out).k.any (((N45.out).k).len LQq42.out (by decide : _ ≤ 900000)) (N49.out).k.any (((N49.out).k).len LQq46.out (by decide : _ ≤ 900000)))
 rw [show q42 * q46 = q50 from Hq50.out.symm] at CT
 with_reducible refine CT.out.mono ?_
 rintro e w51 ⟨x52, rfl, hN53, hb⟩
 have N53 := Lib.hid hN53
 clear hN53
 clear CT
 have N16 := Lib.hid (N16.out.below hb)
 have N37 := Lib.hid (N37.out.below hb)
 have N41 := Lib.hid (N41.out.below hb)
 clear N45
 clear N49
 have KG := Lib.hid (KG.out.trans (hb.mono KG.out.size))
 clear hb
 go_wp2_with fail
 have CT := Lib.hid (qsameFr (N41.out).k (((N41.out).k).len LQq38.out (by decide : _ ≤ 900000)) (N53.out).k (((N53.out).k).len LQq50.out (by decide : _ ≤ 900000)) (by simp only [Hq50.out, Hq46.out, Hq42.out, Hq38.out, Hp34.out, Hp30.out, Hp26.out, Hpr.out]; exact contP_mul PCP1.out.c PCP2.out.c))
 with_reducible refine CT.out.mono ?_
 rintro e w54 ⟨rfl, hb⟩
 clear CT
 have N16 := Lib.hid (N16.out.below hb)
 have N37 := Lib.hid (N37.out.below hb)
 clear N41
 clear N53
 have KG := Lib.hid (KG.out.trans (hb.mono KG.out.size))
 clear hb
 go_wp2_with fail
 obtain ⟨p55, hp55⟩ : ∃ z : List Tm, z = primP pr := ⟨_, rfl⟩
 have Hp55 := Lib.hid hp55
 have PCp55 := Lib.hid (show PC p55 100 180 65535 by rw [hp55]; exact PCpr.out.prim ((show LQ (contP pr) 90 from by rw [Hpr.out, contP_mul PCP1.out.c PCP2.out.c]; exact LQ.mul PCP1.out.cont PCP2.out.cont (by decide))))
 clear hp55
 have CT := Lib.hid (pprim N16.out.k PCpr.out (show LQ (contP pr) 90 from (show LQ (contP pr) 90 from by rw [Hpr.out, contP_mul PCP1.out.c PCP2.out.c]; exact LQ.mul PCP1.out.cont PCP2.out.cont (by decide))) (by decide) (by decide) (by decide) (by decide) (by decide) (by decide))
 rw [show primP pr = p55 from Hp55.out.symm] at CT
 with_reducible refine CT.out.mono ?_
 rintro e w56 ⟨z57, rfl, hN58, hb⟩
 have N58 := Lib.hid hN58
 clear hN58
 clear CT
 clear N16
 have N37 := Lib.hid (N37.out.below hb)
 have KG := Lib.hid (KG.out.trans (hb.mono KG.out.size))
 clear hb
 go_wp2_with fail
 have CT := Lib.hid (psame7 N58.out.k N37.out.k (by simp only [Hp55.out, Hq50.out, Hq46.out, Hq42.out, Hq38.out, Hp34.out, Hp30.out, Hp26.out, Hpr.out]; exact primP_mul PCP1.out.c PCP2.out.c) PCp55.out (by decide) (by decide))
 with_reducible refine CT.out.mono ?_
 rintro e w59 ⟨rfl, hb⟩
 clear CT
 clear N37
 clear N58
 have KG := Lib.hid (KG.out.trans (hb.mono KG.out.size))
 clear hb
 go_wp2_with fail
 go_ret
 exact ⟨rfl, KG.out⟩
end Go.Proofs.YthcccdjfedbnfaaGreatDoor.Pol
namespace Go.Proofs.YthcccdjfedbnfaaGreatDoor.Limb
open Go.RowKit Go.Sort Go.Proofs.YthcccdjfedbnfaaGreatDoor.Pol
open Go.ChangeShapes Go.WideShapes Go.ChangeAt
namespace PartsProductC
theorem own : ownKnob Tryz.prog.godebug = none := by kernel_rfl
theorem laidOut : laidOutB Tryz.prog = true := by kernel_rfl
theorem tab_of_laid (W : World) (hL : laidMet Tryz.prog Rows.partsProductRow.laid W) : Tab W :=
 Lib.tabIs_of_head (g := 1) (by kernel_rfl) (by kernel_rfl) (t := 235) (n := 20) (e := 118) Tryz.underlying235 Tryz.underlying118 (by kernel_rfl) (by kernel_rfl) hL.tail.tail
noncomputable def laidWorld (os : Os) : World := World.laidAll Tryz.prog os Rows.partsProductRow.laid
noncomputable def witArgs : Array Value := #[.slice none 0 0, .slice none 0 0]
theorem laid_met (os : Os) : laidMet Tryz.prog Rows.partsProductRow.laid ((laidWorld os).forCall (fun _ _ => 0) ⟨#[], witArgs, []⟩).memory :=
 laidMet_laidAll _ (by kernel_rfl) (by kernel_rfl)
theorem reads (os : Os) {H : Type} (enc : TypeId × Value → H) : ∃ places, DataW.whole enc Tryz.prog ((laidWorld os).forCall (fun _ _ => 0) ⟨#[], witArgs, []⟩).memory Tryz.f4.params.toList Rows.partsProductSpec.vars false witArgs.toList 8 = some ([.nil, .nil], [], places) :=
 ⟨[], by kernel_rfl⟩
set_option maxRecDepth 100000 in
theorem lifted (os : Os) (started : os.Started) (H : Type) (enc : TypeId × Value → H) (F : Stop.Interp) :
  ReturnsInHanded {} Tryz.checked os 4 .any ((OpenSpec.ofChange Rows.partsProductSpec).preRow enc Tryz.prog Tryz.f4 Rows.partsProductRow.domain false Rows.partsProductRow.laid) (((OpenSpec.ofChange Rows.partsProductSpec).at F).post enc Tryz.prog Tryz.f4 false true false false) := by
 obtain ⟨places, hx⟩ := reads os enc
 refine returnsInHanded_of_row (C := Tryz.checked) (s := OpenSpec.ofChange Rows.partsProductSpec) own started (by kernel_rfl) Tryz.func4
  (witness_row_atRef (enc := enc) (C := Tryz.checked) false (laidWorld os) witArgs (World.laidAll_os _ _ _) (by kernel_rfl) (by kernel_rfl) (by kernel_rfl)
   (OpenSpec.preRow_of_cond 8 hx (by kernel_rfl) (fun k hk => by cases hk) (by kernel_rfl) (laid_met os))) ?_
 intro W base args ds gs before hval0 hW _ _ _ hL _ _
 rw [MakeChecks.laidMetH_plain _ _ _ (by kernel_rfl)] at hL
 have htab : Tab W := tab_of_laid W hL
 have hval : ∀ (j : Nat) t v, Tryz.f4.params[j]? = some t → args[j]? = some v → Value.okWide Tryz.prog W .any base t v := hval0
 have hW' := hW
 obtain ⟨p, q, hA0, hV, rfl, hfz, hnd⟩ := hW
 have hA : DataW.TrodAll enc Tryz.prog W 0 (fun _ => true) true Tryz.f4.params.toList args.toList ds p := hA0
 rw [Tryz.params4] at hA hval
 obtain ⟨v0, v1, d0, d1, p0, p1, rfl, rfl, rfl, h0, h1⟩ := trodAll_two hA
 obtain ⟨rfl, rfl⟩ := trodVars_none hV
 obtain ⟨x0, L0, rfl, r0⟩ := open_poly (hval 0 23 v0 rfl rfl) h0
 obtain ⟨x1, L1, rfl, r1⟩ := open_poly (hval 1 23 v1 rfl rfl) h1
 refine (partsProduct_law x0 L0 x1 L1 W htab r0 r1).mono fun e W' ⟨he, hg⟩ => ?_
 subst he
 exact ⟨_, rfl, LawPost.law_post laidOut (by kernel_rfl) (by kernel_rfl) Tryz.underlying4 hW' rfl rfl hg⟩
theorem said : Rows.PartsProductSaid :=
 OpenClaim.holds_of_cond 4 Tryz.f4 rfl rfl rfl rfl rfl rfl rfl ⟨rfl, rfl, rfl, rfl, rfl⟩ rfl rfl rfl rfl rfl (by kernel_rfl) Tryz.func4 (by kernel_rfl)
  (of_decide_eq_true (by kernel_rfl)) (by unfold Func.isWrapper; first | (rw [if_pos (by decide +kernel)]; kernel_rfl) | (rw [if_neg (by decide +kernel)]; exact ⟨rfl, rfl⟩))
  (fun os started H enc _ F => by rw [OpenClaim.pre_eq_preRow]; exact lifted os started H enc F)
theorem plain (f : FuncId) (fn : Func) (hf : Tryz.pinned.checked.prog.funcNamed "reckoner/reckonerlaw07.PartsProduct" = some f) (hfn : Tryz.pinned.checked.prog.funcs[f]? = some fn) :
  true = Tryz.pinned.checked.prog.looks [] ∧ ∀ (j : Nat) t, fn.params[j]? = some t → Tryz.pinned.checked.prog.wantsStandIn t = false := by
 obtain rfl : f = 4 := Option.some.inj ((show Tryz.prog.funcNamed "reckoner/reckonerlaw07.PartsProduct" = some 4 by kernel_rfl).symm.trans hf) |>.symm
 obtain rfl : fn = Tryz.f4 := (Option.some.inj (Tryz.func4.symm.trans hfn)).symm
 refine ⟨by kernel_rfl, fun j t ht => ?_⟩
 rw [Tryz.params4] at ht
 obtain rfl : t = 23 := by simpa using Array.mem_of_getElem? ht
 exact (show Tryz.prog.wantsStandIn 23 = false by kernel_rfl)
theorem card : Rows.PartsProductCardSaid :=
 Claim7.holds_tied_plain_at .later [] _ _ _ _ said (fun _ h => by cases h) (by kernel_rfl) (fun _ h => by cases h) partsProduct_row_tie rfl ⟨rfl, rfl⟩ (by kernel_rfl) rfl plain (by kernel_rfl)
#print axioms card
end PartsProductC
end Go.Proofs.YthcccdjfedbnfaaGreatDoor.Limb
