/-
  The law PartsBack: whatever it is handed, it returns true, and what it was handed reads behind the call as it read before; the card ties the listed tables to the program's text.
-/
import Derived.Test.YthcccdjfedbnfaaGreatDoorPkL
import Derived.Test.YthcccdjfedbnfaaGreatDoorCards
import Derived.Test.YthcccdjfedbnfaaGreatDoorTie
import Derived.Lay
import Derived.MakeChecks
import Derived.Stop.LaidErr
import Derived.Deep.DeepWitnessRowRef
import Derived.WalkKit
import Derived.ProofKit
import Derived.OpenShut
import Derived.Deep.DeepHandedRow
import Derived.Lib.LaidTab
set_option linter.unusedSimpArgs false
set_option linter.unusedVariables false
namespace Go.Proofs.YthcccdjfedbnfaaGreatDoor.Pol
open Go.RowKit Go.Sort Go.Proofs.YthcccdjfedbnfaaGreatDoor.Limb
set_option maxRecDepth 100000 in
set_option maxHeartbeats 16000000 in
theorem partsBack_law (x1 : PV) (L1 : List TO) (w : World) (htab : Tab w) (h1 : RawQ w x1 L1) :
  Calls Tryz.prog 6 #[.slice x1.a x1.n x1.c] w fun e w' => e = .returned (.bool true) ∧ Below w.heap.size w w' := by
 have HT := Lib.hid htab
 have KG := Lib.hid (Below.refl w.heap.size w)
 have N1 := Lib.hid h1
 have Wx1 := Lib.hid (show ∀ e ∈ L1, e.1.m.le 65535 from fun e he => h1.2.2.2.2 e he)
 clear htab h1
 go_enter Tryz.func6, Tryz.ntmps6
 go_wp2_with fail
 have CT := Lib.hid (palive7 w (HT.out.on KG.out))
 with_reducible refine CT.out.mono ?_
 rintro e w1 ⟨rfl, hb⟩
 clear CT
 have KG := Lib.hid (KG.out.trans (hb.mono KG.out.size))
 clear hb
 go_wp2_with fail
 obtain ⟨v3, hV⟩ : ∃ V, V = w1.alloc (.cells #[.slice x1.a x1.n x1.c] 23) := ⟨_, rfl⟩
 have hbV : Below w1.heap.size w1 v3 := by rw [hV]; exact ((Below.refl _ _).alloc (Nat.le_refl _) _)
 have BX2 := Lib.hid (show Bxs v3 (w1.heap.size) 23 [.slice x1.a x1.n x1.c] by have h := Bxs.new (w1) 23 [.slice x1.a x1.n x1.c]; rw [hV]; exact h)
 rw [show w1.alloc (.cells #[.slice x1.a x1.n x1.c] 23) = v3 from hV.symm]
 have KG := Lib.hid (KG.out.trans (hbV.mono KG.out.size))
 clear hV hbV
 have CT := Lib.hid (show Calls Tryz.prog 9 #[.int .i64 30, .slice (some ⟨w1.heap.size, 0, none⟩) 1 1] v3 _ from great1P (m := 30) BX2.out (N1.out.below KG.out) (by decide))
 with_reducible refine CT.out.mono ?_
 rintro e w4 ⟨b5, rfl, hn, hb⟩
 clear CT
 clear BX2
 have KG := Lib.hid (KG.out.trans (hb.mono KG.out.size))
 clear hb
 rcases Bool.eq_false_or_eq_true b5 with rfl | rfl
 ·clear hn
  go_wp2_with fail
  have CT := Lib.hid (palive7 w4 (HT.out.on KG.out))
  with_reducible refine CT.out.mono ?_
  rintro e w6 ⟨rfl, hb⟩
  clear CT
  have KG := Lib.hid (KG.out.trans (hb.mono KG.out.size))
  clear hb
  go_wp2_with fail
  go_ret
  exact ⟨rfl, KG.out⟩
 have g0 := hn rfl
 have Gx1 := Lib.hid g0
 clear hn g0
 rcases raw_cases3 N1.out Gx1.out Wx1.out with hbad | ⟨P1, hk, hc, hz⟩ | ⟨P1, hk, hc, hz⟩
 ·have Bx1 := Lib.hid hbad
  clear hbad
  go_wp2_with fail
  obtain ⟨q7, hq7⟩ : ∃ z : Rat, z = (0 : Rat) := ⟨_, rfl⟩
  have Hq7 := Lib.hid hq7
  have LQq7 := Lib.hid (show LQ q7 1 by rw [hq7]; exact LS.zero.lq (by decide) (by decide))
  clear hq7
  have CT := Lib.hid (content_0B x1 w4 (Bx1.out.below KG.out) (Nat.le_trans (BP.n_le N1.out Gx1.out) (by decide)))
  rw [show (0 : Rat) = q7 from Hq7.out.symm] at CT
  with_reducible refine CT.out.mono ?_
  rintro e w8 ⟨x9, rfl, hN10, hb⟩
  have N10 := Lib.hid hN10
  clear hN10
  clear CT
  have KG := Lib.hid (KG.out.trans (hb.mono KG.out.size))
  clear hb
  go_upto_region 4 with (fail)
  obtain ⟨v12, hV⟩ : ∃ V, V = w8.alloc (.cells #[.bool x9.t.s, .slice x9.t.a x9.t.n x9.t.c, .bool x9.l.s, .slice x9.l.a x9.l.n x9.l.c] 28) := ⟨_, rfl⟩
  have hbV : Below w8.heap.size w8 v12 := by rw [hV]; exact ((Below.refl _ _).alloc (Nat.le_refl _) _)
  have BX11 := Lib.hid (show Bxs v12 (w8.heap.size) 28 [.bool x9.t.s, .slice x9.t.a x9.t.n x9.t.c, .bool x9.l.s, .slice x9.l.a x9.l.n x9.l.c] by have h := Bxs.new (w8) 28 [.bool x9.t.s, .slice x9.t.a x9.t.n x9.t.c, .bool x9.l.s, .slice x9.l.a x9.l.n x9.l.c]; rw [hV]; exact h)
  rw [show w8.alloc (.cells #[.bool x9.t.s, .slice x9.t.a x9.t.n x9.t.c, .bool x9.l.s, .slice x9.l.a x9.l.n x9.l.c] 28) = v12 from hV.symm]
  have N10 := Lib.hid (N10.out.below hbV)
  have KG := Lib.hid (KG.out.trans (hbV.mono KG.out.size))
  clear hV hbV
  go_wp2_with fail
  have CT := Lib.hid (pprim_n (x := x1) (Or.inr ⟨(Bx1.out.below KG.out), rfl⟩) (Nat.le_trans (BP.n_le N1.out Gx1.out) (by decide)))
  with_reducible refine CT.out.mono ?_
  rintro e w13 ⟨a14, c15, rfl, hb⟩
  clear CT
  have N10 := Lib.hid (N10.out.below hb)
  have BX11 := Lib.hid (BX11.out.below hb BX11.out.lt)
  have KG := Lib.hid (KG.out.trans (hb.mono KG.out.size))
  clear hb
  go_wp2_with fail
  have CT := Lib.hid (check_b (Bx1.out.below KG.out) (Nat.le_trans (BP.n_le N1.out Gx1.out) (by decide)))
  with_reducible refine CT.out.mono ?_
  rintro e w16 ⟨rfl, hb⟩
  clear CT
  have N10 := Lib.hid (N10.out.below hb)
  have BX11 := Lib.hid (BX11.out.below hb BX11.out.lt)
  have KG := Lib.hid (KG.out.trans (hb.mono KG.out.size))
  clear hb
  have cBX110 := BX11.out.cell (i := 0) rfl
  have cBX111 := BX11.out.cell (i := 1) rfl
  have cBX112 := BX11.out.cell (i := 2) rfl
  have cBX113 := BX11.out.cell (i := 3) rfl
  have cBX11f := BX11.out.fz
  have cBX11l := BX11.out.lt
  go_wp2_with fail
  have CT := Lib.hid (qcheck (N10.out).k (((N10.out).k).len LQq7.out (by decide : _ ≤ 900000)))
  with_reducible refine CT.out.mono ?_
  rintro e w17 ⟨rfl, hb⟩
  clear CT
  clear cBX110 cBX111 cBX112 cBX113 cBX11f cBX11l
  have N10 := Lib.hid (N10.out.below hb)
  have BX11 := Lib.hid (BX11.out.below hb BX11.out.lt)
  have KG := Lib.hid (KG.out.trans (hb.mono KG.out.size))
  clear hb
  have cBX110 := BX11.out.cell (i := 0) rfl
  have cBX111 := BX11.out.cell (i := 1) rfl
  have cBX112 := BX11.out.cell (i := 2) rfl
  have cBX113 := BX11.out.cell (i := 3) rfl
  have cBX11f := BX11.out.fz
  have cBX11l := BX11.out.lt
  go_wp2_with fail
  have CT := Lib.hid (qsign (N10.out).k.any (((N10.out).k).len LQq7.out (by decide : _ ≤ 900000)))
  rw [show cmpZ q7.num 0 = 0 from by simp only [Hq7.out]; decide +kernel] at CT
  with_reducible refine CT.out.mono ?_
  rintro e w18 ⟨rfl, hb⟩
  clear CT
  clear cBX110 cBX111 cBX112 cBX113 cBX11f cBX11l
  clear N10
  clear BX11
  have KG := Lib.hid (KG.out.trans (hb.mono KG.out.size))
  clear hb
  go_wp2_with fail
  go_ret
  exact ⟨rfl, KG.out⟩
 ·have Kx1 := Lib.hid hk
  have PCP1 := Lib.hid hc
  have E0 := Lib.hid hz
  have Zx1 : ((x1.n : Nat) : Int) = 0 := by rw [hk.len, hz]; rfl
  clear hk hc hz
  go_wp2_with fail
  obtain ⟨q19, hq19⟩ : ∃ z : Rat, z = contP P1 := ⟨_, rfl⟩
  have Hq19 := Lib.hid hq19
  have LQq19 := Lib.hid (show LQ q19 125 by rw [hq19]; exact PCP1.out.cont)
  clear hq19
  have CT := Lib.hid (pcontent (Kx1.out.below KG.out) PCP1.out (by decide) (by decide) (by decide))
  rw [show contP P1 = q19 from Hq19.out.symm] at CT
  with_reducible refine CT.out.mono ?_
  rintro e w20 ⟨x21, rfl, hN22, hb⟩
  have N22 := Lib.hid hN22
  clear hN22
  clear CT
  have KG := Lib.hid (KG.out.trans (hb.mono KG.out.size))
  clear hb
  go_upto_region 4 with (fail)
  obtain ⟨v24, hV⟩ : ∃ V, V = w20.alloc (.cells #[.bool x21.t.s, .slice x21.t.a x21.t.n x21.t.c, .bool x21.l.s, .slice x21.l.a x21.l.n x21.l.c] 28) := ⟨_, rfl⟩
  have hbV : Below w20.heap.size w20 v24 := by rw [hV]; exact ((Below.refl _ _).alloc (Nat.le_refl _) _)
  have BX23 := Lib.hid (show Bxs v24 (w20.heap.size) 28 [.bool x21.t.s, .slice x21.t.a x21.t.n x21.t.c, .bool x21.l.s, .slice x21.l.a x21.l.n x21.l.c] by have h := Bxs.new (w20) 28 [.bool x21.t.s, .slice x21.t.a x21.t.n x21.t.c, .bool x21.l.s, .slice x21.l.a x21.l.n x21.l.c]; rw [hV]; exact h)
  rw [show w20.alloc (.cells #[.bool x21.t.s, .slice x21.t.a x21.t.n x21.t.c, .bool x21.l.s, .slice x21.l.a x21.l.n x21.l.c] 28) = v24 from hV.symm]
  have N22 := Lib.hid (N22.out.below hbV)
  have KG := Lib.hid (KG.out.trans (hbV.mono KG.out.size))
  clear hV hbV
  go_wp2_with fail
  have CT := Lib.hid (pprim_n (x := x1) (E0.out ▸ ((Kx1.out.below KG.out)).any) (Nat.le_trans (KP.n_le (Kx1.out.below KG.out) PCP1.out) (by decide)))
  with_reducible refine CT.out.mono ?_
  rintro e w25 ⟨a26, c27, rfl, hb⟩
  clear CT
  have N22 := Lib.hid (N22.out.below hb)
  have BX23 := Lib.hid (BX23.out.below hb BX23.out.lt)
  have KG := Lib.hid (KG.out.trans (hb.mono KG.out.size))
  clear hb
  go_wp2_with fail
  have CT := Lib.hid (pcheck (Kx1.out.below KG.out) PCP1.out (by decide) (by decide))
  with_reducible refine CT.out.mono ?_
  rintro e w28 ⟨rfl, hb⟩
  clear CT
  have N22 := Lib.hid (N22.out.below hb)
  have BX23 := Lib.hid (BX23.out.below hb BX23.out.lt)
  have KG := Lib.hid (KG.out.trans (hb.mono KG.out.size))
  clear hb
  have cBX230 := BX23.out.cell (i := 0) rfl
  have cBX231 := BX23.out.cell (i := 1) rfl
  have cBX232 := BX23.out.cell (i := 2) rfl
  have cBX233 := BX23.out.cell (i := 3) rfl
  have cBX23f := BX23.out.fz
  have cBX23l := BX23.out.lt
  go_wp2_with fail
  have CT := Lib.hid (qcheck (N22.out).k (((N22.out).k).len LQq19.out (by decide : _ ≤ 900000)))
  with_reducible refine CT.out.mono ?_
  rintro e w29 ⟨rfl, hb⟩
  clear CT
  clear cBX230 cBX231 cBX232 cBX233 cBX23f cBX23l
  have N22 := Lib.hid (N22.out.below hb)
  have BX23 := Lib.hid (BX23.out.below hb BX23.out.lt)
  have KG := Lib.hid (KG.out.trans (hb.mono KG.out.size))
  clear hb
  have cBX230 := BX23.out.cell (i := 0) rfl
  have cBX231 := BX23.out.cell (i := 1) rfl
  have cBX232 := BX23.out.cell (i := 2) rfl
  have cBX233 := BX23.out.cell (i := 3) rfl
  have cBX23f := BX23.out.fz
  have cBX23l := BX23.out.lt
  go_wp2_with fail
  have CT := Lib.hid (qsign (N22.out).k.any (((N22.out).k).len LQq19.out (by decide : _ ≤ 900000)))
  rw [show cmpZ q19.num 0 = 0 from by simp only [Hq19.out]; rw [E0.out]; decide +kernel] at CT
  with_reducible refine CT.out.mono ?_
  rintro e w30 ⟨rfl, hb⟩
  clear CT
  clear cBX230 cBX231 cBX232 cBX233 cBX23f cBX23l
  clear N22
  clear BX23
  have KG := Lib.hid (KG.out.trans (hb.mono KG.out.size))
  clear hb
  go_wp2_with fail
  go_ret
  exact ⟨rfl, KG.out⟩
 have Kx1 := Lib.hid hk
 have PCP1 := Lib.hid hc
 have Zx1 : ((((x1.n : Nat) : Int)) == 0) = false := beq_eq_false_iff_ne.2 (by rw [hk.len]; have := List.length_pos_iff.2 hz; omega)
 have Ex1 := Lib.hid hz
 have HPR := Lib.hid (primP_is hc.c hz)
 clear hk hc hz
 go_wp2_with fail
 obtain ⟨q31, hq31⟩ : ∃ z : Rat, z = contP P1 := ⟨_, rfl⟩
 have Hq31 := Lib.hid hq31
 have LQq31 := Lib.hid (show LQ q31 125 by rw [hq31]; exact PCP1.out.cont)
 clear hq31
 have CT := Lib.hid (pcontent (Kx1.out.below KG.out) PCP1.out (by decide) (by decide) (by decide))
 rw [show contP P1 = q31 from Hq31.out.symm] at CT
 with_reducible refine CT.out.mono ?_
 rintro e w32 ⟨x33, rfl, hN34, hb⟩
 have N34 := Lib.hid hN34
 clear hN34
 clear CT
 have KG := Lib.hid (KG.out.trans (hb.mono KG.out.size))
 clear hb
 go_upto_region 4 with (fail)
 obtain ⟨v36, hV⟩ : ∃ V, V = w32.alloc (.cells #[.bool x33.t.s, .slice x33.t.a x33.t.n x33.t.c, .bool x33.l.s, .slice x33.l.a x33.l.n x33.l.c] 28) := ⟨_, rfl⟩
 have hbV : Below w32.heap.size w32 v36 := by rw [hV]; exact ((Below.refl _ _).alloc (Nat.le_refl _) _)
 have BX35 := Lib.hid (show Bxs v36 (w32.heap.size) 28 [.bool x33.t.s, .slice x33.t.a x33.t.n x33.t.c, .bool x33.l.s, .slice x33.l.a x33.l.n x33.l.c] by have h := Bxs.new (w32) 28 [.bool x33.t.s, .slice x33.t.a x33.t.n x33.t.c, .bool x33.l.s, .slice x33.l.a x33.l.n x33.l.c]; rw [hV]; exact h)
 rw [show w32.alloc (.cells #[.bool x33.t.s, .slice x33.t.a x33.t.n x33.t.c, .bool x33.l.s, .slice x33.l.a x33.l.n x33.l.c] 28) = v36 from hV.symm]
 have N34 := Lib.hid (N34.out.below hbV)
 have KG := Lib.hid (KG.out.trans (hbV.mono KG.out.size))
 clear hV hbV
 go_wp2_with fail
 obtain ⟨p37, hp37⟩ : ∃ z : List Tm, z = primP P1 := ⟨_, rfl⟩
 have Hp37 := Lib.hid hp37
 have PCp37 := Lib.hid (show PC p37 30 129 65535 by rw [hp37]; exact PCP1.out.prim (PCP1.out.cont))
 clear hp37
 have CT := Lib.hid (pprim (Kx1.out.below KG.out) PCP1.out (show LQ (contP P1) 125 from PCP1.out.cont) (by decide) (by decide) (by decide) (by decide) (by decide) (by decide))
 rw [show primP P1 = p37 from Hp37.out.symm] at CT
 with_reducible refine CT.out.mono ?_
 rintro e w38 ⟨z39, rfl, hN40, hb⟩
 have N40 := Lib.hid hN40
 clear hN40
 clear CT
 have N34 := Lib.hid (N34.out.below hb)
 have BX35 := Lib.hid (BX35.out.below hb BX35.out.lt)
 have KG := Lib.hid (KG.out.trans (hb.mono KG.out.size))
 clear hb
 go_wp2_with fail
 have CT := Lib.hid (pcheck (Kx1.out.below KG.out) PCP1.out (by decide) (by decide))
 with_reducible refine CT.out.mono ?_
 rintro e w41 ⟨rfl, hb⟩
 clear CT
 have N34 := Lib.hid (N34.out.below hb)
 have N40 := Lib.hid (N40.out.below hb)
 have BX35 := Lib.hid (BX35.out.below hb BX35.out.lt)
 have KG := Lib.hid (KG.out.trans (hb.mono KG.out.size))
 clear hb
 have cBX350 := BX35.out.cell (i := 0) rfl
 have cBX351 := BX35.out.cell (i := 1) rfl
 have cBX352 := BX35.out.cell (i := 2) rfl
 have cBX353 := BX35.out.cell (i := 3) rfl
 have cBX35f := BX35.out.fz
 have cBX35l := BX35.out.lt
 go_wp2_with fail
 have CT := Lib.hid (qcheck (N34.out).k (((N34.out).k).len LQq31.out (by decide : _ ≤ 900000)))
 with_reducible refine CT.out.mono ?_
 rintro e w42 ⟨rfl, hb⟩
 clear CT
 clear cBX350 cBX351 cBX352 cBX353 cBX35f cBX35l
 have N34 := Lib.hid (N34.out.below hb)
 have N40 := Lib.hid (N40.out.below hb)
 have BX35 := Lib.hid (BX35.out.below hb BX35.out.lt)
 have KG := Lib.hid (KG.out.trans (hb.mono KG.out.size))
 clear hb
 have cBX350 := BX35.out.cell (i := 0) rfl
 have cBX351 := BX35.out.cell (i := 1) rfl
 have cBX352 := BX35.out.cell (i := 2) rfl
 have cBX353 := BX35.out.cell (i := 3) rfl
 have cBX35f := BX35.out.fz
 have cBX35l := BX35.out.lt
 go_wp2_with fail
 obtain ⟨p43, hp43⟩ : ∃ z : List Tm, z = scaleP q31 p37 := ⟨_, rfl⟩
 have Hp43 := Lib.hid hp43
 have PCp43 := Lib.hid (show PC p43 30 254 65535 by rw [hp43]; exact PCp37.out.scale LQq31.out)
 clear hp43
 have CT := Lib.hid (pscale N40.out.k PCp37.out (N34.out).k.any (((N34.out).k).len LQq31.out (by decide : _ ≤ 900000)) LQq31.out (by decide) (by decide) (by decide) (by decide))
 rw [show scaleP q31 p37 = p43 from Hp43.out.symm] at CT
 with_reducible refine CT.out.mono ?_
 rintro e w44 ⟨z45, rfl, hN46, hb⟩
 have N46 := Lib.hid hN46
 clear hN46
 clear CT
 clear cBX350 cBX351 cBX352 cBX353 cBX35f cBX35l
 clear N34
 have N40 := Lib.hid (N40.out.below hb)
 clear BX35
 have KG := Lib.hid (KG.out.trans (hb.mono KG.out.size))
 clear hb
 go_wp2_with fail
 have CT := Lib.hid (psame7 N46.out.k (Kx1.out.below KG.out) (by simp only [Hp43.out, Hp37.out, Hq31.out]; exact HPR.out.2.2.symm) PCp43.out (by decide) (by decide))
 with_reducible refine CT.out.mono ?_
 rintro e w47 ⟨rfl, hb⟩
 clear CT
 have N40 := Lib.hid (N40.out.below hb)
 clear N46
 have KG := Lib.hid (KG.out.trans (hb.mono KG.out.size))
 clear hb
 go_wp2_with fail
 have CT := Lib.hid (pprime N40.out.k PCp37.out (by simp only [Hp43.out, Hp37.out, Hq31.out]; exact HPR.out.1) (by decide) (by decide))
 with_reducible refine CT.out.mono ?_
 rintro e w48 ⟨rfl, hb⟩
 clear CT
 have N40 := Lib.hid (N40.out.below hb)
 have KG := Lib.hid (KG.out.trans (hb.mono KG.out.size))
 clear hb
 go_wp2_with fail
 obtain ⟨q49, hq49⟩ : ∃ z : Rat, z = contP p37 := ⟨_, rfl⟩
 have Hq49 := Lib.hid hq49
 have LQq49 := Lib.hid (show LQ q49 4000 by rw [hq49]; exact PCp37.out.cont)
 clear hq49
 have CT := Lib.hid (pcontent N40.out.k PCp37.out (by decide) (by decide) (by decide))
 rw [show contP p37 = q49 from Hq49.out.symm] at CT
 with_reducible refine CT.out.mono ?_
 rintro e w50 ⟨x51, rfl, hN52, hb⟩
 have N52 := Lib.hid hN52
 clear hN52
 clear CT
 have N40 := Lib.hid (N40.out.below hb)
 have KG := Lib.hid (KG.out.trans (hb.mono KG.out.size))
 clear hb
 go_wp2_with fail
 obtain ⟨q53, hq53⟩ : ∃ z : Rat, z = ((1 : Int) : Rat) := ⟨_, rfl⟩
 have Hq53 := Lib.hid hq53
 have LQq53 := Lib.hid (show LQ q53 3 by rw [hq53]; exact LQ.int (by decide) (by decide))
 clear hq53
 have CT := Lib.hid (qof 1 w50 (by decide) (by decide))
 rw [show ((1 : Int) : Rat) = q53 from Hq53.out.symm] at CT
 with_reducible refine CT.out.mono ?_
 rintro e w54 ⟨x55, rfl, hN56, hb⟩
 have N56 := Lib.hid hN56
 clear hN56
 clear CT
 have N40 := Lib.hid (N40.out.below hb)
 have N52 := Lib.hid (N52.out.below hb)
 have KG := Lib.hid (KG.out.trans (hb.mono KG.out.size))
 clear hb
 go_wp2_with fail
 have CT := Lib.hid (qcmp (N52.out).k.any (((N52.out).k).len LQq49.out (by decide : _ ≤ 900000)) (N56.out).k.any (((N56.out).k).len LQq53.out (by decide : _ ≤ 900000)))
 rw [show cmpQ q49 q53 = 0 from by simp only [Hq53.out, Hq49.out, Hp43.out, Hp37.out, Hq31.out]; rw [contP_prm HPR.out.2.1 HPR.out.1]; decide +kernel] at CT
 with_reducible refine CT.out.mono ?_
 rintro e w57 ⟨rfl, hb⟩
 clear CT
 have N40 := Lib.hid (N40.out.below hb)
 clear N52
 clear N56
 have KG := Lib.hid (KG.out.trans (hb.mono KG.out.size))
 clear hb
 go_wp2_with fail
 obtain ⟨p58, hp58⟩ : ∃ z : List Tm, z = primP p37 := ⟨_, rfl⟩
 have Hp58 := Lib.hid hp58
 have PCp58 := Lib.hid (show PC p58 30 4129 65535 by rw [hp58]; exact PCp37.out.prim (PCp37.out.cont))
 clear hp58
 have CT := Lib.hid (pprim N40.out.k PCp37.out (show LQ (contP p37) 4000 from PCp37.out.cont) (by decide) (by decide) (by decide) (by decide) (by decide) (by decide))
 rw [show primP p37 = p58 from Hp58.out.symm] at CT
 with_reducible refine CT.out.mono ?_
 rintro e w59 ⟨z60, rfl, hN61, hb⟩
 have N61 := Lib.hid hN61
 clear hN61
 clear CT
 have N40 := Lib.hid (N40.out.below hb)
 have KG := Lib.hid (KG.out.trans (hb.mono KG.out.size))
 clear hb
 go_wp2_with fail
 have CT := Lib.hid (psame7 N61.out.k N40.out.k (by simp only [Hp58.out, Hq53.out, Hq49.out, Hp43.out, Hp37.out, Hq31.out]; exact primP_prm HPR.out.2.1 HPR.out.1) PCp58.out (by decide) (by decide))
 with_reducible refine CT.out.mono ?_
 rintro e w62 ⟨rfl, hb⟩
 clear CT
 clear N40
 clear N61
 have KG := Lib.hid (KG.out.trans (hb.mono KG.out.size))
 clear hb
 go_wp2_with fail
 go_ret
 exact ⟨rfl, KG.out⟩
end Go.Proofs.YthcccdjfedbnfaaGreatDoor.Pol
namespace Go.Proofs.YthcccdjfedbnfaaGreatDoor.Limb
open Go.RowKit Go.Sort Go.Proofs.YthcccdjfedbnfaaGreatDoor.Pol
open Go.ChangeShapes Go.WideShapes Go.ChangeAt
namespace PartsBackC
theorem own : ownKnob Tryz.prog.godebug = none := by kernel_rfl
theorem laidOut : laidOutB Tryz.prog = true := by kernel_rfl
theorem tab_of_laid (W : World) (hL : laidMet Tryz.prog Rows.partsBackRow.laid W) : Tab W :=
 Lib.tabIs_of_head (g := 1) (by kernel_rfl) (by kernel_rfl) (t := 235) (n := 20) (e := 118) Tryz.underlying235 Tryz.underlying118 (by kernel_rfl) (by kernel_rfl) hL.tail.tail
noncomputable def laidWorld (os : Os) : World := World.laidAll Tryz.prog os Rows.partsBackRow.laid
noncomputable def witArgs : Array Value := #[.slice none 0 0]
theorem laid_met (os : Os) : laidMet Tryz.prog Rows.partsBackRow.laid ((laidWorld os).forCall (fun _ _ => 0) ⟨#[], witArgs, []⟩).memory :=
 laidMet_laidAll _ (by kernel_rfl) (by kernel_rfl)
theorem reads (os : Os) {H : Type} (enc : TypeId × Value → H) : ∃ places, DataW.whole enc Tryz.prog ((laidWorld os).forCall (fun _ _ => 0) ⟨#[], witArgs, []⟩).memory Tryz.f6.params.toList Rows.partsBackSpec.vars false witArgs.toList 8 = some ([.nil], [], places) :=
 ⟨[], by kernel_rfl⟩
set_option maxRecDepth 100000 in
theorem lifted (os : Os) (started : os.Started) (H : Type) (enc : TypeId × Value → H) (F : Stop.Interp) :
  ReturnsInHanded {} Tryz.checked os 6 .any ((OpenSpec.ofChange Rows.partsBackSpec).preRow enc Tryz.prog Tryz.f6 Rows.partsBackRow.domain false Rows.partsBackRow.laid) (((OpenSpec.ofChange Rows.partsBackSpec).at F).post enc Tryz.prog Tryz.f6 false true false false) := by
 obtain ⟨places, hx⟩ := reads os enc
 refine returnsInHanded_of_row (C := Tryz.checked) (s := OpenSpec.ofChange Rows.partsBackSpec) own started (by kernel_rfl) Tryz.func6
  (witness_row_atRef (enc := enc) (C := Tryz.checked) false (laidWorld os) witArgs (World.laidAll_os _ _ _) (by kernel_rfl) (by kernel_rfl) (by kernel_rfl)
   (OpenSpec.preRow_of_cond 8 hx (by kernel_rfl) (fun k hk => by cases hk) (by kernel_rfl) (laid_met os))) ?_
 intro W base args ds gs before hval0 hW _ _ _ hL _ _
 rw [MakeChecks.laidMetH_plain _ _ _ (by kernel_rfl)] at hL
 have htab : Tab W := tab_of_laid W hL
 have hval : ∀ (j : Nat) t v, Tryz.f6.params[j]? = some t → args[j]? = some v → Value.okWide Tryz.prog W .any base t v := hval0
 have hW' := hW
 obtain ⟨p, q, hA0, hV, rfl, hfz, hnd⟩ := hW
 have hA : DataW.TrodAll enc Tryz.prog W 0 (fun _ => true) true Tryz.f6.params.toList args.toList ds p := hA0
 rw [Tryz.params6] at hA hval
 obtain ⟨v0, d0, rfl, rfl, h0⟩ := trodAll_one hA
 obtain ⟨rfl, rfl⟩ := trodVars_none hV
 obtain ⟨x0, L0, rfl, r0⟩ := open_poly (hval 0 23 v0 rfl rfl) h0
 refine (partsBack_law x0 L0 W htab r0).mono fun e W' ⟨he, hg⟩ => ?_
 subst he
 exact ⟨_, rfl, LawPost.law_post laidOut (by kernel_rfl) (by kernel_rfl) Tryz.underlying4 hW' rfl rfl hg⟩
theorem said : Rows.PartsBackSaid :=
 OpenClaim.holds_of_cond 6 Tryz.f6 rfl rfl rfl rfl rfl rfl rfl ⟨rfl, rfl, rfl, rfl, rfl⟩ rfl rfl rfl rfl rfl (by kernel_rfl) Tryz.func6 (by kernel_rfl)
  (of_decide_eq_true (by kernel_rfl)) (by unfold Func.isWrapper; first | (rw [if_pos (by decide +kernel)]; kernel_rfl) | (rw [if_neg (by decide +kernel)]; exact ⟨rfl, rfl⟩))
  (fun os started H enc _ F => by rw [OpenClaim.pre_eq_preRow]; exact lifted os started H enc F)
theorem plain (f : FuncId) (fn : Func) (hf : Tryz.pinned.checked.prog.funcNamed "reckoner/reckonerlaw07.PartsBack" = some f) (hfn : Tryz.pinned.checked.prog.funcs[f]? = some fn) :
  true = Tryz.pinned.checked.prog.looks [] ∧ ∀ (j : Nat) t, fn.params[j]? = some t → Tryz.pinned.checked.prog.wantsStandIn t = false := by
 obtain rfl : f = 6 := Option.some.inj ((show Tryz.prog.funcNamed "reckoner/reckonerlaw07.PartsBack" = some 6 by kernel_rfl).symm.trans hf) |>.symm
 obtain rfl : fn = Tryz.f6 := (Option.some.inj (Tryz.func6.symm.trans hfn)).symm
 refine ⟨by kernel_rfl, fun j t ht => ?_⟩
 rw [Tryz.params6] at ht
 obtain rfl : t = 23 := by simpa using Array.mem_of_getElem? ht
 exact (show Tryz.prog.wantsStandIn 23 = false by kernel_rfl)
theorem card : Rows.PartsBackCardSaid :=
 Claim7.holds_tied_plain_at .later [] _ _ _ _ said (fun _ h => by cases h) (by kernel_rfl) (fun _ h => by cases h) partsBack_row_tie rfl ⟨rfl, rfl⟩ (by kernel_rfl) rfl plain (by kernel_rfl)
#print axioms card
end PartsBackC
end Go.Proofs.YthcccdjfedbnfaaGreatDoor.Limb
