/-
  The law PartsOne: whatever it is handed, it returns true, and what it was handed reads behind the call as it read before; the card ties the listed tables to the program's text.
-/
import Derived.Test.YthcccdjfedbnfaaGreatDoorPkL
import Derived.Test.YthcccdjfedbnfaaGreatDoorCards
import Derived.Test.YthcccdjfedbnfaaGreatDoorTie
import Derived.Lay
import Derived.MakeChecks
import Derived.Stop.LaidErr
import Derived.Deep.DeepWitnessRowRef
import Derived.WalkKit
import Derived.ProofKit
import Derived.OpenShut
import Derived.Deep.DeepHandedRow
import Derived.Lib.LaidTab
set_option linter.unusedSimpArgs false
set_option linter.unusedVariables false
namespace Go.Proofs.YthcccdjfedbnfaaGreatDoor.Pol
open Go.RowKit Go.Sort Go.Proofs.YthcccdjfedbnfaaGreatDoor.Limb
set_option maxRecDepth 100000 in
set_option maxHeartbeats 16000000 in
theorem partsOne_law (o : Int) (x2 : PV) (L2 : List TO) (x3 : FV) (w : World) (htab : Tab w)  (h2 : RawQ w x2 L2) (hc : AQ w x3) :
  Calls Tryz.prog 5 #[.int .u8 o, .slice x2.a x2.n x2.c, .agg #[.bool x3.t.s, .slice x3.t.a x3.t.n x3.t.c, .bool x3.l.s, .slice x3.l.a x3.l.n x3.l.c]] w fun e w' => e = .returned (.bool true) ∧ Below w.heap.size w w' := by
 have HT := Lib.hid htab
 have KG := Lib.hid (Below.refl w.heap.size w)
 have N2 := Lib.hid h2
 obtain ⟨qc, hqc⟩ := hc.af
 have NC := Lib.hid hqc
 have HTc := Lib.hid hc.t
 have HLc := Lib.hid hc.l
 clear hqc hc
 have Wx2 := Lib.hid (show ∀ e ∈ L2, e.1.m.le 65535 from fun e he => h2.2.2.2.2 e he)
 clear htab h2
 go_enter Tryz.func5, Tryz.ntmps5
 go_upto_region 1 with (fail)
 obtain ⟨v2, hV⟩ : ∃ V, V = w.alloc (.cells #[.bool x3.t.s, .slice x3.t.a x3.t.n x3.t.c, .bool x3.l.s, .slice x3.l.a x3.l.n x3.l.c] 28) := ⟨_, rfl⟩
 have hbV : Below w.heap.size w v2 := by rw [hV]; exact ((Below.refl _ _).alloc (Nat.le_refl _) _)
 have BX1 := Lib.hid (show Bxs v2 (w.heap.size) 28 [.bool x3.t.s, .slice x3.t.a x3.t.n x3.t.c, .bool x3.l.s, .slice x3.l.a x3.l.n x3.l.c] by have h := Bxs.new (w) 28 [.bool x3.t.s, .slice x3.t.a x3.t.n x3.t.c, .bool x3.l.s, .slice x3.l.a x3.l.n x3.l.c]; rw [hV]; exact h)
 rw [show w.alloc (.cells #[.bool x3.t.s, .slice x3.t.a x3.t.n x3.t.c, .bool x3.l.s, .slice x3.l.a x3.l.n x3.l.c] 28) = v2 from hV.symm]
 have KG := Lib.hid (KG.out.trans (hbV.mono KG.out.size))
 clear hV hbV
 go_wp2_with fail
 have CT := Lib.hid (palive7 v2 (HT.out.on KG.out))
 with_reducible refine CT.out.mono ?_
 rintro e w3 ⟨rfl, hb⟩
 clear CT
 have BX1 := Lib.hid (BX1.out.below hb BX1.out.lt)
 have KG := Lib.hid (KG.out.trans (hb.mono KG.out.size))
 clear hb
 go_wp2_with fail
 obtain ⟨v5, hV⟩ : ∃ V, V = w3.alloc (.cells #[.slice x2.a x2.n x2.c] 23) := ⟨_, rfl⟩
 have hbV : Below w3.heap.size w3 v5 := by rw [hV]; exact ((Below.refl _ _).alloc (Nat.le_refl _) _)
 have BX4 := Lib.hid (show Bxs v5 (w3.heap.size) 23 [.slice x2.a x2.n x2.c] by have h := Bxs.new (w3) 23 [.slice x2.a x2.n x2.c]; rw [hV]; exact h)
 rw [show w3.alloc (.cells #[.slice x2.a x2.n x2.c] 23) = v5 from hV.symm]
 have BX1 := Lib.hid (BX1.out.below hbV BX1.out.lt)
 have KG := Lib.hid (KG.out.trans (hbV.mono KG.out.size))
 clear hV hbV
 have CT := Lib.hid (show Calls Tryz.prog 9 #[.int .i64 25, .slice (some ⟨w3.heap.size, 0, none⟩) 1 1] v5 _ from great1P (m := 25) BX4.out (N2.out.below KG.out) (by decide))
 with_reducible refine CT.out.mono ?_
 rintro e w6 ⟨b7, rfl, hn, hb⟩
 clear CT
 have BX1 := Lib.hid (BX1.out.below hb BX1.out.lt)
 clear BX4
 have KG := Lib.hid (KG.out.trans (hb.mono KG.out.size))
 clear hb
 rcases Bool.eq_false_or_eq_true b7 with rfl | rfl
 ·clear hn
  go_wp2_with fail
  have CT := Lib.hid (palive7 w6 (HT.out.on KG.out))
  with_reducible refine CT.out.mono ?_
  rintro e w8 ⟨rfl, hb⟩
  clear CT
  have BX1 := Lib.hid (BX1.out.below hb BX1.out.lt)
  have KG := Lib.hid (KG.out.trans (hb.mono KG.out.size))
  clear hb
  go_wp2_with fail
  go_ret
  exact ⟨rfl, KG.out⟩
 have g0 := hn rfl
 have Gx2 := Lib.hid g0
 clear hn g0
 have cBX10 := BX1.out.cell (i := 0) rfl
 have cBX11 := BX1.out.cell (i := 1) rfl
 have cBX12 := BX1.out.cell (i := 2) rfl
 have cBX13 := BX1.out.cell (i := 3) rfl
 have cBX1f := BX1.out.fz
 have cBX1l := BX1.out.lt
 go_wp2_with fail
 have CT := Lib.hid (frac_sizeX x3 w6 HTc.out HLc.out)
 with_reducible refine CT.out.mono ?_
 rintro e w9 ⟨z10, rfl, hz, hb⟩
 clear CT
 clear cBX10 cBX11 cBX12 cBX13 cBX1f cBX1l
 have BX1 := Lib.hid (BX1.out.below hb BX1.out.lt)
 have KG := Lib.hid (KG.out.trans (hb.mono KG.out.size))
 clear hb
 by_cases h20 : z10 > 30
 ·have h20b : 30 < z10 := h20
  clear hz
  go_wp2_with fail
  have CT := Lib.hid (palive7 w9 (HT.out.on KG.out))
  with_reducible refine CT.out.mono ?_
  rintro e w11 ⟨rfl, hb⟩
  clear CT
  have BX1 := Lib.hid (BX1.out.below hb BX1.out.lt)
  have KG := Lib.hid (KG.out.trans (hb.mono KG.out.size))
  clear hb
  go_wp2_with fail
  go_ret
  exact ⟨rfl, KG.out⟩
 have h20b : ¬ (30 < z10) := h20
 have Bx3 := Lib.hid (show LF x3 30 from by obtain ⟨g1, g2⟩ := hz.is (by omega); have := hz.lo; exact ⟨by omega, by omega⟩)
 clear hz h20
 rcases raw_cases3 N2.out Gx2.out Wx2.out with hbad | ⟨P2, hk, hc, hz⟩ | ⟨P2, hk, hc, hz⟩
 ·have Bx2 := Lib.hid hbad
  clear hbad
  go_wp2_with fail
  have CT := Lib.hid (check_b (Bx2.out.below KG.out) (Nat.le_trans (BP.n_le N2.out Gx2.out) (by decide)))
  with_reducible refine CT.out.mono ?_
  rintro e w12 ⟨rfl, hb⟩
  clear CT
  have BX1 := Lib.hid (BX1.out.below hb BX1.out.lt)
  have KG := Lib.hid (KG.out.trans (hb.mono KG.out.size))
  clear hb
  go_wp2_with fail
  have CT := Lib.hid (palive7 w12 (HT.out.on KG.out))
  with_reducible refine CT.out.mono ?_
  rintro e w13 ⟨rfl, hb⟩
  clear CT
  have BX1 := Lib.hid (BX1.out.below hb BX1.out.lt)
  have KG := Lib.hid (KG.out.trans (hb.mono KG.out.size))
  clear hb
  go_wp2_with fail
  go_ret
  exact ⟨rfl, KG.out⟩
 ·have Kx2 := Lib.hid hk
  have PCP2 := Lib.hid hc
  have E0 := Lib.hid hz
  have Zx2 : ((x2.n : Nat) : Int) = 0 := by rw [hk.len, hz]; rfl
  clear hk hc hz
  go_wp2_with fail
  have CT := Lib.hid (pcheck (Kx2.out.below KG.out) PCP2.out (by decide) (by decide))
  with_reducible refine CT.out.mono ?_
  rintro e w14 ⟨rfl, hb⟩
  clear CT
  have BX1 := Lib.hid (BX1.out.below hb BX1.out.lt)
  have KG := Lib.hid (KG.out.trans (hb.mono KG.out.size))
  clear hb
  rcases (AF.cases NC.out).symm with ⟨hbad, _⟩ | hk
  ·have Bc := Lib.hid hbad
   clear hbad
   have cBX10 := BX1.out.cell (i := 0) rfl
   have cBX11 := BX1.out.cell (i := 1) rfl
   have cBX12 := BX1.out.cell (i := 2) rfl
   have cBX13 := BX1.out.cell (i := 3) rfl
   have cBX1f := BX1.out.fz
   have cBX1l := BX1.out.lt
   go_wp2_with fail
   have CT := Lib.hid (qcheckB (Bc.out.below KG.out) (LF.up Bx3.out (by decide : _ ≤ 900000)))
   with_reducible refine CT.out.mono ?_
   rintro e w15 ⟨rfl, hb⟩
   clear CT
   clear cBX10 cBX11 cBX12 cBX13 cBX1f cBX1l
   have BX1 := Lib.hid (BX1.out.below hb BX1.out.lt)
   have KG := Lib.hid (KG.out.trans (hb.mono KG.out.size))
   clear hb
   go_wp2_with fail
   have CT := Lib.hid (palive7 w15 (HT.out.on KG.out))
   with_reducible refine CT.out.mono ?_
   rintro e w16 ⟨rfl, hb⟩
   clear CT
   have BX1 := Lib.hid (BX1.out.below hb BX1.out.lt)
   have KG := Lib.hid (KG.out.trans (hb.mono KG.out.size))
   clear hb
   go_wp2_with fail
   go_ret
   exact ⟨rfl, KG.out⟩
  have Kc := Lib.hid hk
  have LQqc := Lib.hid (hk.lq Bx3.out)
  clear hk
  have cBX10 := BX1.out.cell (i := 0) rfl
  have cBX11 := BX1.out.cell (i := 1) rfl
  have cBX12 := BX1.out.cell (i := 2) rfl
  have cBX13 := BX1.out.cell (i := 3) rfl
  have cBX1f := BX1.out.fz
  have cBX1l := BX1.out.lt
  go_wp2_with fail
  have CT := Lib.hid (qcheck (Kc.out.below KG.out) (((Kc.out.below KG.out)).len LQqc.out (by decide : _ ≤ 900000)))
  with_reducible refine CT.out.mono ?_
  rintro e w17 ⟨rfl, hb⟩
  clear CT
  clear cBX10 cBX11 cBX12 cBX13 cBX1f cBX1l
  have BX1 := Lib.hid (BX1.out.below hb BX1.out.lt)
  have KG := Lib.hid (KG.out.trans (hb.mono KG.out.size))
  clear hb
  by_cases hq0 : qc = 0
  ·have HQ0 := Lib.hid hq0
   clear hq0
   have cBX10 := BX1.out.cell (i := 0) rfl
   have cBX11 := BX1.out.cell (i := 1) rfl
   have cBX12 := BX1.out.cell (i := 2) rfl
   have cBX13 := BX1.out.cell (i := 3) rfl
   have cBX1f := BX1.out.fz
   have cBX1l := BX1.out.lt
   go_wp2_with fail
   have CT := Lib.hid (qsign ((Kc.out.below KG.out)).any (((Kc.out.below KG.out)).len LQqc.out (by decide : _ ≤ 900000)))
   rw [show cmpZ qc.num 0 = 0 from by rw [HQ0.out]; decide +kernel] at CT
   with_reducible refine CT.out.mono ?_
   rintro e w18 ⟨rfl, hb⟩
   clear CT
   clear cBX10 cBX11 cBX12 cBX13 cBX1f cBX1l
   have BX1 := Lib.hid (BX1.out.below hb BX1.out.lt)
   have KG := Lib.hid (KG.out.trans (hb.mono KG.out.size))
   clear hb
   go_wp2_with fail
   have CT := Lib.hid (palive7 w18 (HT.out.on KG.out))
   with_reducible refine CT.out.mono ?_
   rintro e w19 ⟨rfl, hb⟩
   clear CT
   have BX1 := Lib.hid (BX1.out.below hb BX1.out.lt)
   have KG := Lib.hid (KG.out.trans (hb.mono KG.out.size))
   clear hb
   go_wp2_with fail
   go_ret
   exact ⟨rfl, KG.out⟩
  have HQ0 := Lib.hid hq0
  obtain ⟨sg, hsg⟩ : ∃ z, z = cmpZ qc.num 0 := ⟨_, rfl⟩
  have hsz : (sg == 0) = false := beq_eq_false_iff_ne.2 (by rw [hsg]; exact sign_ne hq0)
  have HSG := Lib.hid hsg.symm
  clear hq0 hsg
  have cBX10 := BX1.out.cell (i := 0) rfl
  have cBX11 := BX1.out.cell (i := 1) rfl
  have cBX12 := BX1.out.cell (i := 2) rfl
  have cBX13 := BX1.out.cell (i := 3) rfl
  have cBX1f := BX1.out.fz
  have cBX1l := BX1.out.lt
  go_wp2_with fail
  have CT := Lib.hid (qsign ((Kc.out.below KG.out)).any (((Kc.out.below KG.out)).len LQqc.out (by decide : _ ≤ 900000)))
  rw [show cmpZ qc.num 0 = sg from HSG.out] at CT
  with_reducible refine CT.out.mono ?_
  rintro e w20 ⟨rfl, hb⟩
  clear CT
  clear cBX10 cBX11 cBX12 cBX13 cBX1f cBX1l
  have BX1 := Lib.hid (BX1.out.below hb BX1.out.lt)
  have KG := Lib.hid (KG.out.trans (hb.mono KG.out.size))
  clear hb
  go_wp2_with fail
  have CT := Lib.hid (pmonic_n (x := x2) o (E0.out ▸ ((Kx2.out.below KG.out)).any) (Nat.le_trans (KP.n_le (Kx2.out.below KG.out) PCP2.out) (by decide)))
  with_reducible refine CT.out.mono ?_
  rintro e w21 ⟨a22, c23, rfl, hb⟩
  clear CT
  have BX1 := Lib.hid (BX1.out.below hb BX1.out.lt)
  have KG := Lib.hid (KG.out.trans (hb.mono KG.out.size))
  clear hb
  go_wp2_with fail
  go_ret
  exact ⟨rfl, KG.out⟩
 have Kx2 := Lib.hid hk
 have PCP2 := Lib.hid hc
 have Zx2 : ((((x2.n : Nat) : Int)) == 0) = false := beq_eq_false_iff_ne.2 (by rw [hk.len]; have := List.length_pos_iff.2 hz; omega)
 have Ex2 := Lib.hid hz
 obtain ⟨m0, q0, hl0⟩ := lead_ex2 o hz
 have HL0 := Lib.hid hl0
 have LQq0 := Lib.hid (show LQ q0 4 from hc.b.lq _ hl0.1)
 have HNQ := Lib.hid (lead_ne hc.c hl0)
 clear hl0
 clear hk hc hz
 go_wp2_with fail
 have CT := Lib.hid (pcheck (Kx2.out.below KG.out) PCP2.out (by decide) (by decide))
 with_reducible refine CT.out.mono ?_
 rintro e w24 ⟨rfl, hb⟩
 clear CT
 have BX1 := Lib.hid (BX1.out.below hb BX1.out.lt)
 have KG := Lib.hid (KG.out.trans (hb.mono KG.out.size))
 clear hb
 rcases (AF.cases NC.out).symm with ⟨hbad, _⟩ | hk
 ·have Bc := Lib.hid hbad
  clear hbad
  have cBX10 := BX1.out.cell (i := 0) rfl
  have cBX11 := BX1.out.cell (i := 1) rfl
  have cBX12 := BX1.out.cell (i := 2) rfl
  have cBX13 := BX1.out.cell (i := 3) rfl
  have cBX1f := BX1.out.fz
  have cBX1l := BX1.out.lt
  go_wp2_with fail
  have CT := Lib.hid (qcheckB (Bc.out.below KG.out) (LF.up Bx3.out (by decide : _ ≤ 900000)))
  with_reducible refine CT.out.mono ?_
  rintro e w25 ⟨rfl, hb⟩
  clear CT
  clear cBX10 cBX11 cBX12 cBX13 cBX1f cBX1l
  have BX1 := Lib.hid (BX1.out.below hb BX1.out.lt)
  have KG := Lib.hid (KG.out.trans (hb.mono KG.out.size))
  clear hb
  go_wp2_with fail
  have CT := Lib.hid (palive7 w25 (HT.out.on KG.out))
  with_reducible refine CT.out.mono ?_
  rintro e w26 ⟨rfl, hb⟩
  clear CT
  have BX1 := Lib.hid (BX1.out.below hb BX1.out.lt)
  have KG := Lib.hid (KG.out.trans (hb.mono KG.out.size))
  clear hb
  go_wp2_with fail
  go_ret
  exact ⟨rfl, KG.out⟩
 have Kc := Lib.hid hk
 have LQqc := Lib.hid (hk.lq Bx3.out)
 clear hk
 have cBX10 := BX1.out.cell (i := 0) rfl
 have cBX11 := BX1.out.cell (i := 1) rfl
 have cBX12 := BX1.out.cell (i := 2) rfl
 have cBX13 := BX1.out.cell (i := 3) rfl
 have cBX1f := BX1.out.fz
 have cBX1l := BX1.out.lt
 go_wp2_with fail
 have CT := Lib.hid (qcheck (Kc.out.below KG.out) (((Kc.out.below KG.out)).len LQqc.out (by decide : _ ≤ 900000)))
 with_reducible refine CT.out.mono ?_
 rintro e w27 ⟨rfl, hb⟩
 clear CT
 clear cBX10 cBX11 cBX12 cBX13 cBX1f cBX1l
 have BX1 := Lib.hid (BX1.out.below hb BX1.out.lt)
 have KG := Lib.hid (KG.out.trans (hb.mono KG.out.size))
 clear hb
 by_cases hq0 : qc = 0
 ·have HQ0 := Lib.hid hq0
  clear hq0
  have cBX10 := BX1.out.cell (i := 0) rfl
  have cBX11 := BX1.out.cell (i := 1) rfl
  have cBX12 := BX1.out.cell (i := 2) rfl
  have cBX13 := BX1.out.cell (i := 3) rfl
  have cBX1f := BX1.out.fz
  have cBX1l := BX1.out.lt
  go_wp2_with fail
  have CT := Lib.hid (qsign ((Kc.out.below KG.out)).any (((Kc.out.below KG.out)).len LQqc.out (by decide : _ ≤ 900000)))
  rw [show cmpZ qc.num 0 = 0 from by rw [HQ0.out]; decide +kernel] at CT
  with_reducible refine CT.out.mono ?_
  rintro e w28 ⟨rfl, hb⟩
  clear CT
  clear cBX10 cBX11 cBX12 cBX13 cBX1f cBX1l
  have BX1 := Lib.hid (BX1.out.below hb BX1.out.lt)
  have KG := Lib.hid (KG.out.trans (hb.mono KG.out.size))
  clear hb
  go_wp2_with fail
  have CT := Lib.hid (palive7 w28 (HT.out.on KG.out))
  with_reducible refine CT.out.mono ?_
  rintro e w29 ⟨rfl, hb⟩
  clear CT
  have BX1 := Lib.hid (BX1.out.below hb BX1.out.lt)
  have KG := Lib.hid (KG.out.trans (hb.mono KG.out.size))
  clear hb
  go_wp2_with fail
  go_ret
  exact ⟨rfl, KG.out⟩
 have HQ0 := Lib.hid hq0
 obtain ⟨sg, hsg⟩ : ∃ z, z = cmpZ qc.num 0 := ⟨_, rfl⟩
 have hsz : (sg == 0) = false := beq_eq_false_iff_ne.2 (by rw [hsg]; exact sign_ne hq0)
 have HSG := Lib.hid hsg.symm
 clear hq0 hsg
 have cBX10 := BX1.out.cell (i := 0) rfl
 have cBX11 := BX1.out.cell (i := 1) rfl
 have cBX12 := BX1.out.cell (i := 2) rfl
 have cBX13 := BX1.out.cell (i := 3) rfl
 have cBX1f := BX1.out.fz
 have cBX1l := BX1.out.lt
 go_wp2_with fail
 have CT := Lib.hid (qsign ((Kc.out.below KG.out)).any (((Kc.out.below KG.out)).len LQqc.out (by decide : _ ≤ 900000)))
 rw [show cmpZ qc.num 0 = sg from HSG.out] at CT
 with_reducible refine CT.out.mono ?_
 rintro e w30 ⟨rfl, hb⟩
 clear CT
 clear cBX10 cBX11 cBX12 cBX13 cBX1f cBX1l
 have BX1 := Lib.hid (BX1.out.below hb BX1.out.lt)
 have KG := Lib.hid (KG.out.trans (hb.mono KG.out.size))
 clear hb
 go_wp2_with fail
 obtain ⟨p31, hp31⟩ : ∃ z : List Tm, z = scaleP (1 / q0) P2 := ⟨_, rfl⟩
 have Hp31 := Lib.hid hp31
 have PCp31 := Lib.hid (show PC p31 25 8 65535 by rw [hp31]; exact PCP2.out.monic HL0.out)
 clear hp31
 have CT := Lib.hid (pmonicL (Kx2.out.below KG.out) PCP2.out HL0.out (by decide) (by decide) (by decide) (by decide))
 rw [show scaleP (1 / q0) P2 = p31 from Hp31.out.symm] at CT
 with_reducible refine CT.out.mono ?_
 rintro e w32 ⟨z33, rfl, hN34, hb⟩
 have N34 := Lib.hid hN34
 clear hN34
 clear CT
 have BX1 := Lib.hid (BX1.out.below hb BX1.out.lt)
 have KG := Lib.hid (KG.out.trans (hb.mono KG.out.size))
 clear hb
 obtain ⟨u1, hu1⟩ : ∃ z : Rat, z = (1 : Rat) := ⟨_, rfl⟩
 have Hu1 := Lib.hid hu1
 have LQu1 := Lib.hid (show LQ u1 3 by rw [hu1]; exact LQ.int (n := 1) (by decide) (by decide))
 clear hu1
 have HLQ := Lib.hid (show Lead (keyO o) p31 (m0, u1) from by have h := lead_scale PCP2.out.c (inv_ne HNQ.out) HL0.out; rw [back_one HNQ.out] at h; rw [Hp31.out, Hu1.out]; exact h)
 go_wp2_with fail
 have CT := Lib.hid (pleadL N34.out.k PCp31.out HLQ.out (by decide) (by decide) (by decide))
 with_reducible refine CT.out.mono ?_
 rintro e w35 ⟨x36, rfl, hN37, hb⟩
 have N37 := Lib.hid hN37
 clear hN37
 clear CT
 have N34 := Lib.hid (N34.out.below hb)
 have BX1 := Lib.hid (BX1.out.below hb BX1.out.lt)
 have KG := Lib.hid (KG.out.trans (hb.mono KG.out.size))
 clear hb
 go_upto_region 7 with (fail)
 obtain ⟨v39, hV⟩ : ∃ V, V = w35.alloc (.cells #[.bool x36.t.s, .slice x36.t.a x36.t.n x36.t.c, .bool x36.l.s, .slice x36.l.a x36.l.n x36.l.c, .int .u16 m0.x, .int .u16 m0.y, .int .u16 m0.z, .int .u16 m0.t] 50) := ⟨_, rfl⟩
 have hbV : Below w35.heap.size w35 v39 := by rw [hV]; exact ((Below.refl _ _).alloc (Nat.le_refl _) _)
 have BX38 := Lib.hid (show Bxs v39 (w35.heap.size) 50 [.bool x36.t.s, .slice x36.t.a x36.t.n x36.t.c, .bool x36.l.s, .slice x36.l.a x36.l.n x36.l.c, .int .u16 m0.x, .int .u16 m0.y, .int .u16 m0.z, .int .u16 m0.t] by have h := Bxs.new (w35) 50 [.bool x36.t.s, .slice x36.t.a x36.t.n x36.t.c, .bool x36.l.s, .slice x36.l.a x36.l.n x36.l.c, .int .u16 m0.x, .int .u16 m0.y, .int .u16 m0.z, .int .u16 m0.t]; rw [hV]; exact h)
 rw [show w35.alloc (.cells #[.bool x36.t.s, .slice x36.t.a x36.t.n x36.t.c, .bool x36.l.s, .slice x36.l.a x36.l.n x36.l.c, .int .u16 m0.x, .int .u16 m0.y, .int .u16 m0.z, .int .u16 m0.t] 50) = v39 from hV.symm]
 have N34 := Lib.hid (N34.out.below hbV)
 have N37 := Lib.hid (N37.out.below hbV)
 have BX1 := Lib.hid (BX1.out.below hbV BX1.out.lt)
 have KG := Lib.hid (KG.out.trans (hbV.mono KG.out.size))
 clear hV hbV
 go_wp2_with fail
 have CT := Lib.hid (pleadL (Kx2.out.below KG.out) PCP2.out HL0.out (by decide) (by decide) (by decide))
 with_reducible refine CT.out.mono ?_
 rintro e w40 ⟨x41, rfl, hN42, hb⟩
 have N42 := Lib.hid hN42
 clear hN42
 clear CT
 have N34 := Lib.hid (N34.out.below hb)
 have N37 := Lib.hid (N37.out.below hb)
 have BX1 := Lib.hid (BX1.out.below hb BX1.out.lt)
 have BX38 := Lib.hid (BX38.out.below hb BX38.out.lt)
 have KG := Lib.hid (KG.out.trans (hb.mono KG.out.size))
 clear hb
 go_upto_region 8 with (fail)
 obtain ⟨v44, hV⟩ : ∃ V, V = w40.alloc (.cells #[.bool x41.t.s, .slice x41.t.a x41.t.n x41.t.c, .bool x41.l.s, .slice x41.l.a x41.l.n x41.l.c, .int .u16 m0.x, .int .u16 m0.y, .int .u16 m0.z, .int .u16 m0.t] 50) := ⟨_, rfl⟩
 have hbV : Below w40.heap.size w40 v44 := by rw [hV]; exact ((Below.refl _ _).alloc (Nat.le_refl _) _)
 have BX43 := Lib.hid (show Bxs v44 (w40.heap.size) 50 [.bool x41.t.s, .slice x41.t.a x41.t.n x41.t.c, .bool x41.l.s, .slice x41.l.a x41.l.n x41.l.c, .int .u16 m0.x, .int .u16 m0.y, .int .u16 m0.z, .int .u16 m0.t] by have h := Bxs.new (w40) 50 [.bool x41.t.s, .slice x41.t.a x41.t.n x41.t.c, .bool x41.l.s, .slice x41.l.a x41.l.n x41.l.c, .int .u16 m0.x, .int .u16 m0.y, .int .u16 m0.z, .int .u16 m0.t]; rw [hV]; exact h)
 rw [show w40.alloc (.cells #[.bool x41.t.s, .slice x41.t.a x41.t.n x41.t.c, .bool x41.l.s, .slice x41.l.a x41.l.n x41.l.c, .int .u16 m0.x, .int .u16 m0.y, .int .u16 m0.z, .int .u16 m0.t] 50) = v44 from hV.symm]
 have N34 := Lib.hid (N34.out.below hbV)
 have N37 := Lib.hid (N37.out.below hbV)
 have N42 := Lib.hid (N42.out.below hbV)
 have BX1 := Lib.hid (BX1.out.below hbV BX1.out.lt)
 have BX38 := Lib.hid (BX38.out.below hbV BX38.out.lt)
 have KG := Lib.hid (KG.out.trans (hbV.mono KG.out.size))
 clear hV hbV
 obtain ⟨p45, hp45⟩ : ∃ z : List Tm, z = scaleP qc P2 := ⟨_, rfl⟩
 have Hp45 := Lib.hid hp45
 have PCp45 := Lib.hid (show PC p45 25 34 65535 by rw [hp45]; exact PCP2.out.scale LQqc.out)
 clear hp45
 obtain ⟨v0, hv0⟩ : ∃ z : Rat, z = q0 * qc := ⟨_, rfl⟩
 have Hv0 := Lib.hid hv0
 have LQv0 := Lib.hid (show LQ v0 60 by rw [hv0]; exact LQ.mul (LQq0.out.up (by decide)) LQqc.out (by decide))
 clear hv0
 have HLS := Lib.hid (show Lead (keyO o) p45 (m0, v0) from by rw [Hp45.out, Hv0.out]; exact lead_scale PCP2.out.c HQ0.out HL0.out)
 obtain ⟨q46, hq46⟩ : ∃ z : Rat, z = ((1 : Int) : Rat) := ⟨_, rfl⟩
 have Hq46 := Lib.hid hq46
 have LQq46 := Lib.hid (show LQ q46 3 by rw [hq46]; exact LQ.int (by decide) (by decide))
 clear hq46
 obtain ⟨p47, hp47⟩ : ∃ z : List Tm, z = scaleP q0 p31 := ⟨_, rfl⟩
 have Hp47 := Lib.hid hp47
 have PCp47 := Lib.hid (show PC p47 25 12 65535 by rw [hp47]; exact PCp31.out.scale LQq0.out)
 clear hp47
 obtain ⟨p48, hp48⟩ : ∃ z : List Tm, z = scaleP (1 / v0) p45 := ⟨_, rfl⟩
 have Hp48 := Lib.hid hp48
 have PCp48 := Lib.hid (show PC p48 25 68 65535 by rw [hp48]; exact PCp45.out.monic HLS.out)
 clear hp48
 obtain ⟨p49, hp49⟩ : ∃ z : List Tm, z = scaleP (1 / u1) p31 := ⟨_, rfl⟩
 have Hp49 := Lib.hid hp49
 have PCp49 := Lib.hid (show PC p49 25 16 65535 by rw [hp49]; exact PCp31.out.monic HLQ.out)
 clear hp49
 obtain ⟨p50, hp50⟩ : ∃ z : List Tm, z = primP p31 := ⟨_, rfl⟩
 have Hp50 := Lib.hid hp50
 have PCp50 := Lib.hid (show PC p50 25 217 65535 by rw [hp50]; exact PCp31.out.prim (PCp31.out.cont))
 clear hp50
 obtain ⟨p51, hp51⟩ : ∃ z : List Tm, z = primP P2 := ⟨_, rfl⟩
 have Hp51 := Lib.hid hp51
 have PCp51 := Lib.hid (show PC p51 25 109 65535 by rw [hp51]; exact PCP2.out.prim (PCP2.out.cont))
 clear hp51
 go_upto_region 8 with (fail)
 refine Go.FreshS.wp_region_fresh 53 [] (Go.FreshS.spOf [(1, Go.FreshS.Sp.know (.bool true)), (18, Go.FreshS.Sp.made (fun x : FV => x.v) (fun x w' => DF w' v44.heap.size x q46) FV.blk), (19, Go.FreshS.Sp.know (.int .i64 0)), (26, Go.FreshS.Sp.made (fun x : PV => x.v) (fun x w' => DP w' v44.heap.size x p47) (fun _ _ => False)), (28, Go.FreshS.Sp.know (.bool true)), (34, Go.FreshS.Sp.made (fun x : PV => x.v) (fun x w' => DP w' v44.heap.size x p45) (fun _ _ => False)), (35, Go.FreshS.Sp.made (fun x : PV => x.v) (fun x w' => DP w' v44.heap.size x p48) (fun _ _ => False)), (37, Go.FreshS.Sp.know (.bool true)), (42, Go.FreshS.Sp.made (fun x : PV => x.v) (fun x w' => DP w' v44.heap.size x p49) (fun _ _ => False)), (44, Go.FreshS.Sp.know (.bool true)), (48, Go.FreshS.Sp.made (fun x : PV => x.v) (fun x w' => DP w' v44.heap.size x p50) (fun _ _ => False)), (50, Go.FreshS.Sp.made (fun x : PV => x.v) (fun x w' => DP w' v44.heap.size x p51) (fun _ _ => False)), (51, Go.FreshS.Sp.know (.bool true))])
  (fun w' => Below v44.heap.size v44 w') (by kernel_rfl) (by kernel_rfl) (by kernel_rfl)
  (Go.FreshS.spOf_cons (Go.FreshS.Sp.know_keeps _ _) (Go.FreshS.spOf_cons (Go.FreshS.Sp.made_keeps _ (fun _ _ _ h _ hk => h.kept hk) (Go.FreshS.notTaken (by kernel_rfl))) (Go.FreshS.spOf_cons (Go.FreshS.Sp.know_keeps _ _) (Go.FreshS.spOf_cons (Go.FreshS.Sp.made_keepsR _ rowT (fun _ _ _ h hs => h.rows hs) (by kernel_rfl) (Go.FreshS.notTaken (by kernel_rfl))) (Go.FreshS.spOf_cons (Go.FreshS.Sp.know_keeps _ _) (Go.FreshS.spOf_cons (Go.FreshS.Sp.made_keepsR _ rowT (fun _ _ _ h hs => h.rows hs) (by kernel_rfl) (Go.FreshS.notTaken (by kernel_rfl))) (Go.FreshS.spOf_cons (Go.FreshS.Sp.made_keepsR _ rowT (fun _ _ _ h hs => h.rows hs) (by kernel_rfl) (Go.FreshS.notTaken (by kernel_rfl))) (Go.FreshS.spOf_cons (Go.FreshS.Sp.know_keeps _ _) (Go.FreshS.spOf_cons (Go.FreshS.Sp.made_keepsR _ rowT (fun _ _ _ h hs => h.rows hs) (by kernel_rfl) (Go.FreshS.notTaken (by kernel_rfl))) (Go.FreshS.spOf_cons (Go.FreshS.Sp.know_keeps _ _) (Go.FreshS.spOf_cons (Go.FreshS.Sp.made_keepsR _ rowT (fun _ _ _ h hs => h.rows hs) (by kernel_rfl) (Go.FreshS.notTaken (by kernel_rfl))) (Go.FreshS.spOf_cons (Go.FreshS.Sp.made_keepsR _ rowT (fun _ _ _ h hs => h.rows hs) (by kernel_rfl) (Go.FreshS.notTaken (by kernel_rfl))) (Go.FreshS.spOf_cons (Go.FreshS.Sp.know_keeps _ _) (Go.FreshS.spOf_nil)))))))))))))) (fun _ _ h hb => h.trans (hb.mono h.size)) ((Below.refl _ _).drew) ?_
 simp only [List.append_eq, List.cons_append, List.nil_append, List.take_succ_cons, List.take_zero, List.drop_succ_cons, List.drop_zero]
 refine Go.FreshS.wpF_reads rfl rfl rfl ?_ (fun w' hw' => ?_) ?_
 rotate_left
 ·have hb' := hw'.world
  skip
  clear hw'
  go_simp
  try rfl
 conv => arg 10; simp only [Act.put, List.setIfInBounds_toArray, List.set_cons_succ, List.set_cons_zero]
 refine Go.FreshS.wpF_spec rfl rfl rfl (fun w' hw' => ?_) ?_
 ·have hb' := hw'.world
  refine Go.FreshS.gives_of (Go.FreshS.PK (.bool true)) ?_ (fun _ _ h => h.post)
  go_simp
  have CT := pcheck (N34.out.below hb').k PCp31.out (by decide) (by decide)
  refine CT.mono ?_
  rintro e w'' ⟨rfl, hb⟩
  exact ⟨_, rfl, rfl, hb⟩
 rintro _ rfl
 conv => arg 10; simp only [Act.put, List.setIfInBounds_toArray, List.set_cons_succ, List.set_cons_zero]
 refine Go.FreshS.wpF_reads rfl rfl rfl ?_ (fun w' hw' => ?_) ?_
 rotate_left
 ·have hb' := hw'.world
  skip
  clear hw'
  go_simp
  try rfl
 conv => arg 10; simp only [Act.put, List.setIfInBounds_toArray, List.set_cons_succ, List.set_cons_zero]
 refine Go.FreshS.wpF_readsG (by rfl) rfl rfl ?_ (fun w' hw' => ?_) ?_
 rotate_left
 ·have hb' := hw'.world
  skip
  clear hw'
  go_simp
  try rfl
 conv => arg 10; simp only [Act.put, List.setIfInBounds_toArray, List.set_cons_succ, List.set_cons_zero]
 refine Go.FreshS.wpF_reads rfl rfl rfl ?_ (fun w' hw' => ?_) ?_
 rotate_left
 ·have hb' := hw'.world
  skip
  clear hw'
  go_simp
  try rfl
 conv => arg 10; simp only [Act.put, List.setIfInBounds_toArray, List.set_cons_succ, List.set_cons_zero]
 refine Go.FreshS.wpF_reads rfl rfl rfl ?_ (fun w' hw' => ?_) ?_
 rotate_left
 ·have hb' := hw'.world
  skip
  clear hw'
  go_simp
  try rfl
 conv => arg 10; simp only [Act.put, List.setIfInBounds_toArray, List.set_cons_succ, List.set_cons_zero]
 refine Go.FreshS.wpF_readsG (by rfl) rfl rfl ?_ (fun w' hw' => ?_) ?_
 rotate_left
 ·have hb' := hw'.world
  skip
  clear hw'
  go_simp
  try rfl
 conv => arg 10; simp only [Act.put, List.setIfInBounds_toArray, List.set_cons_succ, List.set_cons_zero]
 refine Go.FreshS.wpF_reads rfl rfl rfl ?_ (fun w' hw' => ?_) ?_
 rotate_left
 ·have hb' := hw'.world
  skip
  clear hw'
  go_simp
  try rfl
 conv => arg 10; simp only [Act.put, List.setIfInBounds_toArray, List.set_cons_succ, List.set_cons_zero]
 refine Go.FreshS.wpF_reads rfl rfl rfl ?_ (fun w' hw' => ?_) ?_
 rotate_left
 ·have hb' := hw'.world
  skip
  clear hw'
  go_simp
  try rfl
 conv => arg 10; simp only [Act.put, List.setIfInBounds_toArray, List.set_cons_succ, List.set_cons_zero]
 refine Go.FreshS.wpF_readsG (by rfl) rfl rfl ?_ (fun w' hw' => ?_) ?_
 rotate_left
 ·have hb' := hw'.world
  skip
  clear hw'
  go_simp
  try rfl
 conv => arg 10; simp only [Act.put, List.setIfInBounds_toArray, List.set_cons_succ, List.set_cons_zero]
 refine Go.FreshS.wpF_readsG (by rfl) rfl rfl ?_ (fun w' hw' => ?_) ?_
 rotate_left
 ·have hb' := hw'.world
  have hs0 := (BX38.out.below hb' BX38.out.lt).cell (i := 0) rfl
  have hs1 := (BX38.out.below hb' BX38.out.lt).cell (i := 1) rfl
  have hs2 := (BX38.out.below hb' BX38.out.lt).cell (i := 2) rfl
  have hs3 := (BX38.out.below hb' BX38.out.lt).cell (i := 3) rfl
  have hs4 := (BX38.out.below hb' BX38.out.lt).cell (i := 4) rfl
  have hs5 := (BX38.out.below hb' BX38.out.lt).cell (i := 5) rfl
  have hs6 := (BX38.out.below hb' BX38.out.lt).cell (i := 6) rfl
  have hs7 := (BX38.out.below hb' BX38.out.lt).cell (i := 7) rfl
  have hsf := (BX38.out.below hb' BX38.out.lt).fz
  have hsl := (BX38.out.below hb' BX38.out.lt).lt
  clear hw'
  go_simp
  try rfl
 conv => arg 10; simp only [Act.put, List.setIfInBounds_toArray, List.set_cons_succ, List.set_cons_zero]
 refine Go.FreshS.wpF_readsG (by rfl) rfl rfl ?_ (fun w' hw' => ?_) ?_
 rotate_left
 ·have hb' := hw'.world
  skip
  clear hw'
  go_simp
  try rfl
 conv => arg 10; simp only [Act.put, List.setIfInBounds_toArray, List.set_cons_succ, List.set_cons_zero]
 refine Go.FreshS.wpF_readsG (by rfl) rfl rfl ?_ (fun w' hw' => ?_) ?_
 rotate_left
 ·have hb' := hw'.world
  have hs0 := (BX43.out.below hb' BX43.out.lt).cell (i := 0) rfl
  have hs1 := (BX43.out.below hb' BX43.out.lt).cell (i := 1) rfl
  have hs2 := (BX43.out.below hb' BX43.out.lt).cell (i := 2) rfl
  have hs3 := (BX43.out.below hb' BX43.out.lt).cell (i := 3) rfl
  have hs4 := (BX43.out.below hb' BX43.out.lt).cell (i := 4) rfl
  have hs5 := (BX43.out.below hb' BX43.out.lt).cell (i := 5) rfl
  have hs6 := (BX43.out.below hb' BX43.out.lt).cell (i := 6) rfl
  have hs7 := (BX43.out.below hb' BX43.out.lt).cell (i := 7) rfl
  have hsf := (BX43.out.below hb' BX43.out.lt).fz
  have hsl := (BX43.out.below hb' BX43.out.lt).lt
  clear hw'
  go_simp
  try rfl
 conv => arg 10; simp only [Act.put, List.setIfInBounds_toArray, List.set_cons_succ, List.set_cons_zero]
 refine Go.FreshS.wpF_readsG (by rfl) rfl rfl ?_ (fun w' hw' => ?_) ?_
 rotate_left
 ·have hb' := hw'.world
  skip
  clear hw'
  go_simp
  try rfl
 conv => arg 10; simp only [Act.put, List.setIfInBounds_toArray, List.set_cons_succ, List.set_cons_zero]
 refine Go.FreshS.wpF_reads rfl rfl rfl ?_ (fun w' hw' => ?_) ?_
 rotate_left
 ·have hb' := hw'.world
  skip
  clear hw'
  go_simp
  try rfl
 conv => arg 10; simp only [Act.put, List.setIfInBounds_toArray, List.set_cons_succ, List.set_cons_zero]
 refine Go.FreshS.wpF_reads rfl rfl rfl ?_ (fun w' hw' => ?_) ?_
 rotate_left
 ·have hb' := hw'.world
  skip
  clear hw'
  go_simp
  try rfl
 conv => arg 10; simp only [Act.put, List.setIfInBounds_toArray, List.set_cons_succ, List.set_cons_zero]
 refine Go.FreshS.wpF_readsG (by rfl) rfl rfl ?_ (fun w' hw' => ?_) ?_
 rotate_left
 ·have hb' := hw'.world
  skip
  clear hw'
  go_simp
  try rfl
 conv => arg 10; simp only [Act.put, List.setIfInBounds_toArray, List.set_cons_succ, List.set_cons_zero]
 refine Go.FreshS.wpF_readsG (by rfl) rfl rfl ?_ (fun w' hw' => ?_) ?_
 rotate_left
 ·have hb' := hw'.world
  have hs0 := (BX38.out.below hb' BX38.out.lt).cell (i := 0) rfl
  have hs1 := (BX38.out.below hb' BX38.out.lt).cell (i := 1) rfl
  have hs2 := (BX38.out.below hb' BX38.out.lt).cell (i := 2) rfl
  have hs3 := (BX38.out.below hb' BX38.out.lt).cell (i := 3) rfl
  have hs4 := (BX38.out.below hb' BX38.out.lt).cell (i := 4) rfl
  have hs5 := (BX38.out.below hb' BX38.out.lt).cell (i := 5) rfl
  have hs6 := (BX38.out.below hb' BX38.out.lt).cell (i := 6) rfl
  have hs7 := (BX38.out.below hb' BX38.out.lt).cell (i := 7) rfl
  have hsf := (BX38.out.below hb' BX38.out.lt).fz
  have hsl := (BX38.out.below hb' BX38.out.lt).lt
  clear hw'
  go_simp
  try rfl
 conv => arg 10; simp only [Act.put, List.setIfInBounds_toArray, List.set_cons_succ, List.set_cons_zero]
 refine Go.FreshS.wpF_gspec (by rfl) rfl rfl (fun w' hw' => ?_) ?_
 ·have hb' := hw'.world
  refine Go.FreshS.gives_of (Go.FreshS.PM (fun x : FV => x.v) (fun x w' => DF w' v44.heap.size x q46) FV.blk w'.heap.size) ?_ (fun _ _ h => h.post (fun _ _ => FV.inj))
  go_simp
  have CT := qof 1 w' (by decide) (by decide)
  rw [show ((1 : Int) : Rat) = q46 from Hq46.out.symm] at CT
  refine CT.mono ?_
  rintro e w'' ⟨za, rfl, ho, hb⟩
  exact ⟨_, rfl, ⟨za, rfl, ho.mono hb'.size, ho.blks⟩, hb⟩
 rintro _ ⟨y18, rfl⟩
 conv => arg 10; simp only [Act.put, List.setIfInBounds_toArray, List.set_cons_succ, List.set_cons_zero]
 refine Go.FreshS.wpF_gspec (by rfl) rfl rfl (fun w' hw' => ?_) ?_
 ·have hb' := hw'.world
  refine Go.FreshS.gives_of (Go.FreshS.PK (.int .i64 0)) ?_ (fun _ _ h => h.post)
  go_simp
  have f18 := Go.FreshS.made_of (val := (fun x : FV => x.v)) (Φ := fun x w' => DF w' v44.heap.size x q46) (fun _ _ => FV.inj) (hw'.fact 18 (by kernel_rfl))
  have CT := qcmp ((N37.out.below hb')).k.any ((((N37.out.below hb')).k).len LQu1.out (by decide : _ ≤ 900000)) (f18).k.any (((f18).k).len LQq46.out (by decide : _ ≤ 900000))
  rw [show cmpQ u1 q46 = 0 from by simp only [Hq46.out, Hv0.out, Hp45.out, Hu1.out, Hp31.out]; decide +kernel] at CT
  refine CT.mono ?_
  rintro e w'' ⟨rfl, hb⟩
  exact ⟨_, rfl, rfl, hb⟩
 rintro _ rfl
 conv => arg 10; simp only [Act.put, List.setIfInBounds_toArray, List.set_cons_succ, List.set_cons_zero]
 refine Go.FreshS.wpF_readsG (by rfl) rfl rfl ?_ (fun w' hw' => ?_) ?_
 rotate_left
 ·have hb' := hw'.world
  skip
  clear hw'
  go_simp
  try rfl
 conv => arg 10; simp only [Act.put, List.setIfInBounds_toArray, List.set_cons_succ, List.set_cons_zero]
 refine Go.FreshS.wpF_reads rfl rfl rfl ?_ (fun w' hw' => ?_) ?_
 rotate_left
 ·have hb' := hw'.world
  skip
  clear hw'
  go_simp
  try rfl
 conv => arg 10; simp only [Act.put, List.setIfInBounds_toArray, List.set_cons_succ, List.set_cons_zero]
 refine Go.FreshS.wpF_reads rfl rfl rfl ?_ (fun w' hw' => ?_) ?_
 rotate_left
 ·have hb' := hw'.world
  skip
  clear hw'
  go_simp
  try rfl
 conv => arg 10; simp only [Act.put, List.setIfInBounds_toArray, List.set_cons_succ, List.set_cons_zero]
 refine Go.FreshS.wpF_readsG (by rfl) rfl rfl ?_ (fun w' hw' => ?_) ?_
 rotate_left
 ·have hb' := hw'.world
  skip
  clear hw'
  go_simp
  try rfl
 conv => arg 10; simp only [Act.put, List.setIfInBounds_toArray, List.set_cons_succ, List.set_cons_zero]
 refine Go.FreshS.wpF_readsG (by rfl) rfl rfl ?_ (fun w' hw' => ?_) ?_
 rotate_left
 ·have hb' := hw'.world
  skip
  clear hw'
  go_simp
  try rfl
 conv => arg 10; simp only [Act.put, List.setIfInBounds_toArray, List.set_cons_succ, List.set_cons_zero]
 refine Go.FreshS.wpF_readsG (by rfl) rfl rfl ?_ (fun w' hw' => ?_) ?_
 rotate_left
 ·have hb' := hw'.world
  have hs0 := (BX43.out.below hb' BX43.out.lt).cell (i := 0) rfl
  have hs1 := (BX43.out.below hb' BX43.out.lt).cell (i := 1) rfl
  have hs2 := (BX43.out.below hb' BX43.out.lt).cell (i := 2) rfl
  have hs3 := (BX43.out.below hb' BX43.out.lt).cell (i := 3) rfl
  have hs4 := (BX43.out.below hb' BX43.out.lt).cell (i := 4) rfl
  have hs5 := (BX43.out.below hb' BX43.out.lt).cell (i := 5) rfl
  have hs6 := (BX43.out.below hb' BX43.out.lt).cell (i := 6) rfl
  have hs7 := (BX43.out.below hb' BX43.out.lt).cell (i := 7) rfl
  have hsf := (BX43.out.below hb' BX43.out.lt).fz
  have hsl := (BX43.out.below hb' BX43.out.lt).lt
  clear hw'
  go_simp
  try rfl
 conv => arg 10; simp only [Act.put, List.setIfInBounds_toArray, List.set_cons_succ, List.set_cons_zero]
 refine Go.FreshS.wpF_gspec (by rfl) rfl rfl (fun w' hw' => ?_) ?_
 ·have hb' := hw'.world
  refine Go.FreshS.gives_of (Go.FreshS.PM (fun x : PV => x.v) (fun x w' => DP w' v44.heap.size x p47) (fun _ _ => False) w'.heap.size) ?_ (fun _ _ h => h.post (fun _ _ => PV.inj))
  go_simp
  have CT := pscale (N34.out.below hb').k PCp31.out ((N42.out.below hb')).k.any ((((N42.out.below hb')).k).len LQq0.out (by decide : _ ≤ 900000)) LQq0.out (by decide) (by decide) (by decide) (by decide)
  rw [show scaleP q0 p31 = p47 from Hp47.out.symm] at CT
  refine CT.mono ?_
  rintro e w'' ⟨za, rfl, ho, hb⟩
  exact ⟨_, rfl, ⟨za, rfl, ho.mono hb'.size, fun _ h => False.elim h⟩, hb⟩
 rintro _ ⟨y26, rfl⟩
 conv => arg 10; simp only [Act.put, List.setIfInBounds_toArray, List.set_cons_succ, List.set_cons_zero]
 refine Go.FreshS.wpF_readsG (by rfl) rfl rfl ?_ (fun w' hw' => ?_) ?_
 rotate_left
 ·have hb' := hw'.world
  skip
  clear hw'
  go_simp
  try rfl
 conv => arg 10; simp only [Act.put, List.setIfInBounds_toArray, List.set_cons_succ, List.set_cons_zero]
 refine Go.FreshS.wpF_gspec (by rfl) rfl rfl (fun w' hw' => ?_) ?_
 ·have hb' := hw'.world
  refine Go.FreshS.gives_of (Go.FreshS.PK (.bool true)) ?_ (fun _ _ h => h.post)
  go_simp
  have f26 := Go.FreshS.made_of (val := (fun x : PV => x.v)) (Φ := fun x w' => DP w' v44.heap.size x p47) (fun _ _ => PV.inj) (hw'.fact 26 (by kernel_rfl))
  have CT := psame7 f26.k (Kx2.out.below (KG.out.trans (hb'.mono KG.out.size))) (by simp only [Hp47.out, Hq46.out, Hv0.out, Hp45.out, Hu1.out, Hp31.out]; exact scale_back PCP2.out.c HNQ.out) PCp47.out (by decide) (by decide)
  refine CT.mono ?_
  rintro e w'' ⟨rfl, hb⟩
  exact ⟨_, rfl, rfl, hb⟩
 rintro _ rfl
 conv => arg 10; simp only [Act.put, List.setIfInBounds_toArray, List.set_cons_succ, List.set_cons_zero]
 refine Go.FreshS.wpF_reads rfl rfl rfl ?_ (fun w' hw' => ?_) ?_
 rotate_left
 ·have hb' := hw'.world
  skip
  clear hw'
  go_simp
  try rfl
 conv => arg 10; simp only [Act.put, List.setIfInBounds_toArray, List.set_cons_succ, List.set_cons_zero]
 refine Go.FreshS.wpF_reads rfl rfl rfl ?_ (fun w' hw' => ?_) ?_
 rotate_left
 ·have hb' := hw'.world
  skip
  clear hw'
  go_simp
  try rfl
 conv => arg 10; simp only [Act.put, List.setIfInBounds_toArray, List.set_cons_succ, List.set_cons_zero]
 refine Go.FreshS.wpF_readsG (by rfl) rfl rfl ?_ (fun w' hw' => ?_) ?_
 rotate_left
 ·have hb' := hw'.world
  skip
  clear hw'
  go_simp
  try rfl
 conv => arg 10; simp only [Act.put, List.setIfInBounds_toArray, List.set_cons_succ, List.set_cons_zero]
 refine Go.FreshS.wpF_readsG (by rfl) rfl rfl ?_ (fun w' hw' => ?_) ?_
 rotate_left
 ·have hb' := hw'.world
  skip
  clear hw'
  go_simp
  try rfl
 conv => arg 10; simp only [Act.put, List.setIfInBounds_toArray, List.set_cons_succ, List.set_cons_zero]
 refine Go.FreshS.wpF_readsG (by rfl) rfl rfl ?_ (fun w' hw' => ?_) ?_
 rotate_left
 ·have hb' := hw'.world
  have hs0 := (BX1.out.below hb' BX1.out.lt).cell (i := 0) rfl
  have hs1 := (BX1.out.below hb' BX1.out.lt).cell (i := 1) rfl
  have hs2 := (BX1.out.below hb' BX1.out.lt).cell (i := 2) rfl
  have hs3 := (BX1.out.below hb' BX1.out.lt).cell (i := 3) rfl
  have hsf := (BX1.out.below hb' BX1.out.lt).fz
  have hsl := (BX1.out.below hb' BX1.out.lt).lt
  clear hw'
  go_simp
  try rfl
 conv => arg 10; simp only [Act.put, List.setIfInBounds_toArray, List.set_cons_succ, List.set_cons_zero]
 refine Go.FreshS.wpF_gspec (by rfl) rfl rfl (fun w' hw' => ?_) ?_
 ·have hb' := hw'.world
  refine Go.FreshS.gives_of (Go.FreshS.PM (fun x : PV => x.v) (fun x w' => DP w' v44.heap.size x p45) (fun _ _ => False) w'.heap.size) ?_ (fun _ _ h => h.post (fun _ _ => PV.inj))
  go_simp
  have CT := pscale (Kx2.out.below (KG.out.trans (hb'.mono KG.out.size))) PCP2.out ((Kc.out.below (KG.out.trans (hb'.mono KG.out.size)))).any (((Kc.out.below (KG.out.trans (hb'.mono KG.out.size)))).len LQqc.out (by decide : _ ≤ 900000)) LQqc.out (by decide) (by decide) (by decide) (by decide)
  rw [show scaleP qc P2 = p45 from Hp45.out.symm] at CT
  refine CT.mono ?_
  rintro e w'' ⟨za, rfl, ho, hb⟩
  exact ⟨_, rfl, ⟨za, rfl, ho.mono hb'.size, fun _ h => False.elim h⟩, hb⟩
 rintro _ ⟨y34, rfl⟩
 conv => arg 10; simp only [Act.put, List.setIfInBounds_toArray, List.set_cons_succ, List.set_cons_zero]
 refine Go.FreshS.wpF_gspec (by rfl) rfl rfl (fun w' hw' => ?_) ?_
 ·have hb' := hw'.world
  refine Go.FreshS.gives_of (Go.FreshS.PM (fun x : PV => x.v) (fun x w' => DP w' v44.heap.size x p48) (fun _ _ => False) w'.heap.size) ?_ (fun _ _ h => h.post (fun _ _ => PV.inj))
  go_simp
  have f34 := Go.FreshS.made_of (val := (fun x : PV => x.v)) (Φ := fun x w' => DP w' v44.heap.size x p45) (fun _ _ => PV.inj) (hw'.fact 34 (by kernel_rfl))
  have CT := pmonicL f34.k PCp45.out HLS.out (by decide) (by decide) (by decide) (by decide)
  rw [show scaleP (1 / v0) p45 = p48 from Hp48.out.symm] at CT
  refine CT.mono ?_
  rintro e w'' ⟨za, rfl, ho, hb⟩
  exact ⟨_, rfl, ⟨za, rfl, ho.mono hb'.size, fun _ h => False.elim h⟩, hb⟩
 rintro _ ⟨y35, rfl⟩
 conv => arg 10; simp only [Act.put, List.setIfInBounds_toArray, List.set_cons_succ, List.set_cons_zero]
 refine Go.FreshS.wpF_readsG (by rfl) rfl rfl ?_ (fun w' hw' => ?_) ?_
 rotate_left
 ·have hb' := hw'.world
  skip
  clear hw'
  go_simp
  try rfl
 conv => arg 10; simp only [Act.put, List.setIfInBounds_toArray, List.set_cons_succ, List.set_cons_zero]
 refine Go.FreshS.wpF_gspec (by rfl) rfl rfl (fun w' hw' => ?_) ?_
 ·have hb' := hw'.world
  refine Go.FreshS.gives_of (Go.FreshS.PK (.bool true)) ?_ (fun _ _ h => h.post)
  go_simp
  have f35 := Go.FreshS.made_of (val := (fun x : PV => x.v)) (Φ := fun x w' => DP w' v44.heap.size x p48) (fun _ _ => PV.inj) (hw'.fact 35 (by kernel_rfl))
  have CT := psame7 f35.k (N34.out.below hb').k (by simp only [Hp48.out, Hp47.out, Hq46.out, Hv0.out, Hp45.out, Hu1.out, Hp31.out]; exact monic_times HNQ.out HQ0.out) PCp48.out (by decide) (by decide)
  refine CT.mono ?_
  rintro e w'' ⟨rfl, hb⟩
  exact ⟨_, rfl, rfl, hb⟩
 rintro _ rfl
 conv => arg 10; simp only [Act.put, List.setIfInBounds_toArray, List.set_cons_succ, List.set_cons_zero]
 refine Go.FreshS.wpF_reads rfl rfl rfl ?_ (fun w' hw' => ?_) ?_
 rotate_left
 ·have hb' := hw'.world
  skip
  clear hw'
  go_simp
  try rfl
 conv => arg 10; simp only [Act.put, List.setIfInBounds_toArray, List.set_cons_succ, List.set_cons_zero]
 refine Go.FreshS.wpF_reads rfl rfl rfl ?_ (fun w' hw' => ?_) ?_
 rotate_left
 ·have hb' := hw'.world
  skip
  clear hw'
  go_simp
  try rfl
 conv => arg 10; simp only [Act.put, List.setIfInBounds_toArray, List.set_cons_succ, List.set_cons_zero]
 refine Go.FreshS.wpF_readsG (by rfl) rfl rfl ?_ (fun w' hw' => ?_) ?_
 rotate_left
 ·have hb' := hw'.world
  skip
  clear hw'
  go_simp
  try rfl
 conv => arg 10; simp only [Act.put, List.setIfInBounds_toArray, List.set_cons_succ, List.set_cons_zero]
 refine Go.FreshS.wpF_readsG (by rfl) rfl rfl ?_ (fun w' hw' => ?_) ?_
 rotate_left
 ·have hb' := hw'.world
  skip
  clear hw'
  go_simp
  try rfl
 conv => arg 10; simp only [Act.put, List.setIfInBounds_toArray, List.set_cons_succ, List.set_cons_zero]
 refine Go.FreshS.wpF_gspec (by rfl) rfl rfl (fun w' hw' => ?_) ?_
 ·have hb' := hw'.world
  refine Go.FreshS.gives_of (Go.FreshS.PM (fun x : PV => x.v) (fun x w' => DP w' v44.heap.size x p49) (fun _ _ => False) w'.heap.size) ?_ (fun _ _ h => h.post (fun _ _ => PV.inj))
  go_simp
  have CT := pmonicL (N34.out.below hb').k PCp31.out HLQ.out (by decide) (by decide) (by decide) (by decide)
  rw [show scaleP (1 / u1) p31 = p49 from Hp49.out.symm] at CT
  refine CT.mono ?_
  rintro e w'' ⟨za, rfl, ho, hb⟩
  exact ⟨_, rfl, ⟨za, rfl, ho.mono hb'.size, fun _ h => False.elim h⟩, hb⟩
 rintro _ ⟨y42, rfl⟩
 conv => arg 10; simp only [Act.put, List.setIfInBounds_toArray, List.set_cons_succ, List.set_cons_zero]
 refine Go.FreshS.wpF_readsG (by rfl) rfl rfl ?_ (fun w' hw' => ?_) ?_
 rotate_left
 ·have hb' := hw'.world
  skip
  clear hw'
  go_simp
  try rfl
 conv => arg 10; simp only [Act.put, List.setIfInBounds_toArray, List.set_cons_succ, List.set_cons_zero]
 refine Go.FreshS.wpF_gspec (by rfl) rfl rfl (fun w' hw' => ?_) ?_
 ·have hb' := hw'.world
  refine Go.FreshS.gives_of (Go.FreshS.PK (.bool true)) ?_ (fun _ _ h => h.post)
  go_simp
  have f42 := Go.FreshS.made_of (val := (fun x : PV => x.v)) (Φ := fun x w' => DP w' v44.heap.size x p49) (fun _ _ => PV.inj) (hw'.fact 42 (by kernel_rfl))
  have CT := psame7 f42.k (N34.out.below hb').k (by simp only [Hp49.out, Hp48.out, Hp47.out, Hq46.out, Hv0.out, Hp45.out, Hu1.out, Hp31.out]; exact monic_self (scaleP_canon _ _)) PCp49.out (by decide) (by decide)
  refine CT.mono ?_
  rintro e w'' ⟨rfl, hb⟩
  exact ⟨_, rfl, rfl, hb⟩
 rintro _ rfl
 conv => arg 10; simp only [Act.put, List.setIfInBounds_toArray, List.set_cons_succ, List.set_cons_zero]
 refine Go.FreshS.wpF_reads rfl rfl rfl ?_ (fun w' hw' => ?_) ?_
 rotate_left
 ·have hb' := hw'.world
  skip
  clear hw'
  go_simp
  try rfl
 conv => arg 10; simp only [Act.put, List.setIfInBounds_toArray, List.set_cons_succ, List.set_cons_zero]
 refine Go.FreshS.wpF_reads rfl rfl rfl ?_ (fun w' hw' => ?_) ?_
 rotate_left
 ·have hb' := hw'.world
  skip
  clear hw'
  go_simp
  try rfl
 conv => arg 10; simp only [Act.put, List.setIfInBounds_toArray, List.set_cons_succ, List.set_cons_zero]
 refine Go.FreshS.wpF_readsG (by rfl) rfl rfl ?_ (fun w' hw' => ?_) ?_
 rotate_left
 ·have hb' := hw'.world
  skip
  clear hw'
  go_simp
  try rfl
 conv => arg 10; simp only [Act.put, List.setIfInBounds_toArray, List.set_cons_succ, List.set_cons_zero]
 refine Go.FreshS.wpF_gspec (by rfl) rfl rfl (fun w' hw' => ?_) ?_
 ·have hb' := hw'.world
  refine Go.FreshS.gives_of (Go.FreshS.PM (fun x : PV => x.v) (fun x w' => DP w' v44.heap.size x p50) (fun _ _ => False) w'.heap.size) ?_ (fun _ _ h => h.post (fun _ _ => PV.inj))
  go_simp
  have CT := pprim (N34.out.below hb').k PCp31.out (show LQ (contP p31) 209 from PCp31.out.cont) (by decide) (by decide) (by decide) (by decide) (by decide) (by decide)
  rw [show primP p31 = p50 from Hp50.out.symm] at CT
  refine CT.mono ?_
  rintro e w'' ⟨za, rfl, ho, hb⟩
  exact ⟨_, rfl, ⟨za, rfl, ho.mono hb'.size, fun _ h => False.elim h⟩, hb⟩
 rintro _ ⟨y48, rfl⟩
 conv => arg 10; simp only [Act.put, List.setIfInBounds_toArray, List.set_cons_succ, List.set_cons_zero]
 refine Go.FreshS.wpF_readsG (by rfl) rfl rfl ?_ (fun w' hw' => ?_) ?_
 rotate_left
 ·have hb' := hw'.world
  skip
  clear hw'
  go_simp
  try rfl
 conv => arg 10; simp only [Act.put, List.setIfInBounds_toArray, List.set_cons_succ, List.set_cons_zero]
 refine Go.FreshS.wpF_gspec (by rfl) rfl rfl (fun w' hw' => ?_) ?_
 ·have hb' := hw'.world
  refine Go.FreshS.gives_of (Go.FreshS.PM (fun x : PV => x.v) (fun x w' => DP w' v44.heap.size x p51) (fun _ _ => False) w'.heap.size) ?_ (fun _ _ h => h.post (fun _ _ => PV.inj))
  go_simp
  have CT := pprim (Kx2.out.below (KG.out.trans (hb'.mono KG.out.size))) PCP2.out (show LQ (contP P2) 105 from PCP2.out.cont) (by decide) (by decide) (by decide) (by decide) (by decide) (by decide)
  rw [show primP P2 = p51 from Hp51.out.symm] at CT
  refine CT.mono ?_
  rintro e w'' ⟨za, rfl, ho, hb⟩
  exact ⟨_, rfl, ⟨za, rfl, ho.mono hb'.size, fun _ h => False.elim h⟩, hb⟩
 rintro _ ⟨y50, rfl⟩
 conv => arg 10; simp only [Act.put, List.setIfInBounds_toArray, List.set_cons_succ, List.set_cons_zero]
 refine Go.FreshS.wpF_gspec (by rfl) rfl rfl (fun w' hw' => ?_) ?_
 ·have hb' := hw'.world
  refine Go.FreshS.gives_of (Go.FreshS.PK (.bool true)) ?_ (fun _ _ h => h.post)
  go_simp
  have f48 := Go.FreshS.made_of (val := (fun x : PV => x.v)) (Φ := fun x w' => DP w' v44.heap.size x p50) (fun _ _ => PV.inj) (hw'.fact 48 (by kernel_rfl))
  have f50 := Go.FreshS.made_of (val := (fun x : PV => x.v)) (Φ := fun x w' => DP w' v44.heap.size x p51) (fun _ _ => PV.inj) (hw'.fact 50 (by kernel_rfl))
  have CT := psame7 f48.k f50.k (by simp only [Hp51.out, Hp50.out, Hp49.out, Hp48.out, Hp47.out, Hq46.out, Hv0.out, Hp45.out, Hu1.out, Hp31.out]; exact primP_scale PCP2.out.c (inv_ne HNQ.out)) PCp50.out (by decide) (by decide)
  refine CT.mono ?_
  rintro e w'' ⟨rfl, hb⟩
  exact ⟨_, rfl, rfl, hb⟩
 rintro _ rfl
 conv => arg 10; simp only [Act.put, List.setIfInBounds_toArray, List.set_cons_succ, List.set_cons_zero]
 refine Go.FreshS.wpF_reads rfl rfl rfl ?_ (fun w' hw' => ?_) ?_
 rotate_left
 ·have hb' := hw'.world
  skip
  clear hw'
  go_simp
  try rfl
 conv => arg 10; simp only [Act.put, List.setIfInBounds_toArray, List.set_cons_succ, List.set_cons_zero]
 refine Go.FreshS.wpF_nil (fun w52 hb hF => ?_)
 clear hF
 clear N34
 clear N37
 clear N42
 clear BX1
 clear BX38
 clear BX43
 have KG := Lib.hid (KG.out.trans (hb.mono KG.out.size))
 clear hb
 go_wp2_with fail
 go_ret
 exact ⟨rfl, KG.out⟩
end Go.Proofs.YthcccdjfedbnfaaGreatDoor.Pol
namespace Go.Proofs.YthcccdjfedbnfaaGreatDoor.Limb
open Go.RowKit Go.Sort Go.Proofs.YthcccdjfedbnfaaGreatDoor.Pol
open Go.ChangeShapes Go.WideShapes Go.ChangeAt
namespace PartsOneC
theorem own : ownKnob Tryz.prog.godebug = none := by kernel_rfl
theorem laidOut : laidOutB Tryz.prog = true := by kernel_rfl
theorem tab_of_laid (W : World) (hL : laidMet Tryz.prog Rows.partsOneRow.laid W) : Tab W :=
 Lib.tabIs_of_head (g := 1) (by kernel_rfl) (by kernel_rfl) (t := 235) (n := 20) (e := 118) Tryz.underlying235 Tryz.underlying118 (by kernel_rfl) (by kernel_rfl) hL.tail.tail
noncomputable def laidWorld (os : Os) : World := World.laidAll Tryz.prog os Rows.partsOneRow.laid
noncomputable def witArgs : Array Value := #[.int .u8 0, .slice none 0 0, fracV false none 0 0 false none 0 0]
theorem laid_met (os : Os) : laidMet Tryz.prog Rows.partsOneRow.laid ((laidWorld os).forCall (fun _ _ => 0) ⟨#[], witArgs, []⟩).memory :=
 laidMet_laidAll _ (by kernel_rfl) (by kernel_rfl)
theorem reads (os : Os) {H : Type} (enc : TypeId × Value → H) : ∃ places, DataW.whole enc Tryz.prog ((laidWorld os).forCall (fun _ _ => 0) ⟨#[], witArgs, []⟩).memory Tryz.f5.params.toList Rows.partsOneSpec.vars false witArgs.toList 8 = some ([.lit (.int .u8 0), .nil, .agg [.agg [.lit (.bool false), .nil], .agg [.lit (.bool false), .nil]]], [], places) :=
 ⟨[], by kernel_rfl⟩
set_option maxRecDepth 100000 in
theorem lifted (os : Os) (started : os.Started) (H : Type) (enc : TypeId × Value → H) (F : Stop.Interp) :
  ReturnsInHanded {} Tryz.checked os 5 .any ((OpenSpec.ofChange Rows.partsOneSpec).preRow enc Tryz.prog Tryz.f5 Rows.partsOneRow.domain false Rows.partsOneRow.laid) (((OpenSpec.ofChange Rows.partsOneSpec).at F).post enc Tryz.prog Tryz.f5 false true false false) := by
 obtain ⟨places, hx⟩ := reads os enc
 refine returnsInHanded_of_row (C := Tryz.checked) (s := OpenSpec.ofChange Rows.partsOneSpec) own started (by kernel_rfl) Tryz.func5
  (witness_row_atRef (enc := enc) (C := Tryz.checked) false (laidWorld os) witArgs (World.laidAll_os _ _ _) (by kernel_rfl) (by kernel_rfl) (by kernel_rfl)
   (OpenSpec.preRow_of_cond 8 hx (by kernel_rfl) (fun k hk => by cases hk) (by kernel_rfl) (laid_met os))) ?_
 intro W base args ds gs before hval0 hW _ _ hwt hL _ _
 rw [MakeChecks.laidMetH_plain _ _ _ (by kernel_rfl)] at hL
 have htab : Tab W := tab_of_laid W hL
 have hval : ∀ (j : Nat) t v, Tryz.f5.params[j]? = some t → args[j]? = some v → Value.okWide Tryz.prog W .any base t v := hval0
 have hW' := hW
 obtain ⟨p, q, hA0, hV, rfl, hfz, hnd⟩ := hW
 have hA : DataW.TrodAll enc Tryz.prog W 0 (fun _ => true) true Tryz.f5.params.toList args.toList ds p := hA0
 rw [Tryz.params5] at hA hval
 obtain ⟨v0, v1, v2, d0, d1, d2, p0, p1, p2, rfl, rfl, rfl, h0, h1, h2⟩ := trodAll_three hA
 obtain ⟨rfl, rfl⟩ := trodVars_none hV
 obtain ⟨z0, rfl, -, -, wz0⟩ := open_int Tryz.underlying44 (hval 0 44 v0 rfl rfl) h0
 obtain ⟨x1, L1, rfl, r1⟩ := open_poly (hval 1 23 v1 rfl rfl) h1
 obtain ⟨y2, rfl, r2⟩ := open_fracW (hval 2 28 v2 rfl rfl) h2 (each_weight hwt (j := 2) (by kernel_rfl) rfl)
 refine (partsOne_law z0 x1 L1 y2 W htab r1 r2).mono fun e W' ⟨he, hg⟩ => ?_
 subst he
 exact ⟨_, rfl, LawPost.law_post laidOut (by kernel_rfl) (by kernel_rfl) Tryz.underlying4 hW' rfl rfl hg⟩
theorem said : Rows.PartsOneSaid :=
 OpenClaim.holds_of_cond 5 Tryz.f5 rfl rfl rfl rfl rfl rfl rfl ⟨rfl, rfl, rfl, rfl, rfl⟩ rfl rfl rfl rfl rfl (by kernel_rfl) Tryz.func5 (by kernel_rfl)
  (of_decide_eq_true (by kernel_rfl)) (by unfold Func.isWrapper; first | (rw [if_pos (by decide +kernel)]; kernel_rfl) | (rw [if_neg (by decide +kernel)]; exact ⟨rfl, rfl⟩))
  (fun os started H enc _ F => by rw [OpenClaim.pre_eq_preRow]; exact lifted os started H enc F)
theorem plain (f : FuncId) (fn : Func) (hf : Tryz.pinned.checked.prog.funcNamed "reckoner/reckonerlaw07.PartsOne" = some f) (hfn : Tryz.pinned.checked.prog.funcs[f]? = some fn) :
  true = Tryz.pinned.checked.prog.looks [] ∧ ∀ (j : Nat) t, fn.params[j]? = some t → Tryz.pinned.checked.prog.wantsStandIn t = false := by
 obtain rfl : f = 5 := Option.some.inj ((show Tryz.prog.funcNamed "reckoner/reckonerlaw07.PartsOne" = some 5 by kernel_rfl).symm.trans hf) |>.symm
 obtain rfl : fn = Tryz.f5 := (Option.some.inj (Tryz.func5.symm.trans hfn)).symm
 refine ⟨by kernel_rfl, fun j t ht => ?_⟩
 rw [Tryz.params5] at ht
 have hm : t = 44 ∨ t = 23 ∨ t = 28 := by simpa using Array.mem_of_getElem? ht
 rcases hm with rfl | rfl | rfl
 ·exact (show Tryz.prog.wantsStandIn 44 = false by kernel_rfl)
 ·exact (show Tryz.prog.wantsStandIn 23 = false by kernel_rfl)
 ·exact (show Tryz.prog.wantsStandIn 28 = false by kernel_rfl)
theorem card : Rows.PartsOneCardSaid :=
 Claim7.holds_tied_plain_at .later [] _ _ _ _ said (fun _ h => by cases h) (by kernel_rfl) (fun _ h => by cases h) partsOne_row_tie rfl ⟨rfl, rfl⟩ (by kernel_rfl) rfl plain (by kernel_rfl)
#print axioms card
end PartsOneC
end Go.Proofs.YthcccdjfedbnfaaGreatDoor.Limb
