/-
  The law PartsTimes: whatever it is handed, it returns true, and what it was handed reads behind the call as it read before; the card ties the listed tables to the program's text.
-/
import Derived.Test.YthcccdjfedbnfaaGreatDoorPkL
import Derived.Test.YthcccdjfedbnfaaGreatDoorCards
import Derived.Test.YthcccdjfedbnfaaGreatDoorTie
import Derived.Lay
import Derived.MakeChecks
import Derived.Stop.LaidErr
import Derived.Deep.DeepWitnessRowRef
import Derived.WalkKit
import Derived.ProofKit
import Derived.OpenShut
import Derived.Deep.DeepHandedRow
import Derived.Lib.LaidTab
set_option linter.unusedSimpArgs false
set_option linter.unusedVariables false
namespace Go.Proofs.YthcccdjfedbnfaaGreatDoor.Pol
open Go.RowKit Go.Sort Go.Proofs.YthcccdjfedbnfaaGreatDoor.Limb
set_option maxRecDepth 100000 in
set_option maxHeartbeats 16000000 in
theorem partsTimes_law (x1 : PV) (L1 : List TO) (x2 : FV) (w : World) (htab : Tab w) (h1 : RawQ w x1 L1) (hc : AQ w x2) :
  Calls Tryz.prog 3 #[.slice x1.a x1.n x1.c, .agg #[.bool x2.t.s, .slice x2.t.a x2.t.n x2.t.c, .bool x2.l.s, .slice x2.l.a x2.l.n x2.l.c]] w fun e w' => e = .returned (.bool true) ∧ Below w.heap.size w w' := by
 have HT := Lib.hid htab
 have KG := Lib.hid (Below.refl w.heap.size w)
 have N1 := Lib.hid h1
 obtain ⟨qc, hqc⟩ := hc.af
 have NC := Lib.hid hqc
 have HTc := Lib.hid hc.t
 have HLc := Lib.hid hc.l
 clear hqc hc
 have Wx1 := Lib.hid (show ∀ e ∈ L1, e.1.m.le 65535 from fun e he => h1.2.2.2.2 e he)
 clear htab h1
 go_enter Tryz.func3, Tryz.ntmps3
 go_upto_region 1 with (fail)
 obtain ⟨v2, hV⟩ : ∃ V, V = w.alloc (.cells #[.bool x2.t.s, .slice x2.t.a x2.t.n x2.t.c, .bool x2.l.s, .slice x2.l.a x2.l.n x2.l.c] 28) := ⟨_, rfl⟩
 have hbV : Below w.heap.size w v2 := by rw [hV]; exact ((Below.refl _ _).alloc (Nat.le_refl _) _)
 have BX1 := Lib.hid (show Bxs v2 (w.heap.size) 28 [.bool x2.t.s, .slice x2.t.a x2.t.n x2.t.c, .bool x2.l.s, .slice x2.l.a x2.l.n x2.l.c] by have h := Bxs.new (w) 28 [.bool x2.t.s, .slice x2.t.a x2.t.n x2.t.c, .bool x2.l.s, .slice x2.l.a x2.l.n x2.l.c]; rw [hV]; exact h)
 rw [show w.alloc (.cells #[.bool x2.t.s, .slice x2.t.a x2.t.n x2.t.c, .bool x2.l.s, .slice x2.l.a x2.l.n x2.l.c] 28) = v2 from hV.symm]
 have KG := Lib.hid (KG.out.trans (hbV.mono KG.out.size))
 clear hV hbV
 go_wp2_with fail
 have CT := Lib.hid (palive7 v2 (HT.out.on KG.out))
 with_reducible refine CT.out.mono ?_
 rintro e w3 ⟨rfl, hb⟩
 clear CT
 have BX1 := Lib.hid (BX1.out.below hb BX1.out.lt)
 have KG := Lib.hid (KG.out.trans (hb.mono KG.out.size))
 clear hb
 go_wp2_with fail
 obtain ⟨v5, hV⟩ : ∃ V, V = w3.alloc (.cells #[.slice x1.a x1.n x1.c] 23) := ⟨_, rfl⟩
 have hbV : Below w3.heap.size w3 v5 := by rw [hV]; exact ((Below.refl _ _).alloc (Nat.le_refl _) _)
 have BX4 := Lib.hid (show Bxs v5 (w3.heap.size) 23 [.slice x1.a x1.n x1.c] by have h := Bxs.new (w3) 23 [.slice x1.a x1.n x1.c]; rw [hV]; exact h)
 rw [show w3.alloc (.cells #[.slice x1.a x1.n x1.c] 23) = v5 from hV.symm]
 have BX1 := Lib.hid (BX1.out.below hbV BX1.out.lt)
 have KG := Lib.hid (KG.out.trans (hbV.mono KG.out.size))
 clear hV hbV
 have CT := Lib.hid (show Calls Tryz.prog 9 #[.int .i64 25, .slice (some ⟨w3.heap.size, 0, none⟩) 1 1] v5 _ from great1P (m := 25) BX4.out (N1.out.below KG.out) (by decide))
 with_reducible refine CT.out.mono ?_
 rintro e w6 ⟨b7, rfl, hn, hb⟩
 clear CT
 have BX1 := Lib.hid (BX1.out.below hb BX1.out.lt)
 clear BX4
 have KG := Lib.hid (KG.out.trans (hb.mono KG.out.size))
 clear hb
 rcases Bool.eq_false_or_eq_true b7 with rfl | rfl
 ·clear hn
  go_wp2_with fail
  have CT := Lib.hid (palive7 w6 (HT.out.on KG.out))
  with_reducible refine CT.out.mono ?_
  rintro e w8 ⟨rfl, hb⟩
  clear CT
  have BX1 := Lib.hid (BX1.out.below hb BX1.out.lt)
  have KG := Lib.hid (KG.out.trans (hb.mono KG.out.size))
  clear hb
  go_wp2_with fail
  go_ret
  exact ⟨rfl, KG.out⟩
 have g0 := hn rfl
 have Gx1 := Lib.hid g0
 clear hn g0
 have cBX10 := BX1.out.cell (i := 0) rfl
 have cBX11 := BX1.out.cell (i := 1) rfl
 have cBX12 := BX1.out.cell (i := 2) rfl
 have cBX13 := BX1.out.cell (i := 3) rfl
 have cBX1f := BX1.out.fz
 have cBX1l := BX1.out.lt
 go_wp2_with fail
 have CT := Lib.hid (frac_sizeX x2 w6 HTc.out HLc.out)
 with_reducible refine CT.out.mono ?_
 rintro e w9 ⟨z10, rfl, hz, hb⟩
 clear CT
 clear cBX10 cBX11 cBX12 cBX13 cBX1f cBX1l
 have BX1 := Lib.hid (BX1.out.below hb BX1.out.lt)
 have KG := Lib.hid (KG.out.trans (hb.mono KG.out.size))
 clear hb
 by_cases h20 : z10 > 30
 ·have h20b : 30 < z10 := h20
  clear hz
  go_wp2_with fail
  have CT := Lib.hid (palive7 w9 (HT.out.on KG.out))
  with_reducible refine CT.out.mono ?_
  rintro e w11 ⟨rfl, hb⟩
  clear CT
  have BX1 := Lib.hid (BX1.out.below hb BX1.out.lt)
  have KG := Lib.hid (KG.out.trans (hb.mono KG.out.size))
  clear hb
  go_wp2_with fail
  go_ret
  exact ⟨rfl, KG.out⟩
 have h20b : ¬ (30 < z10) := h20
 have Bx2 := Lib.hid (show LF x2 30 from by obtain ⟨g1, g2⟩ := hz.is (by omega); have := hz.lo; exact ⟨by omega, by omega⟩)
 clear hz h20
 rcases (raw_cases N1.out Gx1.out Wx1.out).symm with hbad | ⟨P1, hk, hc⟩
 ·have Bx1 := Lib.hid hbad
  clear hbad
  go_wp2_with fail
  have CT := Lib.hid (check_b (Bx1.out.below KG.out) (Nat.le_trans (BP.n_le N1.out Gx1.out) (by decide)))
  with_reducible refine CT.out.mono ?_
  rintro e w12 ⟨rfl, hb⟩
  clear CT
  have BX1 := Lib.hid (BX1.out.below hb BX1.out.lt)
  have KG := Lib.hid (KG.out.trans (hb.mono KG.out.size))
  clear hb
  go_wp2_with fail
  have CT := Lib.hid (palive7 w12 (HT.out.on KG.out))
  with_reducible refine CT.out.mono ?_
  rintro e w13 ⟨rfl, hb⟩
  clear CT
  have BX1 := Lib.hid (BX1.out.below hb BX1.out.lt)
  have KG := Lib.hid (KG.out.trans (hb.mono KG.out.size))
  clear hb
  go_wp2_with fail
  go_ret
  exact ⟨rfl, KG.out⟩
 have Kx1 := Lib.hid hk
 have PCP1 := Lib.hid hc
 clear hk hc
 go_wp2_with fail
 have CT := Lib.hid (pcheck (Kx1.out.below KG.out) PCP1.out (by decide) (by decide))
 with_reducible refine CT.out.mono ?_
 rintro e w14 ⟨rfl, hb⟩
 clear CT
 have BX1 := Lib.hid (BX1.out.below hb BX1.out.lt)
 have KG := Lib.hid (KG.out.trans (hb.mono KG.out.size))
 clear hb
 rcases (AF.cases NC.out).symm with ⟨hbad, _⟩ | hk
 ·have Bc := Lib.hid hbad
  clear hbad
  have cBX10 := BX1.out.cell (i := 0) rfl
  have cBX11 := BX1.out.cell (i := 1) rfl
  have cBX12 := BX1.out.cell (i := 2) rfl
  have cBX13 := BX1.out.cell (i := 3) rfl
  have cBX1f := BX1.out.fz
  have cBX1l := BX1.out.lt
  go_wp2_with fail
  have CT := Lib.hid (qcheckB (Bc.out.below KG.out) (LF.up Bx2.out (by decide : _ ≤ 900000)))
  with_reducible refine CT.out.mono ?_
  rintro e w15 ⟨rfl, hb⟩
  clear CT
  clear cBX10 cBX11 cBX12 cBX13 cBX1f cBX1l
  have BX1 := Lib.hid (BX1.out.below hb BX1.out.lt)
  have KG := Lib.hid (KG.out.trans (hb.mono KG.out.size))
  clear hb
  go_wp2_with fail
  have CT := Lib.hid (palive7 w15 (HT.out.on KG.out))
  with_reducible refine CT.out.mono ?_
  rintro e w16 ⟨rfl, hb⟩
  clear CT
  have BX1 := Lib.hid (BX1.out.below hb BX1.out.lt)
  have KG := Lib.hid (KG.out.trans (hb.mono KG.out.size))
  clear hb
  go_wp2_with fail
  go_ret
  exact ⟨rfl, KG.out⟩
 have Kc := Lib.hid hk
 have LQqc := Lib.hid (hk.lq Bx2.out)
 clear hk
 have cBX10 := BX1.out.cell (i := 0) rfl
 have cBX11 := BX1.out.cell (i := 1) rfl
 have cBX12 := BX1.out.cell (i := 2) rfl
 have cBX13 := BX1.out.cell (i := 3) rfl
 have cBX1f := BX1.out.fz
 have cBX1l := BX1.out.lt
 go_wp2_with fail
 have CT := Lib.hid (qcheck (Kc.out.below KG.out) (((Kc.out.below KG.out)).len LQqc.out (by decide : _ ≤ 900000)))
 with_reducible refine CT.out.mono ?_
 rintro e w17 ⟨rfl, hb⟩
 clear CT
 clear cBX10 cBX11 cBX12 cBX13 cBX1f cBX1l
 have BX1 := Lib.hid (BX1.out.below hb BX1.out.lt)
 have KG := Lib.hid (KG.out.trans (hb.mono KG.out.size))
 clear hb
 by_cases hq0 : qc = 0
 ·have HQ0 := Lib.hid hq0
  clear hq0
  have cBX10 := BX1.out.cell (i := 0) rfl
  have cBX11 := BX1.out.cell (i := 1) rfl
  have cBX12 := BX1.out.cell (i := 2) rfl
  have cBX13 := BX1.out.cell (i := 3) rfl
  have cBX1f := BX1.out.fz
  have cBX1l := BX1.out.lt
  go_wp2_with fail
  have CT := Lib.hid (qsign ((Kc.out.below KG.out)).any (((Kc.out.below KG.out)).len LQqc.out (by decide : _ ≤ 900000)))
  rw [show cmpZ qc.num 0 = 0 from by rw [HQ0.out]; decide +kernel] at CT
  with_reducible refine CT.out.mono ?_
  rintro e w18 ⟨rfl, hb⟩
  clear CT
  clear cBX10 cBX11 cBX12 cBX13 cBX1f cBX1l
  have BX1 := Lib.hid (BX1.out.below hb BX1.out.lt)
  have KG := Lib.hid (KG.out.trans (hb.mono KG.out.size))
  clear hb
  go_wp2_with fail
  have CT := Lib.hid (palive7 w18 (HT.out.on KG.out))
  with_reducible refine CT.out.mono ?_
  rintro e w19 ⟨rfl, hb⟩
  clear CT
  have BX1 := Lib.hid (BX1.out.below hb BX1.out.lt)
  have KG := Lib.hid (KG.out.trans (hb.mono KG.out.size))
  clear hb
  go_wp2_with fail
  go_ret
  exact ⟨rfl, KG.out⟩
 have HQ0 := Lib.hid hq0
 obtain ⟨sg, hsg⟩ : ∃ z, z = cmpZ qc.num 0 := ⟨_, rfl⟩
 have hsz : (sg == 0) = false := beq_eq_false_iff_ne.2 (by rw [hsg]; exact sign_ne hq0)
 have HSG := Lib.hid hsg.symm
 clear hq0 hsg
 have cBX10 := BX1.out.cell (i := 0) rfl
 have cBX11 := BX1.out.cell (i := 1) rfl
 have cBX12 := BX1.out.cell (i := 2) rfl
 have cBX13 := BX1.out.cell (i := 3) rfl
 have cBX1f := BX1.out.fz
 have cBX1l := BX1.out.lt
 go_wp2_with fail
 have CT := Lib.hid (qsign ((Kc.out.below KG.out)).any (((Kc.out.below KG.out)).len LQqc.out (by decide : _ ≤ 900000)))
 rw [show cmpZ qc.num 0 = sg from HSG.out] at CT
 with_reducible refine CT.out.mono ?_
 rintro e w20 ⟨rfl, hb⟩
 clear CT
 clear cBX10 cBX11 cBX12 cBX13 cBX1f cBX1l
 have BX1 := Lib.hid (BX1.out.below hb BX1.out.lt)
 have KG := Lib.hid (KG.out.trans (hb.mono KG.out.size))
 clear hb
 have cBX10 := BX1.out.cell (i := 0) rfl
 have cBX11 := BX1.out.cell (i := 1) rfl
 have cBX12 := BX1.out.cell (i := 2) rfl
 have cBX13 := BX1.out.cell (i := 3) rfl
 have cBX1f := BX1.out.fz
 have cBX1l := BX1.out.lt
 go_wp2_with fail
 obtain ⟨p21, hp21⟩ : ∃ z : List Tm, z = scaleP qc P1 := ⟨_, rfl⟩
 have Hp21 := Lib.hid hp21
 have PCp21 := Lib.hid (show PC p21 25 34 65535 by rw [hp21]; exact PCP1.out.scale LQqc.out)
 clear hp21
 have CT := Lib.hid (pscale (Kx1.out.below KG.out) PCP1.out ((Kc.out.below KG.out)).any (((Kc.out.below KG.out)).len LQqc.out (by decide : _ ≤ 900000)) LQqc.out (by decide) (by decide) (by decide) (by decide))
 rw [show scaleP qc P1 = p21 from Hp21.out.symm] at CT
 with_reducible refine CT.out.mono ?_
 rintro e w22 ⟨z23, rfl, hN24, hb⟩
 have N24 := Lib.hid hN24
 clear hN24
 clear CT
 clear cBX10 cBX11 cBX12 cBX13 cBX1f cBX1l
 have BX1 := Lib.hid (BX1.out.below hb BX1.out.lt)
 have KG := Lib.hid (KG.out.trans (hb.mono KG.out.size))
 clear hb
 obtain ⟨q25, hq25⟩ : ∃ z : Rat, z = contP p21 := ⟨_, rfl⟩
 have Hq25 := Lib.hid hq25
 have LQq25 := Lib.hid (show LQ q25 885 by rw [hq25]; exact PCp21.out.cont)
 clear hq25
 obtain ⟨q26, hq26⟩ : ∃ z : Rat, z = contP P1 := ⟨_, rfl⟩
 have Hq26 := Lib.hid hq26
 have LQq26 := Lib.hid (show LQ q26 105 by rw [hq26]; exact PCP1.out.cont)
 clear hq26
 obtain ⟨q27, hq27⟩ : ∃ z : Rat, z = q26 * qc := ⟨_, rfl⟩
 have Hq27 := Lib.hid hq27
 have LQq27 := Lib.hid (show LQ q27 210 by rw [hq27]; exact LQ.mul (LQq26.out.up (by decide : _ ≤ 105)) (LQqc.out.up (by decide : _ ≤ 105)) (by decide))
 clear hq27
 obtain ⟨p28, hp28⟩ : ∃ z : List Tm, z = primP p21 := ⟨_, rfl⟩
 have Hp28 := Lib.hid hp28
 have PCp28 := Lib.hid (show PC p28 25 919 65535 by rw [hp28]; exact PCp21.out.prim (PCp21.out.cont))
 clear hp28
 obtain ⟨p29, hp29⟩ : ∃ z : List Tm, z = primP P1 := ⟨_, rfl⟩
 have Hp29 := Lib.hid hp29
 have PCp29 := Lib.hid (show PC p29 25 109 65535 by rw [hp29]; exact PCP1.out.prim (PCP1.out.cont))
 clear hp29
 go_upto_region 4 with (fail)
 refine Go.FreshS.wp_region_fresh 14 [] (Go.FreshS.spOf [(1, Go.FreshS.Sp.made (fun x : FV => x.v) (fun x w' => DF w' w22.heap.size x q25) FV.blk), (3, Go.FreshS.Sp.made (fun x : FV => x.v) (fun x w' => DF w' w22.heap.size x q26) FV.blk), (5, Go.FreshS.Sp.made (fun x : FV => x.v) (fun x w' => DF w' w22.heap.size x q27) FV.blk), (6, Go.FreshS.Sp.know (.bool true)), (9, Go.FreshS.Sp.made (fun x : PV => x.v) (fun x w' => DP w' w22.heap.size x p28) (fun _ _ => False)), (11, Go.FreshS.Sp.made (fun x : PV => x.v) (fun x w' => DP w' w22.heap.size x p29) (fun _ _ => False)), (12, Go.FreshS.Sp.know (.bool true))])
  (fun w' => Below w22.heap.size w22 w') (by kernel_rfl) (by kernel_rfl) (by kernel_rfl)
  (Go.FreshS.spOf_cons (Go.FreshS.Sp.made_keeps _ (fun _ _ _ h _ hk => h.kept hk) (Go.FreshS.notTaken (by kernel_rfl))) (Go.FreshS.spOf_cons (Go.FreshS.Sp.made_keeps _ (fun _ _ _ h _ hk => h.kept hk) (Go.FreshS.notTaken (by kernel_rfl))) (Go.FreshS.spOf_cons (Go.FreshS.Sp.made_keeps _ (fun _ _ _ h _ hk => h.kept hk) (Go.FreshS.notTaken (by kernel_rfl))) (Go.FreshS.spOf_cons (Go.FreshS.Sp.know_keeps _ _) (Go.FreshS.spOf_cons (Go.FreshS.Sp.made_keepsR _ rowT (fun _ _ _ h hs => h.rows hs) (by kernel_rfl) (Go.FreshS.notTaken (by kernel_rfl))) (Go.FreshS.spOf_cons (Go.FreshS.Sp.made_keepsR _ rowT (fun _ _ _ h hs => h.rows hs) (by kernel_rfl) (Go.FreshS.notTaken (by kernel_rfl))) (Go.FreshS.spOf_cons (Go.FreshS.Sp.know_keeps _ _) (Go.FreshS.spOf_nil)))))))) (fun _ _ h hb => h.trans (hb.mono h.size)) ((Below.refl _ _).drew) ?_
 simp only [List.append_eq, List.cons_append, List.nil_append, List.take_succ_cons, List.take_zero, List.drop_succ_cons, List.drop_zero]
 refine Go.FreshS.wpF_reads rfl rfl rfl ?_ (fun w' hw' => ?_) ?_
 rotate_left
 ·have hb' := hw'.world
  skip
  clear hw'
  go_simp
  try rfl
 conv => arg 10; simp only [Act.put, List.setIfInBounds_toArray, List.set_cons_succ, List.set_cons_zero]
 refine Go.FreshS.wpF_spec rfl rfl rfl (fun w' hw' => ?_) ?_
 ·have hb' := hw'.world
  refine Go.FreshS.gives_of (Go.FreshS.PM (fun x : FV => x.v) (fun x w' => DF w' w22.heap.size x q25) FV.blk w'.heap.size) ?_ (fun _ _ h => h.post (fun _ _ => FV.inj))
  go_simp
  have CT := pcontent (N24.out.below hb').k PCp21.out (by decide) (by decide) (by decide)
  rw [show contP p21 = q25 from Hq25.out.symm] at CT
  refine CT.mono ?_
  rintro e w'' ⟨za, rfl, ho, hb⟩
  exact ⟨_, rfl, ⟨za, rfl, ho.mono hb'.size, ho.blks⟩, hb⟩
 rintro _ ⟨y1, rfl⟩
 conv => arg 10; simp only [Act.put, List.setIfInBounds_toArray, List.set_cons_succ, List.set_cons_zero]
 refine Go.FreshS.wpF_reads rfl rfl rfl ?_ (fun w' hw' => ?_) ?_
 rotate_left
 ·have hb' := hw'.world
  skip
  clear hw'
  go_simp
  try rfl
 conv => arg 10; simp only [Act.put, List.setIfInBounds_toArray, List.set_cons_succ, List.set_cons_zero]
 refine Go.FreshS.wpF_spec rfl rfl rfl (fun w' hw' => ?_) ?_
 ·have hb' := hw'.world
  refine Go.FreshS.gives_of (Go.FreshS.PM (fun x : FV => x.v) (fun x w' => DF w' w22.heap.size x q26) FV.blk w'.heap.size) ?_ (fun _ _ h => h.post (fun _ _ => FV.inj))
  go_simp
  have CT := pcontent (Kx1.out.below (KG.out.trans (hb'.mono KG.out.size))) PCP1.out (by decide) (by decide) (by decide)
  rw [show contP P1 = q26 from Hq26.out.symm] at CT
  refine CT.mono ?_
  rintro e w'' ⟨za, rfl, ho, hb⟩
  exact ⟨_, rfl, ⟨za, rfl, ho.mono hb'.size, ho.blks⟩, hb⟩
 rintro _ ⟨y3, rfl⟩
 conv => arg 10; simp only [Act.put, List.setIfInBounds_toArray, List.set_cons_succ, List.set_cons_zero]
 refine Go.FreshS.wpF_reads rfl rfl rfl ?_ (fun w' hw' => ?_) ?_
 rotate_left
 ·have hb' := hw'.world
  have hs0 := (BX1.out.below hb' BX1.out.lt).cell (i := 0) rfl
  have hs1 := (BX1.out.below hb' BX1.out.lt).cell (i := 1) rfl
  have hs2 := (BX1.out.below hb' BX1.out.lt).cell (i := 2) rfl
  have hs3 := (BX1.out.below hb' BX1.out.lt).cell (i := 3) rfl
  have hsf := (BX1.out.below hb' BX1.out.lt).fz
  have hsl := (BX1.out.below hb' BX1.out.lt).lt
  clear hw'
  go_simp
  try rfl
 conv => arg 10; simp only [Act.put, List.setIfInBounds_toArray, List.set_cons_succ, List.set_cons_zero]
 refine Go.FreshS.wpF_spec rfl rfl rfl (fun w' hw' => ?_) ?_
 ·have hb' := hw'.world
  refine Go.FreshS.gives_of (Go.FreshS.PM (fun x : FV => x.v) (fun x w' => DF w' w22.heap.size x q27) FV.blk w'.heap.size) ?_ (fun _ _ h => h.post (fun _ _ => FV.inj))
  go_simp
  have f3 := Go.FreshS.made_of (val := (fun x : FV => x.v)) (Φ := fun x w' => DF w' w22.heap.size x q26) (fun _ _ => FV.inj) (hw'.fact 3 (by kernel_rfl))
  have CT := qmul (f3).k.any (((f3).k).len LQq26.out (by decide : _ ≤ 900000)) ((Kc.out.below (KG.out.trans (hb'.mono KG.out.size)))).any (((Kc.out.below (KG.out.trans (hb'.mono KG.out.size)))).len LQqc.out (by decide : _ ≤ 900000))
  rw [show q26 * qc = q27 from Hq27.out.symm] at CT
  refine CT.mono ?_
  rintro e w'' ⟨za, rfl, ho, hb⟩
  exact ⟨_, rfl, ⟨za, rfl, ho.mono hb'.size, ho.blks⟩, hb⟩
 rintro _ ⟨y5, rfl⟩
 conv => arg 10; simp only [Act.put, List.setIfInBounds_toArray, List.set_cons_succ, List.set_cons_zero]
 refine Go.FreshS.wpF_spec rfl rfl rfl (fun w' hw' => ?_) ?_
 ·have hb' := hw'.world
  refine Go.FreshS.gives_of (Go.FreshS.PK (.bool true)) ?_ (fun _ _ h => h.post)
  go_simp
  have f1 := Go.FreshS.made_of (val := (fun x : FV => x.v)) (Φ := fun x w' => DF w' w22.heap.size x q25) (fun _ _ => FV.inj) (hw'.fact 1 (by kernel_rfl))
  have f5 := Go.FreshS.made_of (val := (fun x : FV => x.v)) (Φ := fun x w' => DF w' w22.heap.size x q27) (fun _ _ => FV.inj) (hw'.fact 5 (by kernel_rfl))
  have CT := qsameFr (f1).k (((f1).k).len LQq25.out (by decide : _ ≤ 900000)) (f5).k (((f5).k).len LQq27.out (by decide : _ ≤ 900000)) (by simp only [Hq27.out, Hq26.out, Hq25.out, Hp21.out]; exact contP_scale PCP1.out.c HQ0.out)
  refine CT.mono ?_
  rintro e w'' ⟨rfl, hb⟩
  exact ⟨_, rfl, rfl, hb⟩
 rintro _ rfl
 conv => arg 10; simp only [Act.put, List.setIfInBounds_toArray, List.set_cons_succ, List.set_cons_zero]
 refine Go.FreshS.wpF_reads rfl rfl rfl ?_ (fun w' hw' => ?_) ?_
 rotate_left
 ·have hb' := hw'.world
  skip
  clear hw'
  go_simp
  try rfl
 conv => arg 10; simp only [Act.put, List.setIfInBounds_toArray, List.set_cons_succ, List.set_cons_zero]
 refine Go.FreshS.wpF_readsG (by rfl) rfl rfl ?_ (fun w' hw' => ?_) ?_
 rotate_left
 ·have hb' := hw'.world
  skip
  clear hw'
  go_simp
  try rfl
 conv => arg 10; simp only [Act.put, List.setIfInBounds_toArray, List.set_cons_succ, List.set_cons_zero]
 refine Go.FreshS.wpF_gspec (by rfl) rfl rfl (fun w' hw' => ?_) ?_
 ·have hb' := hw'.world
  refine Go.FreshS.gives_of (Go.FreshS.PM (fun x : PV => x.v) (fun x w' => DP w' w22.heap.size x p28) (fun _ _ => False) w'.heap.size) ?_ (fun _ _ h => h.post (fun _ _ => PV.inj))
  go_simp
  have CT := pprim (N24.out.below hb').k PCp21.out (show LQ (contP p21) 885 from PCp21.out.cont) (by decide) (by decide) (by decide) (by decide) (by decide) (by decide)
  rw [show primP p21 = p28 from Hp28.out.symm] at CT
  refine CT.mono ?_
  rintro e w'' ⟨za, rfl, ho, hb⟩
  exact ⟨_, rfl, ⟨za, rfl, ho.mono hb'.size, fun _ h => False.elim h⟩, hb⟩
 rintro _ ⟨y9, rfl⟩
 conv => arg 10; simp only [Act.put, List.setIfInBounds_toArray, List.set_cons_succ, List.set_cons_zero]
 refine Go.FreshS.wpF_readsG (by rfl) rfl rfl ?_ (fun w' hw' => ?_) ?_
 rotate_left
 ·have hb' := hw'.world
  skip
  clear hw'
  go_simp
  try rfl
 conv => arg 10; simp only [Act.put, List.setIfInBounds_toArray, List.set_cons_succ, List.set_cons_zero]
 refine Go.FreshS.wpF_gspec (by rfl) rfl rfl (fun w' hw' => ?_) ?_
 ·have hb' := hw'.world
  refine Go.FreshS.gives_of (Go.FreshS.PM (fun x : PV => x.v) (fun x w' => DP w' w22.heap.size x p29) (fun _ _ => False) w'.heap.size) ?_ (fun _ _ h => h.post (fun _ _ => PV.inj))
  go_simp
  have CT := pprim (Kx1.out.below (KG.out.trans (hb'.mono KG.out.size))) PCP1.out (show LQ (contP P1) 105 from PCP1.out.cont) (by decide) (by decide) (by decide) (by decide) (by decide) (by decide)
  rw [show primP P1 = p29 from Hp29.out.symm] at CT
  refine CT.mono ?_
  rintro e w'' ⟨za, rfl, ho, hb⟩
  exact ⟨_, rfl, ⟨za, rfl, ho.mono hb'.size, fun _ h => False.elim h⟩, hb⟩
 rintro _ ⟨y11, rfl⟩
 conv => arg 10; simp only [Act.put, List.setIfInBounds_toArray, List.set_cons_succ, List.set_cons_zero]
 refine Go.FreshS.wpF_gspec (by rfl) rfl rfl (fun w' hw' => ?_) ?_
 ·have hb' := hw'.world
  refine Go.FreshS.gives_of (Go.FreshS.PK (.bool true)) ?_ (fun _ _ h => h.post)
  go_simp
  have f9 := Go.FreshS.made_of (val := (fun x : PV => x.v)) (Φ := fun x w' => DP w' w22.heap.size x p28) (fun _ _ => PV.inj) (hw'.fact 9 (by kernel_rfl))
  have f11 := Go.FreshS.made_of (val := (fun x : PV => x.v)) (Φ := fun x w' => DP w' w22.heap.size x p29) (fun _ _ => PV.inj) (hw'.fact 11 (by kernel_rfl))
  have CT := psame7 f9.k f11.k (by simp only [Hp29.out, Hp28.out, Hq27.out, Hq26.out, Hq25.out, Hp21.out]; exact primP_scale PCP1.out.c HQ0.out) PCp28.out (by decide) (by decide)
  refine CT.mono ?_
  rintro e w'' ⟨rfl, hb⟩
  exact ⟨_, rfl, rfl, hb⟩
 rintro _ rfl
 conv => arg 10; simp only [Act.put, List.setIfInBounds_toArray, List.set_cons_succ, List.set_cons_zero]
 refine Go.FreshS.wpF_reads rfl rfl rfl ?_ (fun w' hw' => ?_) ?_
 rotate_left
 ·have hb' := hw'.world
  skip
  clear hw'
  go_simp
  try rfl
 conv => arg 10; simp only [Act.put, List.setIfInBounds_toArray, List.set_cons_succ, List.set_cons_zero]
 refine Go.FreshS.wpF_nil (fun w30 hb hF => ?_)
 clear hF
 clear N24
 clear BX1
 have KG := Lib.hid (KG.out.trans (hb.mono KG.out.size))
 clear hb
 go_wp2_with fail
 go_ret
 exact ⟨rfl, KG.out⟩
end Go.Proofs.YthcccdjfedbnfaaGreatDoor.Pol
namespace Go.Proofs.YthcccdjfedbnfaaGreatDoor.Limb
open Go.RowKit Go.Sort Go.Proofs.YthcccdjfedbnfaaGreatDoor.Pol
open Go.ChangeShapes Go.WideShapes Go.ChangeAt
namespace PartsTimesC
theorem own : ownKnob Tryz.prog.godebug = none := by kernel_rfl
theorem laidOut : laidOutB Tryz.prog = true := by kernel_rfl
theorem tab_of_laid (W : World) (hL : laidMet Tryz.prog Rows.partsTimesRow.laid W) : Tab W :=
 Lib.tabIs_of_head (g := 1) (by kernel_rfl) (by kernel_rfl) (t := 235) (n := 20) (e := 118) Tryz.underlying235 Tryz.underlying118 (by kernel_rfl) (by kernel_rfl) hL.tail.tail
noncomputable def laidWorld (os : Os) : World := World.laidAll Tryz.prog os Rows.partsTimesRow.laid
noncomputable def witArgs : Array Value := #[.slice none 0 0, fracV false none 0 0 false none 0 0]
theorem laid_met (os : Os) : laidMet Tryz.prog Rows.partsTimesRow.laid ((laidWorld os).forCall (fun _ _ => 0) ⟨#[], witArgs, []⟩).memory :=
 laidMet_laidAll _ (by kernel_rfl) (by kernel_rfl)
theorem reads (os : Os) {H : Type} (enc : TypeId × Value → H) : ∃ places, DataW.whole enc Tryz.prog ((laidWorld os).forCall (fun _ _ => 0) ⟨#[], witArgs, []⟩).memory Tryz.f3.params.toList Rows.partsTimesSpec.vars false witArgs.toList 8 = some ([.nil, .agg [.agg [.lit (.bool false), .nil], .agg [.lit (.bool false), .nil]]], [], places) :=
 ⟨[], by kernel_rfl⟩
set_option maxRecDepth 100000 in
theorem lifted (os : Os) (started : os.Started) (H : Type) (enc : TypeId × Value → H) (F : Stop.Interp) :
  ReturnsInHanded {} Tryz.checked os 3 .any ((OpenSpec.ofChange Rows.partsTimesSpec).preRow enc Tryz.prog Tryz.f3 Rows.partsTimesRow.domain false Rows.partsTimesRow.laid) (((OpenSpec.ofChange Rows.partsTimesSpec).at F).post enc Tryz.prog Tryz.f3 false true false false) := by
 obtain ⟨places, hx⟩ := reads os enc
 refine returnsInHanded_of_row (C := Tryz.checked) (s := OpenSpec.ofChange Rows.partsTimesSpec) own started (by kernel_rfl) Tryz.func3
  (witness_row_atRef (enc := enc) (C := Tryz.checked) false (laidWorld os) witArgs (World.laidAll_os _ _ _) (by kernel_rfl) (by kernel_rfl) (by kernel_rfl)
   (OpenSpec.preRow_of_cond 8 hx (by kernel_rfl) (fun k hk => by cases hk) (by kernel_rfl) (laid_met os))) ?_
 intro W base args ds gs before hval0 hW _ _ hwt hL _ _
 rw [MakeChecks.laidMetH_plain _ _ _ (by kernel_rfl)] at hL
 have htab : Tab W := tab_of_laid W hL
 have hval : ∀ (j : Nat) t v, Tryz.f3.params[j]? = some t → args[j]? = some v → Value.okWide Tryz.prog W .any base t v := hval0
 have hW' := hW
 obtain ⟨p, q, hA0, hV, rfl, hfz, hnd⟩ := hW
 have hA : DataW.TrodAll enc Tryz.prog W 0 (fun _ => true) true Tryz.f3.params.toList args.toList ds p := hA0
 rw [Tryz.params3] at hA hval
 obtain ⟨v0, v1, d0, d1, p0, p1, rfl, rfl, rfl, h0, h1⟩ := trodAll_two hA
 obtain ⟨rfl, rfl⟩ := trodVars_none hV
 obtain ⟨x0, L0, rfl, r0⟩ := open_poly (hval 0 23 v0 rfl rfl) h0
 obtain ⟨y1, rfl, r1⟩ := open_fracW (hval 1 28 v1 rfl rfl) h1 (each_weight hwt (j := 1) (by kernel_rfl) rfl)
 refine (partsTimes_law x0 L0 y1 W htab r0 r1).mono fun e W' ⟨he, hg⟩ => ?_
 subst he
 exact ⟨_, rfl, LawPost.law_post laidOut (by kernel_rfl) (by kernel_rfl) Tryz.underlying4 hW' rfl rfl hg⟩
theorem said : Rows.PartsTimesSaid :=
 OpenClaim.holds_of_cond 3 Tryz.f3 rfl rfl rfl rfl rfl rfl rfl ⟨rfl, rfl, rfl, rfl, rfl⟩ rfl rfl rfl rfl rfl (by kernel_rfl) Tryz.func3 (by kernel_rfl)
  (of_decide_eq_true (by kernel_rfl)) (by unfold Func.isWrapper; first | (rw [if_pos (by decide +kernel)]; kernel_rfl) | (rw [if_neg (by decide +kernel)]; exact ⟨rfl, rfl⟩))
  (fun os started H enc _ F => by rw [OpenClaim.pre_eq_preRow]; exact lifted os started H enc F)
theorem plain (f : FuncId) (fn : Func) (hf : Tryz.pinned.checked.prog.funcNamed "reckoner/reckonerlaw07.PartsTimes" = some f) (hfn : Tryz.pinned.checked.prog.funcs[f]? = some fn) :
  true = Tryz.pinned.checked.prog.looks [] ∧ ∀ (j : Nat) t, fn.params[j]? = some t → Tryz.pinned.checked.prog.wantsStandIn t = false := by
 obtain rfl : f = 3 := Option.some.inj ((show Tryz.prog.funcNamed "reckoner/reckonerlaw07.PartsTimes" = some 3 by kernel_rfl).symm.trans hf) |>.symm
 obtain rfl : fn = Tryz.f3 := (Option.some.inj (Tryz.func3.symm.trans hfn)).symm
 refine ⟨by kernel_rfl, fun j t ht => ?_⟩
 rw [Tryz.params3] at ht
 have hm : t = 23 ∨ t = 28 := by simpa using Array.mem_of_getElem? ht
 rcases hm with rfl | rfl
 ·exact (show Tryz.prog.wantsStandIn 23 = false by kernel_rfl)
 ·exact (show Tryz.prog.wantsStandIn 28 = false by kernel_rfl)
theorem card : Rows.PartsTimesCardSaid :=
 Claim7.holds_tied_plain_at .later [] _ _ _ _ said (fun _ h => by cases h) (by kernel_rfl) (fun _ h => by cases h) partsTimes_row_tie rfl ⟨rfl, rfl⟩ (by kernel_rfl) rfl plain (by kernel_rfl)
#print axioms card
end PartsTimesC
end Go.Proofs.YthcccdjfedbnfaaGreatDoor.Limb
