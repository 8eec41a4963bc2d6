/-
  The law PolysRing: whatever it is handed, it returns true, and what it was handed reads behind the call as it read before; the card ties the listed tables to the program's text.
-/
import Derived.Test.YtkkbegkdbcenkaaGreatDoorPqM
import Derived.Test.YtkkbegkdbcenkaaGreatDoorCards
import Derived.Test.YtkkbegkdbcenkaaGreatDoorTie
import Derived.Lay
import Derived.MakeChecks
import Derived.Stop.LaidErr
import Derived.Deep.DeepWitnessRowRef
import Derived.WalkKit
import Derived.ProofKit
import Derived.OpenShut
import Derived.Deep.DeepHandedRow
import Derived.Lib.LaidTab
set_option linter.unusedSimpArgs false
set_option linter.unusedVariables false
namespace Go.Proofs.YtkkbegkdbcenkaaGreatDoor.Pol
open Go.RowKit Go.Sort Go.Proofs.YtkkbegkdbcenkaaGreatDoor.Limb
set_option maxRecDepth 100000 in
set_option maxHeartbeats 16000000 in
theorem polysRing_law (x1 : PV) (L1 : List TO) (x2 : PV) (L2 : List TO) (x3 : PV) (L3 : List TO) (w : World) (htab : Tab w) (h1 : RawQ w x1 L1) (h2 : RawQ w x2 L2) (h3 : RawQ w x3 L3) :
  Calls Tryz.prog 3 #[.slice x1.a x1.n x1.c, .slice x2.a x2.n x2.c, .slice x3.a x3.n x3.c] w fun e w' => e = .returned (.bool true) ∧ Below w.heap.size w w' := by
 have HT := Lib.hid htab
 have KG := Lib.hid (Below.refl w.heap.size w)
 have N1 := Lib.hid h1
 have N2 := Lib.hid h2
 have N3 := Lib.hid h3
 clear htab h1 h2 h3
 go_enter Tryz.func3, Tryz.ntmps3
 go_wp2_with fail
 have CT := Lib.hid (palive w (HT.out.on KG.out))
 with_reducible refine CT.out.mono ?_
 rintro e w1 ⟨rfl, hb⟩
 clear CT
 have KG := Lib.hid (KG.out.trans (hb.mono KG.out.size))
 clear hb
 go_wp2_with fail
 obtain ⟨v3, hV⟩ : ∃ V, V = w1.alloc (.cells #[.slice x1.a x1.n x1.c, .slice x2.a x2.n x2.c, .slice x3.a x3.n x3.c] 23) := ⟨_, rfl⟩
 have hbV : Below w1.heap.size w1 v3 := by rw [hV]; exact ((Below.refl _ _).alloc (Nat.le_refl _) _)
 have BX2 := Lib.hid (show Bxs v3 (w1.heap.size) 23 [.slice x1.a x1.n x1.c, .slice x2.a x2.n x2.c, .slice x3.a x3.n x3.c] by have h := Bxs.new (w1) 23 [.slice x1.a x1.n x1.c, .slice x2.a x2.n x2.c, .slice x3.a x3.n x3.c]; rw [hV]; exact h)
 rw [show w1.alloc (.cells #[.slice x1.a x1.n x1.c, .slice x2.a x2.n x2.c, .slice x3.a x3.n x3.c] 23) = v3 from hV.symm]
 have KG := Lib.hid (KG.out.trans (hbV.mono KG.out.size))
 clear hV hbV
 have CT := Lib.hid (show Calls Tryz.prog 10 #[.int .i64 8, .slice (some ⟨w1.heap.size, 0, none⟩) 3 3] v3 _ from great3P (m := 8) BX2.out (N1.out.below KG.out) (N2.out.below KG.out) (N3.out.below KG.out) (by decide))
 with_reducible refine CT.out.mono ?_
 rintro e w4 ⟨b5, rfl, hn, hb⟩
 clear CT
 clear BX2
 have KG := Lib.hid (KG.out.trans (hb.mono KG.out.size))
 clear hb
 rcases Bool.eq_false_or_eq_true b5 with rfl | rfl
 ·clear hn
  go_wp2_with fail
  have CT := Lib.hid (palive w4 (HT.out.on KG.out))
  with_reducible refine CT.out.mono ?_
  rintro e w6 ⟨rfl, hb⟩
  clear CT
  have KG := Lib.hid (KG.out.trans (hb.mono KG.out.size))
  clear hb
  go_wp2_with fail
  go_ret
  exact ⟨rfl, KG.out⟩
 obtain ⟨g0, g1, g2⟩ := hn rfl
 have Gx1 := Lib.hid g0
 have Gx2 := Lib.hid g1
 have Gx3 := Lib.hid g2
 clear hn g0 g1 g2
 go_wp2_with fail
 have CT := Lib.hid (pwide (N1.out.below KG.out) Gx1.out (by decide))
 with_reducible refine CT.out.mono ?_
 rintro e w7 ⟨b8, rfl, hn, hb⟩
 clear CT
 have KG := Lib.hid (KG.out.trans (hb.mono KG.out.size))
 clear hb
 rcases Bool.eq_false_or_eq_true b8 with rfl | rfl
 ·clear hn
  go_wp2_with fail
  have CT := Lib.hid (palive w7 (HT.out.on KG.out))
  with_reducible refine CT.out.mono ?_
  rintro e w9 ⟨rfl, hb⟩
  clear CT
  have KG := Lib.hid (KG.out.trans (hb.mono KG.out.size))
  clear hb
  go_wp2_with fail
  go_ret
  exact ⟨rfl, KG.out⟩
 have Wx1 := Lib.hid (hn rfl)
 clear hn
 go_wp2_with fail
 have CT := Lib.hid (pwide (N2.out.below KG.out) Gx2.out (by decide))
 with_reducible refine CT.out.mono ?_
 rintro e w10 ⟨b11, rfl, hn, hb⟩
 clear CT
 have KG := Lib.hid (KG.out.trans (hb.mono KG.out.size))
 clear hb
 rcases Bool.eq_false_or_eq_true b11 with rfl | rfl
 ·clear hn
  go_wp2_with fail
  have CT := Lib.hid (palive w10 (HT.out.on KG.out))
  with_reducible refine CT.out.mono ?_
  rintro e w12 ⟨rfl, hb⟩
  clear CT
  have KG := Lib.hid (KG.out.trans (hb.mono KG.out.size))
  clear hb
  go_wp2_with fail
  go_ret
  exact ⟨rfl, KG.out⟩
 have Wx2 := Lib.hid (hn rfl)
 clear hn
 go_wp2_with fail
 have CT := Lib.hid (pwide (N3.out.below KG.out) Gx3.out (by decide))
 with_reducible refine CT.out.mono ?_
 rintro e w13 ⟨b14, rfl, hn, hb⟩
 clear CT
 have KG := Lib.hid (KG.out.trans (hb.mono KG.out.size))
 clear hb
 rcases Bool.eq_false_or_eq_true b14 with rfl | rfl
 ·clear hn
  go_wp2_with fail
  have CT := Lib.hid (palive w13 (HT.out.on KG.out))
  with_reducible refine CT.out.mono ?_
  rintro e w15 ⟨rfl, hb⟩
  clear CT
  have KG := Lib.hid (KG.out.trans (hb.mono KG.out.size))
  clear hb
  go_wp2_with fail
  go_ret
  exact ⟨rfl, KG.out⟩
 have Wx3 := Lib.hid (hn rfl)
 clear hn
 rcases (raw_cases N1.out Gx1.out Wx1.out).symm with hbad | ⟨P1, hk, hc⟩
 ·have Bx1 := Lib.hid hbad
  clear hbad
  go_wp2_with fail
  have CT := Lib.hid (check_b (Bx1.out.below KG.out) (Nat.le_trans (BP.n_le N1.out Gx1.out) (by decide)))
  with_reducible refine CT.out.mono ?_
  rintro e w16 ⟨rfl, hb⟩
  clear CT
  have KG := Lib.hid (KG.out.trans (hb.mono KG.out.size))
  clear hb
  go_wp2_with fail
  have CT := Lib.hid (palive w16 (HT.out.on KG.out))
  with_reducible refine CT.out.mono ?_
  rintro e w17 ⟨rfl, hb⟩
  clear CT
  have KG := Lib.hid (KG.out.trans (hb.mono KG.out.size))
  clear hb
  go_wp2_with fail
  go_ret
  exact ⟨rfl, KG.out⟩
 have Kx1 := Lib.hid hk
 have PCP1 := Lib.hid hc
 clear hk hc
 go_wp2_with fail
 have CT := Lib.hid (pcheck (Kx1.out.below KG.out) PCP1.out (by decide) (by decide))
 with_reducible refine CT.out.mono ?_
 rintro e w18 ⟨rfl, hb⟩
 clear CT
 have KG := Lib.hid (KG.out.trans (hb.mono KG.out.size))
 clear hb
 rcases (raw_cases N2.out Gx2.out Wx2.out).symm with hbad | ⟨P2, hk, hc⟩
 ·have Bx2 := Lib.hid hbad
  clear hbad
  go_wp2_with fail
  have CT := Lib.hid (check_b (Bx2.out.below KG.out) (Nat.le_trans (BP.n_le N2.out Gx2.out) (by decide)))
  with_reducible refine CT.out.mono ?_
  rintro e w19 ⟨rfl, hb⟩
  clear CT
  have KG := Lib.hid (KG.out.trans (hb.mono KG.out.size))
  clear hb
  go_wp2_with fail
  have CT := Lib.hid (palive w19 (HT.out.on KG.out))
  with_reducible refine CT.out.mono ?_
  rintro e w20 ⟨rfl, hb⟩
  clear CT
  have KG := Lib.hid (KG.out.trans (hb.mono KG.out.size))
  clear hb
  go_wp2_with fail
  go_ret
  exact ⟨rfl, KG.out⟩
 have Kx2 := Lib.hid hk
 have PCP2 := Lib.hid hc
 clear hk hc
 go_wp2_with fail
 have CT := Lib.hid (pcheck (Kx2.out.below KG.out) PCP2.out (by decide) (by decide))
 with_reducible refine CT.out.mono ?_
 rintro e w21 ⟨rfl, hb⟩
 clear CT
 have KG := Lib.hid (KG.out.trans (hb.mono KG.out.size))
 clear hb
 rcases (raw_cases N3.out Gx3.out Wx3.out).symm with hbad | ⟨P3, hk, hc⟩
 ·have Bx3 := Lib.hid hbad
  clear hbad
  go_wp2_with fail
  have CT := Lib.hid (check_b (Bx3.out.below KG.out) (Nat.le_trans (BP.n_le N3.out Gx3.out) (by decide)))
  with_reducible refine CT.out.mono ?_
  rintro e w22 ⟨rfl, hb⟩
  clear CT
  have KG := Lib.hid (KG.out.trans (hb.mono KG.out.size))
  clear hb
  go_wp2_with fail
  have CT := Lib.hid (palive w22 (HT.out.on KG.out))
  with_reducible refine CT.out.mono ?_
  rintro e w23 ⟨rfl, hb⟩
  clear CT
  have KG := Lib.hid (KG.out.trans (hb.mono KG.out.size))
  clear hb
  go_wp2_with fail
  go_ret
  exact ⟨rfl, KG.out⟩
 have Kx3 := Lib.hid hk
 have PCP3 := Lib.hid hc
 clear hk hc
 go_wp2_with fail
 have CT := Lib.hid (pcheck (Kx3.out.below KG.out) PCP3.out (by decide) (by decide))
 with_reducible refine CT.out.mono ?_
 rintro e w24 ⟨rfl, hb⟩
 clear CT
 have KG := Lib.hid (KG.out.trans (hb.mono KG.out.size))
 clear hb
 go_wp2_with fail
 obtain ⟨p25, hp25⟩ : ∃ z : List Tm, z = addP P1 P2 := ⟨_, rfl⟩
 have Hp25 := Lib.hid hp25
 have PCp25 := Lib.hid (show PC p25 16 9 300 by rw [hp25]; exact PCP1.out.add PCP2.out 4 300 (by decide) (by decide) (by decide) (by decide))
 clear hp25
 have CT := Lib.hid (padd (Kx1.out.below KG.out) PCP1.out (Kx2.out.below KG.out) PCP2.out 4 (by decide) (by decide) (by decide) (by decide))
 rw [show addP P1 P2 = p25 from Hp25.out.symm] at CT
 with_reducible refine CT.out.mono ?_
 rintro e w26 ⟨z27, rfl, hN28, hb⟩
 have N28 := Lib.hid hN28
 clear hN28
 clear CT
 have KG := Lib.hid (KG.out.trans (hb.mono KG.out.size))
 clear hb
 go_wp2_with fail
 obtain ⟨p29, hp29⟩ : ∃ z : List Tm, z = mulP P1 P2 := ⟨_, rfl⟩
 have Hp29 := Lib.hid hp29
 have PCp29 := Lib.hid (show PC p29 64 72 600 by rw [hp29]; exact PCP1.out.mul PCP2.out)
 clear hp29
 have CT := Lib.hid (plmul (Kx1.out.below KG.out) PCP1.out (Kx2.out.below KG.out) PCP2.out (by decide) (by decide) (by decide) (by decide) (by decide) (by decide) (by decide))
 rw [show mulP P1 P2 = p29 from Hp29.out.symm] at CT
 with_reducible refine CT.out.mono ?_
 rintro e w30 ⟨z31, rfl, hN32, hb⟩
 have N32 := Lib.hid hN32
 clear hN32
 clear CT
 have N28 := Lib.hid (N28.out.below hb)
 have KG := Lib.hid (KG.out.trans (hb.mono KG.out.size))
 clear hb
 go_wp2_with fail
 have CT := Lib.hid (pcheck N28.out.k PCp25.out (by decide) (by decide))
 with_reducible refine CT.out.mono ?_
 rintro e w33 ⟨rfl, hb⟩
 clear CT
 have N28 := Lib.hid (N28.out.below hb)
 have N32 := Lib.hid (N32.out.below hb)
 have KG := Lib.hid (KG.out.trans (hb.mono KG.out.size))
 clear hb
 go_wp2_with fail
 have CT := Lib.hid (pcheck N32.out.k PCp29.out (by decide) (by decide))
 with_reducible refine CT.out.mono ?_
 rintro e w34 ⟨rfl, hb⟩
 clear CT
 have N28 := Lib.hid (N28.out.below hb)
 have N32 := Lib.hid (N32.out.below hb)
 have KG := Lib.hid (KG.out.trans (hb.mono KG.out.size))
 clear hb
 go_wp2_with fail
 obtain ⟨p35, hp35⟩ : ∃ z : List Tm, z = addP P2 P1 := ⟨_, rfl⟩
 have Hp35 := Lib.hid hp35
 have PCp35 := Lib.hid (show PC p35 16 9 300 by rw [hp35]; exact PCP2.out.add PCP1.out 4 300 (by decide) (by decide) (by decide) (by decide))
 clear hp35
 have CT := Lib.hid (padd (Kx2.out.below KG.out) PCP2.out (Kx1.out.below KG.out) PCP1.out 4 (by decide) (by decide) (by decide) (by decide))
 rw [show addP P2 P1 = p35 from Hp35.out.symm] at CT
 with_reducible refine CT.out.mono ?_
 rintro e w36 ⟨z37, rfl, hN38, hb⟩
 have N38 := Lib.hid hN38
 clear hN38
 clear CT
 have N28 := Lib.hid (N28.out.below hb)
 have N32 := Lib.hid (N32.out.below hb)
 have KG := Lib.hid (KG.out.trans (hb.mono KG.out.size))
 clear hb
 go_wp2_with fail
 have CT := Lib.hid (plsame N28.out.k N38.out.k (by simp only [Hp35.out, Hp29.out, Hp25.out]; exact addP_comm _ _) PCp25.out (by decide) (by decide))
 with_reducible refine CT.out.mono ?_
 rintro e w39 ⟨rfl, hb⟩
 clear CT
 have N28 := Lib.hid (N28.out.below hb)
 have N32 := Lib.hid (N32.out.below hb)
 clear N38
 have KG := Lib.hid (KG.out.trans (hb.mono KG.out.size))
 clear hb
 go_wp2_with fail
 obtain ⟨p40, hp40⟩ : ∃ z : List Tm, z = mulP P2 P1 := ⟨_, rfl⟩
 have Hp40 := Lib.hid hp40
 have PCp40 := Lib.hid (show PC p40 64 72 600 by rw [hp40]; exact PCP2.out.mul PCP1.out)
 clear hp40
 have CT := Lib.hid (plmul (Kx2.out.below KG.out) PCP2.out (Kx1.out.below KG.out) PCP1.out (by decide) (by decide) (by decide) (by decide) (by decide) (by decide) (by decide))
 rw [show mulP P2 P1 = p40 from Hp40.out.symm] at CT
 with_reducible refine CT.out.mono ?_
 rintro e w41 ⟨z42, rfl, hN43, hb⟩
 have N43 := Lib.hid hN43
 clear hN43
 clear CT
 have N28 := Lib.hid (N28.out.below hb)
 have N32 := Lib.hid (N32.out.below hb)
 have KG := Lib.hid (KG.out.trans (hb.mono KG.out.size))
 clear hb
 go_wp2_with fail
 have CT := Lib.hid (plsame N32.out.k N43.out.k (by simp only [Hp40.out, Hp35.out, Hp29.out, Hp25.out]; exact mulP_comm _ _) PCp29.out (by decide) (by decide))
 with_reducible refine CT.out.mono ?_
 rintro e w44 ⟨rfl, hb⟩
 clear CT
 have N28 := Lib.hid (N28.out.below hb)
 have N32 := Lib.hid (N32.out.below hb)
 clear N43
 have KG := Lib.hid (KG.out.trans (hb.mono KG.out.size))
 clear hb
 go_wp2_with fail
 obtain ⟨p45, hp45⟩ : ∃ z : List Tm, z = addP p25 P3 := ⟨_, rfl⟩
 have Hp45 := Lib.hid hp45
 have PCp45 := Lib.hid (show PC p45 24 19 300 by rw [hp45]; exact PCp25.out.add PCP3.out 9 300 (by decide) (by decide) (by decide) (by decide))
 clear hp45
 have CT := Lib.hid (padd N28.out.k PCp25.out (Kx3.out.below KG.out) PCP3.out 9 (by decide) (by decide) (by decide) (by decide))
 rw [show addP p25 P3 = p45 from Hp45.out.symm] at CT
 with_reducible refine CT.out.mono ?_
 rintro e w46 ⟨z47, rfl, hN48, hb⟩
 have N48 := Lib.hid hN48
 clear hN48
 clear CT
 have N28 := Lib.hid (N28.out.below hb)
 have N32 := Lib.hid (N32.out.below hb)
 have KG := Lib.hid (KG.out.trans (hb.mono KG.out.size))
 clear hb
 go_wp2_with fail
 obtain ⟨p49, hp49⟩ : ∃ z : List Tm, z = addP P2 P3 := ⟨_, rfl⟩
 have Hp49 := Lib.hid hp49
 have PCp49 := Lib.hid (show PC p49 16 9 300 by rw [hp49]; exact PCP2.out.add PCP3.out 4 300 (by decide) (by decide) (by decide) (by decide))
 clear hp49
 have CT := Lib.hid (padd (Kx2.out.below KG.out) PCP2.out (Kx3.out.below KG.out) PCP3.out 4 (by decide) (by decide) (by decide) (by decide))
 rw [show addP P2 P3 = p49 from Hp49.out.symm] at CT
 with_reducible refine CT.out.mono ?_
 rintro e w50 ⟨z51, rfl, hN52, hb⟩
 have N52 := Lib.hid hN52
 clear hN52
 clear CT
 have N28 := Lib.hid (N28.out.below hb)
 have N32 := Lib.hid (N32.out.below hb)
 have N48 := Lib.hid (N48.out.below hb)
 have KG := Lib.hid (KG.out.trans (hb.mono KG.out.size))
 clear hb
 go_wp2_with fail
 obtain ⟨p53, hp53⟩ : ∃ z : List Tm, z = addP P1 p49 := ⟨_, rfl⟩
 have Hp53 := Lib.hid hp53
 have PCp53 := Lib.hid (show PC p53 24 19 300 by rw [hp53]; exact PCP1.out.add PCp49.out 9 300 (by decide) (by decide) (by decide) (by decide))
 clear hp53
 have CT := Lib.hid (padd (Kx1.out.below KG.out) PCP1.out N52.out.k PCp49.out 9 (by decide) (by decide) (by decide) (by decide))
 rw [show addP P1 p49 = p53 from Hp53.out.symm] at CT
 with_reducible refine CT.out.mono ?_
 rintro e w54 ⟨z55, rfl, hN56, hb⟩
 have N56 := Lib.hid hN56
 clear hN56
 clear CT
 have N28 := Lib.hid (N28.out.below hb)
 have N32 := Lib.hid (N32.out.below hb)
 have N48 := Lib.hid (N48.out.below hb)
 clear N52
 have KG := Lib.hid (KG.out.trans (hb.mono KG.out.size))
 clear hb
 go_wp2_with fail
 have CT := Lib.hid (plsame N48.out.k N56.out.k (by simp only [Hp53.out, Hp49.out, Hp45.out, Hp40.out, Hp35.out, Hp29.out, Hp25.out]; exact addP_assoc _ _ _) PCp45.out (by decide) (by decide))
 with_reducible refine CT.out.mono ?_
 rintro e w57 ⟨rfl, hb⟩
 clear CT
 have N28 := Lib.hid (N28.out.below hb)
 have N32 := Lib.hid (N32.out.below hb)
 clear N48
 clear N56
 have KG := Lib.hid (KG.out.trans (hb.mono KG.out.size))
 clear hb
 go_wp2_with fail
 obtain ⟨p58, hp58⟩ : ∃ z : List Tm, z = mulP p29 P3 := ⟨_, rfl⟩
 have Hp58 := Lib.hid hp58
 have PCp58 := Lib.hid (show PC p58 512 4928 900 by rw [hp58]; exact PCp29.out.mul PCP3.out)
 clear hp58
 have CT := Lib.hid (plmul N32.out.k PCp29.out (Kx3.out.below KG.out) PCP3.out (by decide) (by decide) (by decide) (by decide) (by decide) (by decide) (by decide))
 rw [show mulP p29 P3 = p58 from Hp58.out.symm] at CT
 with_reducible refine CT.out.mono ?_
 rintro e w59 ⟨z60, rfl, hN61, hb⟩
 have N61 := Lib.hid hN61
 clear hN61
 clear CT
 have N28 := Lib.hid (N28.out.below hb)
 clear N32
 have KG := Lib.hid (KG.out.trans (hb.mono KG.out.size))
 clear hb
 go_wp2_with fail
 obtain ⟨p62, hp62⟩ : ∃ z : List Tm, z = mulP P2 P3 := ⟨_, rfl⟩
 have Hp62 := Lib.hid hp62
 have PCp62 := Lib.hid (show PC p62 64 72 600 by rw [hp62]; exact PCP2.out.mul PCP3.out)
 clear hp62
 have CT := Lib.hid (plmul (Kx2.out.below KG.out) PCP2.out (Kx3.out.below KG.out) PCP3.out (by decide) (by decide) (by decide) (by decide) (by decide) (by decide) (by decide))
 rw [show mulP P2 P3 = p62 from Hp62.out.symm] at CT
 with_reducible refine CT.out.mono ?_
 rintro e w63 ⟨z64, rfl, hN65, hb⟩
 have N65 := Lib.hid hN65
 clear hN65
 clear CT
 have N28 := Lib.hid (N28.out.below hb)
 have N61 := Lib.hid (N61.out.below hb)
 have KG := Lib.hid (KG.out.trans (hb.mono KG.out.size))
 clear hb
 go_wp2_with fail
 obtain ⟨p66, hp66⟩ : ∃ z : List Tm, z = mulP P1 p62 := ⟨_, rfl⟩
 have Hp66 := Lib.hid hp66
 have PCp66 := Lib.hid (show PC p66 512 616 900 by rw [hp66]; exact PCP1.out.mul PCp62.out)
 clear hp66
 have CT := Lib.hid (plmul (Kx1.out.below KG.out) PCP1.out N65.out.k PCp62.out (by decide) (by decide) (by decide) (by decide) (by decide) (by decide) (by decide))
 rw [show mulP P1 p62 = p66 from Hp66.out.symm] at CT
 with_reducible refine CT.out.mono ?_
 rintro e w67 ⟨z68, rfl, hN69, hb⟩
 have N69 := Lib.hid hN69
 clear hN69
 clear CT
 have N28 := Lib.hid (N28.out.below hb)
 have N61 := Lib.hid (N61.out.below hb)
 clear N65
 have KG := Lib.hid (KG.out.trans (hb.mono KG.out.size))
 clear hb
 go_wp2_with fail
 have CT := Lib.hid (plsame N61.out.k N69.out.k (by simp only [Hp66.out, Hp62.out, Hp58.out, Hp53.out, Hp49.out, Hp45.out, Hp40.out, Hp35.out, Hp29.out, Hp25.out]; exact mulP_assoc _ _ _) PCp58.out (by decide) (by decide))
 with_reducible refine CT.out.mono ?_
 rintro e w70 ⟨rfl, hb⟩
 clear CT
 have N28 := Lib.hid (N28.out.below hb)
 clear N61
 clear N69
 have KG := Lib.hid (KG.out.trans (hb.mono KG.out.size))
 clear hb
 go_wp2_with fail
 obtain ⟨p71, hp71⟩ : ∃ z : List Tm, z = mulP p25 P3 := ⟨_, rfl⟩
 have Hp71 := Lib.hid hp71
 have PCp71 := Lib.hid (show PC p71 128 224 600 by rw [hp71]; exact PCp25.out.mul PCP3.out)
 clear hp71
 have CT := Lib.hid (plmul N28.out.k PCp25.out (Kx3.out.below KG.out) PCP3.out (by decide) (by decide) (by decide) (by decide) (by decide) (by decide) (by decide))
 rw [show mulP p25 P3 = p71 from Hp71.out.symm] at CT
 with_reducible refine CT.out.mono ?_
 rintro e w72 ⟨z73, rfl, hN74, hb⟩
 have N74 := Lib.hid hN74
 clear hN74
 clear CT
 clear N28
 have KG := Lib.hid (KG.out.trans (hb.mono KG.out.size))
 clear hb
 go_wp2_with fail
 obtain ⟨p75, hp75⟩ : ∃ z : List Tm, z = mulP P1 P3 := ⟨_, rfl⟩
 have Hp75 := Lib.hid hp75
 have PCp75 := Lib.hid (show PC p75 64 72 600 by rw [hp75]; exact PCP1.out.mul PCP3.out)
 clear hp75
 have CT := Lib.hid (plmul (Kx1.out.below KG.out) PCP1.out (Kx3.out.below KG.out) PCP3.out (by decide) (by decide) (by decide) (by decide) (by decide) (by decide) (by decide))
 rw [show mulP P1 P3 = p75 from Hp75.out.symm] at CT
 with_reducible refine CT.out.mono ?_
 rintro e w76 ⟨z77, rfl, hN78, hb⟩
 have N78 := Lib.hid hN78
 clear hN78
 clear CT
 have N74 := Lib.hid (N74.out.below hb)
 have KG := Lib.hid (KG.out.trans (hb.mono KG.out.size))
 clear hb
 go_wp2_with fail
 have CT := Lib.hid (plmul (Kx2.out.below KG.out) PCP2.out (Kx3.out.below KG.out) PCP3.out (by decide) (by decide) (by decide) (by decide) (by decide) (by decide) (by decide))
 rw [show mulP P2 P3 = p62 from Hp62.out.symm] at CT
 with_reducible refine CT.out.mono ?_
 rintro e w79 ⟨z80, rfl, hN81, hb⟩
 have N81 := Lib.hid hN81
 clear hN81
 clear CT
 have N74 := Lib.hid (N74.out.below hb)
 have N78 := Lib.hid (N78.out.below hb)
 have KG := Lib.hid (KG.out.trans (hb.mono KG.out.size))
 clear hb
 go_wp2_with fail
 obtain ⟨p82, hp82⟩ : ∃ z : List Tm, z = addP p75 p62 := ⟨_, rfl⟩
 have Hp82 := Lib.hid hp82
 have PCp82 := Lib.hid (show PC p82 128 145 600 by rw [hp82]; exact PCp75.out.add PCp62.out 72 600 (by decide) (by decide) (by decide) (by decide))
 clear hp82
 have CT := Lib.hid (padd N78.out.k PCp75.out N81.out.k PCp62.out 72 (by decide) (by decide) (by decide) (by decide))
 rw [show addP p75 p62 = p82 from Hp82.out.symm] at CT
 with_reducible refine CT.out.mono ?_
 rintro e w83 ⟨z84, rfl, hN85, hb⟩
 have N85 := Lib.hid hN85
 clear hN85
 clear CT
 have N74 := Lib.hid (N74.out.below hb)
 clear N78
 clear N81
 have KG := Lib.hid (KG.out.trans (hb.mono KG.out.size))
 clear hb
 go_wp2_with fail
 have CT := Lib.hid (plsame N74.out.k N85.out.k (by simp only [Hp82.out, Hp75.out, Hp71.out, Hp66.out, Hp62.out, Hp58.out, Hp53.out, Hp49.out, Hp45.out, Hp40.out, Hp35.out, Hp29.out, Hp25.out]; exact mulP_add _ _ _) PCp71.out (by decide) (by decide))
 with_reducible refine CT.out.mono ?_
 rintro e w86 ⟨rfl, hb⟩
 clear CT
 clear N74
 clear N85
 have KG := Lib.hid (KG.out.trans (hb.mono KG.out.size))
 clear hb
 go_wp2_with fail
 go_ret
 exact ⟨rfl, KG.out⟩
end Go.Proofs.YtkkbegkdbcenkaaGreatDoor.Pol
namespace Go.Proofs.YtkkbegkdbcenkaaGreatDoor.Limb
open Go.RowKit Go.Sort Go.Proofs.YtkkbegkdbcenkaaGreatDoor.Pol
open Go.ChangeShapes Go.WideShapes Go.ChangeAt
namespace PolysRingC
theorem own : ownKnob Tryz.prog.godebug = none := by kernel_rfl
theorem laidOut : laidOutB Tryz.prog = true := by kernel_rfl
theorem tab_of_laid (W : World) (hL : laidMet Tryz.prog Rows.polysRingRow.laid W) : Tab W :=
 Lib.tabIs_of_head (g := 3) (by kernel_rfl) (by kernel_rfl) (t := 239) (n := 20) (e := 123) Tryz.underlying239 Tryz.underlying123 (by kernel_rfl) (by kernel_rfl) hL.tail.tail
noncomputable def laidWorld (os : Os) : World := World.laidAll Tryz.prog os Rows.polysRingRow.laid
noncomputable def witArgs : Array Value := #[.slice none 0 0, .slice none 0 0, .slice none 0 0]
theorem laid_met (os : Os) : laidMet Tryz.prog Rows.polysRingRow.laid ((laidWorld os).forCall (fun _ _ => 0) ⟨#[], witArgs, []⟩).memory :=
 laidMet_laidAll _ (by kernel_rfl) (by kernel_rfl)
theorem reads (os : Os) {H : Type} (enc : TypeId × Value → H) : ∃ places, DataW.whole enc Tryz.prog ((laidWorld os).forCall (fun _ _ => 0) ⟨#[], witArgs, []⟩).memory Tryz.f3.params.toList Rows.polysRingSpec.vars false witArgs.toList 8 = some ([.nil, .nil, .nil], [], places) :=
 ⟨[], by kernel_rfl⟩
set_option maxRecDepth 100000 in
theorem lifted (os : Os) (started : os.Started) (H : Type) (enc : TypeId × Value → H) (F : Stop.Interp) :
  ReturnsInHanded {} Tryz.checked os 3 .any ((OpenSpec.ofChange Rows.polysRingSpec).preRow enc Tryz.prog Tryz.f3 Rows.polysRingRow.domain false Rows.polysRingRow.laid) (((OpenSpec.ofChange Rows.polysRingSpec).at F).post enc Tryz.prog Tryz.f3 false true false false) := by
 obtain ⟨places, hx⟩ := reads os enc
 refine returnsInHanded_of_row (C := Tryz.checked) (s := OpenSpec.ofChange Rows.polysRingSpec) own started (by kernel_rfl) Tryz.func3
  (witness_row_atRef (enc := enc) (C := Tryz.checked) false (laidWorld os) witArgs (World.laidAll_os _ _ _) (by kernel_rfl) (by kernel_rfl) (by kernel_rfl)
   (OpenSpec.preRow_of_cond 8 hx (by kernel_rfl) (fun k hk => by cases hk) (by kernel_rfl) (laid_met os))) ?_
 intro W base args ds gs before hval0 hW _ _ _ hL _ _
 rw [MakeChecks.laidMetH_plain _ _ _ (by kernel_rfl)] at hL
 have htab : Tab W := tab_of_laid W hL
 have hval : ∀ (j : Nat) t v, Tryz.f3.params[j]? = some t → args[j]? = some v → Value.okWide Tryz.prog W .any base t v := hval0
 have hW' := hW
 obtain ⟨p, q, hA0, hV, rfl, hfz, hnd⟩ := hW
 have hA : DataW.TrodAll enc Tryz.prog W 0 (fun _ => true) true Tryz.f3.params.toList args.toList ds p := hA0
 rw [Tryz.params3] at hA hval
 obtain ⟨v0, v1, v2, d0, d1, d2, p0, p1, p2, rfl, rfl, rfl, h0, h1, h2⟩ := trodAll_three hA
 obtain ⟨rfl, rfl⟩ := trodVars_none hV
 obtain ⟨x0, L0, rfl, r0⟩ := open_poly (hval 0 23 v0 rfl rfl) h0
 obtain ⟨x1, L1, rfl, r1⟩ := open_poly (hval 1 23 v1 rfl rfl) h1
 obtain ⟨x2, L2, rfl, r2⟩ := open_poly (hval 2 23 v2 rfl rfl) h2
 refine (polysRing_law x0 L0 x1 L1 x2 L2 W htab r0 r1 r2).mono fun e W' ⟨he, hg⟩ => ?_
 subst he
 exact ⟨_, rfl, LawPost.law_post laidOut (by kernel_rfl) (by kernel_rfl) Tryz.underlying4 hW' rfl rfl hg⟩
theorem said : Rows.PolysRingSaid :=
 OpenClaim.holds_of_cond 3 Tryz.f3 rfl rfl rfl rfl rfl rfl rfl ⟨rfl, rfl, rfl, rfl, rfl⟩ rfl rfl rfl rfl rfl (by kernel_rfl) Tryz.func3 (by kernel_rfl)
  (of_decide_eq_true (by kernel_rfl)) (by unfold Func.isWrapper; first | (rw [if_pos (by decide +kernel)]; kernel_rfl) | (rw [if_neg (by decide +kernel)]; exact ⟨rfl, rfl⟩))
  (fun os started H enc _ F => by rw [OpenClaim.pre_eq_preRow]; exact lifted os started H enc F)
theorem plain (f : FuncId) (fn : Func) (hf : Tryz.pinned.checked.prog.funcNamed "reckoner/reckonerlaw04.PolysRing" = some f) (hfn : Tryz.pinned.checked.prog.funcs[f]? = some fn) :
  true = Tryz.pinned.checked.prog.looks [] ∧ ∀ (j : Nat) t, fn.params[j]? = some t → Tryz.pinned.checked.prog.wantsStandIn t = false := by
 obtain rfl : f = 3 := Option.some.inj ((show Tryz.prog.funcNamed "reckoner/reckonerlaw04.PolysRing" = some 3 by kernel_rfl).symm.trans hf) |>.symm
 obtain rfl : fn = Tryz.f3 := (Option.some.inj (Tryz.func3.symm.trans hfn)).symm
 refine ⟨by kernel_rfl, fun j t ht => ?_⟩
 rw [Tryz.params3] at ht
 obtain rfl : t = 23 := by simpa using Array.mem_of_getElem? ht
 exact (show Tryz.prog.wantsStandIn 23 = false by kernel_rfl)
theorem card : Rows.PolysRingCardSaid :=
 Claim7.holds_tied_plain_at .later [] _ _ _ _ said (fun _ h => by cases h) (by kernel_rfl) (fun _ h => by cases h) polysRing_row_tie rfl ⟨rfl, rfl⟩ (by kernel_rfl) rfl plain (by kernel_rfl)
#print axioms card
end PolysRingC
end Go.Proofs.YtkkbegkdbcenkaaGreatDoor.Limb
