/-
  The law PolysSlopes: whatever it is handed, it returns true, and what it was handed reads behind the call as it read before; the card ties the listed tables to the program's text.
-/
import Derived.Test.YtkkbegkdbcenkaaGreatDoorPqM
import Derived.Test.YtkkbegkdbcenkaaGreatDoorCards
import Derived.Test.YtkkbegkdbcenkaaGreatDoorTie
import Derived.Lay
import Derived.MakeChecks
import Derived.Stop.LaidErr
import Derived.Deep.DeepWitnessRowRef
import Derived.WalkKit
import Derived.ProofKit
import Derived.OpenShut
import Derived.Deep.DeepHandedRow
import Derived.Lib.LaidTab
set_option linter.unusedSimpArgs false
set_option linter.unusedVariables false
namespace Go.Proofs.YtkkbegkdbcenkaaGreatDoor.Pol
open Go.RowKit Go.Sort Go.Proofs.YtkkbegkdbcenkaaGreatDoor.Limb Go.ChangeShapes Go.WideShapes Go.ChangeAt
theorem open_two8 {H : Type} {enc : TypeId × Value → H} {P : Program} {W : World} {base : Nat} {r : Reach} {sp : Nat → Bool} {hd : Bool} {t e : TypeId} {v : Value} {d : DataW H} {p : List MemPlace} (ht : P.underlying t = some (.array 2 e)) (he : P.underlying e = some (.int .u8)) (hce : P.cellsOf e = 1) (hct : P.cellsOf t = 2)
  (hok : Value.okWide P W r base t v) (h : DataW.Trod enc P W 0 sp hd t v d p) : ∃ a b : Int, v = .agg #[.int .u8 a, .int .u8 b] ∧ (0 ≤ a ∧ a ≤ 255) ∧ 0 ≤ b ∧ b ≤ 255 := by
 obtain ⟨cs, rfl, _⟩ : ∃ cs, v = .agg cs ∧ True := by
  unfold Value.okWide at hok
  rw [ht] at hok
  obtain ⟨cs, h1, _⟩ := hok
  exact ⟨cs, h1, trivial⟩
 obtain ⟨fuel, hf⟩ := h
 obtain ⟨l⟩ := cs
 obtain ⟨hlen, m, _, h2⟩ := LawPost.trod_arr ht hf
 have hlen : l.length = 2 := hlen.trans hct
 obtain ⟨x0, x1, rfl⟩ : ∃ x0 x1, l = [x0, x1] := by
  match l, hlen with
  | [x0, x1], _ => exact ⟨x0, x1, rfl⟩
 obtain ⟨y0, h0⟩ := h2 0 (by omega)
 obtain ⟨y1, h1⟩ := h2 1 (by omega)
 rw [hce] at h0 h1
 obtain ⟨a0, e0, _, w0⟩ := DataW.trod_int he h0
 obtain ⟨a1, e1, _, w1⟩ := DataW.trod_int he h1
 have e0 : [x0] = [Value.int .u8 a0] := e0
 have e1 : [x1] = [Value.int .u8 a1] := e1
 simp only [List.cons.injEq, and_true] at e0 e1
 have b0 := bounds_u8 w0
 have b1 := bounds_u8 w1
 exact ⟨a0, a1, by rw [e0, e1], ⟨b0.1, b0.2⟩, b1.1, b1.2⟩
end Go.Proofs.YtkkbegkdbcenkaaGreatDoor.Pol
namespace Go.Proofs.YtkkbegkdbcenkaaGreatDoor.Pol
open Go.RowKit Go.Sort Go.Proofs.YtkkbegkdbcenkaaGreatDoor.Limb
theorem mod4 {z : Int} (h : 0 ≤ z ∧ z ≤ 255) : ∃ i : Nat, i < 4 ∧ z.tmod 4 = (i : Int) := ⟨(z % 4).toNat, by omega, by rw [Int.tmod_eq_emod_of_nonneg h.1]; omega⟩
set_option maxRecDepth 100000 in
set_option maxHeartbeats 16000000 in
theorem polysSlopes_law (x1 : PV) (L1 : List TO) (x2 : PV) (L2 : List TO) (z0 z1 : Int) (w : World) (htab : Tab w) (h1 : RawQ w x1 L1) (h2 : RawQ w x2 L2) (hz0 : 0 ≤ z0 ∧ z0 ≤ 255) (hz1 : 0 ≤ z1 ∧ z1 ≤ 255) :
  Calls Tryz.prog 7 #[.slice x1.a x1.n x1.c, .slice x2.a x2.n x2.c, .agg #[.int .u8 z0, .int .u8 z1]] w fun e w' => e = .returned (.bool true) ∧ Below w.heap.size w w' := by
 have HT := Lib.hid htab
 have KG := Lib.hid (Below.refl w.heap.size w)
 have N1 := Lib.hid h1
 have N2 := Lib.hid h2
 obtain ⟨i0, hi0, hm0⟩ := mod4 hz0
 have HI0 := Lib.hid hi0
 have hw0 : IntKind.i64.wrap ((i0 : Nat) : Int) = (i0 : Int) := IntWalk.i64_in _ (by omega)
 clear hi0 hz0
 obtain ⟨i1, hi1, hm1⟩ := mod4 hz1
 have HI1 := Lib.hid hi1
 have hw1 : IntKind.i64.wrap ((i1 : Nat) : Int) = (i1 : Int) := IntWalk.i64_in _ (by omega)
 clear hi1 hz1
 clear htab h1 h2
 go_enter Tryz.func7, Tryz.ntmps7
 go_upto_region 1 with (fail)
 obtain ⟨v2, hV⟩ : ∃ V, V = w.alloc (.cells #[.int .u8 z0, .int .u8 z1] 61) := ⟨_, rfl⟩
 have hbV : Below w.heap.size w v2 := by rw [hV]; exact ((Below.refl _ _).alloc (Nat.le_refl _) _)
 have BX1 := Lib.hid (show Bxs v2 (w.heap.size) 61 [.int .u8 z0, .int .u8 z1] by have h := Bxs.new (w) 61 [.int .u8 z0, .int .u8 z1]; rw [hV]; exact h)
 rw [show w.alloc (.cells #[.int .u8 z0, .int .u8 z1] 61) = v2 from hV.symm]
 have KG := Lib.hid (KG.out.trans (hbV.mono KG.out.size))
 clear hV hbV
 go_wp2_with fail
 have CT := Lib.hid (palive v2 (HT.out.on KG.out))
 with_reducible refine CT.out.mono ?_
 rintro e w3 ⟨rfl, hb⟩
 clear CT
 have BX1 := Lib.hid (BX1.out.below hb BX1.out.lt)
 have KG := Lib.hid (KG.out.trans (hb.mono KG.out.size))
 clear hb
 go_wp2_with fail
 obtain ⟨v5, hV⟩ : ∃ V, V = w3.alloc (.cells #[.slice x1.a x1.n x1.c, .slice x2.a x2.n x2.c] 23) := ⟨_, rfl⟩
 have hbV : Below w3.heap.size w3 v5 := by rw [hV]; exact ((Below.refl _ _).alloc (Nat.le_refl _) _)
 have BX4 := Lib.hid (show Bxs v5 (w3.heap.size) 23 [.slice x1.a x1.n x1.c, .slice x2.a x2.n x2.c] by have h := Bxs.new (w3) 23 [.slice x1.a x1.n x1.c, .slice x2.a x2.n x2.c]; rw [hV]; exact h)
 rw [show w3.alloc (.cells #[.slice x1.a x1.n x1.c, .slice x2.a x2.n x2.c] 23) = v5 from hV.symm]
 have BX1 := Lib.hid (BX1.out.below hbV BX1.out.lt)
 have KG := Lib.hid (KG.out.trans (hbV.mono KG.out.size))
 clear hV hbV
 have CT := Lib.hid (show Calls Tryz.prog 10 #[.int .i64 10, .slice (some ⟨w3.heap.size, 0, none⟩) 2 2] v5 _ from great2P (m := 10) BX4.out (N1.out.below KG.out) (N2.out.below KG.out) (by decide))
 with_reducible refine CT.out.mono ?_
 rintro e w6 ⟨b7, rfl, hn, hb⟩
 clear CT
 have BX1 := Lib.hid (BX1.out.below hb BX1.out.lt)
 clear BX4
 have KG := Lib.hid (KG.out.trans (hb.mono KG.out.size))
 clear hb
 rcases Bool.eq_false_or_eq_true b7 with rfl | rfl
 ·clear hn
  go_wp2_with fail
  have CT := Lib.hid (palive w6 (HT.out.on KG.out))
  with_reducible refine CT.out.mono ?_
  rintro e w8 ⟨rfl, hb⟩
  clear CT
  have BX1 := Lib.hid (BX1.out.below hb BX1.out.lt)
  have KG := Lib.hid (KG.out.trans (hb.mono KG.out.size))
  clear hb
  go_wp2_with fail
  go_ret
  exact ⟨rfl, KG.out⟩
 obtain ⟨g0, g1⟩ := hn rfl
 have Gx1 := Lib.hid g0
 have Gx2 := Lib.hid g1
 clear hn g0 g1
 go_wp2_with fail
 have CT := Lib.hid (pwide (N1.out.below KG.out) Gx1.out (by decide))
 with_reducible refine CT.out.mono ?_
 rintro e w9 ⟨b10, rfl, hn, hb⟩
 clear CT
 have BX1 := Lib.hid (BX1.out.below hb BX1.out.lt)
 have KG := Lib.hid (KG.out.trans (hb.mono KG.out.size))
 clear hb
 rcases Bool.eq_false_or_eq_true b10 with rfl | rfl
 ·clear hn
  go_wp2_with fail
  have CT := Lib.hid (palive w9 (HT.out.on KG.out))
  with_reducible refine CT.out.mono ?_
  rintro e w11 ⟨rfl, hb⟩
  clear CT
  have BX1 := Lib.hid (BX1.out.below hb BX1.out.lt)
  have KG := Lib.hid (KG.out.trans (hb.mono KG.out.size))
  clear hb
  go_wp2_with fail
  go_ret
  exact ⟨rfl, KG.out⟩
 have Wx1 := Lib.hid (hn rfl)
 clear hn
 go_wp2_with fail
 have CT := Lib.hid (pwide (N2.out.below KG.out) Gx2.out (by decide))
 with_reducible refine CT.out.mono ?_
 rintro e w12 ⟨b13, rfl, hn, hb⟩
 clear CT
 have BX1 := Lib.hid (BX1.out.below hb BX1.out.lt)
 have KG := Lib.hid (KG.out.trans (hb.mono KG.out.size))
 clear hb
 rcases Bool.eq_false_or_eq_true b13 with rfl | rfl
 ·clear hn
  go_wp2_with fail
  have CT := Lib.hid (palive w12 (HT.out.on KG.out))
  with_reducible refine CT.out.mono ?_
  rintro e w14 ⟨rfl, hb⟩
  clear CT
  have BX1 := Lib.hid (BX1.out.below hb BX1.out.lt)
  have KG := Lib.hid (KG.out.trans (hb.mono KG.out.size))
  clear hb
  go_wp2_with fail
  go_ret
  exact ⟨rfl, KG.out⟩
 have Wx2 := Lib.hid (hn rfl)
 clear hn
 rcases (raw_cases N1.out Gx1.out Wx1.out).symm with hbad | ⟨P1, hk, hc⟩
 ·have Bx1 := Lib.hid hbad
  clear hbad
  go_wp2_with fail
  have CT := Lib.hid (check_b (Bx1.out.below KG.out) (Nat.le_trans (BP.n_le N1.out Gx1.out) (by decide)))
  with_reducible refine CT.out.mono ?_
  rintro e w15 ⟨rfl, hb⟩
  clear CT
  have BX1 := Lib.hid (BX1.out.below hb BX1.out.lt)
  have KG := Lib.hid (KG.out.trans (hb.mono KG.out.size))
  clear hb
  go_wp2_with fail
  have CT := Lib.hid (palive w15 (HT.out.on KG.out))
  with_reducible refine CT.out.mono ?_
  rintro e w16 ⟨rfl, hb⟩
  clear CT
  have BX1 := Lib.hid (BX1.out.below hb BX1.out.lt)
  have KG := Lib.hid (KG.out.trans (hb.mono KG.out.size))
  clear hb
  go_wp2_with fail
  go_ret
  exact ⟨rfl, KG.out⟩
 have Kx1 := Lib.hid hk
 have PCP1 := Lib.hid hc
 clear hk hc
 go_wp2_with fail
 have CT := Lib.hid (pcheck (Kx1.out.below KG.out) PCP1.out (by decide) (by decide))
 with_reducible refine CT.out.mono ?_
 rintro e w17 ⟨rfl, hb⟩
 clear CT
 have BX1 := Lib.hid (BX1.out.below hb BX1.out.lt)
 have KG := Lib.hid (KG.out.trans (hb.mono KG.out.size))
 clear hb
 rcases (raw_cases N2.out Gx2.out Wx2.out).symm with hbad | ⟨P2, hk, hc⟩
 ·have Bx2 := Lib.hid hbad
  clear hbad
  go_wp2_with fail
  have CT := Lib.hid (check_b (Bx2.out.below KG.out) (Nat.le_trans (BP.n_le N2.out Gx2.out) (by decide)))
  with_reducible refine CT.out.mono ?_
  rintro e w18 ⟨rfl, hb⟩
  clear CT
  have BX1 := Lib.hid (BX1.out.below hb BX1.out.lt)
  have KG := Lib.hid (KG.out.trans (hb.mono KG.out.size))
  clear hb
  go_wp2_with fail
  have CT := Lib.hid (palive w18 (HT.out.on KG.out))
  with_reducible refine CT.out.mono ?_
  rintro e w19 ⟨rfl, hb⟩
  clear CT
  clear BX1
  have KG := Lib.hid (KG.out.trans (hb.mono KG.out.size))
  clear hb
  go_wp2_with fail
  go_ret
  exact ⟨rfl, KG.out⟩
 have Kx2 := Lib.hid hk
 have PCP2 := Lib.hid hc
 clear hk hc
 go_wp2_with fail
 have CT := Lib.hid (pcheck (Kx2.out.below KG.out) PCP2.out (by decide) (by decide))
 with_reducible refine CT.out.mono ?_
 rintro e w20 ⟨rfl, hb⟩
 clear CT
 have BX1 := Lib.hid (BX1.out.below hb BX1.out.lt)
 have KG := Lib.hid (KG.out.trans (hb.mono KG.out.size))
 clear hb
 have cBX10 := BX1.out.cell (i := 0) rfl
 have cBX11 := BX1.out.cell (i := 1) rfl
 have cBX1f := BX1.out.fz
 have cBX1l := BX1.out.lt
 go_wp2_with fail
 obtain ⟨p21, hp21⟩ : ∃ z : List Tm, z = slopeP P1 i0 := ⟨_, rfl⟩
 have Hp21 := Lib.hid hp21
 have PCp21 := Lib.hid (show PC p21 10 80 300 by rw [hp21]; exact PCP1.out.slope i0 (by decide))
 clear hp21
 have CT := Lib.hid (pslope i0 HI0.out (Kx1.out.below KG.out) PCP1.out (by decide) (by decide) (by decide))
 rw [show slopeP P1 i0 = p21 from Hp21.out.symm] at CT
 with_reducible refine CT.out.mono ?_
 rintro e w22 ⟨z23, rfl, hN24, hb⟩
 have N24 := Lib.hid hN24
 clear hN24
 clear CT
 clear cBX10 cBX11 cBX1f cBX1l
 clear BX1
 have KG := Lib.hid (KG.out.trans (hb.mono KG.out.size))
 clear hb
 go_wp2_with fail
 obtain ⟨p25, hp25⟩ : ∃ z : List Tm, z = slopeP P2 i0 := ⟨_, rfl⟩
 have Hp25 := Lib.hid hp25
 have PCp25 := Lib.hid (show PC p25 10 80 300 by rw [hp25]; exact PCP2.out.slope i0 (by decide))
 clear hp25
 have CT := Lib.hid (pslope i0 HI0.out (Kx2.out.below KG.out) PCP2.out (by decide) (by decide) (by decide))
 rw [show slopeP P2 i0 = p25 from Hp25.out.symm] at CT
 with_reducible refine CT.out.mono ?_
 rintro e w26 ⟨z27, rfl, hN28, hb⟩
 have N28 := Lib.hid hN28
 clear hN28
 clear CT
 have N24 := Lib.hid (N24.out.below hb)
 have KG := Lib.hid (KG.out.trans (hb.mono KG.out.size))
 clear hb
 go_wp2_with fail
 obtain ⟨p29, hp29⟩ : ∃ z : List Tm, z = addP P1 P2 := ⟨_, rfl⟩
 have Hp29 := Lib.hid hp29
 have PCp29 := Lib.hid (show PC p29 20 9 300 by rw [hp29]; exact PCP1.out.add PCP2.out 4 300 (by decide) (by decide) (by decide) (by decide))
 clear hp29
 have CT := Lib.hid (padd (Kx1.out.below KG.out) PCP1.out (Kx2.out.below KG.out) PCP2.out 4 (by decide) (by decide) (by decide) (by decide))
 rw [show addP P1 P2 = p29 from Hp29.out.symm] at CT
 with_reducible refine CT.out.mono ?_
 rintro e w30 ⟨z31, rfl, hN32, hb⟩
 have N32 := Lib.hid hN32
 clear hN32
 clear CT
 have N24 := Lib.hid (N24.out.below hb)
 have N28 := Lib.hid (N28.out.below hb)
 have KG := Lib.hid (KG.out.trans (hb.mono KG.out.size))
 clear hb
 go_wp2_with fail
 obtain ⟨p33, hp33⟩ : ∃ z : List Tm, z = slopeP p29 i0 := ⟨_, rfl⟩
 have Hp33 := Lib.hid hp33
 have PCp33 := Lib.hid (show PC p33 20 260 300 by rw [hp33]; exact PCp29.out.slope i0 (by decide))
 clear hp33
 have CT := Lib.hid (pslope i0 HI0.out N32.out.k PCp29.out (by decide) (by decide) (by decide))
 rw [show slopeP p29 i0 = p33 from Hp33.out.symm] at CT
 with_reducible refine CT.out.mono ?_
 rintro e w34 ⟨z35, rfl, hN36, hb⟩
 have N36 := Lib.hid hN36
 clear hN36
 clear CT
 have N24 := Lib.hid (N24.out.below hb)
 have N28 := Lib.hid (N28.out.below hb)
 clear N32
 have KG := Lib.hid (KG.out.trans (hb.mono KG.out.size))
 clear hb
 go_wp2_with fail
 obtain ⟨p37, hp37⟩ : ∃ z : List Tm, z = mulP P1 P2 := ⟨_, rfl⟩
 have Hp37 := Lib.hid hp37
 have PCp37 := Lib.hid (show PC p37 100 90 600 by rw [hp37]; exact PCP1.out.mul PCP2.out)
 clear hp37
 have CT := Lib.hid (plmul (Kx1.out.below KG.out) PCP1.out (Kx2.out.below KG.out) PCP2.out (by decide) (by decide) (by decide) (by decide) (by decide) (by decide) (by decide))
 rw [show mulP P1 P2 = p37 from Hp37.out.symm] at CT
 with_reducible refine CT.out.mono ?_
 rintro e w38 ⟨z39, rfl, hN40, hb⟩
 have N40 := Lib.hid hN40
 clear hN40
 clear CT
 have N24 := Lib.hid (N24.out.below hb)
 have N28 := Lib.hid (N28.out.below hb)
 have N36 := Lib.hid (N36.out.below hb)
 have KG := Lib.hid (KG.out.trans (hb.mono KG.out.size))
 clear hb
 go_wp2_with fail
 obtain ⟨p41, hp41⟩ : ∃ z : List Tm, z = slopeP p37 i0 := ⟨_, rfl⟩
 have Hp41 := Lib.hid hp41
 have PCp41 := Lib.hid (show PC p41 100 9400 600 by rw [hp41]; exact PCp37.out.slope i0 (by decide))
 clear hp41
 have CT := Lib.hid (pslope i0 HI0.out N40.out.k PCp37.out (by decide) (by decide) (by decide))
 rw [show slopeP p37 i0 = p41 from Hp41.out.symm] at CT
 with_reducible refine CT.out.mono ?_
 rintro e w42 ⟨z43, rfl, hN44, hb⟩
 have N44 := Lib.hid hN44
 clear hN44
 clear CT
 have N24 := Lib.hid (N24.out.below hb)
 have N28 := Lib.hid (N28.out.below hb)
 have N36 := Lib.hid (N36.out.below hb)
 clear N40
 have KG := Lib.hid (KG.out.trans (hb.mono KG.out.size))
 clear hb
 go_wp2_with fail
 obtain ⟨p45, hp45⟩ : ∃ z : List Tm, z = addP p21 p25 := ⟨_, rfl⟩
 have Hp45 := Lib.hid hp45
 have PCp45 := Lib.hid (show PC p45 20 161 300 by rw [hp45]; exact PCp21.out.add PCp25.out 80 300 (by decide) (by decide) (by decide) (by decide))
 clear hp45
 have CT := Lib.hid (padd N24.out.k PCp21.out N28.out.k PCp25.out 80 (by decide) (by decide) (by decide) (by decide))
 rw [show addP p21 p25 = p45 from Hp45.out.symm] at CT
 with_reducible refine CT.out.mono ?_
 rintro e w46 ⟨z47, rfl, hN48, hb⟩
 have N48 := Lib.hid hN48
 clear hN48
 clear CT
 have N24 := Lib.hid (N24.out.below hb)
 have N28 := Lib.hid (N28.out.below hb)
 have N36 := Lib.hid (N36.out.below hb)
 have N44 := Lib.hid (N44.out.below hb)
 have KG := Lib.hid (KG.out.trans (hb.mono KG.out.size))
 clear hb
 go_wp2_with fail
 have CT := Lib.hid (plsame N36.out.k N48.out.k (by simp only [Hp45.out, Hp41.out, Hp37.out, Hp33.out, Hp29.out, Hp25.out, Hp21.out]; exact slope_add _ _ _) PCp33.out (by decide) (by decide))
 with_reducible refine CT.out.mono ?_
 rintro e w49 ⟨rfl, hb⟩
 clear CT
 have N24 := Lib.hid (N24.out.below hb)
 have N28 := Lib.hid (N28.out.below hb)
 clear N36
 have N44 := Lib.hid (N44.out.below hb)
 clear N48
 have KG := Lib.hid (KG.out.trans (hb.mono KG.out.size))
 clear hb
 go_wp2_with fail
 obtain ⟨p50, hp50⟩ : ∃ z : List Tm, z = mulP p21 P2 := ⟨_, rfl⟩
 have Hp50 := Lib.hid hp50
 have PCp50 := Lib.hid (show PC p50 100 850 600 by rw [hp50]; exact PCp21.out.mul PCP2.out)
 clear hp50
 have CT := Lib.hid (plmul N24.out.k PCp21.out (Kx2.out.below KG.out) PCP2.out (by decide) (by decide) (by decide) (by decide) (by decide) (by decide) (by decide))
 rw [show mulP p21 P2 = p50 from Hp50.out.symm] at CT
 with_reducible refine CT.out.mono ?_
 rintro e w51 ⟨z52, rfl, hN53, hb⟩
 have N53 := Lib.hid hN53
 clear hN53
 clear CT
 have N24 := Lib.hid (N24.out.below hb)
 have N28 := Lib.hid (N28.out.below hb)
 have N44 := Lib.hid (N44.out.below hb)
 have KG := Lib.hid (KG.out.trans (hb.mono KG.out.size))
 clear hb
 go_wp2_with fail
 obtain ⟨p54, hp54⟩ : ∃ z : List Tm, z = mulP P1 p25 := ⟨_, rfl⟩
 have Hp54 := Lib.hid hp54
 have PCp54 := Lib.hid (show PC p54 100 850 600 by rw [hp54]; exact PCP1.out.mul PCp25.out)
 clear hp54
 have CT := Lib.hid (plmul (Kx1.out.below KG.out) PCP1.out N28.out.k PCp25.out (by decide) (by decide) (by decide) (by decide) (by decide) (by decide) (by decide))
 rw [show mulP P1 p25 = p54 from Hp54.out.symm] at CT
 with_reducible refine CT.out.mono ?_
 rintro e w55 ⟨z56, rfl, hN57, hb⟩
 have N57 := Lib.hid hN57
 clear hN57
 clear CT
 have N24 := Lib.hid (N24.out.below hb)
 clear N28
 have N44 := Lib.hid (N44.out.below hb)
 have N53 := Lib.hid (N53.out.below hb)
 have KG := Lib.hid (KG.out.trans (hb.mono KG.out.size))
 clear hb
 go_wp2_with fail
 obtain ⟨p58, hp58⟩ : ∃ z : List Tm, z = addP p50 p54 := ⟨_, rfl⟩
 have Hp58 := Lib.hid hp58
 have PCp58 := Lib.hid (show PC p58 200 1701 600 by rw [hp58]; exact PCp50.out.add PCp54.out 850 600 (by decide) (by decide) (by decide) (by decide))
 clear hp58
 have CT := Lib.hid (padd N53.out.k PCp50.out N57.out.k PCp54.out 850 (by decide) (by decide) (by decide) (by decide))
 rw [show addP p50 p54 = p58 from Hp58.out.symm] at CT
 with_reducible refine CT.out.mono ?_
 rintro e w59 ⟨z60, rfl, hN61, hb⟩
 have N61 := Lib.hid hN61
 clear hN61
 clear CT
 have N24 := Lib.hid (N24.out.below hb)
 have N44 := Lib.hid (N44.out.below hb)
 clear N53
 clear N57
 have KG := Lib.hid (KG.out.trans (hb.mono KG.out.size))
 clear hb
 go_wp2_with fail
 have CT := Lib.hid (plsame N44.out.k N61.out.k (by simp only [Hp58.out, Hp54.out, Hp50.out, Hp45.out, Hp41.out, Hp37.out, Hp33.out, Hp29.out, Hp25.out, Hp21.out]; exact slope_mul _ _ _) PCp41.out (by decide) (by decide))
 with_reducible refine CT.out.mono ?_
 rintro e w62 ⟨rfl, hb⟩
 clear CT
 have N24 := Lib.hid (N24.out.below hb)
 clear N44
 clear N61
 have KG := Lib.hid (KG.out.trans (hb.mono KG.out.size))
 clear hb
 go_wp2_with fail
 obtain ⟨p63, hp63⟩ : ∃ z : List Tm, z = slopeP p21 i1 := ⟨_, rfl⟩
 have Hp63 := Lib.hid hp63
 have PCp63 := Lib.hid (show PC p63 10 840 300 by rw [hp63]; exact PCp21.out.slope i1 (by decide))
 clear hp63
 have CT := Lib.hid (pslope i1 HI1.out N24.out.k PCp21.out (by decide) (by decide) (by decide))
 rw [show slopeP p21 i1 = p63 from Hp63.out.symm] at CT
 with_reducible refine CT.out.mono ?_
 rintro e w64 ⟨z65, rfl, hN66, hb⟩
 have N66 := Lib.hid hN66
 clear hN66
 clear CT
 clear N24
 have KG := Lib.hid (KG.out.trans (hb.mono KG.out.size))
 clear hb
 go_wp2_with fail
 obtain ⟨p67, hp67⟩ : ∃ z : List Tm, z = slopeP P1 i1 := ⟨_, rfl⟩
 have Hp67 := Lib.hid hp67
 have PCp67 := Lib.hid (show PC p67 10 80 300 by rw [hp67]; exact PCP1.out.slope i1 (by decide))
 clear hp67
 have CT := Lib.hid (pslope i1 HI1.out (Kx1.out.below KG.out) PCP1.out (by decide) (by decide) (by decide))
 rw [show slopeP P1 i1 = p67 from Hp67.out.symm] at CT
 with_reducible refine CT.out.mono ?_
 rintro e w68 ⟨z69, rfl, hN70, hb⟩
 have N70 := Lib.hid hN70
 clear hN70
 clear CT
 have N66 := Lib.hid (N66.out.below hb)
 have KG := Lib.hid (KG.out.trans (hb.mono KG.out.size))
 clear hb
 go_wp2_with fail
 obtain ⟨p71, hp71⟩ : ∃ z : List Tm, z = slopeP p67 i0 := ⟨_, rfl⟩
 have Hp71 := Lib.hid hp71
 have PCp71 := Lib.hid (show PC p71 10 840 300 by rw [hp71]; exact PCp67.out.slope i0 (by decide))
 clear hp71
 have CT := Lib.hid (pslope i0 HI0.out N70.out.k PCp67.out (by decide) (by decide) (by decide))
 rw [show slopeP p67 i0 = p71 from Hp71.out.symm] at CT
 with_reducible refine CT.out.mono ?_
 rintro e w72 ⟨z73, rfl, hN74, hb⟩
 have N74 := Lib.hid hN74
 clear hN74
 clear CT
 have N66 := Lib.hid (N66.out.below hb)
 clear N70
 have KG := Lib.hid (KG.out.trans (hb.mono KG.out.size))
 clear hb
 go_wp2_with fail
 have CT := Lib.hid (plsame N66.out.k N74.out.k (by simp only [Hp71.out, Hp67.out, Hp63.out, Hp58.out, Hp54.out, Hp50.out, Hp45.out, Hp41.out, Hp37.out, Hp33.out, Hp29.out, Hp25.out, Hp21.out]; exact slope_comm _ _ _) PCp63.out (by decide) (by decide))
 with_reducible refine CT.out.mono ?_
 rintro e w75 ⟨rfl, hb⟩
 clear CT
 clear N66
 clear N74
 have KG := Lib.hid (KG.out.trans (hb.mono KG.out.size))
 clear hb
 go_wp2_with fail
 go_ret
 exact ⟨rfl, KG.out⟩
end Go.Proofs.YtkkbegkdbcenkaaGreatDoor.Pol
namespace Go.Proofs.YtkkbegkdbcenkaaGreatDoor.Limb
open Go.RowKit Go.Sort Go.Proofs.YtkkbegkdbcenkaaGreatDoor.Pol
open Go.ChangeShapes Go.WideShapes Go.ChangeAt
namespace PolysSlopesC
theorem own : ownKnob Tryz.prog.godebug = none := by kernel_rfl
theorem laidOut : laidOutB Tryz.prog = true := by kernel_rfl
theorem tab_of_laid (W : World) (hL : laidMet Tryz.prog Rows.polysSlopesRow.laid W) : Tab W :=
 Lib.tabIs_of_head (g := 3) (by kernel_rfl) (by kernel_rfl) (t := 239) (n := 20) (e := 123) Tryz.underlying239 Tryz.underlying123 (by kernel_rfl) (by kernel_rfl) hL.tail.tail
noncomputable def laidWorld (os : Os) : World := World.laidAll Tryz.prog os Rows.polysSlopesRow.laid
noncomputable def witArgs : Array Value := #[.slice none 0 0, .slice none 0 0, .agg #[.int .u8 0, .int .u8 0]]
theorem laid_met (os : Os) : laidMet Tryz.prog Rows.polysSlopesRow.laid ((laidWorld os).forCall (fun _ _ => 0) ⟨#[], witArgs, []⟩).memory :=
 laidMet_laidAll _ (by kernel_rfl) (by kernel_rfl)
theorem reads (os : Os) {H : Type} (enc : TypeId × Value → H) : ∃ places, DataW.whole enc Tryz.prog ((laidWorld os).forCall (fun _ _ => 0) ⟨#[], witArgs, []⟩).memory Tryz.f7.params.toList Rows.polysSlopesSpec.vars false witArgs.toList 8 = some ([.nil, .nil, .agg [.lit (.int .u8 0), .lit (.int .u8 0)]], [], places) :=
 ⟨[], by kernel_rfl⟩
set_option maxRecDepth 100000 in
theorem lifted (os : Os) (started : os.Started) (H : Type) (enc : TypeId × Value → H) (F : Stop.Interp) :
  ReturnsInHanded {} Tryz.checked os 7 .any ((OpenSpec.ofChange Rows.polysSlopesSpec).preRow enc Tryz.prog Tryz.f7 Rows.polysSlopesRow.domain false Rows.polysSlopesRow.laid) (((OpenSpec.ofChange Rows.polysSlopesSpec).at F).post enc Tryz.prog Tryz.f7 false true false false) := by
 obtain ⟨places, hx⟩ := reads os enc
 refine returnsInHanded_of_row (C := Tryz.checked) (s := OpenSpec.ofChange Rows.polysSlopesSpec) own started (by kernel_rfl) Tryz.func7
  (witness_row_atRef (enc := enc) (C := Tryz.checked) false (laidWorld os) witArgs (World.laidAll_os _ _ _) (by kernel_rfl) (by kernel_rfl) (by kernel_rfl)
   (OpenSpec.preRow_of_cond 8 hx (by kernel_rfl) (fun k hk => by cases hk) (by kernel_rfl) (laid_met os))) ?_
 intro W base args ds gs before hval0 hW _ _ _ hL _ _
 rw [MakeChecks.laidMetH_plain _ _ _ (by kernel_rfl)] at hL
 have htab : Tab W := tab_of_laid W hL
 have hval : ∀ (j : Nat) t v, Tryz.f7.params[j]? = some t → args[j]? = some v → Value.okWide Tryz.prog W .any base t v := hval0
 have hW' := hW
 obtain ⟨p, q, hA0, hV, rfl, hfz, hnd⟩ := hW
 have hA : DataW.TrodAll enc Tryz.prog W 0 (fun _ => true) true Tryz.f7.params.toList args.toList ds p := hA0
 rw [Tryz.params7] at hA hval
 obtain ⟨v0, v1, v2, d0, d1, d2, p0, p1, p2, rfl, rfl, rfl, h0, h1, h2⟩ := trodAll_three hA
 obtain ⟨rfl, rfl⟩ := trodVars_none hV
 obtain ⟨x0, L0, rfl, r0⟩ := open_poly (hval 0 23 v0 rfl rfl) h0
 obtain ⟨x1, L1, rfl, r1⟩ := open_poly (hval 1 23 v1 rfl rfl) h1
 obtain ⟨z2, y2, rfl, wz2, wy2⟩ := open_two8 Tryz.underlying61 Tryz.underlying5 (by kernel_rfl) (by kernel_rfl) (hval 2 61 v2 rfl rfl) h2
 refine (polysSlopes_law x0 L0 x1 L1 z2 y2 W htab r0 r1 wz2 wy2).mono fun e W' ⟨he, hg⟩ => ?_
 subst he
 exact ⟨_, rfl, LawPost.law_post laidOut (by kernel_rfl) (by kernel_rfl) Tryz.underlying4 hW' rfl rfl hg⟩
theorem said : Rows.PolysSlopesSaid :=
 OpenClaim.holds_of_cond 7 Tryz.f7 rfl rfl rfl rfl rfl rfl rfl ⟨rfl, rfl, rfl, rfl, rfl⟩ rfl rfl rfl rfl rfl (by kernel_rfl) Tryz.func7 (by kernel_rfl)
  (of_decide_eq_true (by kernel_rfl)) (by unfold Func.isWrapper; first | (rw [if_pos (by decide +kernel)]; kernel_rfl) | (rw [if_neg (by decide +kernel)]; exact ⟨rfl, rfl⟩))
  (fun os started H enc _ F => by rw [OpenClaim.pre_eq_preRow]; exact lifted os started H enc F)
theorem plain (f : FuncId) (fn : Func) (hf : Tryz.pinned.checked.prog.funcNamed "reckoner/reckonerlaw04.PolysSlopes" = some f) (hfn : Tryz.pinned.checked.prog.funcs[f]? = some fn) :
  true = Tryz.pinned.checked.prog.looks [] ∧ ∀ (j : Nat) t, fn.params[j]? = some t → Tryz.pinned.checked.prog.wantsStandIn t = false := by
 obtain rfl : f = 7 := Option.some.inj ((show Tryz.prog.funcNamed "reckoner/reckonerlaw04.PolysSlopes" = some 7 by kernel_rfl).symm.trans hf) |>.symm
 obtain rfl : fn = Tryz.f7 := (Option.some.inj (Tryz.func7.symm.trans hfn)).symm
 refine ⟨by kernel_rfl, fun j t ht => ?_⟩
 rw [Tryz.params7] at ht
 have hm : t = 23 ∨ t = 23 ∨ t = 61 := by simpa using Array.mem_of_getElem? ht
 rcases hm with rfl | rfl | rfl
 ·exact (show Tryz.prog.wantsStandIn 23 = false by kernel_rfl)
 ·exact (show Tryz.prog.wantsStandIn 23 = false by kernel_rfl)
 ·exact (show Tryz.prog.wantsStandIn 61 = false by kernel_rfl)
theorem card : Rows.PolysSlopesCardSaid :=
 Claim7.holds_tied_plain_at .later [] _ _ _ _ said (fun _ h => by cases h) (by kernel_rfl) (fun _ h => by cases h) polysSlopes_row_tie rfl ⟨rfl, rfl⟩ (by kernel_rfl) rfl plain (by kernel_rfl)
#print axioms card
end PolysSlopesC
end Go.Proofs.YtkkbegkdbcenkaaGreatDoor.Limb
