/-
  The law PolysUndone: whatever it is handed, it returns true, and what it was handed reads behind the call as it read before; the card ties the listed tables to the program's text.
-/
import Derived.Test.YtkkbegkdbcenkaaGreatDoorPvL
import Derived.Test.YtkkbegkdbcenkaaGreatDoorCards
import Derived.Test.YtkkbegkdbcenkaaGreatDoorTie
import Derived.Lay
import Derived.MakeChecks
import Derived.Stop.LaidErr
import Derived.Deep.DeepWitnessRowRef
import Derived.WalkKit
import Derived.ProofKit
import Derived.OpenShut
import Derived.Deep.DeepHandedRow
import Derived.Lib.LaidTab
set_option linter.unusedSimpArgs false
set_option linter.unusedVariables false
namespace Go.Proofs.YtkkbegkdbcenkaaGreatDoor.Pol
open Go.RowKit Go.Sort Go.Proofs.YtkkbegkdbcenkaaGreatDoor.Limb
theorem formP2 : formT [50] := ⟨by decide +kernel, by decide +kernel, by decide +kernel⟩
theorem phalf (w : World) : Calls Tryz.prog 34 #[.string ⟨#[49, 47, 50]⟩] w (RFE w (((1 : Int) : Rat) / ((2 : Int) : Rat)) 0) := 
 qparse_y_ok (z1 := 1) (z2 := 2) w (by decide) (show Lib.cut [49, 47, 50] [47] = ([49], [50], true) by decide +kernel) (by decide) (by decide) code1 num1 (codeT_of _ formP2 (by decide +kernel)) (numT_of _ _ formP2 (by decide +kernel) (by decide +kernel)) ⟨50, [], rfl, by decide⟩ (by decide) (by decide)
theorem textQ_ofP {q : Rat} {n d : Int} (hn : q.num = n) (hd : (q.den : Int) = d) : textQ q = if d = 1 then Lib.itoa n else Lib.itoa n ++ 47 :: Lib.itoa d := by subst hn hd; rfl
theorem text_c {q : Rat} (h : q = ((3 : Int) : Rat) / ((2 : Int) : Rat)) : textQ q = [51, 47, 50] := by
 rw [textQ_ofP (n := 3) (d := 2) (by rw [h]; decide +kernel) (by rw [h]; decide +kernel), if_neg (by decide), show (3 : Int) = ((3 : Nat) : Int) from rfl, Lib.itoa_nonneg, Lib.decDigits_one (by decide), show (2 : Int) = ((2 : Nat) : Int) from rfl, Lib.itoa_nonneg, Lib.decDigits_one (by decide)]
 rfl
set_option maxRecDepth 100000 in
set_option maxHeartbeats 16000000 in
theorem palive (w : World) (htab : Tab w) : Calls Tryz.prog 9 #[] w fun e w' => e = .returned (.bool true) ∧ Below w.heap.size w w' := by
 have HT := Lib.hid htab
 have KG := Lib.hid (Below.refl w.heap.size w)
 clear htab
 obtain ⟨q1, hq1⟩ : ∃ z : Rat, z = ((1 : Int) : Rat) := ⟨_, rfl⟩
 have Hq1 := Lib.hid hq1
 have LQq1 := Lib.hid (show LQ q1 3 by rw [hq1]; exact LQ.int (by decide) (by decide))
 clear hq1
 obtain ⟨p5, hp5⟩ : ∃ z : List Tm, z = nf [(Mo.one, q1)] := ⟨_, rfl⟩
 have Hp5 := Lib.hid hp5
 have PCp5 := Lib.hid (show PC p5 1 4 0 by rw [hp5]; exact PC.of LQq1.out)
 clear hp5
 obtain ⟨p9, hp9⟩ : ∃ z : List Tm, z = letP 0 := ⟨_, rfl⟩
 have Hp9 := Lib.hid hp9
 have PCp9 := Lib.hid (show PC p9 1 3 1 by rw [hp9]; exact PC.letter 0)
 clear hp9
 obtain ⟨p13, hp13⟩ : ∃ z : List Tm, z = addP p9 p5 := ⟨_, rfl⟩
 have Hp13 := Lib.hid hp13
 have PCp13 := Lib.hid (show PC p13 2 9 1 by rw [hp13]; exact PCp9.out.add PCp5.out 4 1 (by decide) (by decide) (by decide) (by decide))
 clear hp13
 obtain ⟨q17, hq17⟩ : ∃ z : Rat, z = ((2 : Int) : Rat) := ⟨_, rfl⟩
 have Hq17 := Lib.hid hq17
 have LQq17 := Lib.hid (show LQ q17 3 by rw [hq17]; exact LQ.int (by decide) (by decide))
 clear hq17
 obtain ⟨p21, hp21⟩ : ∃ z : List Tm, z = scaleP q17 p13 := ⟨_, rfl⟩
 have Hp21 := Lib.hid hp21
 have PCp21 := Lib.hid (show PC p21 2 12 1 by rw [hp21]; exact PCp13.out.scale LQq17.out)
 clear hp21
 obtain ⟨p25, hp25⟩ : ∃ z : List Tm, z = letP 1 := ⟨_, rfl⟩
 have Hp25 := Lib.hid hp25
 have PCp25 := Lib.hid (show PC p25 1 3 1 by rw [hp25]; exact PC.letter 1)
 clear hp25
 obtain ⟨p32, hp32⟩ : ∃ z : List Tm, z = mulP p25 p25 := ⟨_, rfl⟩
 have Hp32 := Lib.hid hp32
 have PCp32 := Lib.hid (show PC p32 1 7 2 by rw [hp32]; exact PCp25.out.mul PCp25.out)
 clear hp32
 obtain ⟨p36, hp36⟩ : ∃ z : List Tm, z = addP p9 p32 := ⟨_, rfl⟩
 have Hp36 := Lib.hid hp36
 have PCp36 := Lib.hid (show PC p36 2 15 2 by rw [hp36]; exact PCp9.out.add PCp32.out 7 2 (by decide) (by decide) (by decide) (by decide))
 clear hp36
 obtain ⟨q52, hq52⟩ : ∃ z : Rat, z = ((1 : Int) : Rat) / ((2 : Int) : Rat) := ⟨_, rfl⟩
 have Hq52 := Lib.hid hq52
 have LQq52 := Lib.hid (show LQ q52 3 by rw [hq52]; exact LQ.of (by decide) (by decide) (by decide) (by decide) (by decide))
 clear hq52
 obtain ⟨q58, hq58⟩ : ∃ z : Rat, z = ((0 : Int) : Rat) := ⟨_, rfl⟩
 have Hq58 := Lib.hid hq58
 have LQq58 := Lib.hid (show LQ q58 3 by rw [hq58]; exact LQ.int (by decide) (by decide))
 clear hq58
 obtain ⟨l64, hl64⟩ : ∃ z : Nat → Rat, z = l4 q52 q58 q58 q58 := ⟨_, rfl⟩
 have Hl64 := Lib.hid hl64
 have HLl64 := Lib.hid (show ∀ i, LQ (l64 i) 3 by rw [hl64]; exact l4_lq (LQq52.out.up (by decide)) (LQq58.out.up (by decide)) (LQq58.out.up (by decide)) (LQq58.out.up (by decide)))
 clear hl64
 obtain ⟨q65, hq65⟩ : ∃ z : Rat, z = ev p13 (atM l64) := ⟨_, rfl⟩
 have Hq65 := Lib.hid hq65
 have LQq65 := Lib.hid (show LQ q65 78 by rw [hq65]; exact PCp13.out.at HLl64.out)
 clear hq65
 obtain ⟨p71, hp71⟩ : ∃ z : List Tm, z = mulP p13 p13 := ⟨_, rfl⟩
 have Hp71 := Lib.hid hp71
 have PCp71 := Lib.hid (show PC p71 4 38 2 by rw [hp71]; exact PCp13.out.mul PCp13.out)
 clear hp71
 obtain ⟨p83, hp83⟩ : ∃ z : List Tm, z = slopeP p71 0 := ⟨_, rfl⟩
 have Hp83 := Lib.hid hp83
 have PCp83 := Lib.hid (show PC p83 4 168 2 by rw [hp83]; exact PCp71.out.slope 0 (by decide))
 clear hp83
 obtain ⟨p87, hp87⟩ : ∃ z : List Tm, z = coefP p71 0 1 := ⟨_, rfl⟩
 have Hp87 := Lib.hid hp87
 have PCp87 := Lib.hid (show PC p87 4 38 2 by rw [hp87]; exact PCp71.out.coef 0 1)
 clear hp87
 obtain ⟨p88, hp88⟩ : ∃ z : List Tm, z = addP p13 p13 := ⟨_, rfl⟩
 have Hp88 := Lib.hid hp88
 have PCp88 := Lib.hid (show PC p88 4 19 1 by rw [hp88]; exact PCp13.out.add PCp13.out 9 1 (by decide) (by decide) (by decide) (by decide))
 clear hp88
 obtain ⟨p89, hp89⟩ : ∃ z : List Tm, z = subP p13 p13 := ⟨_, rfl⟩
 have Hp89 := Lib.hid hp89
 have PCp89 := Lib.hid (show PC p89 4 25 1 by rw [hp89]; exact PCp13.out.sub PCp13.out 12 1 (by decide) (by decide) (by decide) (by decide))
 clear hp89
 obtain ⟨p90, hp90⟩ : ∃ z : List Tm, z = nf [(Mo.one, q17)] := ⟨_, rfl⟩
 have Hp90 := Lib.hid hp90
 have PCp90 := Lib.hid (show PC p90 1 4 0 by rw [hp90]; exact PC.of LQq17.out)
 clear hp90
 go_enter Tryz.func9, Tryz.ntmps9
 go_wp2_with fail
 have CT := Lib.hid (qof 1 w (by decide) (by decide))
 rw [show ((1 : Int) : Rat) = q1 from Hq1.out.symm] at CT
 with_reducible refine CT.out.mono ?_
 rintro e w2 ⟨x3, rfl, hN4, hb⟩
 have N4 := Lib.hid hN4
 clear hN4
 clear CT
 have KG := Lib.hid (KG.out.trans (hb.mono KG.out.size))
 clear hb
 go_wp2_with fail
 have CT := Lib.hid (pof (N4.out).k.any (((N4.out).k).len LQq1.out (by decide : _ ≤ 900000)) LQq1.out (by decide))
 rw [show nf [(Mo.one, q1)] = p5 from Hp5.out.symm] at CT
 with_reducible refine CT.out.mono ?_
 rintro e w6 ⟨z7, rfl, hN8, hb⟩
 have N8 := Lib.hid hN8
 clear hN8
 clear CT
 clear N4
 have KG := Lib.hid (KG.out.trans (hb.mono KG.out.size))
 clear hb
 go_wp2_with fail
 have CT := Lib.hid (show Calls Tryz.prog 25 #[.int .i64 0] w6 _ from llet_k 0 (by decide) w6)
 rw [show letP 0 = p9 from Hp9.out.symm] at CT
 with_reducible refine CT.out.mono ?_
 rintro e w10 ⟨z11, rfl, hN12, hb⟩
 have N12 := Lib.hid hN12
 clear hN12
 clear CT
 have N8 := Lib.hid (N8.out.below hb)
 have KG := Lib.hid (KG.out.trans (hb.mono KG.out.size))
 clear hb
 go_wp2_with fail
 have CT := Lib.hid (padd N12.out.k PCp9.out N8.out.k PCp5.out 4 (by decide) (by decide) (by decide) (by decide))
 rw [show addP p9 p5 = p13 from Hp13.out.symm] at CT
 with_reducible refine CT.out.mono ?_
 rintro e w14 ⟨z15, rfl, hN16, hb⟩
 have N16 := Lib.hid hN16
 clear hN16
 clear CT
 clear N8
 clear N12
 have KG := Lib.hid (KG.out.trans (hb.mono KG.out.size))
 clear hb
 go_wp2_with fail
 have CT := Lib.hid (qof 2 w14 (by decide) (by decide))
 rw [show ((2 : Int) : Rat) = q17 from Hq17.out.symm] at CT
 with_reducible refine CT.out.mono ?_
 rintro e w18 ⟨x19, rfl, hN20, hb⟩
 have N20 := Lib.hid hN20
 clear hN20
 clear CT
 have N16 := Lib.hid (N16.out.below hb)
 have KG := Lib.hid (KG.out.trans (hb.mono KG.out.size))
 clear hb
 go_wp2_with fail
 have CT := Lib.hid (pscale N16.out.k PCp13.out (N20.out).k.any (((N20.out).k).len LQq17.out (by decide : _ ≤ 900000)) LQq17.out (by decide) (by decide) (by decide) (by decide))
 rw [show scaleP q17 p13 = p21 from Hp21.out.symm] at CT
 with_reducible refine CT.out.mono ?_
 rintro e w22 ⟨z23, rfl, hN24, hb⟩
 have N24 := Lib.hid hN24
 clear hN24
 clear CT
 have N16 := Lib.hid (N16.out.below hb)
 clear N20
 have KG := Lib.hid (KG.out.trans (hb.mono KG.out.size))
 clear hb
 go_wp2_with fail
 have CT := Lib.hid (show Calls Tryz.prog 25 #[.int .i64 1] w22 _ from llet_k 1 (by decide) w22)
 rw [show letP 1 = p25 from Hp25.out.symm] at CT
 with_reducible refine CT.out.mono ?_
 rintro e w26 ⟨z27, rfl, hN28, hb⟩
 have N28 := Lib.hid hN28
 clear hN28
 clear CT
 have N16 := Lib.hid (N16.out.below hb)
 have N24 := Lib.hid (N24.out.below hb)
 have KG := Lib.hid (KG.out.trans (hb.mono KG.out.size))
 clear hb
 go_wp2_with fail
 have CT := Lib.hid (show Calls Tryz.prog 25 #[.int .i64 0] w26 _ from llet_k 0 (by decide) w26)
 rw [show letP 0 = p9 from Hp9.out.symm] at CT
 with_reducible refine CT.out.mono ?_
 rintro e w29 ⟨z30, rfl, hN31, hb⟩
 have N31 := Lib.hid hN31
 clear hN31
 clear CT
 have N16 := Lib.hid (N16.out.below hb)
 have N24 := Lib.hid (N24.out.below hb)
 have N28 := Lib.hid (N28.out.below hb)
 have KG := Lib.hid (KG.out.trans (hb.mono KG.out.size))
 clear hb
 go_wp2_with fail
 have CT := Lib.hid (plmul N28.out.k PCp25.out N28.out.k PCp25.out (by decide) (by decide) (by decide) (by decide) (by decide) (by decide) (by decide))
 rw [show mulP p25 p25 = p32 from Hp32.out.symm] at CT
 with_reducible refine CT.out.mono ?_
 rintro e w33 ⟨z34, rfl, hN35, hb⟩
 have N35 := Lib.hid hN35
 clear hN35
 clear CT
 have N16 := Lib.hid (N16.out.below hb)
 have N24 := Lib.hid (N24.out.below hb)
 clear N28
 have N31 := Lib.hid (N31.out.below hb)
 have KG := Lib.hid (KG.out.trans (hb.mono KG.out.size))
 clear hb
 go_wp2_with fail
 have CT := Lib.hid (padd N31.out.k PCp9.out N35.out.k PCp32.out 7 (by decide) (by decide) (by decide) (by decide))
 rw [show addP p9 p32 = p36 from Hp36.out.symm] at CT
 with_reducible refine CT.out.mono ?_
 rintro e w37 ⟨z38, rfl, hN39, hb⟩
 have N39 := Lib.hid hN39
 clear hN39
 clear CT
 have N16 := Lib.hid (N16.out.below hb)
 have N24 := Lib.hid (N24.out.below hb)
 clear N31
 clear N35
 have KG := Lib.hid (KG.out.trans (hb.mono KG.out.size))
 clear hb
 go_wp2_with fail
 have CT := Lib.hid (plead 1 N39.out.k PCp36.out (by decide) (by decide) (by simp only [Hp36.out, Hp32.out, Hp25.out, Hp21.out, Hq17.out, Hp13.out, Hp9.out, Hp5.out, Hq1.out]; decide +kernel))
 with_reducible refine CT.out.mono ?_
 rintro e w40 ⟨x41, ⟨m44, q45⟩, rfl, hN, hld, hb⟩
 clear CT
 have N16 := Lib.hid (N16.out.below hb)
 have N24 := Lib.hid (N24.out.below hb)
 clear N39
 have KG := Lib.hid (KG.out.trans (hb.mono KG.out.size))
 clear hb
 have N43 := Lib.hid (show DF w40 w37.heap.size x41 q45 from hN)
 have HLDm44 := Lib.hid (show Lead (keyO 1) p36 (m44, q45) from hld)
 have LQq45 := Lib.hid (show LQ q45 60 from (PCp36.out.up (Nat.le_refl _) (by decide) (Nat.le_refl _)).b.lq _ hld.1)
 clear hN hld
 clear N43
 have hm : m44 = ⟨0, 2, 0, 0⟩ := lead_is HLDm44.out ⟨0, 2, 0, 0⟩ (by simp only [Hp36.out, Hp32.out, Hp25.out, Hp21.out, Hq17.out, Hp13.out, Hp9.out, Hp5.out, Hq1.out]; decide +kernel)
 have HM0 := Lib.hid (show ((m44.x : Nat) : Int) = 0 by rw [hm]; rfl)
 have HM1 := Lib.hid (show ((m44.y : Nat) : Int) = 2 by rw [hm]; rfl)
 have HM2 := Lib.hid (show ((m44.z : Nat) : Int) = 0 by rw [hm]; rfl)
 have HM3 := Lib.hid (show ((m44.t : Nat) : Int) = 0 by rw [hm]; rfl)
 clear hm
 go_upto_region 6 with (fail)
 obtain ⟨v47, hV⟩ : ∃ V, V = w40.alloc (.cells #[.bool x41.t.s, .slice x41.t.a x41.t.n x41.t.c, .bool x41.l.s, .slice x41.l.a x41.l.n x41.l.c, .int .u16 m44.x, .int .u16 m44.y, .int .u16 m44.z, .int .u16 m44.t] 40) := ⟨_, rfl⟩
 have hbV : Below w40.heap.size w40 v47 := by rw [hV]; exact ((Below.refl _ _).alloc (Nat.le_refl _) _)
 have BX46 := Lib.hid (show Bxs v47 (w40.heap.size) 40 [.bool x41.t.s, .slice x41.t.a x41.t.n x41.t.c, .bool x41.l.s, .slice x41.l.a x41.l.n x41.l.c, .int .u16 m44.x, .int .u16 m44.y, .int .u16 m44.z, .int .u16 m44.t] by have h := Bxs.new (w40) 40 [.bool x41.t.s, .slice x41.t.a x41.t.n x41.t.c, .bool x41.l.s, .slice x41.l.a x41.l.n x41.l.c, .int .u16 m44.x, .int .u16 m44.y, .int .u16 m44.z, .int .u16 m44.t]; rw [hV]; exact h)
 rw [show w40.alloc (.cells #[.bool x41.t.s, .slice x41.t.a x41.t.n x41.t.c, .bool x41.l.s, .slice x41.l.a x41.l.n x41.l.c, .int .u16 m44.x, .int .u16 m44.y, .int .u16 m44.z, .int .u16 m44.t] 40) = v47 from hV.symm]
 have N16 := Lib.hid (N16.out.below hbV)
 have N24 := Lib.hid (N24.out.below hbV)
 have KG := Lib.hid (KG.out.trans (hbV.mono KG.out.size))
 clear hV hbV
 go_wp2_with fail
 have CT := Lib.hid (lead_nil 0 ⟨none, 0, 0⟩ v47 (KP.nil _ _ _).any (by decide))
 with_reducible refine CT.out.mono ?_
 rintro e w48 ⟨rfl, hb⟩
 clear CT
 have N16 := Lib.hid (N16.out.below hb)
 have N24 := Lib.hid (N24.out.below hb)
 have BX46 := Lib.hid (BX46.out.below hb BX46.out.lt)
 have KG := Lib.hid (KG.out.trans (hb.mono KG.out.size))
 clear hb
 go_upto_region 7 with (fail)
 obtain ⟨v50, hV⟩ : ∃ V, V = w48.alloc (.cells #[.bool false, .slice none 0 0, .bool false, .slice none 0 0, .int .u16 0, .int .u16 0, .int .u16 0, .int .u16 0] 40) := ⟨_, rfl⟩
 have hbV : Below w48.heap.size w48 v50 := by rw [hV]; exact ((Below.refl _ _).alloc (Nat.le_refl _) _)
 have BX49 := Lib.hid (show Bxs v50 (w48.heap.size) 40 [.bool false, .slice none 0 0, .bool false, .slice none 0 0, .int .u16 0, .int .u16 0, .int .u16 0, .int .u16 0] by have h := Bxs.new (w48) 40 [.bool false, .slice none 0 0, .bool false, .slice none 0 0, .int .u16 0, .int .u16 0, .int .u16 0, .int .u16 0]; rw [hV]; exact h)
 rw [show w48.alloc (.cells #[.bool false, .slice none 0 0, .bool false, .slice none 0 0, .int .u16 0, .int .u16 0, .int .u16 0, .int .u16 0] 40) = v50 from hV.symm]
 have N16 := Lib.hid (N16.out.below hbV)
 have N24 := Lib.hid (N24.out.below hbV)
 have BX46 := Lib.hid (BX46.out.below hbV BX46.out.lt)
 have KG := Lib.hid (KG.out.trans (hbV.mono KG.out.size))
 clear hV hbV
 clear BX49
 go_wp2_with fail
 have CT := Lib.hid (letter_out 4 (by decide) v50)
 with_reducible refine CT.out.mono ?_
 rintro e w51 ⟨rfl, hb⟩
 clear CT
 have N16 := Lib.hid (N16.out.below hb)
 have N24 := Lib.hid (N24.out.below hb)
 have BX46 := Lib.hid (BX46.out.below hb BX46.out.lt)
 have KG := Lib.hid (KG.out.trans (hb.mono KG.out.size))
 clear hb
 go_wp2_with fail
 have CT := Lib.hid (phalf w51)
 rw [show ((1 : Int) : Rat) / ((2 : Int) : Rat) = q52 from Hq52.out.symm] at CT
 with_reducible refine CT.out.mono ?_
 rintro e w53 ⟨x54, rfl, hN55, hb⟩
 have N55 := Lib.hid hN55
 clear hN55
 clear CT
 have N16 := Lib.hid (N16.out.below hb)
 have N24 := Lib.hid (N24.out.below hb)
 have BX46 := Lib.hid (BX46.out.below hb BX46.out.lt)
 have KG := Lib.hid (KG.out.trans (hb.mono KG.out.size))
 clear hb
 go_upto_region 9 with (fail)
 obtain ⟨v57, hV⟩ : ∃ V, V = w53.alloc (.cells #[.bool x54.t.s, .slice x54.t.a x54.t.n x54.t.c, .bool x54.l.s, .slice x54.l.a x54.l.n x54.l.c] 35) := ⟨_, rfl⟩
 have hbV : Below w53.heap.size w53 v57 := by rw [hV]; exact ((Below.refl _ _).alloc (Nat.le_refl _) _)
 have BX56 := Lib.hid (show Bxs v57 (w53.heap.size) 35 [.bool x54.t.s, .slice x54.t.a x54.t.n x54.t.c, .bool x54.l.s, .slice x54.l.a x54.l.n x54.l.c] by have h := Bxs.new (w53) 35 [.bool x54.t.s, .slice x54.t.a x54.t.n x54.t.c, .bool x54.l.s, .slice x54.l.a x54.l.n x54.l.c]; rw [hV]; exact h)
 rw [show w53.alloc (.cells #[.bool x54.t.s, .slice x54.t.a x54.t.n x54.t.c, .bool x54.l.s, .slice x54.l.a x54.l.n x54.l.c] 35) = v57 from hV.symm]
 have N16 := Lib.hid (N16.out.below hbV)
 have N24 := Lib.hid (N24.out.below hbV)
 have N55 := Lib.hid (N55.out.below hbV)
 have BX46 := Lib.hid (BX46.out.below hbV BX46.out.lt)
 have KG := Lib.hid (KG.out.trans (hbV.mono KG.out.size))
 clear hV hbV
 go_wp2_with fail
 have CT := Lib.hid (qof 0 v57 (by decide) (by decide))
 rw [show ((0 : Int) : Rat) = q58 from Hq58.out.symm] at CT
 with_reducible refine CT.out.mono ?_
 rintro e w59 ⟨x60, rfl, hN61, hb⟩
 have N61 := Lib.hid hN61
 clear hN61
 clear CT
 have N16 := Lib.hid (N16.out.below hb)
 have N24 := Lib.hid (N24.out.below hb)
 have N55 := Lib.hid (N55.out.below hb)
 have BX46 := Lib.hid (BX46.out.below hb BX46.out.lt)
 have BX56 := Lib.hid (BX56.out.below hb BX56.out.lt)
 have KG := Lib.hid (KG.out.trans (hb.mono KG.out.size))
 clear hb
 go_upto_region 10 with (fail)
 obtain ⟨v63, hV⟩ : ∃ V, V = w59.alloc (.cells #[.bool x60.t.s, .slice x60.t.a x60.t.n x60.t.c, .bool x60.l.s, .slice x60.l.a x60.l.n x60.l.c] 35) := ⟨_, rfl⟩
 have hbV : Below w59.heap.size w59 v63 := by rw [hV]; exact ((Below.refl _ _).alloc (Nat.le_refl _) _)
 have BX62 := Lib.hid (show Bxs v63 (w59.heap.size) 35 [.bool x60.t.s, .slice x60.t.a x60.t.n x60.t.c, .bool x60.l.s, .slice x60.l.a x60.l.n x60.l.c] by have h := Bxs.new (w59) 35 [.bool x60.t.s, .slice x60.t.a x60.t.n x60.t.c, .bool x60.l.s, .slice x60.l.a x60.l.n x60.l.c]; rw [hV]; exact h)
 rw [show w59.alloc (.cells #[.bool x60.t.s, .slice x60.t.a x60.t.n x60.t.c, .bool x60.l.s, .slice x60.l.a x60.l.n x60.l.c] 35) = v63 from hV.symm]
 have N16 := Lib.hid (N16.out.below hbV)
 have N24 := Lib.hid (N24.out.below hbV)
 have N55 := Lib.hid (N55.out.below hbV)
 have N61 := Lib.hid (N61.out.below hbV)
 have BX46 := Lib.hid (BX46.out.below hbV BX46.out.lt)
 have BX56 := Lib.hid (BX56.out.below hbV BX56.out.lt)
 have KG := Lib.hid (KG.out.trans (hbV.mono KG.out.size))
 clear hV hbV
 have cBX560 := BX56.out.cell (i := 0) rfl
 have cBX561 := BX56.out.cell (i := 1) rfl
 have cBX562 := BX56.out.cell (i := 2) rfl
 have cBX563 := BX56.out.cell (i := 3) rfl
 have cBX56f := BX56.out.fz
 have cBX56l := BX56.out.lt
 have cBX620 := BX62.out.cell (i := 0) rfl
 have cBX621 := BX62.out.cell (i := 1) rfl
 have cBX622 := BX62.out.cell (i := 2) rfl
 have cBX623 := BX62.out.cell (i := 3) rfl
 have cBX62f := BX62.out.fz
 have cBX62l := BX62.out.lt
 go_wp2_with fail
 have CT := Lib.hid (pat N16.out.k PCp13.out (show K4 v63 x54 x60 x60 x60 l64 by rw [Hl64.out]; exact k4_of (N55.out).k (N61.out).k (N61.out).k (N61.out).k) HLl64.out (by decide) (by decide) (by decide) (by decide))
 rw [show ev p13 (atM l64) = q65 from Hq65.out.symm] at CT
 with_reducible refine CT.out.mono ?_
 rintro e w66 ⟨x67, rfl, hN68, hb⟩
 have N68 := Lib.hid hN68
 clear hN68
 clear CT
 clear cBX560 cBX561 cBX562 cBX563 cBX56f cBX56l
 clear cBX620 cBX621 cBX622 cBX623 cBX62f cBX62l
 have N16 := Lib.hid (N16.out.below hb)
 have N24 := Lib.hid (N24.out.below hb)
 clear N55
 clear N61
 have BX46 := Lib.hid (BX46.out.below hb BX46.out.lt)
 clear BX56
 clear BX62
 have KG := Lib.hid (KG.out.trans (hb.mono KG.out.size))
 clear hb
 go_upto_region 11 with (fail)
 obtain ⟨v70, hV⟩ : ∃ V, V = w66.alloc (.cells #[.bool x67.t.s, .slice x67.t.a x67.t.n x67.t.c, .bool x67.l.s, .slice x67.l.a x67.l.n x67.l.c] 35) := ⟨_, rfl⟩
 have hbV : Below w66.heap.size w66 v70 := by rw [hV]; exact ((Below.refl _ _).alloc (Nat.le_refl _) _)
 have BX69 := Lib.hid (show Bxs v70 (w66.heap.size) 35 [.bool x67.t.s, .slice x67.t.a x67.t.n x67.t.c, .bool x67.l.s, .slice x67.l.a x67.l.n x67.l.c] by have h := Bxs.new (w66) 35 [.bool x67.t.s, .slice x67.t.a x67.t.n x67.t.c, .bool x67.l.s, .slice x67.l.a x67.l.n x67.l.c]; rw [hV]; exact h)
 rw [show w66.alloc (.cells #[.bool x67.t.s, .slice x67.t.a x67.t.n x67.t.c, .bool x67.l.s, .slice x67.l.a x67.l.n x67.l.c] 35) = v70 from hV.symm]
 have N16 := Lib.hid (N16.out.below hbV)
 have N24 := Lib.hid (N24.out.below hbV)
 have N68 := Lib.hid (N68.out.below hbV)
 have BX46 := Lib.hid (BX46.out.below hbV BX46.out.lt)
 have KG := Lib.hid (KG.out.trans (hbV.mono KG.out.size))
 clear hV hbV
 go_wp2_with fail
 have CT := Lib.hid (plmul N16.out.k PCp13.out N16.out.k PCp13.out (by decide) (by decide) (by decide) (by decide) (by decide) (by decide) (by decide))
 rw [show mulP p13 p13 = p71 from Hp71.out.symm] at CT
 with_reducible refine CT.out.mono ?_
 rintro e w72 ⟨z73, rfl, hN74, hb⟩
 have N74 := Lib.hid hN74
 clear hN74
 clear CT
 have N16 := Lib.hid (N16.out.below hb)
 have N24 := Lib.hid (N24.out.below hb)
 have N68 := Lib.hid (N68.out.below hb)
 have BX46 := Lib.hid (BX46.out.below hb BX46.out.lt)
 have BX69 := Lib.hid (BX69.out.below hb BX69.out.lt)
 have KG := Lib.hid (KG.out.trans (hb.mono KG.out.size))
 clear hb
 go_wp2_with fail
 have CT := Lib.hid (show Calls Tryz.prog 22 #[z73.v, .int .i64 0] w72 _ from pcoefs 0 (by decide) N74.out.k PCp71.out (by decide) (by decide))
 with_reducible refine CT.out.mono ?_
 rintro e w75 ⟨a76, n77, c78, rfl, hN79, hb⟩
 have N79 := Lib.hid hN79
 clear hN79
 clear CT
 have N16 := Lib.hid (N16.out.below hb)
 have N24 := Lib.hid (N24.out.below hb)
 have N68 := Lib.hid (N68.out.below hb)
 clear N74
 have BX46 := Lib.hid (BX46.out.below hb BX46.out.lt)
 have BX69 := Lib.hid (BX69.out.below hb BX69.out.lt)
 have KG := Lib.hid (KG.out.trans (hb.mono KG.out.size))
 clear hb
 go_wp2_with fail
 have CT := Lib.hid (plmul N16.out.k PCp13.out N16.out.k PCp13.out (by decide) (by decide) (by decide) (by decide) (by decide) (by decide) (by decide))
 rw [show mulP p13 p13 = p71 from Hp71.out.symm] at CT
 with_reducible refine CT.out.mono ?_
 rintro e w80 ⟨z81, rfl, hN82, hb⟩
 have N82 := Lib.hid hN82
 clear hN82
 clear CT
 have N16 := Lib.hid (N16.out.below hb)
 have N24 := Lib.hid (N24.out.below hb)
 have N68 := Lib.hid (N68.out.below hb)
 have N79 := Lib.hid (N79.out.below hb)
 have BX46 := Lib.hid (BX46.out.below hb BX46.out.lt)
 have BX69 := Lib.hid (BX69.out.below hb BX69.out.lt)
 have KG := Lib.hid (KG.out.trans (hb.mono KG.out.size))
 clear hb
 go_wp2_with fail
 have CT := Lib.hid (show Calls Tryz.prog 29 #[z81.v, .int .i64 0] w80 _ from pslope 0 (by decide) N82.out.k PCp71.out (by decide) (by decide) (by decide))
 rw [show slopeP p71 0 = p83 from Hp83.out.symm] at CT
 with_reducible refine CT.out.mono ?_
 rintro e w84 ⟨z85, rfl, hN86, hb⟩
 have N86 := Lib.hid hN86
 clear hN86
 clear CT
 have N16 := Lib.hid (N16.out.below hb)
 have N24 := Lib.hid (N24.out.below hb)
 have N68 := Lib.hid (N68.out.below hb)
 have N79 := Lib.hid (N79.out.below hb)
 clear N82
 have BX46 := Lib.hid (BX46.out.below hb BX46.out.lt)
 have BX69 := Lib.hid (BX69.out.below hb BX69.out.lt)
 have KG := Lib.hid (KG.out.trans (hb.mono KG.out.size))
 clear hb
 have hn3 : n77 = 3 := by have h := N79.out.len; rw [show degP p71 0 = 2 from by simp only [Hp83.out, Hp71.out, Hq65.out, Hl64.out, Hq58.out, Hq52.out, Hp36.out, Hp32.out, Hp25.out, Hp21.out, Hq17.out, Hp13.out, Hp9.out, Hp5.out, Hq1.out]; decide +kernel] at h; omega
 subst hn3
 obtain ⟨cb, z1, hca, hcc, hkz⟩ := N79.out.get 1 (by decide)
 subst hca
 have HCC := Lib.hid (fun (w' : World) (hb' : Below w84.heap.size w84 w') => (hb'.cell (p := ⟨cb, 1, none⟩) (block_lt_of_cell hcc)).trans hcc)
 have NZ1 := Lib.hid (show KP w84 z1 p87 by rw [Hp87.out]; exact hkz)
 clear hcc hkz
 have HQT := Lib.hid (show q65 = ((3 : Int) : Rat) / ((2 : Int) : Rat) by simp only [Hp87.out, Hp83.out, Hp71.out, Hq65.out, Hl64.out, Hq58.out, Hq52.out, Hp36.out, Hp32.out, Hp25.out, Hp21.out, Hq17.out, Hp13.out, Hp9.out, Hp5.out, Hq1.out]; decide +kernel)
 go_upto_region 13 with (fail)
 refine Go.FS.wp_region_fresh 81 [] (Go.FS.spOf [(26, Go.FS.Sp.made (fun x : PV => x.v) (fun x w' => DP w' w84.heap.size x p88) (fun _ _ => False)), (28, Go.FS.Sp.know (.bool true)), (33, Go.FS.Sp.made (fun x : PV => x.v) (fun x w' => DP w' w84.heap.size x p89) (fun _ _ => False)), (40, Go.FS.Sp.made (fun x : PV => x.v) (fun x w' => DP w' w84.heap.size x p71) (fun _ _ => False)), (46, Go.FS.Sp.know (.string ⟨[51, 47, 50].toArray⟩)), (58, Go.FS.Sp.made (fun x : FV => x.v) (fun x w' => DF w' w84.heap.size x q17) FV.blk), (59, Go.FS.Sp.made (fun x : PV => x.v) (fun x w' => DP w' w84.heap.size x p90) (fun _ _ => False)), (60, Go.FS.Sp.know (.bool true)), (65, Go.FS.Sp.know (.bool true)), (68, Go.FS.Sp.know (.int .i64 (-1))), (73, Go.FS.Sp.know (.int .i64 (-1))), (78, Go.FS.Sp.know (.int .i64 1))])
  (fun w' => Below w84.heap.size w84 w') (by kernel_rfl) ((congrArg (fun o => Region.lexTailB .any o 81) (show _ = paOps by kernel_rfl)).trans paChk) (by kernel_rfl)
  (Go.FS.spOf_cons (Go.FS.Sp.made_keepsB _ (fun _ _ _ h hb => h.below hb) (fun _ _ h => by cases h)) (Go.FS.spOf_cons (Go.FS.Sp.know_keeps _ _) (Go.FS.spOf_cons (Go.FS.Sp.made_keepsB _ (fun _ _ _ h hb => h.below hb) (fun _ _ h => by cases h)) (Go.FS.spOf_cons (Go.FS.Sp.made_keepsB _ (fun _ _ _ h hb => h.below hb) (fun _ _ h => by cases h)) (Go.FS.spOf_cons (Go.FS.Sp.know_keeps _ _) (Go.FS.spOf_cons (Go.FS.Sp.made_keeps _ (fun _ _ _ h _ hk => h.kept hk) (Go.FS.notTaken (by kernel_rfl))) (Go.FS.spOf_cons (Go.FS.Sp.made_keepsB _ (fun _ _ _ h hb => h.below hb) (fun _ _ h => by cases h)) (Go.FS.spOf_cons (Go.FS.Sp.know_keeps _ _) (Go.FS.spOf_cons (Go.FS.Sp.know_keeps _ _) (Go.FS.spOf_cons (Go.FS.Sp.know_keeps _ _) (Go.FS.spOf_cons (Go.FS.Sp.know_keeps _ _) (Go.FS.spOf_cons (Go.FS.Sp.know_keeps _ _) (Go.FS.spOf_nil))))))))))))) (fun _ _ h hb => h.trans (hb.mono h.size)) ((Below.refl _ _).drew) ?_
 simp only [List.append_eq, List.cons_append, List.nil_append, List.take_succ_cons, List.take_zero, List.drop_succ_cons, List.drop_zero]
 iterate 3
  refine Go.FS.wpF_reads rfl rfl rfl ?_ (fun w' hw' => ?_) ?_
  rotate_left
  ·have hb' := hw'.world
   skip
   clear hw'
   go_simp
   try rfl
  conv => arg 10; simp only [Act.put, Go.q0, Go.q1, Go.q2]
 iterate 2
  refine Go.FS.wpF_readsG (by rfl) rfl rfl ?_ (fun w' hw' => ?_) ?_
  rotate_left
  ·have hb' := hw'.world
   skip
   clear hw'
   go_simp
   try rfl
  conv => arg 10; simp only [Act.put, Go.q0, Go.q1, Go.q2]
 iterate 2
  refine Go.FS.wpF_reads rfl rfl rfl ?_ (fun w' hw' => ?_) ?_
  rotate_left
  ·have hb' := hw'.world
   skip
   clear hw'
   go_simp
   try rfl
  conv => arg 10; simp only [Act.put, Go.q0, Go.q1, Go.q2]
 iterate 2
  refine Go.FS.wpF_readsG (by rfl) rfl rfl ?_ (fun w' hw' => ?_) ?_
  rotate_left
  ·have hb' := hw'.world
   skip
   clear hw'
   go_simp
   try rfl
  conv => arg 10; simp only [Act.put, Go.q0, Go.q1, Go.q2]
 iterate 2
  refine Go.FS.wpF_reads rfl rfl rfl ?_ (fun w' hw' => ?_) ?_
  rotate_left
  ·have hb' := hw'.world
   skip
   clear hw'
   go_simp
   try rfl
  conv => arg 10; simp only [Act.put, Go.q0, Go.q1, Go.q2]
 refine Go.FS.wpF_readsG (by rfl) rfl rfl ?_ (fun w' hw' => ?_) ?_
 rotate_left
 ·have hb' := hw'.world
  skip
  clear hw'
  go_simp
  try rfl
 conv => arg 10; simp only [Act.put, Go.q0, Go.q1, Go.q2]
 iterate 2
  refine Go.FS.wpF_reads rfl rfl rfl ?_ (fun w' hw' => ?_) ?_
  rotate_left
  ·have hb' := hw'.world
   skip
   clear hw'
   go_simp
   try rfl
  conv => arg 10; simp only [Act.put, Go.q0, Go.q1, Go.q2]
 iterate 2
  refine Go.FS.wpF_readsG (by rfl) rfl rfl ?_ (fun w' hw' => ?_) ?_
  rotate_left
  ·have hb' := hw'.world
   skip
   clear hw'
   go_simp
   try rfl
  conv => arg 10; simp only [Act.put, Go.q0, Go.q1, Go.q2]
 iterate 2
  refine Go.FS.wpF_reads rfl rfl rfl ?_ (fun w' hw' => ?_) ?_
  rotate_left
  ·have hb' := hw'.world
   skip
   clear hw'
   go_simp
   try rfl
  conv => arg 10; simp only [Act.put, Go.q0, Go.q1, Go.q2]
 refine Go.FS.wpF_readsG (by rfl) rfl rfl ?_ (fun w' hw' => ?_) ?_
 rotate_left
 ·have hb' := hw'.world
  skip
  clear hw'
  go_simp
  try rfl
 conv => arg 10; simp only [Act.put, Go.q0, Go.q1, Go.q2]
 refine Go.FS.wpF_readsG (by rfl) rfl rfl ?_ (fun w' hw' => ?_) ?_
 rotate_left
 ·have hb' := hw'.world
  have hs0 := (BX46.out.below hb' BX46.out.lt).cell (i := 0) rfl
  have hs1 := (BX46.out.below hb' BX46.out.lt).cell (i := 1) rfl
  have hs2 := (BX46.out.below hb' BX46.out.lt).cell (i := 2) rfl
  have hs3 := (BX46.out.below hb' BX46.out.lt).cell (i := 3) rfl
  have hs4 := (BX46.out.below hb' BX46.out.lt).cell (i := 4) rfl
  have hs5 := (BX46.out.below hb' BX46.out.lt).cell (i := 5) rfl
  have hs6 := (BX46.out.below hb' BX46.out.lt).cell (i := 6) rfl
  have hs7 := (BX46.out.below hb' BX46.out.lt).cell (i := 7) rfl
  have hsf := (BX46.out.below hb' BX46.out.lt).fz
  have hsl := (BX46.out.below hb' BX46.out.lt).lt
  clear hw'
  go_simp
  try rfl
 conv => arg 10; simp only [Act.put, Go.q0, Go.q1, Go.q2]
 refine Go.FS.wpF_readsG (by rfl) rfl rfl ?_ (fun w' hw' => ?_) ?_
 rotate_left
 ·have hb' := hw'.world
  skip
  clear hw'
  go_simp
  try rfl
 conv => arg 10; simp only [Act.put, Go.q0, Go.q1, Go.q2]
 refine Go.FS.wpF_readsG (by rfl) rfl rfl ?_ (fun w' hw' => ?_) ?_
 rotate_left
 ·have hb' := hw'.world
  have e0 := HM0.out
  have e1 := HM1.out
  have e2 := HM2.out
  have e3 := HM3.out
  clear hw'
  go_simp
  try rfl
 conv => arg 10; simp only [Act.put, Go.q0, Go.q1, Go.q2]
 iterate 2
  refine Go.FS.wpF_reads rfl rfl rfl ?_ (fun w' hw' => ?_) ?_
  rotate_left
  ·have hb' := hw'.world
   skip
   clear hw'
   go_simp
   try rfl
  conv => arg 10; simp only [Act.put, Go.q0, Go.q1, Go.q2]
 iterate 2
  refine Go.FS.wpF_readsG (by rfl) rfl rfl ?_ (fun w' hw' => ?_) ?_
  rotate_left
  ·have hb' := hw'.world
   skip
   clear hw'
   go_simp
   try rfl
  conv => arg 10; simp only [Act.put, Go.q0, Go.q1, Go.q2]
 refine Go.FS.wpF_gspec (by rfl) rfl rfl (fun w' hw' => ?_) ?_
 ·have hb' := hw'.world
  refine Go.FS.gives_of (Go.FS.PM (fun x : PV => x.v) (fun x w' => DP w' w84.heap.size x p88) (fun _ _ => False) w'.heap.size) ?_ (fun _ _ h => h.post (fun _ _ => PV.inj))
  go_simp
  have CT := padd (N16.out.below hb').k PCp13.out (N16.out.below hb').k PCp13.out 9 (by decide) (by decide) (by decide) (by decide)
  rw [show addP p13 p13 = p88 from Hp88.out.symm] at CT
  refine CT.mono ?_
  rintro e w'' ⟨za, rfl, ho, hb⟩
  exact ⟨_, rfl, ⟨za, rfl, ho.mono hb'.size, fun _ h => False.elim h⟩, hb⟩
 rintro _ ⟨y26, rfl⟩
 conv => arg 10; simp only [Act.put, Go.q0, Go.q1, Go.q2]
 refine Go.FS.wpF_readsG (by rfl) rfl rfl ?_ (fun w' hw' => ?_) ?_
 rotate_left
 ·have hb' := hw'.world
  skip
  clear hw'
  go_simp
  try rfl
 conv => arg 10; simp only [Act.put, Go.q0, Go.q1, Go.q2]
 refine Go.FS.wpF_gspec (by rfl) rfl rfl (fun w' hw' => ?_) ?_
 ·have hb' := hw'.world
  refine Go.FS.gives_of (Go.FS.PK (.bool true)) ?_ (fun _ _ h => h.post)
  go_simp
  have f26 := Go.FS.made_of (val := (fun x : PV => x.v)) (Φ := fun x w' => DP w' w84.heap.size x p88) (fun _ _ => PV.inj) (hw'.fact 26 (by kernel_rfl))
  have CT := plsame f26.k (N24.out.below hb').k (by simp only [Hp88.out, Hp87.out, Hp83.out, Hp71.out, Hq65.out, Hl64.out, Hq58.out, Hq52.out, Hp36.out, Hp32.out, Hp25.out, Hp21.out, Hq17.out, Hp13.out, Hp9.out, Hp5.out, Hq1.out]; decide +kernel) PCp88.out (by decide) (by decide)
  refine CT.mono ?_
  rintro e w'' ⟨rfl, hb⟩
  exact ⟨_, rfl, rfl, hb⟩
 rintro _ rfl
 conv => arg 10; simp only [Act.put, Go.q0, Go.q1, Go.q2]
 iterate 2
  refine Go.FS.wpF_reads rfl rfl rfl ?_ (fun w' hw' => ?_) ?_
  rotate_left
  ·have hb' := hw'.world
   skip
   clear hw'
   go_simp
   try rfl
  conv => arg 10; simp only [Act.put, Go.q0, Go.q1, Go.q2]
 iterate 2
  refine Go.FS.wpF_readsG (by rfl) rfl rfl ?_ (fun w' hw' => ?_) ?_
  rotate_left
  ·have hb' := hw'.world
   skip
   clear hw'
   go_simp
   try rfl
  conv => arg 10; simp only [Act.put, Go.q0, Go.q1, Go.q2]
 refine Go.FS.wpF_gspec (by rfl) rfl rfl (fun w' hw' => ?_) ?_
 ·have hb' := hw'.world
  refine Go.FS.gives_of (Go.FS.PM (fun x : PV => x.v) (fun x w' => DP w' w84.heap.size x p89) (fun _ _ => False) w'.heap.size) ?_ (fun _ _ h => h.post (fun _ _ => PV.inj))
  go_simp
  have CT := psub (N16.out.below hb').k PCp13.out (N16.out.below hb').k PCp13.out 12 (by decide) (by decide) (by decide) (by decide) (by decide) (by decide)
  rw [show subP p13 p13 = p89 from Hp89.out.symm] at CT
  refine CT.mono ?_
  rintro e w'' ⟨za, rfl, ho, hb⟩
  exact ⟨_, rfl, ⟨za, rfl, ho.mono hb'.size, fun _ h => False.elim h⟩, hb⟩
 rintro _ ⟨y33, rfl⟩
 conv => arg 10; simp only [Act.put, Go.q0, Go.q1, Go.q2]
 refine Go.FS.wpF_readsG (by rfl) rfl rfl ?_ (fun w' hw' => ?_) ?_
 rotate_left
 ·have hb' := hw'.world
  have f33 := Go.FS.made_of (val := (fun x : PV => x.v)) (Φ := fun x w' => DP w' w84.heap.size x p89) (fun _ _ => PV.inj) (hw'.fact 33 (by kernel_rfl))
  have hn : ((y33.n : Nat) : Int) = 0 := by rw [show y33.n = 0 from by rw [f33.k.len]; simp only [Hp89.out, Hp88.out, Hp87.out, Hp83.out, Hp71.out, Hq65.out, Hl64.out, Hq58.out, Hq52.out, Hp36.out, Hp32.out, Hp25.out, Hp21.out, Hq17.out, Hp13.out, Hp9.out, Hp5.out, Hq1.out]; decide +kernel]; rfl
  clear hw'
  go_simp
  try rfl
 conv => arg 10; simp only [Act.put, Go.q0, Go.q1, Go.q2]
 refine Go.FS.wpF_readsG (by rfl) rfl rfl ?_ (fun w' hw' => ?_) ?_
 rotate_left
 ·have hb' := hw'.world
  skip
  clear hw'
  go_simp
  try rfl
 conv => arg 10; simp only [Act.put, Go.q0, Go.q1, Go.q2]
 iterate 2
  refine Go.FS.wpF_reads rfl rfl rfl ?_ (fun w' hw' => ?_) ?_
  rotate_left
  ·have hb' := hw'.world
   skip
   clear hw'
   go_simp
   try rfl
  conv => arg 10; simp only [Act.put, Go.q0, Go.q1, Go.q2]
 iterate 2
  refine Go.FS.wpF_readsG (by rfl) rfl rfl ?_ (fun w' hw' => ?_) ?_
  rotate_left
  ·have hb' := hw'.world
   skip
   clear hw'
   go_simp
   try rfl
  conv => arg 10; simp only [Act.put, Go.q0, Go.q1, Go.q2]
 refine Go.FS.wpF_gspec (by rfl) rfl rfl (fun w' hw' => ?_) ?_
 ·have hb' := hw'.world
  refine Go.FS.gives_of (Go.FS.PM (fun x : PV => x.v) (fun x w' => DP w' w84.heap.size x p71) (fun _ _ => False) w'.heap.size) ?_ (fun _ _ h => h.post (fun _ _ => PV.inj))
  go_simp
  have CT := plmul (N16.out.below hb').k PCp13.out (N16.out.below hb').k PCp13.out (by decide) (by decide) (by decide) (by decide) (by decide) (by decide) (by decide)
  rw [show mulP p13 p13 = p71 from Hp71.out.symm] at CT
  refine CT.mono ?_
  rintro e w'' ⟨za, rfl, ho, hb⟩
  exact ⟨_, rfl, ⟨za, rfl, ho.mono hb'.size, fun _ h => False.elim h⟩, hb⟩
 rintro _ ⟨y40, rfl⟩
 conv => arg 10; simp only [Act.put, Go.q0, Go.q1, Go.q2]
 refine Go.FS.wpF_readsG (by rfl) rfl rfl ?_ (fun w' hw' => ?_) ?_
 rotate_left
 ·have hb' := hw'.world
  have f40 := Go.FS.made_of (val := (fun x : PV => x.v)) (Φ := fun x w' => DP w' w84.heap.size x p71) (fun _ _ => PV.inj) (hw'.fact 40 (by kernel_rfl))
  have hn : ((y40.n : Nat) : Int) = 3 := by rw [show y40.n = 3 from by rw [f40.k.len]; simp only [Hp89.out, Hp88.out, Hp87.out, Hp83.out, Hp71.out, Hq65.out, Hl64.out, Hq58.out, Hq52.out, Hp36.out, Hp32.out, Hp25.out, Hp21.out, Hq17.out, Hp13.out, Hp9.out, Hp5.out, Hq1.out]; decide +kernel]; rfl
  clear hw'
  go_simp
  try rfl
 conv => arg 10; simp only [Act.put, Go.q0, Go.q1, Go.q2]
 refine Go.FS.wpF_readsG (by rfl) rfl rfl ?_ (fun w' hw' => ?_) ?_
 rotate_left
 ·have hb' := hw'.world
  skip
  clear hw'
  go_simp
  try rfl
 conv => arg 10; simp only [Act.put, Go.q0, Go.q1, Go.q2]
 iterate 2
  refine Go.FS.wpF_reads rfl rfl rfl ?_ (fun w' hw' => ?_) ?_
  rotate_left
  ·have hb' := hw'.world
   skip
   clear hw'
   go_simp
   try rfl
  conv => arg 10; simp only [Act.put, Go.q0, Go.q1, Go.q2]
 refine Go.FS.wpF_readsG (by rfl) rfl rfl ?_ (fun w' hw' => ?_) ?_
 rotate_left
 ·have hb' := hw'.world
  have hs0 := (BX69.out.below hb' BX69.out.lt).cell (i := 0) rfl
  have hs1 := (BX69.out.below hb' BX69.out.lt).cell (i := 1) rfl
  have hs2 := (BX69.out.below hb' BX69.out.lt).cell (i := 2) rfl
  have hs3 := (BX69.out.below hb' BX69.out.lt).cell (i := 3) rfl
  have hsf := (BX69.out.below hb' BX69.out.lt).fz
  have hsl := (BX69.out.below hb' BX69.out.lt).lt
  clear hw'
  go_simp
  try rfl
 conv => arg 10; simp only [Act.put, Go.q0, Go.q1, Go.q2]
 refine Go.FS.wpF_gspec (by rfl) rfl rfl (fun w' hw' => ?_) ?_
 ·have hb' := hw'.world
  refine Go.FS.gives_of (Go.FS.PK (.string ⟨[51, 47, 50].toArray⟩)) ?_ (fun _ _ h => h.post)
  go_simp
  have CT := qtext_two x67 q65 w' (HT.out.on (KG.out.trans (hb'.mono KG.out.size))) ((N68.out.below hb')).k.any ((((N68.out.below hb')).k).len LQq65.out (by decide : _ ≤ 100)) (LQq65.out.up (by decide : _ ≤ 101)) (by rw [HQT.out]; decide +kernel)
  rw [show textQ q65 = [51, 47, 50] from text_c HQT.out] at CT
  refine CT.mono ?_
  rintro e w'' ⟨rfl, hb⟩
  exact ⟨_, rfl, rfl, hb⟩
 rintro _ rfl
 conv => arg 10; simp only [Act.put, Go.q0, Go.q1, Go.q2]
 refine Go.FS.wpF_readsG (by rfl) rfl rfl ?_ (fun w' hw' => ?_) ?_
 rotate_left
 ·have hb' := hw'.world
  skip
  clear hw'
  go_simp
  try rfl
 conv => arg 10; simp only [Act.put, Go.q0, Go.q1, Go.q2]
 iterate 2
  refine Go.FS.wpF_reads rfl rfl rfl ?_ (fun w' hw' => ?_) ?_
  rotate_left
  ·have hb' := hw'.world
   skip
   clear hw'
   go_simp
   try rfl
  conv => arg 10; simp only [Act.put, Go.q0, Go.q1, Go.q2]
 iterate 3
  refine Go.FS.wpF_readsG (by rfl) rfl rfl ?_ (fun w' hw' => ?_) ?_
  rotate_left
  ·have hb' := hw'.world
   skip
   clear hw'
   go_simp
   try rfl
  conv => arg 10; simp only [Act.put, Go.q0, Go.q1, Go.q2]
 iterate 2
  refine Go.FS.wpF_reads rfl rfl rfl ?_ (fun w' hw' => ?_) ?_
  rotate_left
  ·have hb' := hw'.world
   skip
   clear hw'
   go_simp
   try rfl
  conv => arg 10; simp only [Act.put, Go.q0, Go.q1, Go.q2]
 iterate 2
  refine Go.FS.wpF_readsG (by rfl) rfl rfl ?_ (fun w' hw' => ?_) ?_
  rotate_left
  ·have hb' := hw'.world
   skip
   clear hw'
   go_simp
   try rfl
  conv => arg 10; simp only [Act.put, Go.q0, Go.q1, Go.q2]
 refine Go.FS.wpF_readsG (by rfl) rfl rfl ?_ (fun w' hw' => ?_) ?_
 rotate_left
 ·have hb' := hw'.world
  have hc := HCC.out w' hb'
  clear hw'
  go_simp
  try rfl
 conv => arg 10; simp only [Act.put, Go.q0, Go.q1, Go.q2]
 refine Go.FS.wpF_gspec (by rfl) rfl rfl (fun w' hw' => ?_) ?_
 ·have hb' := hw'.world
  refine Go.FS.gives_of (Go.FS.PM (fun x : FV => x.v) (fun x w' => DF w' w84.heap.size x q17) FV.blk w'.heap.size) ?_ (fun _ _ h => h.post (fun _ _ => FV.inj))
  go_simp
  have CT := qof 2 w' (by decide) (by decide)
  rw [show ((2 : Int) : Rat) = q17 from Hq17.out.symm] at CT
  refine CT.mono ?_
  rintro e w'' ⟨za, rfl, ho, hb⟩
  exact ⟨_, rfl, ⟨za, rfl, ho.mono hb'.size, ho.blks⟩, hb⟩
 rintro _ ⟨y58, rfl⟩
 conv => arg 10; simp only [Act.put, Go.q0, Go.q1, Go.q2]
 refine Go.FS.wpF_gspec (by rfl) rfl rfl (fun w' hw' => ?_) ?_
 ·have hb' := hw'.world
  refine Go.FS.gives_of (Go.FS.PM (fun x : PV => x.v) (fun x w' => DP w' w84.heap.size x p90) (fun _ _ => False) w'.heap.size) ?_ (fun _ _ h => h.post (fun _ _ => PV.inj))
  go_simp
  have f58 := Go.FS.made_of (val := (fun x : FV => x.v)) (Φ := fun x w' => DF w' w84.heap.size x q17) (fun _ _ => FV.inj) (hw'.fact 58 (by kernel_rfl))
  have CT := pof (f58).k.any (((f58).k).len LQq17.out (by decide : _ ≤ 900000)) LQq17.out (by decide)
  rw [show nf [(Mo.one, q17)] = p90 from Hp90.out.symm] at CT
  refine CT.mono ?_
  rintro e w'' ⟨za, rfl, ho, hb⟩
  exact ⟨_, rfl, ⟨za, rfl, ho.mono hb'.size, fun _ h => False.elim h⟩, hb⟩
 rintro _ ⟨y59, rfl⟩
 conv => arg 10; simp only [Act.put, Go.q0, Go.q1, Go.q2]
 refine Go.FS.wpF_gspec (by rfl) rfl rfl (fun w' hw' => ?_) ?_
 ·have hb' := hw'.world
  refine Go.FS.gives_of (Go.FS.PK (.bool true)) ?_ (fun _ _ h => h.post)
  go_simp
  have f59 := Go.FS.made_of (val := (fun x : PV => x.v)) (Φ := fun x w' => DP w' w84.heap.size x p90) (fun _ _ => PV.inj) (hw'.fact 59 (by kernel_rfl))
  have CT := plsame (NZ1.out.below hb') f59.k (by simp only [Hp90.out, Hp89.out, Hp88.out, Hp87.out, Hp83.out, Hp71.out, Hq65.out, Hl64.out, Hq58.out, Hq52.out, Hp36.out, Hp32.out, Hp25.out, Hp21.out, Hq17.out, Hp13.out, Hp9.out, Hp5.out, Hq1.out]; decide +kernel) PCp87.out (by decide) (by decide)
  refine CT.mono ?_
  rintro e w'' ⟨rfl, hb⟩
  exact ⟨_, rfl, rfl, hb⟩
 rintro _ rfl
 conv => arg 10; simp only [Act.put, Go.q0, Go.q1, Go.q2]
 iterate 2
  refine Go.FS.wpF_reads rfl rfl rfl ?_ (fun w' hw' => ?_) ?_
  rotate_left
  ·have hb' := hw'.world
   skip
   clear hw'
   go_simp
   try rfl
  conv => arg 10; simp only [Act.put, Go.q0, Go.q1, Go.q2]
 iterate 2
  refine Go.FS.wpF_readsG (by rfl) rfl rfl ?_ (fun w' hw' => ?_) ?_
  rotate_left
  ·have hb' := hw'.world
   skip
   clear hw'
   go_simp
   try rfl
  conv => arg 10; simp only [Act.put, Go.q0, Go.q1, Go.q2]
 refine Go.FS.wpF_gspec (by rfl) rfl rfl (fun w' hw' => ?_) ?_
 ·have hb' := hw'.world
  refine Go.FS.gives_of (Go.FS.PK (.bool true)) ?_ (fun _ _ h => h.post)
  go_simp
  have CT := plsame (N86.out.below hb').k (N24.out.below hb').k (by simp only [Hp90.out, Hp89.out, Hp88.out, Hp87.out, Hp83.out, Hp71.out, Hq65.out, Hl64.out, Hq58.out, Hq52.out, Hp36.out, Hp32.out, Hp25.out, Hp21.out, Hq17.out, Hp13.out, Hp9.out, Hp5.out, Hq1.out]; decide +kernel) PCp83.out (by decide) (by decide)
  refine CT.mono ?_
  rintro e w'' ⟨rfl, hb⟩
  exact ⟨_, rfl, rfl, hb⟩
 rintro _ rfl
 conv => arg 10; simp only [Act.put, Go.q0, Go.q1, Go.q2]
 iterate 2
  refine Go.FS.wpF_reads rfl rfl rfl ?_ (fun w' hw' => ?_) ?_
  rotate_left
  ·have hb' := hw'.world
   skip
   clear hw'
   go_simp
   try rfl
  conv => arg 10; simp only [Act.put, Go.q0, Go.q1, Go.q2]
 refine Go.FS.wpF_gspec (by rfl) rfl rfl (fun w' hw' => ?_) ?_
 ·have hb' := hw'.world
  refine Go.FS.gives_of (Go.FS.PK (.int .i64 (-1))) ?_ (fun _ _ h => h.post)
  go_simp
  have CT := degree_nil w'
  refine CT.mono ?_
  rintro e w'' ⟨rfl, hb⟩
  exact ⟨_, rfl, rfl, hb⟩
 rintro _ rfl
 conv => arg 10; simp only [Act.put, Go.q0, Go.q1, Go.q2]
 refine Go.FS.wpF_readsG (by rfl) rfl rfl ?_ (fun w' hw' => ?_) ?_
 rotate_left
 ·have hb' := hw'.world
  skip
  clear hw'
  go_simp
  try rfl
 conv => arg 10; simp only [Act.put, Go.q0, Go.q1, Go.q2]
 iterate 2
  refine Go.FS.wpF_reads rfl rfl rfl ?_ (fun w' hw' => ?_) ?_
  rotate_left
  ·have hb' := hw'.world
   skip
   clear hw'
   go_simp
   try rfl
  conv => arg 10; simp only [Act.put, Go.q0, Go.q1, Go.q2]
 refine Go.FS.wpF_readsG (by rfl) rfl rfl ?_ (fun w' hw' => ?_) ?_
 rotate_left
 ·have hb' := hw'.world
  skip
  clear hw'
  go_simp
  try rfl
 conv => arg 10; simp only [Act.put, Go.q0, Go.q1, Go.q2]
 refine Go.FS.wpF_gspec (by rfl) rfl rfl (fun w' hw' => ?_) ?_
 ·have hb' := hw'.world
  refine Go.FS.gives_of (Go.FS.PK (.int .i64 (-1))) ?_ (fun _ _ h => h.post)
  go_simp
  have CT := degree_out z15 (4) (by decide) w'
  refine CT.mono ?_
  rintro e w'' ⟨rfl, hb⟩
  exact ⟨_, rfl, rfl, hb⟩
 rintro _ rfl
 conv => arg 10; simp only [Act.put, Go.q0, Go.q1, Go.q2]
 refine Go.FS.wpF_readsG (by rfl) rfl rfl ?_ (fun w' hw' => ?_) ?_
 rotate_left
 ·have hb' := hw'.world
  skip
  clear hw'
  go_simp
  try rfl
 conv => arg 10; simp only [Act.put, Go.q0, Go.q1, Go.q2]
 iterate 2
  refine Go.FS.wpF_reads rfl rfl rfl ?_ (fun w' hw' => ?_) ?_
  rotate_left
  ·have hb' := hw'.world
   skip
   clear hw'
   go_simp
   try rfl
  conv => arg 10; simp only [Act.put, Go.q0, Go.q1, Go.q2]
 refine Go.FS.wpF_readsG (by rfl) rfl rfl ?_ (fun w' hw' => ?_) ?_
 rotate_left
 ·have hb' := hw'.world
  skip
  clear hw'
  go_simp
  try rfl
 conv => arg 10; simp only [Act.put, Go.q0, Go.q1, Go.q2]
 refine Go.FS.wpF_gspec (by rfl) rfl rfl (fun w' hw' => ?_) ?_
 ·have hb' := hw'.world
  refine Go.FS.gives_of (Go.FS.PK (.int .i64 1)) ?_ (fun _ _ h => h.post)
  go_simp
  have CT := show Calls Tryz.prog 18 #[z15.v, .int .i64 0] w' _ from pdegree 0 (by decide) (N16.out.below hb').k PCp13.out (by decide) (by decide)
  rw [show degP p13 0 = 1 from by simp only [Hp90.out, Hp89.out, Hp88.out, Hp87.out, Hp83.out, Hp71.out, Hq65.out, Hl64.out, Hq58.out, Hq52.out, Hp36.out, Hp32.out, Hp25.out, Hp21.out, Hq17.out, Hp13.out, Hp9.out, Hp5.out, Hq1.out]; decide +kernel] at CT
  refine CT.mono ?_
  rintro e w'' ⟨rfl, hb⟩
  exact ⟨_, rfl, rfl, hb⟩
 rintro _ rfl
 conv => arg 10; simp only [Act.put, Go.q0, Go.q1, Go.q2]
 refine Go.FS.wpF_readsG (by rfl) rfl rfl ?_ (fun w' hw' => ?_) ?_
 rotate_left
 ·have hb' := hw'.world
  skip
  clear hw'
  go_simp
  try rfl
 conv => arg 10; simp only [Act.put, Go.q0, Go.q1, Go.q2]
 refine Go.FS.wpF_reads rfl rfl rfl ?_ (fun w' hw' => ?_) ?_
 rotate_left
 ·have hb' := hw'.world
  skip
  clear hw'
  go_simp
  try rfl
 conv => arg 10; simp only [Act.put, Go.q0, Go.q1, Go.q2]
 refine Go.FS.wpF_nil (fun w91 hb hF => ?_)
 clear hF
 clear N16
 clear N24
 clear N68
 clear N79
 clear N86
 clear NZ1
 clear BX46
 clear BX69
 have KG := Lib.hid (KG.out.trans (hb.mono KG.out.size))
 clear hb
 go_wp2_with fail
 go_ret
 exact ⟨rfl, KG.out⟩
theorem len_zero (P : List Tm) : ((((P.length : Nat) : Int)) == 0) = decide (P = []) := by
 cases P with
 | nil => rfl
 | cons t r =>
  rw [decide_eq_false (by simp)]
  exact beq_eq_false_iff_ne.2 (by rw [List.length_cons]; omega)
theorem mul_zero {P Q : List Tm} {n k e n' k' e' : Nat} (hP : PC P n k e) (hQ : PC Q n' k' e') : decide (mulP P Q = []) = (decide (P = []) || decide (Q = [])) := by
 have h := mulP_nil hP.c hQ.c hP.b hQ.b
 by_cases a : P = [] <;> by_cases b : Q = [] <;> simp [a, b] at h ⊢ <;> simpa using h
theorem sub_self (P : List Tm) : subP P P = [] := canon_same (subP_canon _ _) Canon.nil fun f => by rw [ev_subP, ev_nil]; grind
theorem sub_zero {P Q : List Tm} (hP : Canon P) (hQ : Canon Q) : decide (subP P Q = []) = decide (P = Q) := by
 by_cases h : P = Q
 ·subst h
  rw [sub_self, decide_eq_true rfl, decide_eq_true rfl]
 ·rw [decide_eq_false h]
  refine decide_eq_false fun h0 => h (canon_same hP hQ fun f => ?_)
  have h1 := ev_subP P Q f
  rw [h0, ev_nil] at h1
  grind
theorem sub_add {P : List Tm} (hP : Canon P) (Q : List Tm) : subP (addP P Q) Q = P := canon_same (subP_canon _ _) hP fun f => by rw [ev_subP, ev_addP]; grind
theorem scale_of (c : Rat) (P : List Tm) : scaleP c P = mulP P (nf [(Mo.one, c)]) := canon_same (scaleP_canon _ _) (mulP_canon _ _) fun f => by
 rw [ev_scaleP, ev_mulP, show (fun a => ev (nf [(Mo.one, c)]) (fun b => f (a.mul b))) = fun a => c * f a from by
  funext a
  rw [nf_ev]
  show c * f (a.mul Mo.one) + 0 = _
  rw [Mo.mul_one, Rat.add_zero]]
 induction P with
 | nil => rw [ev_nil, ev_nil]; grind
 | cons t r ih => rw [ev_cons, ev_cons, ← ih]; grind
theorem sub_def (P Q : List Tm) : subP P Q = addP P (scaleP ((-1 : Int) : Rat) Q) := by rw [show ((-1 : Int) : Rat) = -1 by decide +kernel]; rfl
set_option maxRecDepth 100000 in
set_option maxHeartbeats 16000000 in
theorem polysUndone_law (x1 : PV) (L1 : List TO) (x2 : PV) (L2 : List TO) (x3 : FV) (w : World) (htab : Tab w) (h1 : RawQ w x1 L1) (h2 : RawQ w x2 L2) (hc : AQ w x3) :
  Calls Tryz.prog 8 #[.slice x1.a x1.n x1.c, .slice x2.a x2.n x2.c, .agg #[.bool x3.t.s, .slice x3.t.a x3.t.n x3.t.c, .bool x3.l.s, .slice x3.l.a x3.l.n x3.l.c]] w fun e w' => e = .returned (.bool true) ∧ Below w.heap.size w w' := by
 have HT := Lib.hid htab
 have KG := Lib.hid (Below.refl w.heap.size w)
 have N1 := Lib.hid h1
 have N2 := Lib.hid h2
 obtain ⟨qc, hqc⟩ := hc.af
 have NC := Lib.hid hqc
 have HT3 := Lib.hid hc.t
 have HL3 := Lib.hid hc.l
 clear hqc hc
 clear htab h1 h2
 go_enter Tryz.func8, Tryz.ntmps8
 go_upto_region 1 with (fail)
 obtain ⟨v2, hV⟩ : ∃ V, V = w.alloc (.cells #[.bool x3.t.s, .slice x3.t.a x3.t.n x3.t.c, .bool x3.l.s, .slice x3.l.a x3.l.n x3.l.c] 35) := ⟨_, rfl⟩
 have hbV : Below w.heap.size w v2 := by rw [hV]; exact ((Below.refl _ _).alloc (Nat.le_refl _) _)
 have BX1 := Lib.hid (show Bxs v2 (w.heap.size) 35 [.bool x3.t.s, .slice x3.t.a x3.t.n x3.t.c, .bool x3.l.s, .slice x3.l.a x3.l.n x3.l.c] by have h := Bxs.new (w) 35 [.bool x3.t.s, .slice x3.t.a x3.t.n x3.t.c, .bool x3.l.s, .slice x3.l.a x3.l.n x3.l.c]; rw [hV]; exact h)
 rw [show w.alloc (.cells #[.bool x3.t.s, .slice x3.t.a x3.t.n x3.t.c, .bool x3.l.s, .slice x3.l.a x3.l.n x3.l.c] 35) = v2 from hV.symm]
 have KG := Lib.hid (KG.out.trans (hbV.mono KG.out.size))
 clear hV hbV
 go_wp2_with fail
 have CT := Lib.hid (palive v2 (HT.out.on KG.out))
 with_reducible refine CT.out.mono ?_
 rintro e w3 ⟨rfl, hb⟩
 clear CT
 have BX1 := Lib.hid (BX1.out.below hb BX1.out.lt)
 have KG := Lib.hid (KG.out.trans (hb.mono KG.out.size))
 clear hb
 go_wp2_with fail
 obtain ⟨v5, hV⟩ : ∃ V, V = w3.alloc (.cells #[.slice x1.a x1.n x1.c, .slice x2.a x2.n x2.c] 23) := ⟨_, rfl⟩
 have hbV : Below w3.heap.size w3 v5 := by rw [hV]; exact ((Below.refl _ _).alloc (Nat.le_refl _) _)
 have BX4 := Lib.hid (show Bxs v5 (w3.heap.size) 23 [.slice x1.a x1.n x1.c, .slice x2.a x2.n x2.c] by have h := Bxs.new (w3) 23 [.slice x1.a x1.n x1.c, .slice x2.a x2.n x2.c]; rw [hV]; exact h)
 rw [show w3.alloc (.cells #[.slice x1.a x1.n x1.c, .slice x2.a x2.n x2.c] 23) = v5 from hV.symm]
 have BX1 := Lib.hid (BX1.out.below hbV BX1.out.lt)
 have KG := Lib.hid (KG.out.trans (hbV.mono KG.out.size))
 clear hV hbV
 have CT := Lib.hid (show Calls Tryz.prog 10 #[.int .i64 15, .slice (some ⟨w3.heap.size, 0, none⟩) 2 2] v5 _ from great2P (m := 15) BX4.out (N1.out.below KG.out) (N2.out.below KG.out) (by decide))
 with_reducible refine CT.out.mono ?_
 rintro e w6 ⟨b7, rfl, hn, hb⟩
 clear CT
 have BX1 := Lib.hid (BX1.out.below hb BX1.out.lt)
 clear BX4
 have KG := Lib.hid (KG.out.trans (hb.mono KG.out.size))
 clear hb
 rcases Bool.eq_false_or_eq_true b7 with rfl | rfl
 ·clear hn
  go_wp2_with fail
  have CT := Lib.hid (palive w6 (HT.out.on KG.out))
  with_reducible refine CT.out.mono ?_
  rintro e w8 ⟨rfl, hb⟩
  clear CT
  have BX1 := Lib.hid (BX1.out.below hb BX1.out.lt)
  have KG := Lib.hid (KG.out.trans (hb.mono KG.out.size))
  clear hb
  go_wp2_with fail
  go_ret
  exact ⟨rfl, KG.out⟩
 obtain ⟨g0, g1⟩ := hn rfl
 have Gx1 := Lib.hid g0
 have Gx2 := Lib.hid g1
 clear hn g0 g1
 go_wp2_with fail
 have CT := Lib.hid (pwide (N1.out.below KG.out) Gx1.out (by decide))
 with_reducible refine CT.out.mono ?_
 rintro e w9 ⟨b10, rfl, hn, hb⟩
 clear CT
 have BX1 := Lib.hid (BX1.out.below hb BX1.out.lt)
 have KG := Lib.hid (KG.out.trans (hb.mono KG.out.size))
 clear hb
 rcases Bool.eq_false_or_eq_true b10 with rfl | rfl
 ·clear hn
  go_wp2_with fail
  have CT := Lib.hid (palive w9 (HT.out.on KG.out))
  with_reducible refine CT.out.mono ?_
  rintro e w11 ⟨rfl, hb⟩
  clear CT
  have BX1 := Lib.hid (BX1.out.below hb BX1.out.lt)
  have KG := Lib.hid (KG.out.trans (hb.mono KG.out.size))
  clear hb
  go_wp2_with fail
  go_ret
  exact ⟨rfl, KG.out⟩
 have Wx1 := Lib.hid (hn rfl)
 clear hn
 go_wp2_with fail
 have CT := Lib.hid (pwide (N2.out.below KG.out) Gx2.out (by decide))
 with_reducible refine CT.out.mono ?_
 rintro e w12 ⟨b13, rfl, hn, hb⟩
 clear CT
 have BX1 := Lib.hid (BX1.out.below hb BX1.out.lt)
 have KG := Lib.hid (KG.out.trans (hb.mono KG.out.size))
 clear hb
 rcases Bool.eq_false_or_eq_true b13 with rfl | rfl
 ·clear hn
  go_wp2_with fail
  have CT := Lib.hid (palive w12 (HT.out.on KG.out))
  with_reducible refine CT.out.mono ?_
  rintro e w14 ⟨rfl, hb⟩
  clear CT
  have BX1 := Lib.hid (BX1.out.below hb BX1.out.lt)
  have KG := Lib.hid (KG.out.trans (hb.mono KG.out.size))
  clear hb
  go_wp2_with fail
  go_ret
  exact ⟨rfl, KG.out⟩
 have Wx2 := Lib.hid (hn rfl)
 clear hn
 have cBX10 := BX1.out.cell (i := 0) rfl
 have cBX11 := BX1.out.cell (i := 1) rfl
 have cBX12 := BX1.out.cell (i := 2) rfl
 have cBX13 := BX1.out.cell (i := 3) rfl
 have cBX1f := BX1.out.fz
 have cBX1l := BX1.out.lt
 go_wp2_with fail
 have CT := Lib.hid (frac_sizeX x3 w12 HT3.out HL3.out)
 with_reducible refine CT.out.mono ?_
 rintro e w15 ⟨z16, rfl, hz, hb⟩
 clear CT
 clear cBX10 cBX11 cBX12 cBX13 cBX1f cBX1l
 have BX1 := Lib.hid (BX1.out.below hb BX1.out.lt)
 have KG := Lib.hid (KG.out.trans (hb.mono KG.out.size))
 clear hb
 by_cases h20 : z16 > 20
 ·have h20b : 20 < z16 := h20
  clear hz
  go_wp2_with fail
  have CT := Lib.hid (palive w15 (HT.out.on KG.out))
  with_reducible refine CT.out.mono ?_
  rintro e w17 ⟨rfl, hb⟩
  clear CT
  have BX1 := Lib.hid (BX1.out.below hb BX1.out.lt)
  have KG := Lib.hid (KG.out.trans (hb.mono KG.out.size))
  clear hb
  go_wp2_with fail
  go_ret
  exact ⟨rfl, KG.out⟩
 have h20b : ¬ (20 < z16) := h20
 have Bx3 := Lib.hid (show LF x3 20 from by obtain ⟨g1, g2⟩ := hz.is (by omega); have := hz.lo; exact ⟨by omega, by omega⟩)
 have LQqc := Lib.hid (show LQ qc 21 from (NC.out.len Bx3.out))
 clear hz
 rcases (raw_cases N1.out Gx1.out Wx1.out).symm with hbad | ⟨P1, hk, hc⟩
 ·have Bx1 := Lib.hid hbad
  clear hbad
  go_wp2_with fail
  have CT := Lib.hid (check_b (Bx1.out.below KG.out) (Nat.le_trans (BP.n_le N1.out Gx1.out) (by decide)))
  with_reducible refine CT.out.mono ?_
  rintro e w18 ⟨rfl, hb⟩
  clear CT
  have BX1 := Lib.hid (BX1.out.below hb BX1.out.lt)
  have KG := Lib.hid (KG.out.trans (hb.mono KG.out.size))
  clear hb
  go_wp2_with fail
  have CT := Lib.hid (palive w18 (HT.out.on KG.out))
  with_reducible refine CT.out.mono ?_
  rintro e w19 ⟨rfl, hb⟩
  clear CT
  have BX1 := Lib.hid (BX1.out.below hb BX1.out.lt)
  have KG := Lib.hid (KG.out.trans (hb.mono KG.out.size))
  clear hb
  go_wp2_with fail
  go_ret
  exact ⟨rfl, KG.out⟩
 have Kx1 := Lib.hid hk
 have PCP1 := Lib.hid hc
 clear hk hc
 go_wp2_with fail
 have CT := Lib.hid (pcheck (Kx1.out.below KG.out) PCP1.out (by decide) (by decide))
 with_reducible refine CT.out.mono ?_
 rintro e w20 ⟨rfl, hb⟩
 clear CT
 have BX1 := Lib.hid (BX1.out.below hb BX1.out.lt)
 have KG := Lib.hid (KG.out.trans (hb.mono KG.out.size))
 clear hb
 rcases (raw_cases N2.out Gx2.out Wx2.out).symm with hbad | ⟨P2, hk, hc⟩
 ·have Bx2 := Lib.hid hbad
  clear hbad
  go_wp2_with fail
  have CT := Lib.hid (check_b (Bx2.out.below KG.out) (Nat.le_trans (BP.n_le N2.out Gx2.out) (by decide)))
  with_reducible refine CT.out.mono ?_
  rintro e w21 ⟨rfl, hb⟩
  clear CT
  have BX1 := Lib.hid (BX1.out.below hb BX1.out.lt)
  have KG := Lib.hid (KG.out.trans (hb.mono KG.out.size))
  clear hb
  go_wp2_with fail
  have CT := Lib.hid (palive w21 (HT.out.on KG.out))
  with_reducible refine CT.out.mono ?_
  rintro e w22 ⟨rfl, hb⟩
  clear CT
  clear BX1
  have KG := Lib.hid (KG.out.trans (hb.mono KG.out.size))
  clear hb
  go_wp2_with fail
  go_ret
  exact ⟨rfl, KG.out⟩
 have Kx2 := Lib.hid hk
 have PCP2 := Lib.hid hc
 clear hk hc
 go_wp2_with fail
 have CT := Lib.hid (pcheck (Kx2.out.below KG.out) PCP2.out (by decide) (by decide))
 with_reducible refine CT.out.mono ?_
 rintro e w23 ⟨rfl, hb⟩
 clear CT
 have BX1 := Lib.hid (BX1.out.below hb BX1.out.lt)
 have KG := Lib.hid (KG.out.trans (hb.mono KG.out.size))
 clear hb
 obtain ⟨b1, hb1⟩ : ∃ b, b = decide (P1 = []) := ⟨_, rfl⟩
 obtain ⟨b2, hb2⟩ : ∃ b, b = decide (P2 = []) := ⟨_, rfl⟩
 obtain ⟨bs, hbs⟩ : ∃ b, b = decide (P1 = P2) := ⟨_, rfl⟩
 have HB1 := Lib.hid (show ((((x1.n : Nat) : Int)) == 0) = b1 by rw [hb1, Kx1.out.len]; exact len_zero P1)
 have HB2 := Lib.hid (show ((((x2.n : Nat) : Int)) == 0) = b2 by rw [hb2, Kx2.out.len]; exact len_zero P2)
 have HBM := Lib.hid (show ∀ R, R = mulP P1 P2 → decide (R = []) = (b1 || b2) from fun R hR => by rw [hR, hb1, hb2]; exact mul_zero PCP1.out PCP2.out)
 have HBU := Lib.hid (show ∀ R, R = subP P1 P2 → decide (R = []) = bs from fun R hR => by rw [hR, hbs]; exact sub_zero PCP1.out.c PCP2.out.c)
 have HBS := Lib.hid hbs
 clear hb1 hb2 hbs
 obtain ⟨bm, hbm⟩ : ∃ b, b = (b1 || b2) := ⟨_, rfl⟩
 have HBMM := Lib.hid (show ∀ R, R = mulP P1 P2 → decide (R = []) = bm from fun R hR => by rw [hbm]; exact HBM.out R hR)
 have HBE0 := Lib.hid hbm
 clear hbm HBM
 obtain ⟨p24, hp24⟩ : ∃ z : List Tm, z = addP P1 P2 := ⟨_, rfl⟩
 have Hp24 := Lib.hid hp24
 have PCp24 := Lib.hid (show PC p24 30 9 300 by rw [hp24]; exact PCP1.out.add PCP2.out 4 300 (by decide) (by decide) (by decide) (by decide))
 clear hp24
 obtain ⟨p25, hp25⟩ : ∃ z : List Tm, z = subP p24 P2 := ⟨_, rfl⟩
 have Hp25 := Lib.hid hp25
 have PCp25 := Lib.hid (show PC p25 45 19 300 by rw [hp25]; exact PCp24.out.sub PCP2.out 9 300 (by decide) (by decide) (by decide) (by decide))
 clear hp25
 obtain ⟨p26, hp26⟩ : ∃ z : List Tm, z = subP P1 P1 := ⟨_, rfl⟩
 have Hp26 := Lib.hid hp26
 have PCp26 := Lib.hid (show PC p26 30 15 300 by rw [hp26]; exact PCP1.out.sub PCP1.out 7 300 (by decide) (by decide) (by decide) (by decide))
 clear hp26
 obtain ⟨p27, hp27⟩ : ∃ z : List Tm, z = scaleP qc P1 := ⟨_, rfl⟩
 have Hp27 := Lib.hid hp27
 have PCp27 := Lib.hid (show PC p27 15 25 300 by rw [hp27]; exact PCP1.out.scale LQqc.out)
 clear hp27
 obtain ⟨p28, hp28⟩ : ∃ z : List Tm, z = nf [(Mo.one, qc)] := ⟨_, rfl⟩
 have Hp28 := Lib.hid hp28
 have PCp28 := Lib.hid (show PC p28 1 22 0 by rw [hp28]; exact PC.of LQqc.out)
 clear hp28
 obtain ⟨p29, hp29⟩ : ∃ z : List Tm, z = mulP P1 p28 := ⟨_, rfl⟩
 have Hp29 := Lib.hid hp29
 have PCp29 := Lib.hid (show PC p29 15 405 300 by rw [hp29]; exact PCP1.out.mul PCp28.out)
 clear hp29
 obtain ⟨p30, hp30⟩ : ∃ z : List Tm, z = subP P1 P2 := ⟨_, rfl⟩
 have Hp30 := Lib.hid hp30
 have PCp30 := Lib.hid (show PC p30 30 15 300 by rw [hp30]; exact PCP1.out.sub PCP2.out 7 300 (by decide) (by decide) (by decide) (by decide))
 clear hp30
 obtain ⟨q31, hq31⟩ : ∃ z : Rat, z = ((-1 : Int) : Rat) := ⟨_, rfl⟩
 have Hq31 := Lib.hid hq31
 have LQq31 := Lib.hid (show LQ q31 3 by rw [hq31]; exact LQ.int (by decide) (by decide))
 clear hq31
 obtain ⟨p32, hp32⟩ : ∃ z : List Tm, z = scaleP q31 P2 := ⟨_, rfl⟩
 have Hp32 := Lib.hid hp32
 have PCp32 := Lib.hid (show PC p32 15 7 300 by rw [hp32]; exact PCP2.out.scale LQq31.out)
 clear hp32
 obtain ⟨p33, hp33⟩ : ∃ z : List Tm, z = addP P1 p32 := ⟨_, rfl⟩
 have Hp33 := Lib.hid hp33
 have PCp33 := Lib.hid (show PC p33 30 15 300 by rw [hp33]; exact PCP1.out.add PCp32.out 7 300 (by decide) (by decide) (by decide) (by decide))
 clear hp33
 obtain ⟨p34, hp34⟩ : ∃ z : List Tm, z = mulP P1 P2 := ⟨_, rfl⟩
 have Hp34 := Lib.hid hp34
 have PCp34 := Lib.hid (show PC p34 225 135 600 by rw [hp34]; exact PCP1.out.mul PCP2.out)
 clear hp34
 go_upto_region 3 with (fail)
 refine Go.FS.wp_region_fresh 71 [] (Go.FS.spOf [(2, Go.FS.Sp.made (fun x : PV => x.v) (fun x w' => DP w' w23.heap.size x p24) (fun _ _ => False)), (4, Go.FS.Sp.made (fun x : PV => x.v) (fun x w' => DP w' w23.heap.size x p25) (fun _ _ => False)), (6, Go.FS.Sp.know (.bool true)), (10, Go.FS.Sp.made (fun x : PV => x.v) (fun x w' => DP w' w23.heap.size x p26) (fun _ _ => False)), (17, Go.FS.Sp.made (fun x : PV => x.v) (fun x w' => DP w' w23.heap.size x p27) (fun _ _ => False)), (20, Go.FS.Sp.made (fun x : PV => x.v) (fun x w' => DP w' w23.heap.size x p28) (fun _ _ => False)), (21, Go.FS.Sp.made (fun x : PV => x.v) (fun x w' => DP w' w23.heap.size x p29) (fun _ _ => False)), (22, Go.FS.Sp.know (.bool true)), (27, Go.FS.Sp.made (fun x : PV => x.v) (fun x w' => DP w' w23.heap.size x p30) (fun _ _ => False)), (30, Go.FS.Sp.made (fun x : FV => x.v) (fun x w' => DF w' w23.heap.size x q31) FV.blk), (31, Go.FS.Sp.made (fun x : PV => x.v) (fun x w' => DP w' w23.heap.size x p32) (fun _ _ => False)), (32, Go.FS.Sp.made (fun x : PV => x.v) (fun x w' => DP w' w23.heap.size x p33) (fun _ _ => False)), (33, Go.FS.Sp.know (.bool true)), (38, Go.FS.Sp.made (fun x : PV => x.v) (fun x w' => DP w' w23.heap.size x p34) (fun _ _ => False)), (54, Go.FS.Sp.know (.bool bs)), (57, Go.FS.Sp.made (fun x : PV => x.v) (fun x w' => DP w' w23.heap.size x p30) (fun _ _ => False)), (65, Go.FS.Sp.know (.bool bs)), (68, Go.FS.Sp.know (.bool bs))])
  (fun w' => Below w23.heap.size w23 w') (by kernel_rfl) ((congrArg (fun o => Region.lexTailB .any o 71) (show _ = puOps by kernel_rfl)).trans puChk) (by kernel_rfl)
  (Go.FS.spOf_cons (Go.FS.Sp.made_keepsB _ (fun _ _ _ h hb => h.below hb) (fun _ _ h => by cases h)) (Go.FS.spOf_cons (Go.FS.Sp.made_keepsB _ (fun _ _ _ h hb => h.below hb) (fun _ _ h => by cases h)) (Go.FS.spOf_cons (Go.FS.Sp.know_keeps _ _) (Go.FS.spOf_cons (Go.FS.Sp.made_keepsB _ (fun _ _ _ h hb => h.below hb) (fun _ _ h => by cases h)) (Go.FS.spOf_cons (Go.FS.Sp.made_keepsB _ (fun _ _ _ h hb => h.below hb) (fun _ _ h => by cases h)) (Go.FS.spOf_cons (Go.FS.Sp.made_keepsB _ (fun _ _ _ h hb => h.below hb) (fun _ _ h => by cases h)) (Go.FS.spOf_cons (Go.FS.Sp.made_keepsB _ (fun _ _ _ h hb => h.below hb) (fun _ _ h => by cases h)) (Go.FS.spOf_cons (Go.FS.Sp.know_keeps _ _) (Go.FS.spOf_cons (Go.FS.Sp.made_keepsB _ (fun _ _ _ h hb => h.below hb) (fun _ _ h => by cases h)) (Go.FS.spOf_cons (Go.FS.Sp.made_keeps _ (fun _ _ _ h _ hk => h.kept hk) (Go.FS.notTaken (by kernel_rfl))) (Go.FS.spOf_cons (Go.FS.Sp.made_keepsB _ (fun _ _ _ h hb => h.below hb) (fun _ _ h => by cases h)) (Go.FS.spOf_cons (Go.FS.Sp.made_keepsB _ (fun _ _ _ h hb => h.below hb) (fun _ _ h => by cases h)) (Go.FS.spOf_cons (Go.FS.Sp.know_keeps _ _) (Go.FS.spOf_cons (Go.FS.Sp.made_keepsB _ (fun _ _ _ h hb => h.below hb) (fun _ _ h => by cases h)) (Go.FS.spOf_cons (Go.FS.Sp.know_keeps _ _) (Go.FS.spOf_cons (Go.FS.Sp.made_keepsB _ (fun _ _ _ h hb => h.below hb) (fun _ _ h => by cases h)) (Go.FS.spOf_cons (Go.FS.Sp.know_keeps _ _) (Go.FS.spOf_cons (Go.FS.Sp.know_keeps _ _) (Go.FS.spOf_nil))))))))))))))))))) (fun _ _ h hb => h.trans (hb.mono h.size)) ((Below.refl _ _).drew) ?_
 simp only [List.append_eq, List.cons_append, List.nil_append, List.take_succ_cons, List.take_zero, List.drop_succ_cons, List.drop_zero]
 iterate 2
  refine Go.FS.wpF_reads rfl rfl rfl ?_ (fun w' hw' => ?_) ?_
  rotate_left
  ·have hb' := hw'.world
   skip
   clear hw'
   go_simp
   try rfl
  conv => arg 10; simp only [Act.put, Go.q0, Go.q1, Go.q2]
 refine Go.FS.wpF_spec rfl rfl rfl (fun w' hw' => ?_) ?_
 ·have hb' := hw'.world
  refine Go.FS.gives_of (Go.FS.PM (fun x : PV => x.v) (fun x w' => DP w' w23.heap.size x p24) (fun _ _ => False) w'.heap.size) ?_ (fun _ _ h => h.post (fun _ _ => PV.inj))
  go_simp
  have CT := padd (Kx1.out.below (KG.out.trans (hb'.mono KG.out.size))) PCP1.out (Kx2.out.below (KG.out.trans (hb'.mono KG.out.size))) PCP2.out 4 (by decide) (by decide) (by decide) (by decide)
  rw [show addP P1 P2 = p24 from Hp24.out.symm] at CT
  refine CT.mono ?_
  rintro e w'' ⟨za, rfl, ho, hb⟩
  exact ⟨_, rfl, ⟨za, rfl, ho.mono hb'.size, fun _ h => False.elim h⟩, hb⟩
 rintro _ ⟨y2, rfl⟩
 conv => arg 10; simp only [Act.put, Go.q0, Go.q1, Go.q2]
 refine Go.FS.wpF_reads rfl rfl rfl ?_ (fun w' hw' => ?_) ?_
 rotate_left
 ·have hb' := hw'.world
  skip
  clear hw'
  go_simp
  try rfl
 conv => arg 10; simp only [Act.put, Go.q0, Go.q1, Go.q2]
 refine Go.FS.wpF_spec rfl rfl rfl (fun w' hw' => ?_) ?_
 ·have hb' := hw'.world
  refine Go.FS.gives_of (Go.FS.PM (fun x : PV => x.v) (fun x w' => DP w' w23.heap.size x p25) (fun _ _ => False) w'.heap.size) ?_ (fun _ _ h => h.post (fun _ _ => PV.inj))
  go_simp
  have f2 := Go.FS.made_of (val := (fun x : PV => x.v)) (Φ := fun x w' => DP w' w23.heap.size x p24) (fun _ _ => PV.inj) (hw'.fact 2 (by kernel_rfl))
  have CT := psub f2.k PCp24.out (Kx2.out.below (KG.out.trans (hb'.mono KG.out.size))) PCP2.out 9 (by decide) (by decide) (by decide) (by decide) (by decide) (by decide)
  rw [show subP p24 P2 = p25 from Hp25.out.symm] at CT
  refine CT.mono ?_
  rintro e w'' ⟨za, rfl, ho, hb⟩
  exact ⟨_, rfl, ⟨za, rfl, ho.mono hb'.size, fun _ h => False.elim h⟩, hb⟩
 rintro _ ⟨y4, rfl⟩
 conv => arg 10; simp only [Act.put, Go.q0, Go.q1, Go.q2]
 refine Go.FS.wpF_reads rfl rfl rfl ?_ (fun w' hw' => ?_) ?_
 rotate_left
 ·have hb' := hw'.world
  skip
  clear hw'
  go_simp
  try rfl
 conv => arg 10; simp only [Act.put, Go.q0, Go.q1, Go.q2]
 refine Go.FS.wpF_spec rfl rfl rfl (fun w' hw' => ?_) ?_
 ·have hb' := hw'.world
  refine Go.FS.gives_of (Go.FS.PK (.bool true)) ?_ (fun _ _ h => h.post)
  go_simp
  have f4 := Go.FS.made_of (val := (fun x : PV => x.v)) (Φ := fun x w' => DP w' w23.heap.size x p25) (fun _ _ => PV.inj) (hw'.fact 4 (by kernel_rfl))
  have CT := plsame f4.k (Kx1.out.below (KG.out.trans (hb'.mono KG.out.size))) (by simp only [Hp25.out, Hp24.out]; exact sub_add PCP1.out.c P2) PCp25.out (by decide) (by decide)
  refine CT.mono ?_
  rintro e w'' ⟨rfl, hb⟩
  exact ⟨_, rfl, rfl, hb⟩
 rintro _ rfl
 conv => arg 10; simp only [Act.put, Go.q0, Go.q1, Go.q2]
 refine Go.FS.wpF_reads rfl rfl rfl ?_ (fun w' hw' => ?_) ?_
 rotate_left
 ·have hb' := hw'.world
  skip
  clear hw'
  go_simp
  try rfl
 conv => arg 10; simp only [Act.put, Go.q0, Go.q1, Go.q2]
 iterate 2
  refine Go.FS.wpF_readsG (by rfl) rfl rfl ?_ (fun w' hw' => ?_) ?_
  rotate_left
  ·have hb' := hw'.world
   skip
   clear hw'
   go_simp
   try rfl
  conv => arg 10; simp only [Act.put, Go.q0, Go.q1, Go.q2]
 refine Go.FS.wpF_gspec (by rfl) rfl rfl (fun w' hw' => ?_) ?_
 ·have hb' := hw'.world
  refine Go.FS.gives_of (Go.FS.PM (fun x : PV => x.v) (fun x w' => DP w' w23.heap.size x p26) (fun _ _ => False) w'.heap.size) ?_ (fun _ _ h => h.post (fun _ _ => PV.inj))
  go_simp
  have CT := psub (Kx1.out.below (KG.out.trans (hb'.mono KG.out.size))) PCP1.out (Kx1.out.below (KG.out.trans (hb'.mono KG.out.size))) PCP1.out 7 (by decide) (by decide) (by decide) (by decide) (by decide) (by decide)
  rw [show subP P1 P1 = p26 from Hp26.out.symm] at CT
  refine CT.mono ?_
  rintro e w'' ⟨za, rfl, ho, hb⟩
  exact ⟨_, rfl, ⟨za, rfl, ho.mono hb'.size, fun _ h => False.elim h⟩, hb⟩
 rintro _ ⟨y10, rfl⟩
 conv => arg 10; simp only [Act.put, Go.q0, Go.q1, Go.q2]
 refine Go.FS.wpF_readsG (by rfl) rfl rfl ?_ (fun w' hw' => ?_) ?_
 rotate_left
 ·have hb' := hw'.world
  have f10 := Go.FS.made_of (val := (fun x : PV => x.v)) (Φ := fun x w' => DP w' w23.heap.size x p26) (fun _ _ => PV.inj) (hw'.fact 10 (by kernel_rfl))
  have hn : ((y10.n : Nat) : Int) = 0 := by rw [show y10.n = 0 from by rw [f10.k.len]; simp only [Hp26.out, Hp25.out, Hp24.out]; rw [sub_self P1]; rfl]; rfl
  clear hw'
  go_simp
  try rfl
 conv => arg 10; simp only [Act.put, Go.q0, Go.q1, Go.q2]
 refine Go.FS.wpF_readsG (by rfl) rfl rfl ?_ (fun w' hw' => ?_) ?_
 rotate_left
 ·have hb' := hw'.world
  skip
  clear hw'
  go_simp
  try rfl
 conv => arg 10; simp only [Act.put, Go.q0, Go.q1, Go.q2]
 iterate 2
  refine Go.FS.wpF_reads rfl rfl rfl ?_ (fun w' hw' => ?_) ?_
  rotate_left
  ·have hb' := hw'.world
   skip
   clear hw'
   go_simp
   try rfl
  conv => arg 10; simp only [Act.put, Go.q0, Go.q1, Go.q2]
 refine Go.FS.wpF_readsG (by rfl) rfl rfl ?_ (fun w' hw' => ?_) ?_
 rotate_left
 ·have hb' := hw'.world
  skip
  clear hw'
  go_simp
  try rfl
 conv => arg 10; simp only [Act.put, Go.q0, Go.q1, Go.q2]
 refine Go.FS.wpF_readsG (by rfl) rfl rfl ?_ (fun w' hw' => ?_) ?_
 rotate_left
 ·have hb' := hw'.world
  have hs0 := (BX1.out.below hb' BX1.out.lt).cell (i := 0) rfl
  have hs1 := (BX1.out.below hb' BX1.out.lt).cell (i := 1) rfl
  have hs2 := (BX1.out.below hb' BX1.out.lt).cell (i := 2) rfl
  have hs3 := (BX1.out.below hb' BX1.out.lt).cell (i := 3) rfl
  have hsf := (BX1.out.below hb' BX1.out.lt).fz
  have hsl := (BX1.out.below hb' BX1.out.lt).lt
  clear hw'
  go_simp
  try rfl
 conv => arg 10; simp only [Act.put, Go.q0, Go.q1, Go.q2]
 refine Go.FS.wpF_gspec (by rfl) rfl rfl (fun w' hw' => ?_) ?_
 ·have hb' := hw'.world
  refine Go.FS.gives_of (Go.FS.PM (fun x : PV => x.v) (fun x w' => DP w' w23.heap.size x p27) (fun _ _ => False) w'.heap.size) ?_ (fun _ _ h => h.post (fun _ _ => PV.inj))
  go_simp
  have CT := pscale (Kx1.out.below (KG.out.trans (hb'.mono KG.out.size))) PCP1.out (NC.out.below (KG.out.trans (hb'.mono KG.out.size))) (LF.up Bx3.out (by decide : _ ≤ 900000)) LQqc.out (by decide) (by decide) (by decide) (by decide)
  rw [show scaleP qc P1 = p27 from Hp27.out.symm] at CT
  refine CT.mono ?_
  rintro e w'' ⟨za, rfl, ho, hb⟩
  exact ⟨_, rfl, ⟨za, rfl, ho.mono hb'.size, fun _ h => False.elim h⟩, hb⟩
 rintro _ ⟨y17, rfl⟩
 conv => arg 10; simp only [Act.put, Go.q0, Go.q1, Go.q2]
 refine Go.FS.wpF_readsG (by rfl) rfl rfl ?_ (fun w' hw' => ?_) ?_
 rotate_left
 ·have hb' := hw'.world
  skip
  clear hw'
  go_simp
  try rfl
 conv => arg 10; simp only [Act.put, Go.q0, Go.q1, Go.q2]
 refine Go.FS.wpF_readsG (by rfl) rfl rfl ?_ (fun w' hw' => ?_) ?_
 rotate_left
 ·have hb' := hw'.world
  have hs0 := (BX1.out.below hb' BX1.out.lt).cell (i := 0) rfl
  have hs1 := (BX1.out.below hb' BX1.out.lt).cell (i := 1) rfl
  have hs2 := (BX1.out.below hb' BX1.out.lt).cell (i := 2) rfl
  have hs3 := (BX1.out.below hb' BX1.out.lt).cell (i := 3) rfl
  have hsf := (BX1.out.below hb' BX1.out.lt).fz
  have hsl := (BX1.out.below hb' BX1.out.lt).lt
  clear hw'
  go_simp
  try rfl
 conv => arg 10; simp only [Act.put, Go.q0, Go.q1, Go.q2]
 refine Go.FS.wpF_gspec (by rfl) rfl rfl (fun w' hw' => ?_) ?_
 ·have hb' := hw'.world
  refine Go.FS.gives_of (Go.FS.PM (fun x : PV => x.v) (fun x w' => DP w' w23.heap.size x p28) (fun _ _ => False) w'.heap.size) ?_ (fun _ _ h => h.post (fun _ _ => PV.inj))
  go_simp
  have CT := pof (NC.out.below (KG.out.trans (hb'.mono KG.out.size))) (LF.up Bx3.out (by decide : _ ≤ 900000)) LQqc.out (by decide)
  rw [show nf [(Mo.one, qc)] = p28 from Hp28.out.symm] at CT
  refine CT.mono ?_
  rintro e w'' ⟨za, rfl, ho, hb⟩
  exact ⟨_, rfl, ⟨za, rfl, ho.mono hb'.size, fun _ h => False.elim h⟩, hb⟩
 rintro _ ⟨y20, rfl⟩
 conv => arg 10; simp only [Act.put, Go.q0, Go.q1, Go.q2]
 refine Go.FS.wpF_gspec (by rfl) rfl rfl (fun w' hw' => ?_) ?_
 ·have hb' := hw'.world
  refine Go.FS.gives_of (Go.FS.PM (fun x : PV => x.v) (fun x w' => DP w' w23.heap.size x p29) (fun _ _ => False) w'.heap.size) ?_ (fun _ _ h => h.post (fun _ _ => PV.inj))
  go_simp
  have f20 := Go.FS.made_of (val := (fun x : PV => x.v)) (Φ := fun x w' => DP w' w23.heap.size x p28) (fun _ _ => PV.inj) (hw'.fact 20 (by kernel_rfl))
  have CT := plmul (Kx1.out.below (KG.out.trans (hb'.mono KG.out.size))) PCP1.out f20.k PCp28.out (by decide) (by decide) (by decide) (by decide) (by decide) (by decide) (by decide)
  rw [show mulP P1 p28 = p29 from Hp29.out.symm] at CT
  refine CT.mono ?_
  rintro e w'' ⟨za, rfl, ho, hb⟩
  exact ⟨_, rfl, ⟨za, rfl, ho.mono hb'.size, fun _ h => False.elim h⟩, hb⟩
 rintro _ ⟨y21, rfl⟩
 conv => arg 10; simp only [Act.put, Go.q0, Go.q1, Go.q2]
 refine Go.FS.wpF_gspec (by rfl) rfl rfl (fun w' hw' => ?_) ?_
 ·have hb' := hw'.world
  refine Go.FS.gives_of (Go.FS.PK (.bool true)) ?_ (fun _ _ h => h.post)
  go_simp
  have f17 := Go.FS.made_of (val := (fun x : PV => x.v)) (Φ := fun x w' => DP w' w23.heap.size x p27) (fun _ _ => PV.inj) (hw'.fact 17 (by kernel_rfl))
  have f21 := Go.FS.made_of (val := (fun x : PV => x.v)) (Φ := fun x w' => DP w' w23.heap.size x p29) (fun _ _ => PV.inj) (hw'.fact 21 (by kernel_rfl))
  have CT := plsame f17.k f21.k (by simp only [Hp29.out, Hp28.out, Hp27.out, Hp26.out, Hp25.out, Hp24.out]; exact scale_of _ P1) PCp27.out (by decide) (by decide)
  refine CT.mono ?_
  rintro e w'' ⟨rfl, hb⟩
  exact ⟨_, rfl, rfl, hb⟩
 rintro _ rfl
 conv => arg 10; simp only [Act.put, Go.q0, Go.q1, Go.q2]
 iterate 2
  refine Go.FS.wpF_reads rfl rfl rfl ?_ (fun w' hw' => ?_) ?_
  rotate_left
  ·have hb' := hw'.world
   skip
   clear hw'
   go_simp
   try rfl
  conv => arg 10; simp only [Act.put, Go.q0, Go.q1, Go.q2]
 iterate 2
  refine Go.FS.wpF_readsG (by rfl) rfl rfl ?_ (fun w' hw' => ?_) ?_
  rotate_left
  ·have hb' := hw'.world
   skip
   clear hw'
   go_simp
   try rfl
  conv => arg 10; simp only [Act.put, Go.q0, Go.q1, Go.q2]
 refine Go.FS.wpF_gspec (by rfl) rfl rfl (fun w' hw' => ?_) ?_
 ·have hb' := hw'.world
  refine Go.FS.gives_of (Go.FS.PM (fun x : PV => x.v) (fun x w' => DP w' w23.heap.size x p30) (fun _ _ => False) w'.heap.size) ?_ (fun _ _ h => h.post (fun _ _ => PV.inj))
  go_simp
  have CT := psub (Kx1.out.below (KG.out.trans (hb'.mono KG.out.size))) PCP1.out (Kx2.out.below (KG.out.trans (hb'.mono KG.out.size))) PCP2.out 7 (by decide) (by decide) (by decide) (by decide) (by decide) (by decide)
  rw [show subP P1 P2 = p30 from Hp30.out.symm] at CT
  refine CT.mono ?_
  rintro e w'' ⟨za, rfl, ho, hb⟩
  exact ⟨_, rfl, ⟨za, rfl, ho.mono hb'.size, fun _ h => False.elim h⟩, hb⟩
 rintro _ ⟨y27, rfl⟩
 conv => arg 10; simp only [Act.put, Go.q0, Go.q1, Go.q2]
 iterate 2
  refine Go.FS.wpF_readsG (by rfl) rfl rfl ?_ (fun w' hw' => ?_) ?_
  rotate_left
  ·have hb' := hw'.world
   skip
   clear hw'
   go_simp
   try rfl
  conv => arg 10; simp only [Act.put, Go.q0, Go.q1, Go.q2]
 refine Go.FS.wpF_gspec (by rfl) rfl rfl (fun w' hw' => ?_) ?_
 ·have hb' := hw'.world
  refine Go.FS.gives_of (Go.FS.PM (fun x : FV => x.v) (fun x w' => DF w' w23.heap.size x q31) FV.blk w'.heap.size) ?_ (fun _ _ h => h.post (fun _ _ => FV.inj))
  go_simp
  have CT := qof (-1) w' (by decide) (by decide)
  rw [show ((-1 : Int) : Rat) = q31 from Hq31.out.symm] at CT
  refine CT.mono ?_
  rintro e w'' ⟨za, rfl, ho, hb⟩
  exact ⟨_, rfl, ⟨za, rfl, ho.mono hb'.size, ho.blks⟩, hb⟩
 rintro _ ⟨y30, rfl⟩
 conv => arg 10; simp only [Act.put, Go.q0, Go.q1, Go.q2]
 refine Go.FS.wpF_gspec (by rfl) rfl rfl (fun w' hw' => ?_) ?_
 ·have hb' := hw'.world
  refine Go.FS.gives_of (Go.FS.PM (fun x : PV => x.v) (fun x w' => DP w' w23.heap.size x p32) (fun _ _ => False) w'.heap.size) ?_ (fun _ _ h => h.post (fun _ _ => PV.inj))
  go_simp
  have f30 := Go.FS.made_of (val := (fun x : FV => x.v)) (Φ := fun x w' => DF w' w23.heap.size x q31) (fun _ _ => FV.inj) (hw'.fact 30 (by kernel_rfl))
  have CT := pscale (Kx2.out.below (KG.out.trans (hb'.mono KG.out.size))) PCP2.out (f30).k.any (((f30).k).len LQq31.out (by decide : _ ≤ 900000)) LQq31.out (by decide) (by decide) (by decide) (by decide)
  rw [show scaleP q31 P2 = p32 from Hp32.out.symm] at CT
  refine CT.mono ?_
  rintro e w'' ⟨za, rfl, ho, hb⟩
  exact ⟨_, rfl, ⟨za, rfl, ho.mono hb'.size, fun _ h => False.elim h⟩, hb⟩
 rintro _ ⟨y31, rfl⟩
 conv => arg 10; simp only [Act.put, Go.q0, Go.q1, Go.q2]
 refine Go.FS.wpF_gspec (by rfl) rfl rfl (fun w' hw' => ?_) ?_
 ·have hb' := hw'.world
  refine Go.FS.gives_of (Go.FS.PM (fun x : PV => x.v) (fun x w' => DP w' w23.heap.size x p33) (fun _ _ => False) w'.heap.size) ?_ (fun _ _ h => h.post (fun _ _ => PV.inj))
  go_simp
  have f31 := Go.FS.made_of (val := (fun x : PV => x.v)) (Φ := fun x w' => DP w' w23.heap.size x p32) (fun _ _ => PV.inj) (hw'.fact 31 (by kernel_rfl))
  have CT := padd (Kx1.out.below (KG.out.trans (hb'.mono KG.out.size))) PCP1.out f31.k PCp32.out 7 (by decide) (by decide) (by decide) (by decide)
  rw [show addP P1 p32 = p33 from Hp33.out.symm] at CT
  refine CT.mono ?_
  rintro e w'' ⟨za, rfl, ho, hb⟩
  exact ⟨_, rfl, ⟨za, rfl, ho.mono hb'.size, fun _ h => False.elim h⟩, hb⟩
 rintro _ ⟨y32, rfl⟩
 conv => arg 10; simp only [Act.put, Go.q0, Go.q1, Go.q2]
 refine Go.FS.wpF_gspec (by rfl) rfl rfl (fun w' hw' => ?_) ?_
 ·have hb' := hw'.world
  refine Go.FS.gives_of (Go.FS.PK (.bool true)) ?_ (fun _ _ h => h.post)
  go_simp
  have f27 := Go.FS.made_of (val := (fun x : PV => x.v)) (Φ := fun x w' => DP w' w23.heap.size x p30) (fun _ _ => PV.inj) (hw'.fact 27 (by kernel_rfl))
  have f32 := Go.FS.made_of (val := (fun x : PV => x.v)) (Φ := fun x w' => DP w' w23.heap.size x p33) (fun _ _ => PV.inj) (hw'.fact 32 (by kernel_rfl))
  have CT := plsame f27.k f32.k (by simp only [Hp33.out, Hp32.out, Hq31.out, Hp30.out, Hp29.out, Hp28.out, Hp27.out, Hp26.out, Hp25.out, Hp24.out]; exact sub_def P1 P2) PCp30.out (by decide) (by decide)
  refine CT.mono ?_
  rintro e w'' ⟨rfl, hb⟩
  exact ⟨_, rfl, rfl, hb⟩
 rintro _ rfl
 conv => arg 10; simp only [Act.put, Go.q0, Go.q1, Go.q2]
 iterate 2
  refine Go.FS.wpF_reads rfl rfl rfl ?_ (fun w' hw' => ?_) ?_
  rotate_left
  ·have hb' := hw'.world
   skip
   clear hw'
   go_simp
   try rfl
  conv => arg 10; simp only [Act.put, Go.q0, Go.q1, Go.q2]
 iterate 2
  refine Go.FS.wpF_readsG (by rfl) rfl rfl ?_ (fun w' hw' => ?_) ?_
  rotate_left
  ·have hb' := hw'.world
   skip
   clear hw'
   go_simp
   try rfl
  conv => arg 10; simp only [Act.put, Go.q0, Go.q1, Go.q2]
 refine Go.FS.wpF_gspec (by rfl) rfl rfl (fun w' hw' => ?_) ?_
 ·have hb' := hw'.world
  refine Go.FS.gives_of (Go.FS.PM (fun x : PV => x.v) (fun x w' => DP w' w23.heap.size x p34) (fun _ _ => False) w'.heap.size) ?_ (fun _ _ h => h.post (fun _ _ => PV.inj))
  go_simp
  have CT := plmul (Kx1.out.below (KG.out.trans (hb'.mono KG.out.size))) PCP1.out (Kx2.out.below (KG.out.trans (hb'.mono KG.out.size))) PCP2.out (by decide) (by decide) (by decide) (by decide) (by decide) (by decide) (by decide)
  rw [show mulP P1 P2 = p34 from Hp34.out.symm] at CT
  refine CT.mono ?_
  rintro e w'' ⟨za, rfl, ho, hb⟩
  exact ⟨_, rfl, ⟨za, rfl, ho.mono hb'.size, fun _ h => False.elim h⟩, hb⟩
 rintro _ ⟨y38, rfl⟩
 conv => arg 10; simp only [Act.put, Go.q0, Go.q1, Go.q2]
 refine Go.FS.wpF_readsG (by rfl) rfl rfl ?_ (fun w' hw' => ?_) ?_
 rotate_left
 ·have hb' := hw'.world
  skip
  clear hw'
  go_simp
  try rfl
 conv => arg 10; simp only [Act.put, Go.q0, Go.q1, Go.q2]
 refine Go.FS.wpF_readsG (by rfl) rfl rfl ?_ (fun w' hw' => ?_) ?_
 rotate_left
 ·have hb' := hw'.world
  have f38 := Go.FS.made_of (val := (fun x : PV => x.v)) (Φ := fun x w' => DP w' w23.heap.size x p34) (fun _ _ => PV.inj) (hw'.fact2 39 38 (by kernel_rfl) (by kernel_rfl))
  have hn : ((((y38.n : Nat) : Int)) == 0) = bm := by rw [f38.k.len]; exact (len_zero _).trans (HBMM.out _ Hp34.out)
  clear hw'
  go_simp
  try rfl
 conv => arg 10; simp only [Act.put, Go.q0, Go.q1, Go.q2]
 iterate 2
  refine Go.FS.wpF_readsG (by rfl) rfl rfl ?_ (fun w' hw' => ?_) ?_
  rotate_left
  ·have hb' := hw'.world
   skip
   clear hw'
   go_simp
   try rfl
  conv => arg 10; simp only [Act.put, Go.q0, Go.q1, Go.q2]
 refine Go.FS.wpF_readsG (by rfl) rfl rfl ?_ (fun w' hw' => ?_) ?_
 rotate_left
 ·have hb' := hw'.world
  have hn := HB1.out
  clear hw'
  go_simp
  try rfl
 conv => arg 10; simp only [Act.put, Go.q0, Go.q1, Go.q2]
 refine Go.FS.wpF_readsG (by rfl) rfl rfl ?_ (fun w' hw' => ?_) ?_
 rotate_left
 ·have hb' := hw'.world
  skip
  clear hw'
  go_simp
  try rfl
 conv => arg 10; simp only [Act.put, Go.q0, Go.q1, Go.q2]
 rcases Bool.eq_false_or_eq_true b1 with rfl | rfl
 ·have HBE := Lib.hid (show (bm == true) = true by rw [HBE0.out]; rfl)
  iterate 3
   refine Go.FS.wpF_skip (by rfl) rfl ?_
   conv => arg 10; simp only [Act.put, Go.q0, Go.q1, Go.q2]
  refine Go.FS.wpF_readsG (by rfl) rfl rfl ?_ (fun w' hw' => ?_) ?_
  rotate_left
  ·have hb' := hw'.world
   skip
   clear hw'
   go_simp
   try rfl
  conv => arg 10; simp only [Act.put, Go.q0, Go.q1, Go.q2]
  refine Go.FS.wpF_readsG (by rfl) rfl rfl ?_ (fun w' hw' => ?_) ?_
  rotate_left
  ·have hb' := hw'.world
   have hm := HBE.out
   clear hw'
   go_simp
   try rfl
  conv => arg 10; simp only [Act.put, Go.q0, Go.q1, Go.q2]
  iterate 2
   refine Go.FS.wpF_reads rfl rfl rfl ?_ (fun w' hw' => ?_) ?_
   rotate_left
   ·have hb' := hw'.world
    skip
    clear hw'
    go_simp
    try rfl
   conv => arg 10; simp only [Act.put, Go.q0, Go.q1, Go.q2]
  iterate 2
   refine Go.FS.wpF_readsG (by rfl) rfl rfl ?_ (fun w' hw' => ?_) ?_
   rotate_left
   ·have hb' := hw'.world
    skip
    clear hw'
    go_simp
    try rfl
   conv => arg 10; simp only [Act.put, Go.q0, Go.q1, Go.q2]
  refine Go.FS.wpF_gspec (by rfl) rfl rfl (fun w' hw' => ?_) ?_
  ·have hb' := hw'.world
   refine Go.FS.gives_of (Go.FS.PK (.bool bs)) ?_ (fun _ _ h => h.post)
   go_simp
   have CT := pSame_d x1 x2 P1 P2 w' (Kx1.out.below (KG.out.trans (hb'.mono KG.out.size))) (Kx2.out.below (KG.out.trans (hb'.mono KG.out.size))) (PCP1.out.lq (by decide)) (PCP2.out.lq (by decide)) (Nat.le_trans PCP1.out.b.len (by decide)) (Nat.le_trans PCP2.out.b.len (by decide))
   rw [show decide (P1 = P2) = bs from HBS.out.symm] at CT
   refine CT.mono ?_
   rintro e w'' ⟨rfl, hb⟩
   exact ⟨_, rfl, rfl, hb⟩
  rintro _ rfl
  conv => arg 10; simp only [Act.put, Go.q0, Go.q1, Go.q2]
  iterate 2
   refine Go.FS.wpF_readsG (by rfl) rfl rfl ?_ (fun w' hw' => ?_) ?_
   rotate_left
   ·have hb' := hw'.world
    skip
    clear hw'
    go_simp
    try rfl
   conv => arg 10; simp only [Act.put, Go.q0, Go.q1, Go.q2]
  refine Go.FS.wpF_gspec (by rfl) rfl rfl (fun w' hw' => ?_) ?_
  ·have hb' := hw'.world
   refine Go.FS.gives_of (Go.FS.PM (fun x : PV => x.v) (fun x w' => DP w' w23.heap.size x p30) (fun _ _ => False) w'.heap.size) ?_ (fun _ _ h => h.post (fun _ _ => PV.inj))
   go_simp
   have CT := psub (Kx1.out.below (KG.out.trans (hb'.mono KG.out.size))) PCP1.out (Kx2.out.below (KG.out.trans (hb'.mono KG.out.size))) PCP2.out 7 (by decide) (by decide) (by decide) (by decide) (by decide) (by decide)
   rw [show subP P1 P2 = p30 from Hp30.out.symm] at CT
   refine CT.mono ?_
   rintro e w'' ⟨za, rfl, ho, hb⟩
   exact ⟨_, rfl, ⟨za, rfl, ho.mono hb'.size, fun _ h => False.elim h⟩, hb⟩
  rintro _ ⟨y57, rfl⟩
  conv => arg 10; simp only [Act.put, Go.q0, Go.q1, Go.q2]
  refine Go.FS.wpF_readsG (by rfl) rfl rfl ?_ (fun w' hw' => ?_) ?_
  rotate_left
  ·have hb' := hw'.world
   skip
   clear hw'
   go_simp
   try rfl
  conv => arg 10; simp only [Act.put, Go.q0, Go.q1, Go.q2]
  refine Go.FS.wpF_readsG (by rfl) rfl rfl ?_ (fun w' hw' => ?_) ?_
  rotate_left
  ·have hb' := hw'.world
   have f57 := Go.FS.made_of (val := (fun x : PV => x.v)) (Φ := fun x w' => DP w' w23.heap.size x p30) (fun _ _ => PV.inj) (hw'.fact2 58 57 (by kernel_rfl) (by kernel_rfl))
   have hn : ((((y57.n : Nat) : Int)) == 0) = bs := by rw [f57.k.len]; exact (len_zero _).trans (HBU.out _ Hp30.out)
   clear hw'
   go_simp
   try rfl
  conv => arg 10; simp only [Act.put, Go.q0, Go.q1, Go.q2]
  refine Go.FS.wpF_readsG (by rfl) rfl rfl ?_ (fun w' hw' => ?_) ?_
  rotate_left
  ·have hb' := hw'.world
   skip
   clear hw'
   go_simp
   try rfl
  conv => arg 10; simp only [Act.put, Go.q0, Go.q1, Go.q2]
  iterate 2
   refine Go.FS.wpF_reads rfl rfl rfl ?_ (fun w' hw' => ?_) ?_
   rotate_left
   ·have hb' := hw'.world
    skip
    clear hw'
    go_simp
    try rfl
   conv => arg 10; simp only [Act.put, Go.q0, Go.q1, Go.q2]
  iterate 2
   refine Go.FS.wpF_readsG (by rfl) rfl rfl ?_ (fun w' hw' => ?_) ?_
   rotate_left
   ·have hb' := hw'.world
    skip
    clear hw'
    go_simp
    try rfl
   conv => arg 10; simp only [Act.put, Go.q0, Go.q1, Go.q2]
  refine Go.FS.wpF_gspec (by rfl) rfl rfl (fun w' hw' => ?_) ?_
  ·have hb' := hw'.world
   refine Go.FS.gives_of (Go.FS.PK (.bool bs)) ?_ (fun _ _ h => h.post)
   go_simp
   have CT := pSame_d x1 x2 P1 P2 w' (Kx1.out.below (KG.out.trans (hb'.mono KG.out.size))) (Kx2.out.below (KG.out.trans (hb'.mono KG.out.size))) (PCP1.out.lq (by decide)) (PCP2.out.lq (by decide)) (Nat.le_trans PCP1.out.b.len (by decide)) (Nat.le_trans PCP2.out.b.len (by decide))
   rw [show decide (P1 = P2) = bs from HBS.out.symm] at CT
   refine CT.mono ?_
   rintro e w'' ⟨rfl, hb⟩
   exact ⟨_, rfl, rfl, hb⟩
  rintro _ rfl
  conv => arg 10; simp only [Act.put, Go.q0, Go.q1, Go.q2]
  iterate 2
   refine Go.FS.wpF_readsG (by rfl) rfl rfl ?_ (fun w' hw' => ?_) ?_
   rotate_left
   ·have hb' := hw'.world
    skip
    clear hw'
    go_simp
    try rfl
   conv => arg 10; simp only [Act.put, Go.q0, Go.q1, Go.q2]
  refine Go.FS.wpF_gspec (by rfl) rfl rfl (fun w' hw' => ?_) ?_
  ·have hb' := hw'.world
   refine Go.FS.gives_of (Go.FS.PK (.bool bs)) ?_ (fun _ _ h => h.post)
   go_simp
   have CT := lsame_d x1 x2 P1 P2 w' (Kx1.out.below (KG.out.trans (hb'.mono KG.out.size))) (Kx2.out.below (KG.out.trans (hb'.mono KG.out.size))) (PCP1.out.lq (by decide)) (PCP2.out.lq (by decide)) (Nat.le_trans PCP1.out.b.len (by decide))
   rw [show decide (P1 = P2) = bs from HBS.out.symm] at CT
   refine CT.mono ?_
   rintro e w'' ⟨rfl, hb⟩
   exact ⟨_, rfl, rfl, hb⟩
  rintro _ rfl
  conv => arg 10; simp only [Act.put, Go.q0, Go.q1, Go.q2]
  refine Go.FS.wpF_readsG (by rfl) rfl rfl ?_ (fun w' hw' => ?_) ?_
  rotate_left
  ·have hb' := hw'.world
   skip
   clear hw'
   go_simp
   try rfl
  conv => arg 10; simp only [Act.put, Go.q0, Go.q1, Go.q2]
  refine Go.FS.wpF_reads rfl rfl rfl ?_ (fun w' hw' => ?_) ?_
  rotate_left
  ·have hb' := hw'.world
   skip
   clear hw'
   go_simp
   try rfl
  conv => arg 10; simp only [Act.put, Go.q0, Go.q1, Go.q2]
  refine Go.FS.wpF_nil (fun w35 hb hF => ?_)
  clear hF
  clear BX1
  have KG := Lib.hid (KG.out.trans (hb.mono KG.out.size))
  clear hb
  go_wp2_with fail
  go_ret
  exact ⟨rfl, KG.out⟩
 ·have HBE := Lib.hid (show (bm == b2) = true by rw [HBE0.out]; cases b2 <;> rfl)
  iterate 2
   refine Go.FS.wpF_readsG (by rfl) rfl rfl ?_ (fun w' hw' => ?_) ?_
   rotate_left
   ·have hb' := hw'.world
    skip
    clear hw'
    go_simp
    try rfl
   conv => arg 10; simp only [Act.put, Go.q0, Go.q1, Go.q2]
  refine Go.FS.wpF_readsG (by rfl) rfl rfl ?_ (fun w' hw' => ?_) ?_
  rotate_left
  ·have hb' := hw'.world
   have hn := HB2.out
   clear hw'
   go_simp
   try rfl
  conv => arg 10; simp only [Act.put, Go.q0, Go.q1, Go.q2]
  refine Go.FS.wpF_readsG (by rfl) rfl rfl ?_ (fun w' hw' => ?_) ?_
  rotate_left
  ·have hb' := hw'.world
   skip
   clear hw'
   go_simp
   try rfl
  conv => arg 10; simp only [Act.put, Go.q0, Go.q1, Go.q2]
  refine Go.FS.wpF_readsG (by rfl) rfl rfl ?_ (fun w' hw' => ?_) ?_
  rotate_left
  ·have hb' := hw'.world
   have hm := HBE.out
   clear hw'
   go_simp
   try rfl
  conv => arg 10; simp only [Act.put, Go.q0, Go.q1, Go.q2]
  iterate 2
   refine Go.FS.wpF_reads rfl rfl rfl ?_ (fun w' hw' => ?_) ?_
   rotate_left
   ·have hb' := hw'.world
    skip
    clear hw'
    go_simp
    try rfl
   conv => arg 10; simp only [Act.put, Go.q0, Go.q1, Go.q2]
  iterate 2
   refine Go.FS.wpF_readsG (by rfl) rfl rfl ?_ (fun w' hw' => ?_) ?_
   rotate_left
   ·have hb' := hw'.world
    skip
    clear hw'
    go_simp
    try rfl
   conv => arg 10; simp only [Act.put, Go.q0, Go.q1, Go.q2]
  refine Go.FS.wpF_gspec (by rfl) rfl rfl (fun w' hw' => ?_) ?_
  ·have hb' := hw'.world
   refine Go.FS.gives_of (Go.FS.PK (.bool bs)) ?_ (fun _ _ h => h.post)
   go_simp
   have CT := pSame_d x1 x2 P1 P2 w' (Kx1.out.below (KG.out.trans (hb'.mono KG.out.size))) (Kx2.out.below (KG.out.trans (hb'.mono KG.out.size))) (PCP1.out.lq (by decide)) (PCP2.out.lq (by decide)) (Nat.le_trans PCP1.out.b.len (by decide)) (Nat.le_trans PCP2.out.b.len (by decide))
   rw [show decide (P1 = P2) = bs from HBS.out.symm] at CT
   refine CT.mono ?_
   rintro e w'' ⟨rfl, hb⟩
   exact ⟨_, rfl, rfl, hb⟩
  rintro _ rfl
  conv => arg 10; simp only [Act.put, Go.q0, Go.q1, Go.q2]
  iterate 2
   refine Go.FS.wpF_readsG (by rfl) rfl rfl ?_ (fun w' hw' => ?_) ?_
   rotate_left
   ·have hb' := hw'.world
    skip
    clear hw'
    go_simp
    try rfl
   conv => arg 10; simp only [Act.put, Go.q0, Go.q1, Go.q2]
  refine Go.FS.wpF_gspec (by rfl) rfl rfl (fun w' hw' => ?_) ?_
  ·have hb' := hw'.world
   refine Go.FS.gives_of (Go.FS.PM (fun x : PV => x.v) (fun x w' => DP w' w23.heap.size x p30) (fun _ _ => False) w'.heap.size) ?_ (fun _ _ h => h.post (fun _ _ => PV.inj))
   go_simp
   have CT := psub (Kx1.out.below (KG.out.trans (hb'.mono KG.out.size))) PCP1.out (Kx2.out.below (KG.out.trans (hb'.mono KG.out.size))) PCP2.out 7 (by decide) (by decide) (by decide) (by decide) (by decide) (by decide)
   rw [show subP P1 P2 = p30 from Hp30.out.symm] at CT
   refine CT.mono ?_
   rintro e w'' ⟨za, rfl, ho, hb⟩
   exact ⟨_, rfl, ⟨za, rfl, ho.mono hb'.size, fun _ h => False.elim h⟩, hb⟩
  rintro _ ⟨y57, rfl⟩
  conv => arg 10; simp only [Act.put, Go.q0, Go.q1, Go.q2]
  refine Go.FS.wpF_readsG (by rfl) rfl rfl ?_ (fun w' hw' => ?_) ?_
  rotate_left
  ·have hb' := hw'.world
   skip
   clear hw'
   go_simp
   try rfl
  conv => arg 10; simp only [Act.put, Go.q0, Go.q1, Go.q2]
  refine Go.FS.wpF_readsG (by rfl) rfl rfl ?_ (fun w' hw' => ?_) ?_
  rotate_left
  ·have hb' := hw'.world
   have f57 := Go.FS.made_of (val := (fun x : PV => x.v)) (Φ := fun x w' => DP w' w23.heap.size x p30) (fun _ _ => PV.inj) (hw'.fact2 58 57 (by kernel_rfl) (by kernel_rfl))
   have hn : ((((y57.n : Nat) : Int)) == 0) = bs := by rw [f57.k.len]; exact (len_zero _).trans (HBU.out _ Hp30.out)
   clear hw'
   go_simp
   try rfl
  conv => arg 10; simp only [Act.put, Go.q0, Go.q1, Go.q2]
  refine Go.FS.wpF_readsG (by rfl) rfl rfl ?_ (fun w' hw' => ?_) ?_
  rotate_left
  ·have hb' := hw'.world
   skip
   clear hw'
   go_simp
   try rfl
  conv => arg 10; simp only [Act.put, Go.q0, Go.q1, Go.q2]
  iterate 2
   refine Go.FS.wpF_reads rfl rfl rfl ?_ (fun w' hw' => ?_) ?_
   rotate_left
   ·have hb' := hw'.world
    skip
    clear hw'
    go_simp
    try rfl
   conv => arg 10; simp only [Act.put, Go.q0, Go.q1, Go.q2]
  iterate 2
   refine Go.FS.wpF_readsG (by rfl) rfl rfl ?_ (fun w' hw' => ?_) ?_
   rotate_left
   ·have hb' := hw'.world
    skip
    clear hw'
    go_simp
    try rfl
   conv => arg 10; simp only [Act.put, Go.q0, Go.q1, Go.q2]
  refine Go.FS.wpF_gspec (by rfl) rfl rfl (fun w' hw' => ?_) ?_
  ·have hb' := hw'.world
   refine Go.FS.gives_of (Go.FS.PK (.bool bs)) ?_ (fun _ _ h => h.post)
   go_simp
   have CT := pSame_d x1 x2 P1 P2 w' (Kx1.out.below (KG.out.trans (hb'.mono KG.out.size))) (Kx2.out.below (KG.out.trans (hb'.mono KG.out.size))) (PCP1.out.lq (by decide)) (PCP2.out.lq (by decide)) (Nat.le_trans PCP1.out.b.len (by decide)) (Nat.le_trans PCP2.out.b.len (by decide))
   rw [show decide (P1 = P2) = bs from HBS.out.symm] at CT
   refine CT.mono ?_
   rintro e w'' ⟨rfl, hb⟩
   exact ⟨_, rfl, rfl, hb⟩
  rintro _ rfl
  conv => arg 10; simp only [Act.put, Go.q0, Go.q1, Go.q2]
  iterate 2
   refine Go.FS.wpF_readsG (by rfl) rfl rfl ?_ (fun w' hw' => ?_) ?_
   rotate_left
   ·have hb' := hw'.world
    skip
    clear hw'
    go_simp
    try rfl
   conv => arg 10; simp only [Act.put, Go.q0, Go.q1, Go.q2]
  refine Go.FS.wpF_gspec (by rfl) rfl rfl (fun w' hw' => ?_) ?_
  ·have hb' := hw'.world
   refine Go.FS.gives_of (Go.FS.PK (.bool bs)) ?_ (fun _ _ h => h.post)
   go_simp
   have CT := lsame_d x1 x2 P1 P2 w' (Kx1.out.below (KG.out.trans (hb'.mono KG.out.size))) (Kx2.out.below (KG.out.trans (hb'.mono KG.out.size))) (PCP1.out.lq (by decide)) (PCP2.out.lq (by decide)) (Nat.le_trans PCP1.out.b.len (by decide))
   rw [show decide (P1 = P2) = bs from HBS.out.symm] at CT
   refine CT.mono ?_
   rintro e w'' ⟨rfl, hb⟩
   exact ⟨_, rfl, rfl, hb⟩
  rintro _ rfl
  conv => arg 10; simp only [Act.put, Go.q0, Go.q1, Go.q2]
  refine Go.FS.wpF_readsG (by rfl) rfl rfl ?_ (fun w' hw' => ?_) ?_
  rotate_left
  ·have hb' := hw'.world
   skip
   clear hw'
   go_simp
   try rfl
  conv => arg 10; simp only [Act.put, Go.q0, Go.q1, Go.q2]
  refine Go.FS.wpF_reads rfl rfl rfl ?_ (fun w' hw' => ?_) ?_
  rotate_left
  ·have hb' := hw'.world
   skip
   clear hw'
   go_simp
   try rfl
  conv => arg 10; simp only [Act.put, Go.q0, Go.q1, Go.q2]
  refine Go.FS.wpF_nil (fun w36 hb hF => ?_)
  clear hF
  clear BX1
  have KG := Lib.hid (KG.out.trans (hb.mono KG.out.size))
  clear hb
  go_wp2_with fail
  go_ret
  exact ⟨rfl, KG.out⟩
end Go.Proofs.YtkkbegkdbcenkaaGreatDoor.Pol
namespace Go.Proofs.YtkkbegkdbcenkaaGreatDoor.Limb
open Go.RowKit Go.Sort Go.Proofs.YtkkbegkdbcenkaaGreatDoor.Pol
open Go.ChangeShapes Go.WideShapes Go.ChangeAt
namespace PolysUndoneC
theorem own : ownKnob Tryz.prog.godebug = none := by kernel_rfl
theorem laidOut : laidOutB Tryz.prog = true := by kernel_rfl
theorem tab_of_laid (W : World) (hL : laidMet Tryz.prog Rows.polysUndoneRow.laid W) : Tab W :=
 Lib.tabIs_of_head (g := 3) (by kernel_rfl) (by kernel_rfl) (t := 239) (n := 20) (e := 123) Tryz.underlying239 Tryz.underlying123 (by kernel_rfl) (by kernel_rfl) hL.tail.tail
noncomputable def laidWorld (os : Os) : World := World.laidAll Tryz.prog os Rows.polysUndoneRow.laid
noncomputable def witArgs : Array Value := #[.slice none 0 0, .slice none 0 0, fracV false none 0 0 false none 0 0]
theorem laid_met (os : Os) : laidMet Tryz.prog Rows.polysUndoneRow.laid ((laidWorld os).forCall (fun _ _ => 0) ⟨#[], witArgs, []⟩).memory :=
 laidMet_laidAll _ (by kernel_rfl) (by kernel_rfl)
theorem reads (os : Os) {H : Type} (enc : TypeId × Value → H) : ∃ places, DataW.whole enc Tryz.prog ((laidWorld os).forCall (fun _ _ => 0) ⟨#[], witArgs, []⟩).memory Tryz.f8.params.toList Rows.polysUndoneSpec.vars false witArgs.toList 8 = some ([.nil, .nil, .agg [.agg [.lit (.bool false), .nil], .agg [.lit (.bool false), .nil]]], [], places) :=
 ⟨[], by kernel_rfl⟩
set_option maxRecDepth 100000 in
theorem lifted (os : Os) (started : os.Started) (H : Type) (enc : TypeId × Value → H) (F : Stop.Interp) :
  ReturnsInHanded {} Tryz.checked os 8 .any ((OpenSpec.ofChange Rows.polysUndoneSpec).preRow enc Tryz.prog Tryz.f8 Rows.polysUndoneRow.domain false Rows.polysUndoneRow.laid) (((OpenSpec.ofChange Rows.polysUndoneSpec).at F).post enc Tryz.prog Tryz.f8 false true false false) := by
 obtain ⟨places, hx⟩ := reads os enc
 refine returnsInHanded_of_row (C := Tryz.checked) (s := OpenSpec.ofChange Rows.polysUndoneSpec) own started (by kernel_rfl) Tryz.func8
  (witness_row_atRef (enc := enc) (C := Tryz.checked) false (laidWorld os) witArgs (World.laidAll_os _ _ _) (by kernel_rfl) (by kernel_rfl) (by kernel_rfl)
   (OpenSpec.preRow_of_cond 8 hx (by kernel_rfl) (fun k hk => by cases hk) (by kernel_rfl) (laid_met os))) ?_
 intro W base args ds gs before hval0 hW _ _ hwt hL _ _
 rw [MakeChecks.laidMetH_plain _ _ _ (by kernel_rfl)] at hL
 have htab : Tab W := tab_of_laid W hL
 have hval : ∀ (j : Nat) t v, Tryz.f8.params[j]? = some t → args[j]? = some v → Value.okWide Tryz.prog W .any base t v := hval0
 have hW' := hW
 obtain ⟨p, q, hA0, hV, rfl, hfz, hnd⟩ := hW
 have hA : DataW.TrodAll enc Tryz.prog W 0 (fun _ => true) true Tryz.f8.params.toList args.toList ds p := hA0
 rw [Tryz.params8] at hA hval
 obtain ⟨v0, v1, v2, d0, d1, d2, p0, p1, p2, rfl, rfl, rfl, h0, h1, h2⟩ := trodAll_three hA
 obtain ⟨rfl, rfl⟩ := trodVars_none hV
 obtain ⟨x0, L0, rfl, r0⟩ := open_poly (hval 0 23 v0 rfl rfl) h0
 obtain ⟨x1, L1, rfl, r1⟩ := open_poly (hval 1 23 v1 rfl rfl) h1
 obtain ⟨y2, rfl, r2⟩ := open_fracW (hval 2 35 v2 rfl rfl) h2 (each_weight hwt (j := 2) (by kernel_rfl) rfl)
 refine (polysUndone_law x0 L0 x1 L1 y2 W htab r0 r1 r2).mono fun e W' ⟨he, hg⟩ => ?_
 subst he
 exact ⟨_, rfl, LawPost.law_post laidOut (by kernel_rfl) (by kernel_rfl) Tryz.underlying4 hW' rfl rfl hg⟩
theorem said : Rows.PolysUndoneSaid :=
 OpenClaim.holds_of_cond 8 Tryz.f8 rfl rfl rfl rfl rfl rfl rfl ⟨rfl, rfl, rfl, rfl, rfl⟩ rfl rfl rfl rfl rfl (by kernel_rfl) Tryz.func8 (by kernel_rfl)
  (of_decide_eq_true (by kernel_rfl)) (by unfold Func.isWrapper; first | (rw [if_pos (by decide +kernel)]; kernel_rfl) | (rw [if_neg (by decide +kernel)]; exact ⟨rfl, rfl⟩))
  (fun os started H enc _ F => by rw [OpenClaim.pre_eq_preRow]; exact lifted os started H enc F)
theorem plain (f : FuncId) (fn : Func) (hf : Tryz.pinned.checked.prog.funcNamed "reckoner/reckonerlaw04.PolysUndone" = some f) (hfn : Tryz.pinned.checked.prog.funcs[f]? = some fn) :
  true = Tryz.pinned.checked.prog.looks [] ∧ ∀ (j : Nat) t, fn.params[j]? = some t → Tryz.pinned.checked.prog.wantsStandIn t = false := by
 obtain rfl : f = 8 := Option.some.inj ((show Tryz.prog.funcNamed "reckoner/reckonerlaw04.PolysUndone" = some 8 by kernel_rfl).symm.trans hf) |>.symm
 obtain rfl : fn = Tryz.f8 := (Option.some.inj (Tryz.func8.symm.trans hfn)).symm
 refine ⟨by kernel_rfl, fun j t ht => ?_⟩
 rw [Tryz.params8] at ht
 have hm : t = 23 ∨ t = 23 ∨ t = 35 := by simpa using Array.mem_of_getElem? ht
 rcases hm with rfl | rfl | rfl
 ·exact (show Tryz.prog.wantsStandIn 23 = false by kernel_rfl)
 ·exact (show Tryz.prog.wantsStandIn 23 = false by kernel_rfl)
 ·exact (show Tryz.prog.wantsStandIn 35 = false by kernel_rfl)
theorem card : Rows.PolysUndoneCardSaid :=
 Claim7.holds_tied_plain_at .later [] _ _ _ _ said (fun _ h => by cases h) (by kernel_rfl) (fun _ h => by cases h) polysUndone_row_tie rfl ⟨rfl, rfl⟩ (by kernel_rfl) rfl plain (by kernel_rfl)
#print axioms card
end PolysUndoneC
end Go.Proofs.YtkkbegkdbcenkaaGreatDoor.Limb
