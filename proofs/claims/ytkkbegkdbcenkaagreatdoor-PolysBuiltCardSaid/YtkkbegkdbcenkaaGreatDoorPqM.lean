/-
  The walk of alive of the laws of sums: what the document fixes.
-/
import Derived.Test.YtkkbegkdbcenkaaGreatDoorPqL
set_option linter.unusedSimpArgs false
set_option linter.unusedVariables false
namespace Go.Proofs.YtkkbegkdbcenkaaGreatDoor.Pol
open Go.RowKit Go.Sort Go.Proofs.YtkkbegkdbcenkaaGreatDoor.Limb
theorem formP2 : formT [50] := ⟨by decide +kernel, by decide +kernel, by decide +kernel⟩
theorem phalf (w : World) : Calls Tryz.prog 34 #[.string ⟨#[49, 47, 50]⟩] w (RFE w (((1 : Int) : Rat) / ((2 : Int) : Rat)) 0) := 
 qparse_y_ok (z1 := 1) (z2 := 2) w (by decide) (show Lib.cut [49, 47, 50] [47] = ([49], [50], true) by decide +kernel) (by decide) (by decide) code1 num1 (codeT_of _ formP2 (by decide +kernel)) (numT_of _ _ formP2 (by decide +kernel) (by decide +kernel)) ⟨50, [], rfl, by decide⟩ (by decide) (by decide)
theorem textQ_ofP {q : Rat} {n d : Int} (hn : q.num = n) (hd : (q.den : Int) = d) : textQ q = if d = 1 then Lib.itoa n else Lib.itoa n ++ 47 :: Lib.itoa d := by subst hn hd; rfl
theorem text_c {q : Rat} (h : q = ((3 : Int) : Rat) / ((2 : Int) : Rat)) : textQ q = [51, 47, 50] := by
 rw [textQ_ofP (n := 3) (d := 2) (by rw [h]; decide +kernel) (by rw [h]; decide +kernel), if_neg (by decide), show (3 : Int) = ((3 : Nat) : Int) from rfl, Lib.itoa_nonneg, Lib.decDigits_one (by decide), show (2 : Int) = ((2 : Nat) : Int) from rfl, Lib.itoa_nonneg, Lib.decDigits_one (by decide)]
 rfl
set_option maxRecDepth 100000 in
set_option maxHeartbeats 16000000 in
theorem palive (w : World) (htab : Tab w) : Calls Tryz.prog 9 #[] w fun e w' => e = .returned (.bool true) ∧ Below w.heap.size w w' := by
 have HT := Lib.hid htab
 have KG := Lib.hid (Below.refl w.heap.size w)
 clear htab
 obtain ⟨q1, hq1⟩ : ∃ z : Rat, z = ((1 : Int) : Rat) := ⟨_, rfl⟩
 have Hq1 := Lib.hid hq1
 have LQq1 := Lib.hid (show LQ q1 3 by rw [hq1]; exact LQ.int (by decide) (by decide))
 clear hq1
 obtain ⟨p5, hp5⟩ : ∃ z : List Tm, z = nf [(Mo.one, q1)] := ⟨_, rfl⟩
 have Hp5 := Lib.hid hp5
 have PCp5 := Lib.hid (show PC p5 1 4 0 by rw [hp5]; exact PC.of LQq1.out)
 clear hp5
 obtain ⟨p9, hp9⟩ : ∃ z : List Tm, z = letP 0 := ⟨_, rfl⟩
 have Hp9 := Lib.hid hp9
 have PCp9 := Lib.hid (show PC p9 1 3 1 by rw [hp9]; exact PC.letter 0)
 clear hp9
 obtain ⟨p13, hp13⟩ : ∃ z : List Tm, z = addP p9 p5 := ⟨_, rfl⟩
 have Hp13 := Lib.hid hp13
 have PCp13 := Lib.hid (show PC p13 2 9 1 by rw [hp13]; exact PCp9.out.add PCp5.out 4 1 (by decide) (by decide) (by decide) (by decide))
 clear hp13
 obtain ⟨q17, hq17⟩ : ∃ z : Rat, z = ((2 : Int) : Rat) := ⟨_, rfl⟩
 have Hq17 := Lib.hid hq17
 have LQq17 := Lib.hid (show LQ q17 3 by rw [hq17]; exact LQ.int (by decide) (by decide))
 clear hq17
 obtain ⟨p21, hp21⟩ : ∃ z : List Tm, z = scaleP q17 p13 := ⟨_, rfl⟩
 have Hp21 := Lib.hid hp21
 have PCp21 := Lib.hid (show PC p21 2 12 1 by rw [hp21]; exact PCp13.out.scale LQq17.out)
 clear hp21
 obtain ⟨p25, hp25⟩ : ∃ z : List Tm, z = letP 1 := ⟨_, rfl⟩
 have Hp25 := Lib.hid hp25
 have PCp25 := Lib.hid (show PC p25 1 3 1 by rw [hp25]; exact PC.letter 1)
 clear hp25
 obtain ⟨p32, hp32⟩ : ∃ z : List Tm, z = mulP p25 p25 := ⟨_, rfl⟩
 have Hp32 := Lib.hid hp32
 have PCp32 := Lib.hid (show PC p32 1 7 2 by rw [hp32]; exact PCp25.out.mul PCp25.out)
 clear hp32
 obtain ⟨p36, hp36⟩ : ∃ z : List Tm, z = addP p9 p32 := ⟨_, rfl⟩
 have Hp36 := Lib.hid hp36
 have PCp36 := Lib.hid (show PC p36 2 15 2 by rw [hp36]; exact PCp9.out.add PCp32.out 7 2 (by decide) (by decide) (by decide) (by decide))
 clear hp36
 obtain ⟨q52, hq52⟩ : ∃ z : Rat, z = ((1 : Int) : Rat) / ((2 : Int) : Rat) := ⟨_, rfl⟩
 have Hq52 := Lib.hid hq52
 have LQq52 := Lib.hid (show LQ q52 3 by rw [hq52]; exact LQ.of (by decide) (by decide) (by decide) (by decide) (by decide))
 clear hq52
 obtain ⟨q58, hq58⟩ : ∃ z : Rat, z = ((0 : Int) : Rat) := ⟨_, rfl⟩
 have Hq58 := Lib.hid hq58
 have LQq58 := Lib.hid (show LQ q58 3 by rw [hq58]; exact LQ.int (by decide) (by decide))
 clear hq58
 obtain ⟨l64, hl64⟩ : ∃ z : Nat → Rat, z = l4 q52 q58 q58 q58 := ⟨_, rfl⟩
 have Hl64 := Lib.hid hl64
 have HLl64 := Lib.hid (show ∀ i, LQ (l64 i) 3 by rw [hl64]; exact l4_lq (LQq52.out.up (by decide)) (LQq58.out.up (by decide)) (LQq58.out.up (by decide)) (LQq58.out.up (by decide)))
 clear hl64
 obtain ⟨q65, hq65⟩ : ∃ z : Rat, z = ev p13 (atM l64) := ⟨_, rfl⟩
 have Hq65 := Lib.hid hq65
 have LQq65 := Lib.hid (show LQ q65 78 by rw [hq65]; exact PCp13.out.at HLl64.out)
 clear hq65
 obtain ⟨p71, hp71⟩ : ∃ z : List Tm, z = mulP p13 p13 := ⟨_, rfl⟩
 have Hp71 := Lib.hid hp71
 have PCp71 := Lib.hid (show PC p71 4 38 2 by rw [hp71]; exact PCp13.out.mul PCp13.out)
 clear hp71
 obtain ⟨p83, hp83⟩ : ∃ z : List Tm, z = slopeP p71 0 := ⟨_, rfl⟩
 have Hp83 := Lib.hid hp83
 have PCp83 := Lib.hid (show PC p83 4 168 2 by rw [hp83]; exact PCp71.out.slope 0 (by decide))
 clear hp83
 obtain ⟨p87, hp87⟩ : ∃ z : List Tm, z = coefP p71 0 1 := ⟨_, rfl⟩
 have Hp87 := Lib.hid hp87
 have PCp87 := Lib.hid (show PC p87 4 38 2 by rw [hp87]; exact PCp71.out.coef 0 1)
 clear hp87
 obtain ⟨p88, hp88⟩ : ∃ z : List Tm, z = addP p13 p13 := ⟨_, rfl⟩
 have Hp88 := Lib.hid hp88
 have PCp88 := Lib.hid (show PC p88 4 19 1 by rw [hp88]; exact PCp13.out.add PCp13.out 9 1 (by decide) (by decide) (by decide) (by decide))
 clear hp88
 obtain ⟨p89, hp89⟩ : ∃ z : List Tm, z = subP p13 p13 := ⟨_, rfl⟩
 have Hp89 := Lib.hid hp89
 have PCp89 := Lib.hid (show PC p89 4 25 1 by rw [hp89]; exact PCp13.out.sub PCp13.out 12 1 (by decide) (by decide) (by decide) (by decide))
 clear hp89
 obtain ⟨p90, hp90⟩ : ∃ z : List Tm, z = nf [(Mo.one, q17)] := ⟨_, rfl⟩
 have Hp90 := Lib.hid hp90
 have PCp90 := Lib.hid (show PC p90 1 4 0 by rw [hp90]; exact PC.of LQq17.out)
 clear hp90
 go_enter Tryz.func9, Tryz.ntmps9
 go_wp2_with fail
 have CT := Lib.hid (qof 1 w (by decide) (by decide))
 rw [show ((1 : Int) : Rat) = q1 from Hq1.out.symm] at CT
 with_reducible refine CT.out.mono ?_
 rintro e w2 ⟨x3, rfl, hN4, hb⟩
 have N4 := Lib.hid hN4
 clear hN4
 clear CT
 have KG := Lib.hid (KG.out.trans (hb.mono KG.out.size))
 clear hb
 go_wp2_with fail
 have CT := Lib.hid (pof (N4.out).k.any (((N4.out).k).len LQq1.out (by decide : _ ≤ 900000)) LQq1.out (by decide))
 rw [show nf [(Mo.one, q1)] = p5 from Hp5.out.symm] at CT
 with_reducible refine CT.out.mono ?_
 rintro e w6 ⟨z7, rfl, hN8, hb⟩
 have N8 := Lib.hid hN8
 clear hN8
 clear CT
 clear N4
 have KG := Lib.hid (KG.out.trans (hb.mono KG.out.size))
 clear hb
 go_wp2_with fail
 have CT := Lib.hid (show Calls Tryz.prog 25 #[.int .i64 0] w6 _ from llet_k 0 (by decide) w6)
 rw [show letP 0 = p9 from Hp9.out.symm] at CT
 with_reducible refine CT.out.mono ?_
 rintro e w10 ⟨z11, rfl, hN12, hb⟩
 have N12 := Lib.hid hN12
 clear hN12
 clear CT
 have N8 := Lib.hid (N8.out.below hb)
 have KG := Lib.hid (KG.out.trans (hb.mono KG.out.size))
 clear hb
 go_wp2_with fail
 have CT := Lib.hid (padd N12.out.k PCp9.out N8.out.k PCp5.out 4 (by decide) (by decide) (by decide) (by decide))
 rw [show addP p9 p5 = p13 from Hp13.out.symm] at CT
 with_reducible refine CT.out.mono ?_
 rintro e w14 ⟨z15, rfl, hN16, hb⟩
 have N16 := Lib.hid hN16
 clear hN16
 clear CT
 clear N8
 clear N12
 have KG := Lib.hid (KG.out.trans (hb.mono KG.out.size))
 clear hb
 go_wp2_with fail
 have CT := Lib.hid (qof 2 w14 (by decide) (by decide))
 rw [show ((2 : Int) : Rat) = q17 from Hq17.out.symm] at CT
 with_reducible refine CT.out.mono ?_
 rintro e w18 ⟨x19, rfl, hN20, hb⟩
 have N20 := Lib.hid hN20
 clear hN20
 clear CT
 have N16 := Lib.hid (N16.out.below hb)
 have KG := Lib.hid (KG.out.trans (hb.mono KG.out.size))
 clear hb
 go_wp2_with fail
 have CT := Lib.hid (pscale N16.out.k PCp13.out (N20.out).k.any (((N20.out).k).len LQq17.out (by decide : _ ≤ 900000)) LQq17.out (by decide) (by decide) (by decide) (by decide))
 rw [show scaleP q17 p13 = p21 from Hp21.out.symm] at CT
 with_reducible refine CT.out.mono ?_
 rintro e w22 ⟨z23, rfl, hN24, hb⟩
 have N24 := Lib.hid hN24
 clear hN24
 clear CT
 have N16 := Lib.hid (N16.out.below hb)
 clear N20
 have KG := Lib.hid (KG.out.trans (hb.mono KG.out.size))
 clear hb
 go_wp2_with fail
 have CT := Lib.hid (show Calls Tryz.prog 25 #[.int .i64 1] w22 _ from llet_k 1 (by decide) w22)
 rw [show letP 1 = p25 from Hp25.out.symm] at CT
 with_reducible refine CT.out.mono ?_
 rintro e w26 ⟨z27, rfl, hN28, hb⟩
 have N28 := Lib.hid hN28
 clear hN28
 clear CT
 have N16 := Lib.hid (N16.out.below hb)
 have N24 := Lib.hid (N24.out.below hb)
 have KG := Lib.hid (KG.out.trans (hb.mono KG.out.size))
 clear hb
 go_wp2_with fail
 have CT := Lib.hid (show Calls Tryz.prog 25 #[.int .i64 0] w26 _ from llet_k 0 (by decide) w26)
 rw [show letP 0 = p9 from Hp9.out.symm] at CT
 with_reducible refine CT.out.mono ?_
 rintro e w29 ⟨z30, rfl, hN31, hb⟩
 have N31 := Lib.hid hN31
 clear hN31
 clear CT
 have N16 := Lib.hid (N16.out.below hb)
 have N24 := Lib.hid (N24.out.below hb)
 have N28 := Lib.hid (N28.out.below hb)
 have KG := Lib.hid (KG.out.trans (hb.mono KG.out.size))
 clear hb
 go_wp2_with fail
 have CT := Lib.hid (plmul N28.out.k PCp25.out N28.out.k PCp25.out (by decide) (by decide) (by decide) (by decide) (by decide) (by decide) (by decide))
 rw [show mulP p25 p25 = p32 from Hp32.out.symm] at CT
 with_reducible refine CT.out.mono ?_
 rintro e w33 ⟨z34, rfl, hN35, hb⟩
 have N35 := Lib.hid hN35
 clear hN35
 clear CT
 have N16 := Lib.hid (N16.out.below hb)
 have N24 := Lib.hid (N24.out.below hb)
 clear N28
 have N31 := Lib.hid (N31.out.below hb)
 have KG := Lib.hid (KG.out.trans (hb.mono KG.out.size))
 clear hb
 go_wp2_with fail
 have CT := Lib.hid (padd N31.out.k PCp9.out N35.out.k PCp32.out 7 (by decide) (by decide) (by decide) (by decide))
 rw [show addP p9 p32 = p36 from Hp36.out.symm] at CT
 with_reducible refine CT.out.mono ?_
 rintro e w37 ⟨z38, rfl, hN39, hb⟩
 have N39 := Lib.hid hN39
 clear hN39
 clear CT
 have N16 := Lib.hid (N16.out.below hb)
 have N24 := Lib.hid (N24.out.below hb)
 clear N31
 clear N35
 have KG := Lib.hid (KG.out.trans (hb.mono KG.out.size))
 clear hb
 go_wp2_with fail
 have CT := Lib.hid (plead 1 N39.out.k PCp36.out (by decide) (by decide) (by simp only [Hp36.out, Hp32.out, Hp25.out, Hp21.out, Hq17.out, Hp13.out, Hp9.out, Hp5.out, Hq1.out]; decide +kernel))
 with_reducible refine CT.out.mono ?_
 rintro e w40 ⟨x41, ⟨m44, q45⟩, rfl, hN, hld, hb⟩
 clear CT
 have N16 := Lib.hid (N16.out.below hb)
 have N24 := Lib.hid (N24.out.below hb)
 clear N39
 have KG := Lib.hid (KG.out.trans (hb.mono KG.out.size))
 clear hb
 have N43 := Lib.hid (show DF w40 w37.heap.size x41 q45 from hN)
 have HLDm44 := Lib.hid (show Lead (keyO 1) p36 (m44, q45) from hld)
 have LQq45 := Lib.hid (show LQ q45 60 from (PCp36.out.up (Nat.le_refl _) (by decide) (Nat.le_refl _)).b.lq _ hld.1)
 clear hN hld
 clear N43
 have hm : m44 = ⟨0, 2, 0, 0⟩ := lead_is HLDm44.out ⟨0, 2, 0, 0⟩ (by simp only [Hp36.out, Hp32.out, Hp25.out, Hp21.out, Hq17.out, Hp13.out, Hp9.out, Hp5.out, Hq1.out]; decide +kernel)
 have HM0 := Lib.hid (show ((m44.x : Nat) : Int) = 0 by rw [hm]; rfl)
 have HM1 := Lib.hid (show ((m44.y : Nat) : Int) = 2 by rw [hm]; rfl)
 have HM2 := Lib.hid (show ((m44.z : Nat) : Int) = 0 by rw [hm]; rfl)
 have HM3 := Lib.hid (show ((m44.t : Nat) : Int) = 0 by rw [hm]; rfl)
 clear hm
 go_upto_region 6 with (fail)
 obtain ⟨v47, hV⟩ : ∃ V, V = w40.alloc (.cells #[.bool x41.t.s, .slice x41.t.a x41.t.n x41.t.c, .bool x41.l.s, .slice x41.l.a x41.l.n x41.l.c, .int .u16 m44.x, .int .u16 m44.y, .int .u16 m44.z, .int .u16 m44.t] 40) := ⟨_, rfl⟩
 have hbV : Below w40.heap.size w40 v47 := by rw [hV]; exact ((Below.refl _ _).alloc (Nat.le_refl _) _)
 have BX46 := Lib.hid (show Bxs v47 (w40.heap.size) 40 [.bool x41.t.s, .slice x41.t.a x41.t.n x41.t.c, .bool x41.l.s, .slice x41.l.a x41.l.n x41.l.c, .int .u16 m44.x, .int .u16 m44.y, .int .u16 m44.z, .int .u16 m44.t] by have h := Bxs.new (w40) 40 [.bool x41.t.s, .slice x41.t.a x41.t.n x41.t.c, .bool x41.l.s, .slice x41.l.a x41.l.n x41.l.c, .int .u16 m44.x, .int .u16 m44.y, .int .u16 m44.z, .int .u16 m44.t]; rw [hV]; exact h)
 rw [show w40.alloc (.cells #[.bool x41.t.s, .slice x41.t.a x41.t.n x41.t.c, .bool x41.l.s, .slice x41.l.a x41.l.n x41.l.c, .int .u16 m44.x, .int .u16 m44.y, .int .u16 m44.z, .int .u16 m44.t] 40) = v47 from hV.symm]
 have N16 := Lib.hid (N16.out.below hbV)
 have N24 := Lib.hid (N24.out.below hbV)
 have KG := Lib.hid (KG.out.trans (hbV.mono KG.out.size))
 clear hV hbV
 go_wp2_with fail
 have CT := Lib.hid (lead_nil 0 ⟨none, 0, 0⟩ v47 (KP.nil _ _ _).any (by decide))
 with_reducible refine CT.out.mono ?_
 rintro e w48 ⟨rfl, hb⟩
 clear CT
 have N16 := Lib.hid (N16.out.below hb)
 have N24 := Lib.hid (N24.out.below hb)
 have BX46 := Lib.hid (BX46.out.below hb BX46.out.lt)
 have KG := Lib.hid (KG.out.trans (hb.mono KG.out.size))
 clear hb
 go_upto_region 7 with (fail)
 obtain ⟨v50, hV⟩ : ∃ V, V = w48.alloc (.cells #[.bool false, .slice none 0 0, .bool false, .slice none 0 0, .int .u16 0, .int .u16 0, .int .u16 0, .int .u16 0] 40) := ⟨_, rfl⟩
 have hbV : Below w48.heap.size w48 v50 := by rw [hV]; exact ((Below.refl _ _).alloc (Nat.le_refl _) _)
 have BX49 := Lib.hid (show Bxs v50 (w48.heap.size) 40 [.bool false, .slice none 0 0, .bool false, .slice none 0 0, .int .u16 0, .int .u16 0, .int .u16 0, .int .u16 0] by have h := Bxs.new (w48) 40 [.bool false, .slice none 0 0, .bool false, .slice none 0 0, .int .u16 0, .int .u16 0, .int .u16 0, .int .u16 0]; rw [hV]; exact h)
 rw [show w48.alloc (.cells #[.bool false, .slice none 0 0, .bool false, .slice none 0 0, .int .u16 0, .int .u16 0, .int .u16 0, .int .u16 0] 40) = v50 from hV.symm]
 have N16 := Lib.hid (N16.out.below hbV)
 have N24 := Lib.hid (N24.out.below hbV)
 have BX46 := Lib.hid (BX46.out.below hbV BX46.out.lt)
 have KG := Lib.hid (KG.out.trans (hbV.mono KG.out.size))
 clear hV hbV
 clear BX49
 go_wp2_with fail
 have CT := Lib.hid (letter_out 4 (by decide) v50)
 with_reducible refine CT.out.mono ?_
 rintro e w51 ⟨rfl, hb⟩
 clear CT
 have N16 := Lib.hid (N16.out.below hb)
 have N24 := Lib.hid (N24.out.below hb)
 have BX46 := Lib.hid (BX46.out.below hb BX46.out.lt)
 have KG := Lib.hid (KG.out.trans (hb.mono KG.out.size))
 clear hb
 go_wp2_with fail
 have CT := Lib.hid (phalf w51)
 rw [show ((1 : Int) : Rat) / ((2 : Int) : Rat) = q52 from Hq52.out.symm] at CT
 with_reducible refine CT.out.mono ?_
 rintro e w53 ⟨x54, rfl, hN55, hb⟩
 have N55 := Lib.hid hN55
 clear hN55
 clear CT
 have N16 := Lib.hid (N16.out.below hb)
 have N24 := Lib.hid (N24.out.below hb)
 have BX46 := Lib.hid (BX46.out.below hb BX46.out.lt)
 have KG := Lib.hid (KG.out.trans (hb.mono KG.out.size))
 clear hb
 go_upto_region 9 with (fail)
 obtain ⟨v57, hV⟩ : ∃ V, V = w53.alloc (.cells #[.bool x54.t.s, .slice x54.t.a x54.t.n x54.t.c, .bool x54.l.s, .slice x54.l.a x54.l.n x54.l.c] 35) := ⟨_, rfl⟩
 have hbV : Below w53.heap.size w53 v57 := by rw [hV]; exact ((Below.refl _ _).alloc (Nat.le_refl _) _)
 have BX56 := Lib.hid (show Bxs v57 (w53.heap.size) 35 [.bool x54.t.s, .slice x54.t.a x54.t.n x54.t.c, .bool x54.l.s, .slice x54.l.a x54.l.n x54.l.c] by have h := Bxs.new (w53) 35 [.bool x54.t.s, .slice x54.t.a x54.t.n x54.t.c, .bool x54.l.s, .slice x54.l.a x54.l.n x54.l.c]; rw [hV]; exact h)
 rw [show w53.alloc (.cells #[.bool x54.t.s, .slice x54.t.a x54.t.n x54.t.c, .bool x54.l.s, .slice x54.l.a x54.l.n x54.l.c] 35) = v57 from hV.symm]
 have N16 := Lib.hid (N16.out.below hbV)
 have N24 := Lib.hid (N24.out.below hbV)
 have N55 := Lib.hid (N55.out.below hbV)
 have BX46 := Lib.hid (BX46.out.below hbV BX46.out.lt)
 have KG := Lib.hid (KG.out.trans (hbV.mono KG.out.size))
 clear hV hbV
 go_wp2_with fail
 have CT := Lib.hid (qof 0 v57 (by decide) (by decide))
 rw [show ((0 : Int) : Rat) = q58 from Hq58.out.symm] at CT
 with_reducible refine CT.out.mono ?_
 rintro e w59 ⟨x60, rfl, hN61, hb⟩
 have N61 := Lib.hid hN61
 clear hN61
 clear CT
 have N16 := Lib.hid (N16.out.below hb)
 have N24 := Lib.hid (N24.out.below hb)
 have N55 := Lib.hid (N55.out.below hb)
 have BX46 := Lib.hid (BX46.out.below hb BX46.out.lt)
 have BX56 := Lib.hid (BX56.out.below hb BX56.out.lt)
 have KG := Lib.hid (KG.out.trans (hb.mono KG.out.size))
 clear hb
 go_upto_region 10 with (fail)
 obtain ⟨v63, hV⟩ : ∃ V, V = w59.alloc (.cells #[.bool x60.t.s, .slice x60.t.a x60.t.n x60.t.c, .bool x60.l.s, .slice x60.l.a x60.l.n x60.l.c] 35) := ⟨_, rfl⟩
 have hbV : Below w59.heap.size w59 v63 := by rw [hV]; exact ((Below.refl _ _).alloc (Nat.le_refl _) _)
 have BX62 := Lib.hid (show Bxs v63 (w59.heap.size) 35 [.bool x60.t.s, .slice x60.t.a x60.t.n x60.t.c, .bool x60.l.s, .slice x60.l.a x60.l.n x60.l.c] by have h := Bxs.new (w59) 35 [.bool x60.t.s, .slice x60.t.a x60.t.n x60.t.c, .bool x60.l.s, .slice x60.l.a x60.l.n x60.l.c]; rw [hV]; exact h)
 rw [show w59.alloc (.cells #[.bool x60.t.s, .slice x60.t.a x60.t.n x60.t.c, .bool x60.l.s, .slice x60.l.a x60.l.n x60.l.c] 35) = v63 from hV.symm]
 have N16 := Lib.hid (N16.out.below hbV)
 have N24 := Lib.hid (N24.out.below hbV)
 have N55 := Lib.hid (N55.out.below hbV)
 have N61 := Lib.hid (N61.out.below hbV)
 have BX46 := Lib.hid (BX46.out.below hbV BX46.out.lt)
 have BX56 := Lib.hid (BX56.out.below hbV BX56.out.lt)
 have KG := Lib.hid (KG.out.trans (hbV.mono KG.out.size))
 clear hV hbV
 have cBX560 := BX56.out.cell (i := 0) rfl
 have cBX561 := BX56.out.cell (i := 1) rfl
 have cBX562 := BX56.out.cell (i := 2) rfl
 have cBX563 := BX56.out.cell (i := 3) rfl
 have cBX56f := BX56.out.fz
 have cBX56l := BX56.out.lt
 have cBX620 := BX62.out.cell (i := 0) rfl
 have cBX621 := BX62.out.cell (i := 1) rfl
 have cBX622 := BX62.out.cell (i := 2) rfl
 have cBX623 := BX62.out.cell (i := 3) rfl
 have cBX62f := BX62.out.fz
 have cBX62l := BX62.out.lt
 go_wp2_with fail
 have CT := Lib.hid (pat N16.out.k PCp13.out (show K4 v63 x54 x60 x60 x60 l64 by rw [Hl64.out]; exact k4_of (N55.out).k (N61.out).k (N61.out).k (N61.out).k) HLl64.out (by decide) (by decide) (by decide) (by decide))
 rw [show ev p13 (atM l64) = q65 from Hq65.out.symm] at CT
 with_reducible refine CT.out.mono ?_
 rintro e w66 ⟨x67, rfl, hN68, hb⟩
 have N68 := Lib.hid hN68
 clear hN68
 clear CT
 clear cBX560 cBX561 cBX562 cBX563 cBX56f cBX56l
 clear cBX620 cBX621 cBX622 cBX623 cBX62f cBX62l
 have N16 := Lib.hid (N16.out.below hb)
 have N24 := Lib.hid (N24.out.below hb)
 clear N55
 clear N61
 have BX46 := Lib.hid (BX46.out.below hb BX46.out.lt)
 clear BX56
 clear BX62
 have KG := Lib.hid (KG.out.trans (hb.mono KG.out.size))
 clear hb
 go_upto_region 11 with (fail)
 obtain ⟨v70, hV⟩ : ∃ V, V = w66.alloc (.cells #[.bool x67.t.s, .slice x67.t.a x67.t.n x67.t.c, .bool x67.l.s, .slice x67.l.a x67.l.n x67.l.c] 35) := ⟨_, rfl⟩
 have hbV : Below w66.heap.size w66 v70 := by rw [hV]; exact ((Below.refl _ _).alloc (Nat.le_refl _) _)
 have BX69 := Lib.hid (show Bxs v70 (w66.heap.size) 35 [.bool x67.t.s, .slice x67.t.a x67.t.n x67.t.c, .bool x67.l.s, .slice x67.l.a x67.l.n x67.l.c] by have h := Bxs.new (w66) 35 [.bool x67.t.s, .slice x67.t.a x67.t.n x67.t.c, .bool x67.l.s, .slice x67.l.a x67.l.n x67.l.c]; rw [hV]; exact h)
 rw [show w66.alloc (.cells #[.bool x67.t.s, .slice x67.t.a x67.t.n x67.t.c, .bool x67.l.s, .slice x67.l.a x67.l.n x67.l.c] 35) = v70 from hV.symm]
 have N16 := Lib.hid (N16.out.below hbV)
 have N24 := Lib.hid (N24.out.below hbV)
 have N68 := Lib.hid (N68.out.below hbV)
 have BX46 := Lib.hid (BX46.out.below hbV BX46.out.lt)
 have KG := Lib.hid (KG.out.trans (hbV.mono KG.out.size))
 clear hV hbV
 go_wp2_with fail
 have CT := Lib.hid (plmul N16.out.k PCp13.out N16.out.k PCp13.out (by decide) (by decide) (by decide) (by decide) (by decide) (by decide) (by decide))
 rw [show mulP p13 p13 = p71 from Hp71.out.symm] at CT
 with_reducible refine CT.out.mono ?_
 rintro e w72 ⟨z73, rfl, hN74, hb⟩
 have N74 := Lib.hid hN74
 clear hN74
 clear CT
 have N16 := Lib.hid (N16.out.below hb)
 have N24 := Lib.hid (N24.out.below hb)
 have N68 := Lib.hid (N68.out.below hb)
 have BX46 := Lib.hid (BX46.out.below hb BX46.out.lt)
 have BX69 := Lib.hid (BX69.out.below hb BX69.out.lt)
 have KG := Lib.hid (KG.out.trans (hb.mono KG.out.size))
 clear hb
 go_wp2_with fail
 have CT := Lib.hid (show Calls Tryz.prog 22 #[z73.v, .int .i64 0] w72 _ from pcoefs 0 (by decide) N74.out.k PCp71.out (by decide) (by decide))
 with_reducible refine CT.out.mono ?_
 rintro e w75 ⟨a76, n77, c78, rfl, hN79, hb⟩
 have N79 := Lib.hid hN79
 clear hN79
 clear CT
 have N16 := Lib.hid (N16.out.below hb)
 have N24 := Lib.hid (N24.out.below hb)
 have N68 := Lib.hid (N68.out.below hb)
 clear N74
 have BX46 := Lib.hid (BX46.out.below hb BX46.out.lt)
 have BX69 := Lib.hid (BX69.out.below hb BX69.out.lt)
 have KG := Lib.hid (KG.out.trans (hb.mono KG.out.size))
 clear hb
 go_wp2_with fail
 have CT := Lib.hid (plmul N16.out.k PCp13.out N16.out.k PCp13.out (by decide) (by decide) (by decide) (by decide) (by decide) (by decide) (by decide))
 rw [show mulP p13 p13 = p71 from Hp71.out.symm] at CT
 with_reducible refine CT.out.mono ?_
 rintro e w80 ⟨z81, rfl, hN82, hb⟩
 have N82 := Lib.hid hN82
 clear hN82
 clear CT
 have N16 := Lib.hid (N16.out.below hb)
 have N24 := Lib.hid (N24.out.below hb)
 have N68 := Lib.hid (N68.out.below hb)
 have N79 := Lib.hid (N79.out.below hb)
 have BX46 := Lib.hid (BX46.out.below hb BX46.out.lt)
 have BX69 := Lib.hid (BX69.out.below hb BX69.out.lt)
 have KG := Lib.hid (KG.out.trans (hb.mono KG.out.size))
 clear hb
 go_wp2_with fail
 have CT := Lib.hid (show Calls Tryz.prog 29 #[z81.v, .int .i64 0] w80 _ from pslope 0 (by decide) N82.out.k PCp71.out (by decide) (by decide) (by decide))
 rw [show slopeP p71 0 = p83 from Hp83.out.symm] at CT
 with_reducible refine CT.out.mono ?_
 rintro e w84 ⟨z85, rfl, hN86, hb⟩
 have N86 := Lib.hid hN86
 clear hN86
 clear CT
 have N16 := Lib.hid (N16.out.below hb)
 have N24 := Lib.hid (N24.out.below hb)
 have N68 := Lib.hid (N68.out.below hb)
 have N79 := Lib.hid (N79.out.below hb)
 clear N82
 have BX46 := Lib.hid (BX46.out.below hb BX46.out.lt)
 have BX69 := Lib.hid (BX69.out.below hb BX69.out.lt)
 have KG := Lib.hid (KG.out.trans (hb.mono KG.out.size))
 clear hb
 have hn3 : n77 = 3 := by have h := N79.out.len; rw [show degP p71 0 = 2 from by simp only [Hp83.out, Hp71.out, Hq65.out, Hl64.out, Hq58.out, Hq52.out, Hp36.out, Hp32.out, Hp25.out, Hp21.out, Hq17.out, Hp13.out, Hp9.out, Hp5.out, Hq1.out]; decide +kernel] at h; omega
 subst hn3
 obtain ⟨cb, z1, hca, hcc, hkz⟩ := N79.out.get 1 (by decide)
 subst hca
 have HCC := Lib.hid (fun (w' : World) (hb' : Below w84.heap.size w84 w') => (hb'.cell (p := ⟨cb, 1, none⟩) (block_lt_of_cell hcc)).trans hcc)
 have NZ1 := Lib.hid (show KP w84 z1 p87 by rw [Hp87.out]; exact hkz)
 clear hcc hkz
 have HQT := Lib.hid (show q65 = ((3 : Int) : Rat) / ((2 : Int) : Rat) by simp only [Hp87.out, Hp83.out, Hp71.out, Hq65.out, Hl64.out, Hq58.out, Hq52.out, Hp36.out, Hp32.out, Hp25.out, Hp21.out, Hq17.out, Hp13.out, Hp9.out, Hp5.out, Hq1.out]; decide +kernel)
 go_upto_region 13 with (fail)
 refine Go.FreshS.wp_region_fresh 81 [] (Go.FreshS.spOf [(26, Go.FreshS.Sp.made (fun x : PV => x.v) (fun x w' => DP w' w84.heap.size x p88) (fun _ _ => False)), (28, Go.FreshS.Sp.know (.bool true)), (33, Go.FreshS.Sp.made (fun x : PV => x.v) (fun x w' => DP w' w84.heap.size x p89) (fun _ _ => False)), (40, Go.FreshS.Sp.made (fun x : PV => x.v) (fun x w' => DP w' w84.heap.size x p71) (fun _ _ => False)), (46, Go.FreshS.Sp.know (.string ⟨[51, 47, 50].toArray⟩)), (58, Go.FreshS.Sp.made (fun x : FV => x.v) (fun x w' => DF w' w84.heap.size x q17) FV.blk), (59, Go.FreshS.Sp.made (fun x : PV => x.v) (fun x w' => DP w' w84.heap.size x p90) (fun _ _ => False)), (60, Go.FreshS.Sp.know (.bool true)), (65, Go.FreshS.Sp.know (.bool true)), (68, Go.FreshS.Sp.know (.int .i64 (-1))), (73, Go.FreshS.Sp.know (.int .i64 (-1))), (78, Go.FreshS.Sp.know (.int .i64 1))])
  (fun w' => Below w84.heap.size w84 w') (by kernel_rfl) ((congrArg (fun o => Region.lexTailB .any o 81) (show _ = paOps by kernel_rfl)).trans paChk) (by kernel_rfl)
  (Go.FreshS.spOf_cons (Go.FreshS.Sp.made_keepsB _ (fun _ _ _ h hb => h.below hb) (fun _ _ h => by cases h)) (Go.FreshS.spOf_cons (Go.FreshS.Sp.know_keeps _ _) (Go.FreshS.spOf_cons (Go.FreshS.Sp.made_keepsB _ (fun _ _ _ h hb => h.below hb) (fun _ _ h => by cases h)) (Go.FreshS.spOf_cons (Go.FreshS.Sp.made_keepsB _ (fun _ _ _ h hb => h.below hb) (fun _ _ h => by cases h)) (Go.FreshS.spOf_cons (Go.FreshS.Sp.know_keeps _ _) (Go.FreshS.spOf_cons (Go.FreshS.Sp.made_keeps _ (fun _ _ _ h _ hk => h.kept hk) (Go.FreshS.notTaken (by kernel_rfl))) (Go.FreshS.spOf_cons (Go.FreshS.Sp.made_keepsB _ (fun _ _ _ h hb => h.below hb) (fun _ _ h => by cases h)) (Go.FreshS.spOf_cons (Go.FreshS.Sp.know_keeps _ _) (Go.FreshS.spOf_cons (Go.FreshS.Sp.know_keeps _ _) (Go.FreshS.spOf_cons (Go.FreshS.Sp.know_keeps _ _) (Go.FreshS.spOf_cons (Go.FreshS.Sp.know_keeps _ _) (Go.FreshS.spOf_cons (Go.FreshS.Sp.know_keeps _ _) (Go.FreshS.spOf_nil))))))))))))) (fun _ _ h hb => h.trans (hb.mono h.size)) ((Below.refl _ _).drew) ?_
 simp only [List.append_eq, List.cons_append, List.nil_append, List.take_succ_cons, List.take_zero, List.drop_succ_cons, List.drop_zero]
 refine Go.FreshS.wpF_reads rfl rfl rfl ?_ (fun w' hw' => ?_) ?_
 rotate_left
 ·have hb' := hw'.world
  skip
  clear hw'
  go_simp
  try rfl
 conv => arg 10; simp only [Act.put, List.setIfInBounds_toArray, List.set_cons_succ, List.set_cons_zero]
 refine Go.FreshS.wpF_reads rfl rfl rfl ?_ (fun w' hw' => ?_) ?_
 rotate_left
 ·have hb' := hw'.world
  skip
  clear hw'
  go_simp
  try rfl
 conv => arg 10; simp only [Act.put, List.setIfInBounds_toArray, List.set_cons_succ, List.set_cons_zero]
 refine Go.FreshS.wpF_reads rfl rfl rfl ?_ (fun w' hw' => ?_) ?_
 rotate_left
 ·have hb' := hw'.world
  skip
  clear hw'
  go_simp
  try rfl
 conv => arg 10; simp only [Act.put, List.setIfInBounds_toArray, List.set_cons_succ, List.set_cons_zero]
 refine Go.FreshS.wpF_readsG (by rfl) rfl rfl ?_ (fun w' hw' => ?_) ?_
 rotate_left
 ·have hb' := hw'.world
  skip
  clear hw'
  go_simp
  try rfl
 conv => arg 10; simp only [Act.put, List.setIfInBounds_toArray, List.set_cons_succ, List.set_cons_zero]
 refine Go.FreshS.wpF_readsG (by rfl) rfl rfl ?_ (fun w' hw' => ?_) ?_
 rotate_left
 ·have hb' := hw'.world
  skip
  clear hw'
  go_simp
  try rfl
 conv => arg 10; simp only [Act.put, List.setIfInBounds_toArray, List.set_cons_succ, List.set_cons_zero]
 refine Go.FreshS.wpF_reads rfl rfl rfl ?_ (fun w' hw' => ?_) ?_
 rotate_left
 ·have hb' := hw'.world
  skip
  clear hw'
  go_simp
  try rfl
 conv => arg 10; simp only [Act.put, List.setIfInBounds_toArray, List.set_cons_succ, List.set_cons_zero]
 refine Go.FreshS.wpF_reads rfl rfl rfl ?_ (fun w' hw' => ?_) ?_
 rotate_left
 ·have hb' := hw'.world
  skip
  clear hw'
  go_simp
  try rfl
 conv => arg 10; simp only [Act.put, List.setIfInBounds_toArray, List.set_cons_succ, List.set_cons_zero]
 refine Go.FreshS.wpF_readsG (by rfl) rfl rfl ?_ (fun w' hw' => ?_) ?_
 rotate_left
 ·have hb' := hw'.world
  skip
  clear hw'
  go_simp
  try rfl
 conv => arg 10; simp only [Act.put, List.setIfInBounds_toArray, List.set_cons_succ, List.set_cons_zero]
 refine Go.FreshS.wpF_readsG (by rfl) rfl rfl ?_ (fun w' hw' => ?_) ?_
 rotate_left
 ·have hb' := hw'.world
  skip
  clear hw'
  go_simp
  try rfl
 conv => arg 10; simp only [Act.put, List.setIfInBounds_toArray, List.set_cons_succ, List.set_cons_zero]
 refine Go.FreshS.wpF_reads rfl rfl rfl ?_ (fun w' hw' => ?_) ?_
 rotate_left
 ·have hb' := hw'.world
  skip
  clear hw'
  go_simp
  try rfl
 conv => arg 10; simp only [Act.put, List.setIfInBounds_toArray, List.set_cons_succ, List.set_cons_zero]
 refine Go.FreshS.wpF_reads rfl rfl rfl ?_ (fun w' hw' => ?_) ?_
 rotate_left
 ·have hb' := hw'.world
  skip
  clear hw'
  go_simp
  try rfl
 conv => arg 10; simp only [Act.put, List.setIfInBounds_toArray, List.set_cons_succ, List.set_cons_zero]
 refine Go.FreshS.wpF_readsG (by rfl) rfl rfl ?_ (fun w' hw' => ?_) ?_
 rotate_left
 ·have hb' := hw'.world
  skip
  clear hw'
  go_simp
  try rfl
 conv => arg 10; simp only [Act.put, List.setIfInBounds_toArray, List.set_cons_succ, List.set_cons_zero]
 refine Go.FreshS.wpF_reads rfl rfl rfl ?_ (fun w' hw' => ?_) ?_
 rotate_left
 ·have hb' := hw'.world
  skip
  clear hw'
  go_simp
  try rfl
 conv => arg 10; simp only [Act.put, List.setIfInBounds_toArray, List.set_cons_succ, List.set_cons_zero]
 refine Go.FreshS.wpF_reads rfl rfl rfl ?_ (fun w' hw' => ?_) ?_
 rotate_left
 ·have hb' := hw'.world
  skip
  clear hw'
  go_simp
  try rfl
 conv => arg 10; simp only [Act.put, List.setIfInBounds_toArray, List.set_cons_succ, List.set_cons_zero]
 refine Go.FreshS.wpF_readsG (by rfl) rfl rfl ?_ (fun w' hw' => ?_) ?_
 rotate_left
 ·have hb' := hw'.world
  skip
  clear hw'
  go_simp
  try rfl
 conv => arg 10; simp only [Act.put, List.setIfInBounds_toArray, List.set_cons_succ, List.set_cons_zero]
 refine Go.FreshS.wpF_readsG (by rfl) rfl rfl ?_ (fun w' hw' => ?_) ?_
 rotate_left
 ·have hb' := hw'.world
  skip
  clear hw'
  go_simp
  try rfl
 conv => arg 10; simp only [Act.put, List.setIfInBounds_toArray, List.set_cons_succ, List.set_cons_zero]
 refine Go.FreshS.wpF_reads rfl rfl rfl ?_ (fun w' hw' => ?_) ?_
 rotate_left
 ·have hb' := hw'.world
  skip
  clear hw'
  go_simp
  try rfl
 conv => arg 10; simp only [Act.put, List.setIfInBounds_toArray, List.set_cons_succ, List.set_cons_zero]
 refine Go.FreshS.wpF_reads rfl rfl rfl ?_ (fun w' hw' => ?_) ?_
 rotate_left
 ·have hb' := hw'.world
  skip
  clear hw'
  go_simp
  try rfl
 conv => arg 10; simp only [Act.put, List.setIfInBounds_toArray, List.set_cons_succ, List.set_cons_zero]
 refine Go.FreshS.wpF_readsG (by rfl) rfl rfl ?_ (fun w' hw' => ?_) ?_
 rotate_left
 ·have hb' := hw'.world
  skip
  clear hw'
  go_simp
  try rfl
 conv => arg 10; simp only [Act.put, List.setIfInBounds_toArray, List.set_cons_succ, List.set_cons_zero]
 refine Go.FreshS.wpF_readsG (by rfl) rfl rfl ?_ (fun w' hw' => ?_) ?_
 rotate_left
 ·have hb' := hw'.world
  have hs0 := (BX46.out.below hb' BX46.out.lt).cell (i := 0) rfl
  have hs1 := (BX46.out.below hb' BX46.out.lt).cell (i := 1) rfl
  have hs2 := (BX46.out.below hb' BX46.out.lt).cell (i := 2) rfl
  have hs3 := (BX46.out.below hb' BX46.out.lt).cell (i := 3) rfl
  have hs4 := (BX46.out.below hb' BX46.out.lt).cell (i := 4) rfl
  have hs5 := (BX46.out.below hb' BX46.out.lt).cell (i := 5) rfl
  have hs6 := (BX46.out.below hb' BX46.out.lt).cell (i := 6) rfl
  have hs7 := (BX46.out.below hb' BX46.out.lt).cell (i := 7) rfl
  have hsf := (BX46.out.below hb' BX46.out.lt).fz
  have hsl := (BX46.out.below hb' BX46.out.lt).lt
  clear hw'
  go_simp
  try rfl
 conv => arg 10; simp only [Act.put, List.setIfInBounds_toArray, List.set_cons_succ, List.set_cons_zero]
 refine Go.FreshS.wpF_readsG (by rfl) rfl rfl ?_ (fun w' hw' => ?_) ?_
 rotate_left
 ·have hb' := hw'.world
  skip
  clear hw'
  go_simp
  try rfl
 conv => arg 10; simp only [Act.put, List.setIfInBounds_toArray, List.set_cons_succ, List.set_cons_zero]
 refine Go.FreshS.wpF_readsG (by rfl) rfl rfl ?_ (fun w' hw' => ?_) ?_
 rotate_left
 ·have hb' := hw'.world
  have e0 := HM0.out
  have e1 := HM1.out
  have e2 := HM2.out
  have e3 := HM3.out
  clear hw'
  go_simp
  try rfl
 conv => arg 10; simp only [Act.put, List.setIfInBounds_toArray, List.set_cons_succ, List.set_cons_zero]
 refine Go.FreshS.wpF_reads rfl rfl rfl ?_ (fun w' hw' => ?_) ?_
 rotate_left
 ·have hb' := hw'.world
  skip
  clear hw'
  go_simp
  try rfl
 conv => arg 10; simp only [Act.put, List.setIfInBounds_toArray, List.set_cons_succ, List.set_cons_zero]
 refine Go.FreshS.wpF_reads rfl rfl rfl ?_ (fun w' hw' => ?_) ?_
 rotate_left
 ·have hb' := hw'.world
  skip
  clear hw'
  go_simp
  try rfl
 conv => arg 10; simp only [Act.put, List.setIfInBounds_toArray, List.set_cons_succ, List.set_cons_zero]
 refine Go.FreshS.wpF_readsG (by rfl) rfl rfl ?_ (fun w' hw' => ?_) ?_
 rotate_left
 ·have hb' := hw'.world
  skip
  clear hw'
  go_simp
  try rfl
 conv => arg 10; simp only [Act.put, List.setIfInBounds_toArray, List.set_cons_succ, List.set_cons_zero]
 refine Go.FreshS.wpF_readsG (by rfl) rfl rfl ?_ (fun w' hw' => ?_) ?_
 rotate_left
 ·have hb' := hw'.world
  skip
  clear hw'
  go_simp
  try rfl
 conv => arg 10; simp only [Act.put, List.setIfInBounds_toArray, List.set_cons_succ, List.set_cons_zero]
 refine Go.FreshS.wpF_gspec (by rfl) rfl rfl (fun w' hw' => ?_) ?_
 ·have hb' := hw'.world
  refine Go.FreshS.gives_of (Go.FreshS.PM (fun x : PV => x.v) (fun x w' => DP w' w84.heap.size x p88) (fun _ _ => False) w'.heap.size) ?_ (fun _ _ h => h.post (fun _ _ => PV.inj))
  go_simp
  have CT := padd (N16.out.below hb').k PCp13.out (N16.out.below hb').k PCp13.out 9 (by decide) (by decide) (by decide) (by decide)
  rw [show addP p13 p13 = p88 from Hp88.out.symm] at CT
  refine CT.mono ?_
  rintro e w'' ⟨za, rfl, ho, hb⟩
  exact ⟨_, rfl, ⟨za, rfl, ho.mono hb'.size, fun _ h => False.elim h⟩, hb⟩
 rintro _ ⟨y26, rfl⟩
 conv => arg 10; simp only [Act.put, List.setIfInBounds_toArray, List.set_cons_succ, List.set_cons_zero]
 refine Go.FreshS.wpF_readsG (by rfl) rfl rfl ?_ (fun w' hw' => ?_) ?_
 rotate_left
 ·have hb' := hw'.world
  skip
  clear hw'
  go_simp
  try rfl
 conv => arg 10; simp only [Act.put, List.setIfInBounds_toArray, List.set_cons_succ, List.set_cons_zero]
 refine Go.FreshS.wpF_gspec (by rfl) rfl rfl (fun w' hw' => ?_) ?_
 ·have hb' := hw'.world
  refine Go.FreshS.gives_of (Go.FreshS.PK (.bool true)) ?_ (fun _ _ h => h.post)
  go_simp
  have f26 := Go.FreshS.made_of (val := (fun x : PV => x.v)) (Φ := fun x w' => DP w' w84.heap.size x p88) (fun _ _ => PV.inj) (hw'.fact 26 (by kernel_rfl))
  have CT := plsame f26.k (N24.out.below hb').k (by simp only [Hp88.out, Hp87.out, Hp83.out, Hp71.out, Hq65.out, Hl64.out, Hq58.out, Hq52.out, Hp36.out, Hp32.out, Hp25.out, Hp21.out, Hq17.out, Hp13.out, Hp9.out, Hp5.out, Hq1.out]; decide +kernel) PCp88.out (by decide) (by decide)
  refine CT.mono ?_
  rintro e w'' ⟨rfl, hb⟩
  exact ⟨_, rfl, rfl, hb⟩
 rintro _ rfl
 conv => arg 10; simp only [Act.put, List.setIfInBounds_toArray, List.set_cons_succ, List.set_cons_zero]
 refine Go.FreshS.wpF_reads rfl rfl rfl ?_ (fun w' hw' => ?_) ?_
 rotate_left
 ·have hb' := hw'.world
  skip
  clear hw'
  go_simp
  try rfl
 conv => arg 10; simp only [Act.put, List.setIfInBounds_toArray, List.set_cons_succ, List.set_cons_zero]
 refine Go.FreshS.wpF_reads rfl rfl rfl ?_ (fun w' hw' => ?_) ?_
 rotate_left
 ·have hb' := hw'.world
  skip
  clear hw'
  go_simp
  try rfl
 conv => arg 10; simp only [Act.put, List.setIfInBounds_toArray, List.set_cons_succ, List.set_cons_zero]
 refine Go.FreshS.wpF_readsG (by rfl) rfl rfl ?_ (fun w' hw' => ?_) ?_
 rotate_left
 ·have hb' := hw'.world
  skip
  clear hw'
  go_simp
  try rfl
 conv => arg 10; simp only [Act.put, List.setIfInBounds_toArray, List.set_cons_succ, List.set_cons_zero]
 refine Go.FreshS.wpF_readsG (by rfl) rfl rfl ?_ (fun w' hw' => ?_) ?_
 rotate_left
 ·have hb' := hw'.world
  skip
  clear hw'
  go_simp
  try rfl
 conv => arg 10; simp only [Act.put, List.setIfInBounds_toArray, List.set_cons_succ, List.set_cons_zero]
 refine Go.FreshS.wpF_gspec (by rfl) rfl rfl (fun w' hw' => ?_) ?_
 ·have hb' := hw'.world
  refine Go.FreshS.gives_of (Go.FreshS.PM (fun x : PV => x.v) (fun x w' => DP w' w84.heap.size x p89) (fun _ _ => False) w'.heap.size) ?_ (fun _ _ h => h.post (fun _ _ => PV.inj))
  go_simp
  have CT := psub (N16.out.below hb').k PCp13.out (N16.out.below hb').k PCp13.out 12 (by decide) (by decide) (by decide) (by decide) (by decide) (by decide)
  rw [show subP p13 p13 = p89 from Hp89.out.symm] at CT
  refine CT.mono ?_
  rintro e w'' ⟨za, rfl, ho, hb⟩
  exact ⟨_, rfl, ⟨za, rfl, ho.mono hb'.size, fun _ h => False.elim h⟩, hb⟩
 rintro _ ⟨y33, rfl⟩
 conv => arg 10; simp only [Act.put, List.setIfInBounds_toArray, List.set_cons_succ, List.set_cons_zero]
 refine Go.FreshS.wpF_readsG (by rfl) rfl rfl ?_ (fun w' hw' => ?_) ?_
 rotate_left
 ·have hb' := hw'.world
  have f33 := Go.FreshS.made_of (val := (fun x : PV => x.v)) (Φ := fun x w' => DP w' w84.heap.size x p89) (fun _ _ => PV.inj) (hw'.fact 33 (by kernel_rfl))
  have hn : ((y33.n : Nat) : Int) = 0 := by rw [show y33.n = 0 from by rw [f33.k.len]; simp only [Hp89.out, Hp88.out, Hp87.out, Hp83.out, Hp71.out, Hq65.out, Hl64.out, Hq58.out, Hq52.out, Hp36.out, Hp32.out, Hp25.out, Hp21.out, Hq17.out, Hp13.out, Hp9.out, Hp5.out, Hq1.out]; decide +kernel]; rfl
  clear hw'
  go_simp
  try rfl
 conv => arg 10; simp only [Act.put, List.setIfInBounds_toArray, List.set_cons_succ, List.set_cons_zero]
 refine Go.FreshS.wpF_readsG (by rfl) rfl rfl ?_ (fun w' hw' => ?_) ?_
 rotate_left
 ·have hb' := hw'.world
  skip
  clear hw'
  go_simp
  try rfl
 conv => arg 10; simp only [Act.put, List.setIfInBounds_toArray, List.set_cons_succ, List.set_cons_zero]
 refine Go.FreshS.wpF_reads rfl rfl rfl ?_ (fun w' hw' => ?_) ?_
 rotate_left
 ·have hb' := hw'.world
  skip
  clear hw'
  go_simp
  try rfl
 conv => arg 10; simp only [Act.put, List.setIfInBounds_toArray, List.set_cons_succ, List.set_cons_zero]
 refine Go.FreshS.wpF_reads rfl rfl rfl ?_ (fun w' hw' => ?_) ?_
 rotate_left
 ·have hb' := hw'.world
  skip
  clear hw'
  go_simp
  try rfl
 conv => arg 10; simp only [Act.put, List.setIfInBounds_toArray, List.set_cons_succ, List.set_cons_zero]
 refine Go.FreshS.wpF_readsG (by rfl) rfl rfl ?_ (fun w' hw' => ?_) ?_
 rotate_left
 ·have hb' := hw'.world
  skip
  clear hw'
  go_simp
  try rfl
 conv => arg 10; simp only [Act.put, List.setIfInBounds_toArray, List.set_cons_succ, List.set_cons_zero]
 refine Go.FreshS.wpF_readsG (by rfl) rfl rfl ?_ (fun w' hw' => ?_) ?_
 rotate_left
 ·have hb' := hw'.world
  skip
  clear hw'
  go_simp
  try rfl
 conv => arg 10; simp only [Act.put, List.setIfInBounds_toArray, List.set_cons_succ, List.set_cons_zero]
 refine Go.FreshS.wpF_gspec (by rfl) rfl rfl (fun w' hw' => ?_) ?_
 ·have hb' := hw'.world
  refine Go.FreshS.gives_of (Go.FreshS.PM (fun x : PV => x.v) (fun x w' => DP w' w84.heap.size x p71) (fun _ _ => False) w'.heap.size) ?_ (fun _ _ h => h.post (fun _ _ => PV.inj))
  go_simp
  have CT := plmul (N16.out.below hb').k PCp13.out (N16.out.below hb').k PCp13.out (by decide) (by decide) (by decide) (by decide) (by decide) (by decide) (by decide)
  rw [show mulP p13 p13 = p71 from Hp71.out.symm] at CT
  refine CT.mono ?_
  rintro e w'' ⟨za, rfl, ho, hb⟩
  exact ⟨_, rfl, ⟨za, rfl, ho.mono hb'.size, fun _ h => False.elim h⟩, hb⟩
 rintro _ ⟨y40, rfl⟩
 conv => arg 10; simp only [Act.put, List.setIfInBounds_toArray, List.set_cons_succ, List.set_cons_zero]
 refine Go.FreshS.wpF_readsG (by rfl) rfl rfl ?_ (fun w' hw' => ?_) ?_
 rotate_left
 ·have hb' := hw'.world
  have f40 := Go.FreshS.made_of (val := (fun x : PV => x.v)) (Φ := fun x w' => DP w' w84.heap.size x p71) (fun _ _ => PV.inj) (hw'.fact 40 (by kernel_rfl))
  have hn : ((y40.n : Nat) : Int) = 3 := by rw [show y40.n = 3 from by rw [f40.k.len]; simp only [Hp89.out, Hp88.out, Hp87.out, Hp83.out, Hp71.out, Hq65.out, Hl64.out, Hq58.out, Hq52.out, Hp36.out, Hp32.out, Hp25.out, Hp21.out, Hq17.out, Hp13.out, Hp9.out, Hp5.out, Hq1.out]; decide +kernel]; rfl
  clear hw'
  go_simp
  try rfl
 conv => arg 10; simp only [Act.put, List.setIfInBounds_toArray, List.set_cons_succ, List.set_cons_zero]
 refine Go.FreshS.wpF_readsG (by rfl) rfl rfl ?_ (fun w' hw' => ?_) ?_
 rotate_left
 ·have hb' := hw'.world
  skip
  clear hw'
  go_simp
  try rfl
 conv => arg 10; simp only [Act.put, List.setIfInBounds_toArray, List.set_cons_succ, List.set_cons_zero]
 refine Go.FreshS.wpF_reads rfl rfl rfl ?_ (fun w' hw' => ?_) ?_
 rotate_left
 ·have hb' := hw'.world
  skip
  clear hw'
  go_simp
  try rfl
 conv => arg 10; simp only [Act.put, List.setIfInBounds_toArray, List.set_cons_succ, List.set_cons_zero]
 refine Go.FreshS.wpF_reads rfl rfl rfl ?_ (fun w' hw' => ?_) ?_
 rotate_left
 ·have hb' := hw'.world
  skip
  clear hw'
  go_simp
  try rfl
 conv => arg 10; simp only [Act.put, List.setIfInBounds_toArray, List.set_cons_succ, List.set_cons_zero]
 refine Go.FreshS.wpF_readsG (by rfl) rfl rfl ?_ (fun w' hw' => ?_) ?_
 rotate_left
 ·have hb' := hw'.world
  have hs0 := (BX69.out.below hb' BX69.out.lt).cell (i := 0) rfl
  have hs1 := (BX69.out.below hb' BX69.out.lt).cell (i := 1) rfl
  have hs2 := (BX69.out.below hb' BX69.out.lt).cell (i := 2) rfl
  have hs3 := (BX69.out.below hb' BX69.out.lt).cell (i := 3) rfl
  have hsf := (BX69.out.below hb' BX69.out.lt).fz
  have hsl := (BX69.out.below hb' BX69.out.lt).lt
  clear hw'
  go_simp
  try rfl
 conv => arg 10; simp only [Act.put, List.setIfInBounds_toArray, List.set_cons_succ, List.set_cons_zero]
 refine Go.FreshS.wpF_gspec (by rfl) rfl rfl (fun w' hw' => ?_) ?_
 ·have hb' := hw'.world
  refine Go.FreshS.gives_of (Go.FreshS.PK (.string ⟨[51, 47, 50].toArray⟩)) ?_ (fun _ _ h => h.post)
  go_simp
  have CT := qtext_two x67 q65 w' (HT.out.on (KG.out.trans (hb'.mono KG.out.size))) ((N68.out.below hb')).k.any ((((N68.out.below hb')).k).len LQq65.out (by decide : _ ≤ 100)) (LQq65.out.up (by decide : _ ≤ 101)) (by rw [HQT.out]; decide +kernel)
  rw [show textQ q65 = [51, 47, 50] from text_c HQT.out] at CT
  refine CT.mono ?_
  rintro e w'' ⟨rfl, hb⟩
  exact ⟨_, rfl, rfl, hb⟩
 rintro _ rfl
 conv => arg 10; simp only [Act.put, List.setIfInBounds_toArray, List.set_cons_succ, List.set_cons_zero]
 refine Go.FreshS.wpF_readsG (by rfl) rfl rfl ?_ (fun w' hw' => ?_) ?_
 rotate_left
 ·have hb' := hw'.world
  skip
  clear hw'
  go_simp
  try rfl
 conv => arg 10; simp only [Act.put, List.setIfInBounds_toArray, List.set_cons_succ, List.set_cons_zero]
 refine Go.FreshS.wpF_reads rfl rfl rfl ?_ (fun w' hw' => ?_) ?_
 rotate_left
 ·have hb' := hw'.world
  skip
  clear hw'
  go_simp
  try rfl
 conv => arg 10; simp only [Act.put, List.setIfInBounds_toArray, List.set_cons_succ, List.set_cons_zero]
 refine Go.FreshS.wpF_reads rfl rfl rfl ?_ (fun w' hw' => ?_) ?_
 rotate_left
 ·have hb' := hw'.world
  skip
  clear hw'
  go_simp
  try rfl
 conv => arg 10; simp only [Act.put, List.setIfInBounds_toArray, List.set_cons_succ, List.set_cons_zero]
 refine Go.FreshS.wpF_readsG (by rfl) rfl rfl ?_ (fun w' hw' => ?_) ?_
 rotate_left
 ·have hb' := hw'.world
  skip
  clear hw'
  go_simp
  try rfl
 conv => arg 10; simp only [Act.put, List.setIfInBounds_toArray, List.set_cons_succ, List.set_cons_zero]
 refine Go.FreshS.wpF_readsG (by rfl) rfl rfl ?_ (fun w' hw' => ?_) ?_
 rotate_left
 ·have hb' := hw'.world
  skip
  clear hw'
  go_simp
  try rfl
 conv => arg 10; simp only [Act.put, List.setIfInBounds_toArray, List.set_cons_succ, List.set_cons_zero]
 refine Go.FreshS.wpF_readsG (by rfl) rfl rfl ?_ (fun w' hw' => ?_) ?_
 rotate_left
 ·have hb' := hw'.world
  skip
  clear hw'
  go_simp
  try rfl
 conv => arg 10; simp only [Act.put, List.setIfInBounds_toArray, List.set_cons_succ, List.set_cons_zero]
 refine Go.FreshS.wpF_reads rfl rfl rfl ?_ (fun w' hw' => ?_) ?_
 rotate_left
 ·have hb' := hw'.world
  skip
  clear hw'
  go_simp
  try rfl
 conv => arg 10; simp only [Act.put, List.setIfInBounds_toArray, List.set_cons_succ, List.set_cons_zero]
 refine Go.FreshS.wpF_reads rfl rfl rfl ?_ (fun w' hw' => ?_) ?_
 rotate_left
 ·have hb' := hw'.world
  skip
  clear hw'
  go_simp
  try rfl
 conv => arg 10; simp only [Act.put, List.setIfInBounds_toArray, List.set_cons_succ, List.set_cons_zero]
 refine Go.FreshS.wpF_readsG (by rfl) rfl rfl ?_ (fun w' hw' => ?_) ?_
 rotate_left
 ·have hb' := hw'.world
  skip
  clear hw'
  go_simp
  try rfl
 conv => arg 10; simp only [Act.put, List.setIfInBounds_toArray, List.set_cons_succ, List.set_cons_zero]
 refine Go.FreshS.wpF_readsG (by rfl) rfl rfl ?_ (fun w' hw' => ?_) ?_
 rotate_left
 ·have hb' := hw'.world
  skip
  clear hw'
  go_simp
  try rfl
 conv => arg 10; simp only [Act.put, List.setIfInBounds_toArray, List.set_cons_succ, List.set_cons_zero]
 refine Go.FreshS.wpF_readsG (by rfl) rfl rfl ?_ (fun w' hw' => ?_) ?_
 rotate_left
 ·have hb' := hw'.world
  have hc := HCC.out w' hb'
  clear hw'
  go_simp
  try rfl
 conv => arg 10; simp only [Act.put, List.setIfInBounds_toArray, List.set_cons_succ, List.set_cons_zero]
 refine Go.FreshS.wpF_gspec (by rfl) rfl rfl (fun w' hw' => ?_) ?_
 ·have hb' := hw'.world
  refine Go.FreshS.gives_of (Go.FreshS.PM (fun x : FV => x.v) (fun x w' => DF w' w84.heap.size x q17) FV.blk w'.heap.size) ?_ (fun _ _ h => h.post (fun _ _ => FV.inj))
  go_simp
  have CT := qof 2 w' (by decide) (by decide)
  rw [show ((2 : Int) : Rat) = q17 from Hq17.out.symm] at CT
  refine CT.mono ?_
  rintro e w'' ⟨za, rfl, ho, hb⟩
  exact ⟨_, rfl, ⟨za, rfl, ho.mono hb'.size, ho.blks⟩, hb⟩
 rintro _ ⟨y58, rfl⟩
 conv => arg 10; simp only [Act.put, List.setIfInBounds_toArray, List.set_cons_succ, List.set_cons_zero]
 refine Go.FreshS.wpF_gspec (by rfl) rfl rfl (fun w' hw' => ?_) ?_
 ·have hb' := hw'.world
  refine Go.FreshS.gives_of (Go.FreshS.PM (fun x : PV => x.v) (fun x w' => DP w' w84.heap.size x p90) (fun _ _ => False) w'.heap.size) ?_ (fun _ _ h => h.post (fun _ _ => PV.inj))
  go_simp
  have f58 := Go.FreshS.made_of (val := (fun x : FV => x.v)) (Φ := fun x w' => DF w' w84.heap.size x q17) (fun _ _ => FV.inj) (hw'.fact 58 (by kernel_rfl))
  have CT := pof (f58).k.any (((f58).k).len LQq17.out (by decide : _ ≤ 900000)) LQq17.out (by decide)
  rw [show nf [(Mo.one, q17)] = p90 from Hp90.out.symm] at CT
  refine CT.mono ?_
  rintro e w'' ⟨za, rfl, ho, hb⟩
  exact ⟨_, rfl, ⟨za, rfl, ho.mono hb'.size, fun _ h => False.elim h⟩, hb⟩
 rintro _ ⟨y59, rfl⟩
 conv => arg 10; simp only [Act.put, List.setIfInBounds_toArray, List.set_cons_succ, List.set_cons_zero]
 refine Go.FreshS.wpF_gspec (by rfl) rfl rfl (fun w' hw' => ?_) ?_
 ·have hb' := hw'.world
  refine Go.FreshS.gives_of (Go.FreshS.PK (.bool true)) ?_ (fun _ _ h => h.post)
  go_simp
  have f59 := Go.FreshS.made_of (val := (fun x : PV => x.v)) (Φ := fun x w' => DP w' w84.heap.size x p90) (fun _ _ => PV.inj) (hw'.fact 59 (by kernel_rfl))
  have CT := plsame (NZ1.out.below hb') f59.k (by simp only [Hp90.out, Hp89.out, Hp88.out, Hp87.out, Hp83.out, Hp71.out, Hq65.out, Hl64.out, Hq58.out, Hq52.out, Hp36.out, Hp32.out, Hp25.out, Hp21.out, Hq17.out, Hp13.out, Hp9.out, Hp5.out, Hq1.out]; decide +kernel) PCp87.out (by decide) (by decide)
  refine CT.mono ?_
  rintro e w'' ⟨rfl, hb⟩
  exact ⟨_, rfl, rfl, hb⟩
 rintro _ rfl
 conv => arg 10; simp only [Act.put, List.setIfInBounds_toArray, List.set_cons_succ, List.set_cons_zero]
 refine Go.FreshS.wpF_reads rfl rfl rfl ?_ (fun w' hw' => ?_) ?_
 rotate_left
 ·have hb' := hw'.world
  skip
  clear hw'
  go_simp
  try rfl
 conv => arg 10; simp only [Act.put, List.setIfInBounds_toArray, List.set_cons_succ, List.set_cons_zero]
 refine Go.FreshS.wpF_reads rfl rfl rfl ?_ (fun w' hw' => ?_) ?_
 rotate_left
 ·have hb' := hw'.world
  skip
  clear hw'
  go_simp
  try rfl
 conv => arg 10; simp only [Act.put, List.setIfInBounds_toArray, List.set_cons_succ, List.set_cons_zero]
 refine Go.FreshS.wpF_readsG (by rfl) rfl rfl ?_ (fun w' hw' => ?_) ?_
 rotate_left
 ·have hb' := hw'.world
  skip
  clear hw'
  go_simp
  try rfl
 conv => arg 10; simp only [Act.put, List.setIfInBounds_toArray, List.set_cons_succ, List.set_cons_zero]
 refine Go.FreshS.wpF_readsG (by rfl) rfl rfl ?_ (fun w' hw' => ?_) ?_
 rotate_left
 ·have hb' := hw'.world
  skip
  clear hw'
  go_simp
  try rfl
 conv => arg 10; simp only [Act.put, List.setIfInBounds_toArray, List.set_cons_succ, List.set_cons_zero]
 refine Go.FreshS.wpF_gspec (by rfl) rfl rfl (fun w' hw' => ?_) ?_
 ·have hb' := hw'.world
  refine Go.FreshS.gives_of (Go.FreshS.PK (.bool true)) ?_ (fun _ _ h => h.post)
  go_simp
  have CT := plsame (N86.out.below hb').k (N24.out.below hb').k (by simp only [Hp90.out, Hp89.out, Hp88.out, Hp87.out, Hp83.out, Hp71.out, Hq65.out, Hl64.out, Hq58.out, Hq52.out, Hp36.out, Hp32.out, Hp25.out, Hp21.out, Hq17.out, Hp13.out, Hp9.out, Hp5.out, Hq1.out]; decide +kernel) PCp83.out (by decide) (by decide)
  refine CT.mono ?_
  rintro e w'' ⟨rfl, hb⟩
  exact ⟨_, rfl, rfl, hb⟩
 rintro _ rfl
 conv => arg 10; simp only [Act.put, List.setIfInBounds_toArray, List.set_cons_succ, List.set_cons_zero]
 refine Go.FreshS.wpF_reads rfl rfl rfl ?_ (fun w' hw' => ?_) ?_
 rotate_left
 ·have hb' := hw'.world
  skip
  clear hw'
  go_simp
  try rfl
 conv => arg 10; simp only [Act.put, List.setIfInBounds_toArray, List.set_cons_succ, List.set_cons_zero]
 refine Go.FreshS.wpF_reads rfl rfl rfl ?_ (fun w' hw' => ?_) ?_
 rotate_left
 ·have hb' := hw'.world
  skip
  clear hw'
  go_simp
  try rfl
 conv => arg 10; simp only [Act.put, List.setIfInBounds_toArray, List.set_cons_succ, List.set_cons_zero]
 refine Go.FreshS.wpF_gspec (by rfl) rfl rfl (fun w' hw' => ?_) ?_
 ·have hb' := hw'.world
  refine Go.FreshS.gives_of (Go.FreshS.PK (.int .i64 (-1))) ?_ (fun _ _ h => h.post)
  go_simp
  have CT := degree_nil w'
  refine CT.mono ?_
  rintro e w'' ⟨rfl, hb⟩
  exact ⟨_, rfl, rfl, hb⟩
 rintro _ rfl
 conv => arg 10; simp only [Act.put, List.setIfInBounds_toArray, List.set_cons_succ, List.set_cons_zero]
 refine Go.FreshS.wpF_readsG (by rfl) rfl rfl ?_ (fun w' hw' => ?_) ?_
 rotate_left
 ·have hb' := hw'.world
  skip
  clear hw'
  go_simp
  try rfl
 conv => arg 10; simp only [Act.put, List.setIfInBounds_toArray, List.set_cons_succ, List.set_cons_zero]
 refine Go.FreshS.wpF_reads rfl rfl rfl ?_ (fun w' hw' => ?_) ?_
 rotate_left
 ·have hb' := hw'.world
  skip
  clear hw'
  go_simp
  try rfl
 conv => arg 10; simp only [Act.put, List.setIfInBounds_toArray, List.set_cons_succ, List.set_cons_zero]
 refine Go.FreshS.wpF_reads rfl rfl rfl ?_ (fun w' hw' => ?_) ?_
 rotate_left
 ·have hb' := hw'.world
  skip
  clear hw'
  go_simp
  try rfl
 conv => arg 10; simp only [Act.put, List.setIfInBounds_toArray, List.set_cons_succ, List.set_cons_zero]
 refine Go.FreshS.wpF_readsG (by rfl) rfl rfl ?_ (fun w' hw' => ?_) ?_
 rotate_left
 ·have hb' := hw'.world
  skip
  clear hw'
  go_simp
  try rfl
 conv => arg 10; simp only [Act.put, List.setIfInBounds_toArray, List.set_cons_succ, List.set_cons_zero]
 refine Go.FreshS.wpF_gspec (by rfl) rfl rfl (fun w' hw' => ?_) ?_
 ·have hb' := hw'.world
  refine Go.FreshS.gives_of (Go.FreshS.PK (.int .i64 (-1))) ?_ (fun _ _ h => h.post)
  go_simp
  have CT := degree_out z15 (4) (by decide) w'
  refine CT.mono ?_
  rintro e w'' ⟨rfl, hb⟩
  exact ⟨_, rfl, rfl, hb⟩
 rintro _ rfl
 conv => arg 10; simp only [Act.put, List.setIfInBounds_toArray, List.set_cons_succ, List.set_cons_zero]
 refine Go.FreshS.wpF_readsG (by rfl) rfl rfl ?_ (fun w' hw' => ?_) ?_
 rotate_left
 ·have hb' := hw'.world
  skip
  clear hw'
  go_simp
  try rfl
 conv => arg 10; simp only [Act.put, List.setIfInBounds_toArray, List.set_cons_succ, List.set_cons_zero]
 refine Go.FreshS.wpF_reads rfl rfl rfl ?_ (fun w' hw' => ?_) ?_
 rotate_left
 ·have hb' := hw'.world
  skip
  clear hw'
  go_simp
  try rfl
 conv => arg 10; simp only [Act.put, List.setIfInBounds_toArray, List.set_cons_succ, List.set_cons_zero]
 refine Go.FreshS.wpF_reads rfl rfl rfl ?_ (fun w' hw' => ?_) ?_
 rotate_left
 ·have hb' := hw'.world
  skip
  clear hw'
  go_simp
  try rfl
 conv => arg 10; simp only [Act.put, List.setIfInBounds_toArray, List.set_cons_succ, List.set_cons_zero]
 refine Go.FreshS.wpF_readsG (by rfl) rfl rfl ?_ (fun w' hw' => ?_) ?_
 rotate_left
 ·have hb' := hw'.world
  skip
  clear hw'
  go_simp
  try rfl
 conv => arg 10; simp only [Act.put, List.setIfInBounds_toArray, List.set_cons_succ, List.set_cons_zero]
 refine Go.FreshS.wpF_gspec (by rfl) rfl rfl (fun w' hw' => ?_) ?_
 ·have hb' := hw'.world
  refine Go.FreshS.gives_of (Go.FreshS.PK (.int .i64 1)) ?_ (fun _ _ h => h.post)
  go_simp
  have CT := show Calls Tryz.prog 18 #[z15.v, .int .i64 0] w' _ from pdegree 0 (by decide) (N16.out.below hb').k PCp13.out (by decide) (by decide)
  rw [show degP p13 0 = 1 from by simp only [Hp90.out, Hp89.out, Hp88.out, Hp87.out, Hp83.out, Hp71.out, Hq65.out, Hl64.out, Hq58.out, Hq52.out, Hp36.out, Hp32.out, Hp25.out, Hp21.out, Hq17.out, Hp13.out, Hp9.out, Hp5.out, Hq1.out]; decide +kernel] at CT
  refine CT.mono ?_
  rintro e w'' ⟨rfl, hb⟩
  exact ⟨_, rfl, rfl, hb⟩
 rintro _ rfl
 conv => arg 10; simp only [Act.put, List.setIfInBounds_toArray, List.set_cons_succ, List.set_cons_zero]
 refine Go.FreshS.wpF_readsG (by rfl) rfl rfl ?_ (fun w' hw' => ?_) ?_
 rotate_left
 ·have hb' := hw'.world
  skip
  clear hw'
  go_simp
  try rfl
 conv => arg 10; simp only [Act.put, List.setIfInBounds_toArray, List.set_cons_succ, List.set_cons_zero]
 refine Go.FreshS.wpF_reads rfl rfl rfl ?_ (fun w' hw' => ?_) ?_
 rotate_left
 ·have hb' := hw'.world
  skip
  clear hw'
  go_simp
  try rfl
 conv => arg 10; simp only [Act.put, List.setIfInBounds_toArray, List.set_cons_succ, List.set_cons_zero]
 refine Go.FreshS.wpF_nil (fun w91 hb hF => ?_)
 clear hF
 clear N16
 clear N24
 clear N68
 clear N79
 clear N86
 clear NZ1
 clear BX46
 clear BX69
 have KG := Lib.hid (KG.out.trans (hb.mono KG.out.size))
 clear hb
 go_wp2_with fail
 go_ret
 exact ⟨rfl, KG.out⟩
end Go.Proofs.YtkkbegkdbcenkaaGreatDoor.Pol
