/-
  The walk of alive of the laws of what all of a sum have: what the document fixes.
-/
import Derived.Test.YthcccdjfedbnfaaGreatDoorPkK
set_option linter.unusedSimpArgs false
set_option linter.unusedVariables false
namespace Go.Proofs.YthcccdjfedbnfaaGreatDoor.Pol
open Go.RowKit Go.Sort Go.Proofs.YthcccdjfedbnfaaGreatDoor.Limb
theorem cmp_sg (q : Rat) : cmpZ q.num 0 = sgQ q := by
 unfold cmpZ sgQ
 split
 ·rfl
 ·split <;> split <;> omega
theorem cont_head {t : Tm} {P : List Tm} (h : P[0]? = some t) : contP P = ((gT P 0 : Int) : Rat) / ((lL P 1 : Int) : Rat) * ((cmpZ t.2.num 0 : Int) : Rat) := by
 match P, h with
 | u :: r, h =>
  obtain rfl : u = t := by simpa using h
  rw [cmp_sg, Rat.intCast_natCast, Rat.intCast_natCast]
  rfl
def Zq (x : FV) : Prop := ∃ a c b d, x = ⟨⟨false, a, 0, c⟩, ⟨false, b, 0, d⟩⟩
theorem Zq.bf {x : FV} (h : Zq x) (w : World) : BF w x := by
 obtain ⟨a, c, b, d, rfl⟩ := h
 exact bf_of (KN.zero w a c) (KN.zero w b d) (by decide)
theorem Zq.lf {x : FV} (h : Zq x) (k : Nat) : LF x k := by
 obtain ⟨a, c, b, d, rfl⟩ := h
 exact ⟨Nat.zero_le _, Nat.zero_le _⟩
def RZQ (w : World) (c : Int) (e : Ending) (w' : World) : Prop := ∃ x : FV, e = .returned (.tuple #[x.v, .int .i64 c]) ∧ Zq x ∧ Below w.heap.size w w'
theorem qdivZ {w : World} {x y : FV} {p q : Rat} (h1 : KF w x p) (b1 : LF x 900000) (h2 : KF w y q) (b2 : LF y 900000) (hq : q = 0) : Calls Tryz.prog 97 #[x.v, y.v] w (RZQ w 6) := by
 have h := fdiv_ok x.t.s x.t.a x.t.n x.t.c _ x.l.s x.l.a x.l.n x.l.c _ y.t.s y.t.a y.t.n y.t.c _ y.l.s y.l.a y.l.n y.l.c _ w h1.t.rd (by omega) h1.t.le h1.l.rd (by omega) h1.l.le h2.t.rd (by omega) h2.t.le h2.l.rd (by omega) h2.l.le h1.okv h2.okv p q h1.valv h2.valv
 rw [if_pos hq, if_pos hq, show (p / q).num = 0 by rw [hq, Rat.div_def, Rat.inv_zero, Rat.mul_zero]; rfl] at h
 refine h.mono fun e w' h => ?_
 obtain ⟨a1, a2, rfl, _, _, _, hb⟩ := h
 refine ⟨⟨⟨false, a1, 0, 0⟩, ⟨false, a2, 0, 0⟩⟩, ?_, ⟨a1, 0, a2, 0, rfl⟩, hb⟩
 rw [show (0 : Int).natAbs = 0 from rfl, lenB_zero]
 rfl
theorem qdivX {w : World} {x y : FV} {p : Rat} (h1 : KF w x p) (b1 : LF x 900000) (h2 : BF w y) (b2 : LF y 900000) : Calls Tryz.prog 97 #[x.v, y.v] w (RZQ w 1) := by
 obtain ⟨⟨o1, o2, r1, r2, hk⟩, l1, l2⟩ := h2
 refine (fdiv_2 x.t.s x.t.a x.t.n x.t.c _ x.l.s x.l.a x.l.n x.l.c _ y.t.s y.t.a y.t.n y.t.c o1 y.l.s y.l.a y.l.n y.l.c o2 w h1.t.rd b1.1 h1.t.le h1.l.rd b1.2 h1.l.le r1 b2.1 l1 r2 b2.2 l2 h1.okv hk).mono fun e w' h => ?_
 obtain ⟨rfl, hb⟩ := h
 exact ⟨⟨⟨false, none, 0, 0⟩, ⟨false, none, 0, 0⟩⟩, rfl, ⟨none, 0, none, 0, rfl⟩, hb⟩
structure T0 (w : World) (b o : Nat) (t : TV) : Prop where
 c : w.cell? ⟨b, o, none⟩ = some (.bool t.c.t.s) ∧ w.cell? ⟨b, o + 1, none⟩ = some (.slice t.c.t.a t.c.t.n t.c.t.c) ∧ w.cell? ⟨b, o + 2, none⟩ = some (.bool t.c.l.s) ∧ w.cell? ⟨b, o + 3, none⟩ = some (.slice t.c.l.a t.c.l.n t.c.l.c)
theorem T0.below {w w' : World} {b o : Nat} {t : TV} (h : T0 w b o t) (hb : Below w.heap.size w w') : T0 w' b o t := by
 obtain ⟨h0, h1, h2, h3⟩ := h.c
 exact ⟨(hb.cell (p := ⟨b, o, none⟩) (block_lt_of_cell h0)).trans h0, (hb.cell (p := ⟨b, o + 1, none⟩) (block_lt_of_cell h1)).trans h1, (hb.cell (p := ⟨b, o + 2, none⟩) (block_lt_of_cell h2)).trans h2, (hb.cell (p := ⟨b, o + 3, none⟩) (block_lt_of_cell h3)).trans h3⟩
set_option maxRecDepth 100000 in
set_option maxHeartbeats 16000000 in
theorem content_ne (x : PV) (P : List Tm) (k : Nat) (w : World) (hx : KP w x P) (hp : ∀ t ∈ P, LQ t.2 k) (hn : P.length ≤ 1000000) (hk : P.length * k + 1 ≤ 400000) (hk4 : k ≤ 400000) (hne : P ≠ []) :
  Calls Tryz.prog 16 #[x.v] w (RF w (contP P)) := by
 obtain ⟨V0, hV⟩ : ∃ V, V = w.alloc (.cells #[.bool false, .slice none 0 0, .bool false, .slice none 0 0] 28) := ⟨_, rfl⟩
 have hbV : Below w.heap.size w V0 := by rw [hV]; exact (Below.refl _ _).alloc (Nat.le_refl _) _
 have B2 := Lib.hid (show Bxs V0 w.heap.size 28 [.bool false, .slice none 0 0, .bool false, .slice none 0 0] by rw [hV]; exact Bxs.new w 28 [.bool false, .slice none 0 0, .bool false, .slice none 0 0])
 have hxl := hx.len
 have CK := Lib.hid (check_k (hx.below hbV) (fun t ht => (hp t ht).up (by omega)) (by omega))
 have HX := Lib.hid hx; have HP := Lib.hid hp; have HN := Lib.hid hn; have HK := Lib.hid hk; have HK4 := Lib.hid hk4; have HNE := Lib.hid hne
 have KG := Lib.hid hbV
 have HV := Lib.hid hV
 obtain ⟨A2, hA2⟩ : ∃ A, A = w.heap.size := ⟨_, rfl⟩
 have HA2 := Lib.hid (show w.heap.size ≤ A2 by omega)
 have HE2 := Lib.hid hA2
 rw [← hA2] at B2
 obtain ⟨L1, g1, g2, g3, g4⟩ := hx.ex
 obtain ⟨xa, xn, xc⟩ := x
 have hpos : 0 < P.length := List.length_pos_iff.2 hne
 have g2 : L1.length = xn := g2
 have hl1 : 0 < L1.length := by rw [g2]; omega
 obtain ⟨pb, po, rfl, hpb, hcs⟩ := g1.off (i := 0) (by rw [List.length_map]; exact hl1)
 obtain ⟨e, he⟩ : ∃ e, L1[0]? = some e := ⟨_, List.getElem?_eq_getElem hl1⟩
 obtain ⟨t, q⟩ := e
 obtain ⟨c0, c1, c2, c3, _⟩ := RT.eight hcs (i := 0) (t := t) (by rw [List.getElem?_map, he]; rfl)
 have HT0 := Lib.hid (show T0 w pb po t from ⟨c0, c1, c2, c3⟩)
 have hmem := List.mem_of_getElem? he
 have hP0 : P[0]? = some (t.m, q) := by rw [← g4, List.getElem?_map, he]; rfl
 have HP0 := Lib.hid hP0
 have NT := Lib.hid (show KF w t.c q from g3 _ hmem)
 have LQq := Lib.hid (show LQ q 400000 from (hp _ (List.mem_of_getElem? hP0)).up hk4)
 have h0 : ¬ ((xn : Int) = 0) := by change xn = P.length at hxl; omega
 have HXP := Lib.hid (show 0 < xn by change xn = P.length at hxl; omega)
 obtain ⟨sg, hsg⟩ : ∃ s, s = cmpZ q.num 0 := ⟨_, rfl⟩
 have HSG := Lib.hid hsg.symm
 have hr : -1 ≤ sg ∧ sg ≤ 1 := by
  rw [hsg]; unfold cmpZ
  split
  ·omega
  ·split <;> omega
 have HR1 := Lib.hid (show -9223372036854775808 ≤ sg by omega)
 have HR2 := Lib.hid (show sg ≤ 9223372036854775807 by omega)
 have LG := Lib.hid (show lenB ((gT P 0 : Nat) : Int).natAbs ≤ 400000 from Nat.le_trans (by
  rw [Int.natAbs_natCast]
  exact gT_len (by rw [lenB_zero]; omega) fun u hu => ⟨hx.canon.non u hu, hp u hu⟩) hk4)
 have LL := Lib.hid (show lenB ((lL P 1 : Nat) : Int).natAbs ≤ 400000 from by
  rw [Int.natAbs_natCast]
  have h1 := lL_len (P := P) (l := 1) (k := k) hp
  rw [lenB_one] at h1
  omega)
 have HNZ := Lib.hid (show ((lL P 1 : Nat) : Int) ≠ 0 by have := lL_pos P 1 (by decide); omega)
 change Calls Tryz.prog 16 #[.slice (some ⟨pb, po, none⟩) xn xc] w _
 clear hV hbV hx hp hn hk hk4 hne hxl hA2 g1 g2 g3 g4 hpos hl1 hpb hcs he c0 c1 c2 c3 hmem hP0 hsg hr
 go_enter Tryz.func16, Tryz.ntmps16
 go_upto_region 1 with (fail)
 rw [show w.alloc (.cells #[.bool false, .slice none 0 0, .bool false, .slice none 0 0] 28) = V0 from HV.out.symm, show w.heap.size = A2 from HE2.out.symm]
 go_wp2_with fail
 with_reducible refine CK.out.mono ?_
 rintro e w1 ⟨rfl, hb⟩
 have B2 := Lib.hid (B2.out.below hb B2.out.lt)
 have KG := Lib.hid (KG.out.trans (hb.mono KG.out.size))
 have O0 := Lib.hid (ofN 0 w1 (by decide) (by decide))
 clear hb CK
 go_wp2_with fail
 with_reducible refine O0.out.mono ?_
 rintro e w2 ⟨z0, rfl, hz0, hb⟩
 have HZ0 := Lib.hid (hz0.mono KG.out.size)
 have B2 := Lib.hid (B2.out.below hb B2.out.lt)
 have KG := Lib.hid (KG.out.trans (hb.mono KG.out.size))
 have O1 := Lib.hid (ofN 1 w2 (by decide) (by decide))
 clear hb hz0 O0
 go_wp2_with fail
 with_reducible refine O1.out.mono ?_
 rintro e w3 ⟨z1, rfl, hz1, hb⟩
 have HZ0 := Lib.hid (HZ0.out.below hb)
 have HZ1 := Lib.hid (hz1.mono KG.out.size)
 have B2 := Lib.hid (B2.out.below hb B2.out.lt)
 have KG := Lib.hid (KG.out.trans (hb.mono KG.out.size))
 have BT := Lib.hid (both_k ⟨some ⟨pb, po, none⟩, xn, xc⟩ P k w.heap.size z0 z1 w3 (HX.out.below KG.out) HP.out HN.out HK.out HK4.out HZ0.out HZ1.out KG.out.size)
 clear hb hz1 O1
 go_wp2_with fail
 with_reducible refine BT.out.mono ?_
 rintro e w4 ⟨a, b, rfl, ha, hb', hb⟩
 have HA := Lib.hid ha; have HB := Lib.hid hb'
 have B2 := Lib.hid (B2.out.below hb B2.out.lt)
 have KG := Lib.hid (KG.out.trans (hb.mono KG.out.size))
 clear ha hb' hb BT
 go_upto_region 4 with (fail)
 obtain ⟨VA, hV⟩ : ∃ W, W = w4.alloc (.cells #[.bool a.s, .slice a.a a.n a.c, .bool b.s, .slice b.a b.n b.c] 76) := ⟨_, rfl⟩
 have hbV : Below w4.heap.size w4 VA := by rw [hV]; exact (Below.refl _ _).alloc (Nat.le_refl _) _
 have B3 := Lib.hid (show Bxs VA w4.heap.size 76 [.bool a.s, .slice a.a a.n a.c, .bool b.s, .slice b.a b.n b.c] by rw [hV]; exact Bxs.new w4 76 [.bool a.s, .slice a.a a.n a.c, .bool b.s, .slice b.a b.n b.c])
 obtain ⟨A3, hA3⟩ : ∃ A, A = w4.heap.size := ⟨_, rfl⟩
 rw [← hV, ← hA3]
 rw [← hA3] at B3
 have B2 := Lib.hid (B2.out.below hbV B2.out.lt)
 have KG := Lib.hid (KG.out.trans (hbV.mono KG.out.size))
 have HA := Lib.hid (HA.out.below hbV); have HB := Lib.hid (HB.out.below hbV)
 have MK := Lib.hid (qmake HA.out.k (HA.out.k.len LG.out (by decide)) HB.out.k (HB.out.k.len LL.out (by decide)) HNZ.out)
 clear hV hbV hA3
 have d30 := B3.out.cell (i := 0) rfl
 have d31 := B3.out.cell (i := 1) rfl
 have d32 := B3.out.cell (i := 2) rfl
 have d33 := B3.out.cell (i := 3) rfl
 have d3f := B3.out.fz
 have d3l := B3.out.lt
 go_wp2_with fail
 with_reducible refine MK.out.mono ?_
 rintro e w5 ⟨c, rfl, hc, hb⟩
 have HC := Lib.hid (hc.mono KG.out.size)
 have HBW := Lib.hid hb
 have B2 := Lib.hid (B2.out.below hb B2.out.lt)
 clear hc hb MK d30 d31 d32 d33 d3f d3l
 go_upto_region 5 with (fail)
 obtain ⟨V, hU⟩ : ∃ W, W = w5.alloc (.cells #[.bool c.t.s, .slice c.t.a c.t.n c.t.c, .bool c.l.s, .slice c.l.a c.l.n c.l.c] 28) := ⟨_, rfl⟩
 have hbU : Below w5.heap.size w5 V := by rw [hU]; exact (Below.refl _ _).alloc (Nat.le_refl _) _
 have B4 := Lib.hid (show Bxs V w5.heap.size 28 [.bool c.t.s, .slice c.t.a c.t.n c.t.c, .bool c.l.s, .slice c.l.a c.l.n c.l.c] by rw [hU]; exact Bxs.new w5 28 [.bool c.t.s, .slice c.t.a c.t.n c.t.c, .bool c.l.s, .slice c.l.a c.l.n c.l.c])
 obtain ⟨A4, hA4⟩ : ∃ A, A = w5.heap.size := ⟨_, rfl⟩
 rw [← hU, ← hA4]
 rw [← hA4] at B4
 have B2 := Lib.hid (B2.out.below hbU B2.out.lt)
 have HC := Lib.hid (HC.out.below hbU)
 have KG := Lib.hid ((KG.out.trans (HBW.out.mono KG.out.size)).trans (hbU.mono (KG.out.trans (HBW.out.mono KG.out.size)).size))
 have HSZ := Lib.hid (show w.heap.size ≤ V.heap.size from KG.out.size)
 obtain ⟨qc, hqc⟩ : ∃ v, v = ((gT P 0 : Int) : Rat) / ((lL P 1 : Int) : Rat) := ⟨_, rfl⟩
 have LQqc := Lib.hid (show LQ qc 400000 by rw [hqc]; exact LQ.make HNZ.out LG.out LL.out)
 have NC := Lib.hid (show DF V w.heap.size c qc by rw [hqc]; exact HC.out)
 have HQC := Lib.hid hqc
 clear hU hbU hA4 hqc HC HBW
 obtain ⟨q101, hq101⟩ : ∃ z : Rat, z = ((sg : Int) : Rat) := ⟨_, rfl⟩
 have Hq101 := Lib.hid hq101
 have LQq101 := Lib.hid (show LQ q101 3 by rw [hq101]; exact LQ.int HR1.out HR2.out)
 clear hq101
 obtain ⟨q102, hq102⟩ : ∃ z : Rat, z = qc * q101 := ⟨_, rfl⟩
 have Hq102 := Lib.hid hq102
 have LQq102 := Lib.hid (show LQ q102 800000 by rw [hq102]; exact LQ.mul (LQqc.out.up (by decide : _ ≤ 400000)) (LQq101.out.up (by decide : _ ≤ 400000)) (by decide))
 clear hq102
 go_upto_region 5 with (fail)
 refine Go.FreshS.wp_region_fresh 8 [] (Go.FreshS.spOf [(5, Go.FreshS.Sp.know (.int .i64 sg)), (6, Go.FreshS.Sp.made (fun x : FV => x.v) (fun x w' => DF w' V.heap.size x q101) FV.blk), (7, Go.FreshS.Sp.made (fun x : FV => x.v) (fun x w' => DF w' V.heap.size x q102) FV.blk)])
  (fun w' => Below V.heap.size V w') (by kernel_rfl) (by kernel_rfl) (by kernel_rfl)
  (Go.FreshS.spOf_cons (Go.FreshS.Sp.know_keeps _ _) (Go.FreshS.spOf_cons (Go.FreshS.Sp.made_keeps _ (fun _ _ _ h _ hk => h.kept hk) (Go.FreshS.notTaken (by kernel_rfl))) (Go.FreshS.spOf_cons (Go.FreshS.Sp.made_keeps _ (fun _ _ _ h _ hk => h.kept hk) (Go.FreshS.notTaken (by kernel_rfl))) (Go.FreshS.spOf_nil)))) (fun _ _ h hb => h.trans (hb.mono h.size)) ((Below.refl _ _).drew) ?_
 simp only [List.append_eq, List.cons_append, List.nil_append, List.take_succ_cons, List.take_zero, List.drop_succ_cons, List.drop_zero]
 refine Go.FreshS.wpF_reads rfl rfl rfl ?_ (fun w' hw' => ?_) ?_
 rotate_left
 ·have hb' := hw'.world
  have hs0 := (B4.out.below hb' B4.out.lt).cell (i := 0) rfl
  have hs1 := (B4.out.below hb' B4.out.lt).cell (i := 1) rfl
  have hs2 := (B4.out.below hb' B4.out.lt).cell (i := 2) rfl
  have hs3 := (B4.out.below hb' B4.out.lt).cell (i := 3) rfl
  have hsf := (B4.out.below hb' B4.out.lt).fz
  have hsl := (B4.out.below hb' B4.out.lt).lt
  clear hw'
  go_simp
  try rfl
 conv => arg 10; simp only [Act.put, List.setIfInBounds_toArray, List.set_cons_succ, List.set_cons_zero]
 refine Go.FreshS.wpF_reads rfl rfl rfl ?_ (fun w' hw' => ?_) ?_
 rotate_left
 ·have hb' := hw'.world
  skip
  clear hw'
  go_simp
  try rfl
 conv => arg 10; simp only [Act.put, List.setIfInBounds_toArray, List.set_cons_succ, List.set_cons_zero]
 refine Go.FreshS.wpF_reads rfl rfl rfl ?_ (fun w' hw' => ?_) ?_
 rotate_left
 ·have hb' := hw'.world
  have hn := HXP.out
  clear hw'
  go_simp
  try rfl
 conv => arg 10; simp only [Act.put, List.setIfInBounds_toArray, List.set_cons_succ, List.set_cons_zero]
 refine Go.FreshS.wpF_reads rfl rfl rfl ?_ (fun w' hw' => ?_) ?_
 rotate_left
 ·have hb' := hw'.world
  skip
  clear hw'
  go_simp
  try rfl
 conv => arg 10; simp only [Act.put, List.setIfInBounds_toArray, List.set_cons_succ, List.set_cons_zero]
 refine Go.FreshS.wpF_reads rfl rfl rfl ?_ (fun w' hw' => ?_) ?_
 rotate_left
 ·have hb' := hw'.world
  have d0 := (HT0.out.below (KG.out.trans (hb'.mono KG.out.size)))
  obtain ⟨e0, e1, e2, e3⟩ := d0.c
  clear hw'
  go_simp
  try rfl
 conv => arg 10; simp only [Act.put, List.setIfInBounds_toArray, List.set_cons_succ, List.set_cons_zero]
 refine Go.FreshS.wpF_spec rfl rfl rfl (fun w' hw' => ?_) ?_
 ·have hb' := hw'.world
  refine Go.FreshS.gives_of (Go.FreshS.PK (.int .i64 sg)) ?_ (fun _ _ h => h.post)
  go_simp
  have CT := qsign ((NT.out.below (KG.out.trans (hb'.mono KG.out.size)))).any (((NT.out.below (KG.out.trans (hb'.mono KG.out.size)))).len LQq.out (by decide : _ ≤ 900000))
  rw [show cmpZ q.num 0 = sg from HSG.out] at CT
  refine CT.mono ?_
  rintro e w'' ⟨rfl, hb⟩
  exact ⟨_, rfl, rfl, hb⟩
 rintro _ rfl
 conv => arg 10; simp only [Act.put, List.setIfInBounds_toArray, List.set_cons_succ, List.set_cons_zero]
 refine Go.FreshS.wpF_spec rfl rfl rfl (fun w' hw' => ?_) ?_
 ·have hb' := hw'.world
  refine Go.FreshS.gives_of (Go.FreshS.PM (fun x : FV => x.v) (fun x w' => DF w' V.heap.size x q101) FV.blk w'.heap.size) ?_ (fun _ _ h => h.post (fun _ _ => FV.inj))
  go_simp
  have CT := qof sg w' HR1.out HR2.out
  rw [show ((sg : Int) : Rat) = q101 from Hq101.out.symm] at CT
  refine CT.mono ?_
  rintro e w'' ⟨za, rfl, ho, hb⟩
  exact ⟨_, rfl, ⟨za, rfl, ho.mono hb'.size, ho.blks⟩, hb⟩
 rintro _ ⟨y6, rfl⟩
 conv => arg 10; simp only [Act.put, List.setIfInBounds_toArray, List.set_cons_succ, List.set_cons_zero]
 refine Go.FreshS.wpF_spec rfl rfl rfl (fun w' hw' => ?_) ?_
 ·have hb' := hw'.world
  refine Go.FreshS.gives_of (Go.FreshS.PM (fun x : FV => x.v) (fun x w' => DF w' V.heap.size x q102) FV.blk w'.heap.size) ?_ (fun _ _ h => h.post (fun _ _ => FV.inj))
  go_simp
  have f6 := Go.FreshS.made_of (val := (fun x : FV => x.v)) (Φ := fun x w' => DF w' V.heap.size x q101) (fun _ _ => FV.inj) (hw'.fact 6 (by kernel_rfl))
  have CT := qmul ((NC.out.below hb')).k.any ((((NC.out.below hb')).k).len LQqc.out (by decide : _ ≤ 900000)) (f6).k.any (((f6).k).len LQq101.out (by decide : _ ≤ 900000))
  rw [show qc * q101 = q102 from Hq102.out.symm] at CT
  refine CT.mono ?_
  rintro e w'' ⟨za, rfl, ho, hb⟩
  exact ⟨_, rfl, ⟨za, rfl, ho.mono hb'.size, ho.blks⟩, hb⟩
 rintro _ ⟨y7, rfl⟩
 conv => arg 10; simp only [Act.put, List.setIfInBounds_toArray, List.set_cons_succ, List.set_cons_zero]
 refine Go.FreshS.wpF_nil (fun w103 hb hF => ?_)
 have N104 := Lib.hid (show DF w103 V.heap.size y7 q102 from (Go.FreshS.made_of (val := (fun x : FV => x.v)) (Φ := fun x w' => DF w' V.heap.size x q102) (fun _ _ => FV.inj) (hF.all 7)))
 clear hF
 have NC := Lib.hid (NC.out.below hb)
 have B4 := Lib.hid (B4.out.below hb B4.out.lt)
 have B2 := Lib.hid (B2.out.below hb B2.out.lt)
 have KG := Lib.hid (KG.out.trans (hb.mono KG.out.size))
 clear hb
 have HQ := Lib.hid (show q102 = contP P by rw [cont_head HP0.out, Hq102.out, Hq101.out, HQC.out]; show _ = _ * ((cmpZ q.num 0 : Int) : Rat); rw [HSG.out])
 have HD := Lib.hid (show DF (put4 w103 A2 (.bool y7.t.s) (.slice y7.t.a y7.t.n y7.t.c) (.bool y7.l.s) (.slice y7.l.a y7.l.n y7.l.c)) w.heap.size y7 (contP P) from by rw [← HQ.out]; exact put4_df (N104.out.mono HSZ.out) B2.out (by decide) ..)
 have HBB := Lib.hid (show Below w.heap.size w (put4 w103 A2 (.bool y7.t.s) (.slice y7.t.a y7.t.n y7.t.c) (.bool y7.l.s) (.slice y7.l.a y7.l.n y7.l.c)) from put4_below KG.out HA2.out ..)
 have d20 := B2.out.cell (i := 0) rfl
 have d21 := B2.out.cell (i := 1) rfl
 have d22 := B2.out.cell (i := 2) rfl
 have d23 := B2.out.cell (i := 3) rfl
 have d2f := B2.out.fz
 have d2l := B2.out.lt
 go_wp2_with fail
 exact bodyPost_ret (results_cell rfl _ _ _ _ _ _ _ rfl (put4_bxs B2.out ..) Tryz.underlying28 rfl (by kernel_rfl)) rfl ⟨y7, rfl, HD.out, HBB.out⟩
set_option maxRecDepth 100000 in
set_option maxHeartbeats 4000000 in
theorem content_0K (x : PV) (w : World) (hk : KP w x []) : Calls Tryz.prog 16 #[x.v] w (RF w 0) := by
 obtain ⟨V0, hV⟩ : ∃ V, V = w.alloc (.cells #[.bool false, .slice none 0 0, .bool false, .slice none 0 0] 28) := ⟨_, rfl⟩
 have hbV : Below w.heap.size w V0 := by rw [hV]; exact (Below.refl _ _).alloc (Nat.le_refl _) _
 have B2 := Lib.hid (show Bxs V0 w.heap.size 28 [.bool false, .slice none 0 0, .bool false, .slice none 0 0] by rw [hV]; exact Bxs.new w 28 [.bool false, .slice none 0 0, .bool false, .slice none 0 0])
 have hx0 : x.n = 0 := hk.len
 have CK := Lib.hid (check_k (hk.below hbV) (fun t ht => (by cases ht)) (by omega))
 have KG := Lib.hid hbV
 have HV := Lib.hid hV
 obtain ⟨A2, hA2⟩ : ∃ A, A = w.heap.size := ⟨_, rfl⟩
 have HA2 := Lib.hid (show w.heap.size ≤ A2 by omega)
 have HE2 := Lib.hid hA2
 rw [← hA2] at B2
 obtain ⟨xa, xn, xc⟩ := x
 obtain rfl : xn = 0 := hx0
 change Calls Tryz.prog 16 #[.slice xa 0 xc] w _
 clear hV hbV hk hA2
 go_enter Tryz.func16, Tryz.ntmps16
 go_upto_region 1 with (fail)
 rw [show w.alloc (.cells #[.bool false, .slice none 0 0, .bool false, .slice none 0 0] 28) = V0 from HV.out.symm, show w.heap.size = A2 from HE2.out.symm]
 go_wp2_with fail
 with_reducible refine CK.out.mono ?_
 rintro e w1 ⟨rfl, hb⟩
 have B2 := Lib.hid (B2.out.below hb B2.out.lt)
 have KG := Lib.hid (KG.out.trans (hb.mono KG.out.size))
 have OF := Lib.hid (qof 0 w1 (by decide) (by decide))
 clear hb CK
 go_wp2_with fail
 with_reducible refine OF.out.mono ?_
 rintro e w2 ⟨y, rfl, hy, hb⟩
 have HY := Lib.hid (show DF w2 w.heap.size y 0 from hy.mono KG.out.size)
 have B2 := Lib.hid (B2.out.below hb B2.out.lt)
 have KG := Lib.hid (KG.out.trans (hb.mono KG.out.size))
 have HD := Lib.hid (put4_df HY.out B2.out (by decide) (.bool y.t.s) (.slice y.t.a y.t.n y.t.c) (.bool y.l.s) (.slice y.l.a y.l.n y.l.c))
 have HBB := Lib.hid (put4_below KG.out HA2.out (.bool y.t.s) (.slice y.t.a y.t.n y.t.c) (.bool y.l.s) (.slice y.l.a y.l.n y.l.c))
 clear hy hb OF
 have d20 := B2.out.cell (i := 0) rfl
 have d21 := B2.out.cell (i := 1) rfl
 have d22 := B2.out.cell (i := 2) rfl
 have d23 := B2.out.cell (i := 3) rfl
 have d2f := B2.out.fz
 have d2l := B2.out.lt
 go_wp2_with fail
 exact bodyPost_ret (results_cell rfl _ _ _ _ _ _ _ rfl (put4_bxs B2.out ..) Tryz.underlying28 rfl (by kernel_rfl)) rfl ⟨y, rfl, HD.out, HBB.out⟩
set_option maxRecDepth 100000 in
set_option maxHeartbeats 4000000 in
theorem content_0B (x : PV) (w : World) (hk : BP w x) (hxn : x.n ≤ 1000000000) : Calls Tryz.prog 16 #[x.v] w (RF w 0) := by
 obtain ⟨V0, hV⟩ : ∃ V, V = w.alloc (.cells #[.bool false, .slice none 0 0, .bool false, .slice none 0 0] 28) := ⟨_, rfl⟩
 have hbV : Below w.heap.size w V0 := by rw [hV]; exact (Below.refl _ _).alloc (Nat.le_refl _) _
 have B2 := Lib.hid (show Bxs V0 w.heap.size 28 [.bool false, .slice none 0 0, .bool false, .slice none 0 0] by rw [hV]; exact Bxs.new w 28 [.bool false, .slice none 0 0, .bool false, .slice none 0 0])
 have CK := Lib.hid (check_b (hk.below hbV) hxn)
 have KG := Lib.hid hbV
 have HV := Lib.hid hV
 obtain ⟨A2, hA2⟩ : ∃ A, A = w.heap.size := ⟨_, rfl⟩
 have HA2 := Lib.hid (show w.heap.size ≤ A2 by omega)
 have HE2 := Lib.hid hA2
 rw [← hA2] at B2
 obtain ⟨xa, xn, xc⟩ := x
 clear hxn
 change Calls Tryz.prog 16 #[.slice xa xn xc] w _
 clear hV hbV hk hA2
 go_enter Tryz.func16, Tryz.ntmps16
 go_upto_region 1 with (fail)
 rw [show w.alloc (.cells #[.bool false, .slice none 0 0, .bool false, .slice none 0 0] 28) = V0 from HV.out.symm, show w.heap.size = A2 from HE2.out.symm]
 go_wp2_with fail
 with_reducible refine CK.out.mono ?_
 rintro e w1 ⟨rfl, hb⟩
 have B2 := Lib.hid (B2.out.below hb B2.out.lt)
 have KG := Lib.hid (KG.out.trans (hb.mono KG.out.size))
 have OF := Lib.hid (qof 0 w1 (by decide) (by decide))
 clear hb CK
 go_wp2_with fail
 with_reducible refine OF.out.mono ?_
 rintro e w2 ⟨y, rfl, hy, hb⟩
 have HY := Lib.hid (show DF w2 w.heap.size y 0 from hy.mono KG.out.size)
 have B2 := Lib.hid (B2.out.below hb B2.out.lt)
 have KG := Lib.hid (KG.out.trans (hb.mono KG.out.size))
 have HD := Lib.hid (put4_df HY.out B2.out (by decide) (.bool y.t.s) (.slice y.t.a y.t.n y.t.c) (.bool y.l.s) (.slice y.l.a y.l.n y.l.c))
 have HBB := Lib.hid (put4_below KG.out HA2.out (.bool y.t.s) (.slice y.t.a y.t.n y.t.c) (.bool y.l.s) (.slice y.l.a y.l.n y.l.c))
 clear hy hb OF
 have d20 := B2.out.cell (i := 0) rfl
 have d21 := B2.out.cell (i := 1) rfl
 have d22 := B2.out.cell (i := 2) rfl
 have d23 := B2.out.cell (i := 3) rfl
 have d2f := B2.out.fz
 have d2l := B2.out.lt
 go_wp2_with fail
 exact bodyPost_ret (results_cell rfl _ _ _ _ _ _ _ rfl (put4_bxs B2.out ..) Tryz.underlying28 rfl (by kernel_rfl)) rfl ⟨y, rfl, HD.out, HBB.out⟩
theorem content_any {x : PV} {P : List Tm} {k : Nat} {w : World} (hx : AP w x P) (hxn : x.n ≤ 1000000) (hp : ∀ t ∈ P, LQ t.2 k) (hk : P.length * k + 1 ≤ 400000) (hk4 : k ≤ 400000) : Calls Tryz.prog 16 #[x.v] w (RF w (contP P)) := by
 rcases hx with hx | ⟨hx, rfl⟩
 ·by_cases hne : P = []
  ·subst hne; exact content_0K x w hx
  ·exact content_ne x P k w hx hp (by have := hx.len; omega) hk hk4 hne
 ·exact content_0B x w hx (by omega)
def ZqW (_ : World) (x : FV) : Prop := Zq x
theorem ZqW.z {w : World} {x : FV} (h : ZqW w x) : Zq x := h
set_option maxRecDepth 100000 in
set_option maxHeartbeats 4000000 in
theorem by_k (x : PV) (P : List Tm) (c : FV) (r : Rat) (k n k2 : Nat) (w : World) (hx : AP w x P) (hb : PB P n k 65535) (hxn : x.n ≤ 1000000) (hc : KF w c r) (lr : LQ r 400000) (h0 : r ≠ 0) (hr : LQ (1 / r) k2) (hk : k ≤ 900000) (hkk : n * (k + k2 + 1) ≤ 900000) :
  Calls Tryz.prog 59 #[x.v, c.v] w fun e w' => ∃ y : PV, e = .returned y.v ∧ DP w' w.heap.size y (scaleP (1 / r) P) ∧ Below w.heap.size w w' := by
 obtain ⟨V, hV⟩ : ∃ V, V = w.alloc (.cells #[.bool c.t.s, .slice c.t.a c.t.n c.t.c, .bool c.l.s, .slice c.l.a c.l.n c.l.c] 28) := ⟨_, rfl⟩
 have hbV : Below w.heap.size w V := by rw [hV]; exact (Below.refl _ _).alloc (Nat.le_refl _) _
 have B3 := Lib.hid (show Bxs V w.heap.size 28 [.bool c.t.s, .slice c.t.a c.t.n c.t.c, .bool c.l.s, .slice c.l.a c.l.n c.l.c] by rw [hV]; exact Bxs.new w 28 [.bool c.t.s, .slice c.t.a c.t.n c.t.c, .bool c.l.s, .slice c.l.a c.l.n c.l.c])
 have HX := Lib.hid hx; have HPB := Lib.hid hb; have HXN := Lib.hid hxn; have HK := Lib.hid hk; have HKK := Lib.hid hkk
 have NC := Lib.hid (hc.below hbV); have LQr := Lib.hid lr; have HR0 := Lib.hid h0
 clear hc lr h0
 have HR := Lib.hid hr
 clear hr
 have KG := Lib.hid hbV
 have HV := Lib.hid hV
 obtain ⟨xa, xn, xc⟩ := x
 clear hV hbV hx hb hxn hk hkk
 change Calls Tryz.prog 59 #[.slice xa xn xc, .agg #[.bool c.t.s, .slice c.t.a c.t.n c.t.c, .bool c.l.s, .slice c.l.a c.l.n c.l.c]] w _
 go_enter Tryz.func59, Tryz.ntmps59
 go_upto_region 1 with (fail)
 rw [show w.alloc (.cells #[.bool c.t.s, .slice c.t.a c.t.n c.t.c, .bool c.l.s, .slice c.l.a c.l.n c.l.c] 28) = V from HV.out.symm]
 obtain ⟨q101, hq101⟩ : ∃ z : Rat, z = ((1 : Int) : Rat) := ⟨_, rfl⟩
 have Hq101 := Lib.hid hq101
 have LQq101 := Lib.hid (show LQ q101 3 by rw [hq101]; exact LQ.int (by decide) (by decide))
 clear hq101
 obtain ⟨q102, hq102⟩ : ∃ z : Rat, z = q101 / r := ⟨_, rfl⟩
 have Hq102 := Lib.hid hq102
 have LQq102 := Lib.hid (show LQ q102 800000 by rw [hq102]; exact LQ.div (HR0.out) (LQq101.out.up (by decide : _ ≤ 400000)) (LQr.out.up (by decide : _ ≤ 400000)) (by decide))
 clear hq102
 go_upto_region 1 with (fail)
 refine Go.FreshS.wp_region_fresh 8 [(7, 6)] (Go.FreshS.spOf [(0, Go.FreshS.Sp.made (fun x : FV => x.v) (fun x w' => DF w' V.heap.size x q101) FV.blk), (2, Go.FreshS.Sp.made (fun x : FV => .tuple #[x.v, .int .i64 0]) (fun x w' => DF w' V.heap.size x q102) FV.blk), (6, Go.FreshS.Sp.box 28 4 V.heap.size)])
  (fun w' => Below V.heap.size V w') (by kernel_rfl) (by kernel_rfl) (by kernel_rfl)
  (Go.FreshS.spOf_cons (Go.FreshS.Sp.made_keeps _ (fun _ _ _ h _ hk => h.kept hk) (Go.FreshS.notTaken (by kernel_rfl))) (Go.FreshS.spOf_cons (Go.FreshS.Sp.made_keeps _ (fun _ _ _ h _ hk => h.kept hk) (Go.FreshS.notTaken (by kernel_rfl))) (Go.FreshS.spOf_cons (Go.FreshS.Sp.box_keeps _ _ _ _) (Go.FreshS.spOf_nil)))) (fun _ _ h hb => h.trans (hb.mono h.size)) ((Below.refl _ _).drew) ?_
 simp only [List.append_eq, List.cons_append, List.nil_append, List.take_succ_cons, List.take_zero, List.drop_succ_cons, List.drop_zero]
 refine Go.FreshS.wpF_spec rfl rfl rfl (fun w' hw' => ?_) ?_
 ·have hb' := hw'.world
  refine Go.FreshS.gives_of (Go.FreshS.PM (fun x : FV => x.v) (fun x w' => DF w' V.heap.size x q101) FV.blk w'.heap.size) ?_ (fun _ _ h => h.post (fun _ _ => FV.inj))
  go_simp
  have CT := qof 1 w' (by decide) (by decide)
  rw [show ((1 : Int) : Rat) = q101 from Hq101.out.symm] at CT
  refine CT.mono ?_
  rintro e w'' ⟨za, rfl, ho, hb⟩
  exact ⟨_, rfl, ⟨za, rfl, ho.mono hb'.size, ho.blks⟩, hb⟩
 rintro _ ⟨y0, rfl⟩
 conv => arg 10; simp only [Act.put, List.setIfInBounds_toArray, List.set_cons_succ, List.set_cons_zero]
 refine Go.FreshS.wpF_reads rfl rfl rfl ?_ (fun w' hw' => ?_) ?_
 rotate_left
 ·have hb' := hw'.world
  have hs0 := (B3.out.below hb' B3.out.lt).cell (i := 0) rfl
  have hs1 := (B3.out.below hb' B3.out.lt).cell (i := 1) rfl
  have hs2 := (B3.out.below hb' B3.out.lt).cell (i := 2) rfl
  have hs3 := (B3.out.below hb' B3.out.lt).cell (i := 3) rfl
  have hsf := (B3.out.below hb' B3.out.lt).fz
  have hsl := (B3.out.below hb' B3.out.lt).lt
  clear hw'
  go_simp
  try rfl
 conv => arg 10; simp only [Act.put, List.setIfInBounds_toArray, List.set_cons_succ, List.set_cons_zero]
 refine Go.FreshS.wpF_spec rfl rfl rfl (fun w' hw' => ?_) ?_
 ·have hb' := hw'.world
  refine Go.FreshS.gives_of (Go.FreshS.PM (fun x : FV => .tuple #[x.v, .int .i64 0]) (fun x w' => DF w' V.heap.size x q102) FV.blk w'.heap.size) ?_ (fun _ _ h => h.post (FV.injE 0))
  go_simp
  have f0 := Go.FreshS.made_of (val := (fun x : FV => x.v)) (Φ := fun x w' => DF w' V.heap.size x q101) (fun _ _ => FV.inj) (hw'.fact 0 (by kernel_rfl))
  have CT := qdiv (f0).k (((f0).k).len LQq101.out (by decide : _ ≤ 900000)) (NC.out.below hb') (((NC.out.below hb')).len LQr.out (by decide : _ ≤ 900000)) (HR0.out)
  rw [show q101 / r = q102 from Hq102.out.symm] at CT
  refine CT.mono ?_
  rintro e w'' ⟨za, rfl, ho, hb⟩
  exact ⟨_, rfl, ⟨za, rfl, ho.mono hb'.size, ho.blks⟩, hb⟩
 rintro _ ⟨y2, rfl⟩
 conv => arg 10; simp only [Act.put, List.setIfInBounds_toArray, List.set_cons_succ, List.set_cons_zero]
 refine Go.FreshS.wpF_reads rfl rfl rfl ?_ (fun w' hw' => ?_) ?_
 rotate_left
 ·have hb' := hw'.world
  skip
  clear hw'
  go_simp
  try rfl
 conv => arg 10; simp only [Act.put, List.setIfInBounds_toArray, List.set_cons_succ, List.set_cons_zero]
 refine Go.FreshS.wpF_reads rfl rfl rfl ?_ (fun w' hw' => ?_) ?_
 rotate_left
 ·have hb' := hw'.world
  skip
  clear hw'
  go_simp
  try rfl
 conv => arg 10; simp only [Act.put, List.setIfInBounds_toArray, List.set_cons_succ, List.set_cons_zero]
 refine Go.FreshS.wpF_reads rfl rfl rfl ?_ (fun w' hw' => ?_) ?_
 rotate_left
 ·have hb' := hw'.world
  skip
  clear hw'
  go_simp
  try rfl
 conv => arg 10; simp only [Act.put, List.setIfInBounds_toArray, List.set_cons_succ, List.set_cons_zero]
 refine Go.FreshS.wpF_spec rfl rfl rfl (fun w' hw' => ?_) ?_
 ·have hb' := hw'.world
  refine Go.FreshS.gives_of (Go.FreshS.PB 28 4 V.heap.size w'.heap.size) ?_ (fun _ _ h => h.post)
  go_simp
  exact ⟨Go.FreshS.PB.new _ rfl hb'.size, (Below.refl _ _).alloc (Nat.le_refl _) _⟩
 rintro _ ⟨y6, rfl⟩
 conv => arg 10; simp only [Act.put, List.setIfInBounds_toArray, List.set_cons_succ, List.set_cons_zero]
 refine Go.FreshS.wpF_store rfl rfl 6 rfl rfl rfl rfl (fun _ => Iff.rfl) (fun w' hw' => ?_) ?_
 ·have hb' := hw'.world
  have hX := Go.FreshS.box_of (hw'.fact 6 (by kernel_rfl))
  obtain ⟨c0, c1, c2, c3, hB⟩ := shp4 hX.1
  have m0 := hB.cell (i := 0) rfl
  have m1 := hB.cell (i := 1) rfl
  have m2 := hB.cell (i := 2) rfl
  have m3 := hB.cell (i := 3) rfl
  have mf := hB.fz
  have ml := hB.lt
  refine Go.FreshS.stores_of ?_ (store4 hb' hX.2 hB (.bool y2.t.s) (.slice y2.t.a y2.t.n y2.t.c) (.bool y2.l.s) (.slice y2.l.a y2.l.n y2.l.c))
  clear hw'
  go_simp
  try rfl
 conv => arg 10; simp only [Act.put, List.setIfInBounds_toArray, List.set_cons_succ, List.set_cons_zero]
 refine Go.FreshS.wpF_nil (fun w104 hb hF => ?_)
 have BX103 := Lib.hid (show Bxs w104 y6 28 [.bool y2.t.s, .slice y2.t.a y2.t.n y2.t.c, .bool y2.l.s, .slice y2.l.a y2.l.n y2.l.c] from stored_bxs (hF.all 7))
 have N105 := Lib.hid (show DF w104 V.heap.size y2 q102 from (Go.FreshS.made_of (val := (fun x : FV => .tuple #[x.v, .int .i64 0])) (Φ := fun x w' => DF w' V.heap.size x q102) (FV.injE 0) (hF.all 2)))
 clear hF
 have NC := Lib.hid (NC.out.below hb)
 have B3 := Lib.hid (B3.out.below hb B3.out.lt)
 have KG := Lib.hid (KG.out.trans (hb.mono KG.out.size))
 clear hb
 have HYR := Lib.hid (show (1 : Rat) / r = q102 from by rw [Hq102.out, show q101 = ((1 : Int) : Rat) from Hq101.out]; rfl)
 have SC := Lib.hid (scale_any ⟨xa, xn, xc⟩ P y2 (1 / r) k n k2 w104 (HX.out.below KG.out) HPB.out HXN.out (by rw [HYR.out]; exact N105.out.k.any) (N105.out.k.len LQq102.out (by decide)) HR.out HK.out HKK.out)
 have d50 := BX103.out.cell (i := 0) rfl
 have d51 := BX103.out.cell (i := 1) rfl
 have d52 := BX103.out.cell (i := 2) rfl
 have d53 := BX103.out.cell (i := 3) rfl
 have d5f := BX103.out.fz
 have d5l := BX103.out.lt
 go_wp2_with fail
 with_reducible refine SC.out.mono ?_
 rintro e w9 ⟨y, rfl, hy, hb⟩
 have HY := Lib.hid (hy.mono KG.out.size)
 have KG := Lib.hid (KG.out.trans (hb.mono KG.out.size))
 clear hy hb SC
 go_wp2_with fail
 go_ret
 exact ⟨y, rfl, HY.out, KG.out⟩
set_option maxRecDepth 100000 in
set_option maxHeartbeats 4000000 in
theorem by_z (x : PV) (P : List Tm) (c : FV) (r : Rat) (k n : Nat) (w : World) (hx : AP w x P) (hb : PB P n k 65535) (hxn : x.n ≤ 1000000) (hc : KF w c r) (lr : LQ r 400000) (h0 : r = 0) (hk : k ≤ 900000) (hkk : n * (k + 1 + 1) ≤ 900000) :
  Calls Tryz.prog 59 #[x.v, c.v] w fun e w' => ∃ y : PV, e = .returned y.v ∧ DP w' w.heap.size y (scaleP (0) P) ∧ Below w.heap.size w w' := by
 obtain ⟨V, hV⟩ : ∃ V, V = w.alloc (.cells #[.bool c.t.s, .slice c.t.a c.t.n c.t.c, .bool c.l.s, .slice c.l.a c.l.n c.l.c] 28) := ⟨_, rfl⟩
 have hbV : Below w.heap.size w V := by rw [hV]; exact (Below.refl _ _).alloc (Nat.le_refl _) _
 have B3 := Lib.hid (show Bxs V w.heap.size 28 [.bool c.t.s, .slice c.t.a c.t.n c.t.c, .bool c.l.s, .slice c.l.a c.l.n c.l.c] by rw [hV]; exact Bxs.new w 28 [.bool c.t.s, .slice c.t.a c.t.n c.t.c, .bool c.l.s, .slice c.l.a c.l.n c.l.c])
 have HX := Lib.hid hx; have HPB := Lib.hid hb; have HXN := Lib.hid hxn; have HK := Lib.hid hk; have HKK := Lib.hid hkk
 have NC := Lib.hid (hc.below hbV); have LQr := Lib.hid lr; have HR0 := Lib.hid h0
 clear hc lr h0
 have KG := Lib.hid hbV
 have HV := Lib.hid hV
 obtain ⟨xa, xn, xc⟩ := x
 clear hV hbV hx hb hxn hk hkk
 change Calls Tryz.prog 59 #[.slice xa xn xc, .agg #[.bool c.t.s, .slice c.t.a c.t.n c.t.c, .bool c.l.s, .slice c.l.a c.l.n c.l.c]] w _
 go_enter Tryz.func59, Tryz.ntmps59
 go_upto_region 1 with (fail)
 rw [show w.alloc (.cells #[.bool c.t.s, .slice c.t.a c.t.n c.t.c, .bool c.l.s, .slice c.l.a c.l.n c.l.c] 28) = V from HV.out.symm]
 obtain ⟨q101, hq101⟩ : ∃ z : Rat, z = ((1 : Int) : Rat) := ⟨_, rfl⟩
 have Hq101 := Lib.hid hq101
 have LQq101 := Lib.hid (show LQ q101 3 by rw [hq101]; exact LQ.int (by decide) (by decide))
 clear hq101
 go_upto_region 1 with (fail)
 refine Go.FreshS.wp_region_fresh 8 [(7, 6)] (Go.FreshS.spOf [(0, Go.FreshS.Sp.made (fun x : FV => x.v) (fun x w' => DF w' V.heap.size x q101) FV.blk), (2, Go.FreshS.Sp.made (fun x : FV => .tuple #[x.v, .int .i64 6]) (fun x w' => ZqW w' x) (fun _ _ => False)), (6, Go.FreshS.Sp.box 28 4 V.heap.size)])
  (fun w' => Below V.heap.size V w') (by kernel_rfl) (by kernel_rfl) (by kernel_rfl)
  (Go.FreshS.spOf_cons (Go.FreshS.Sp.made_keeps _ (fun _ _ _ h _ hk => h.kept hk) (Go.FreshS.notTaken (by kernel_rfl))) (Go.FreshS.spOf_cons (Go.FreshS.Sp.made_keeps _ (fun _ _ _ h _ _ => h) (Go.FreshS.notTaken (by kernel_rfl))) (Go.FreshS.spOf_cons (Go.FreshS.Sp.box_keeps _ _ _ _) (Go.FreshS.spOf_nil)))) (fun _ _ h hb => h.trans (hb.mono h.size)) ((Below.refl _ _).drew) ?_
 simp only [List.append_eq, List.cons_append, List.nil_append, List.take_succ_cons, List.take_zero, List.drop_succ_cons, List.drop_zero]
 refine Go.FreshS.wpF_spec rfl rfl rfl (fun w' hw' => ?_) ?_
 ·have hb' := hw'.world
  refine Go.FreshS.gives_of (Go.FreshS.PM (fun x : FV => x.v) (fun x w' => DF w' V.heap.size x q101) FV.blk w'.heap.size) ?_ (fun _ _ h => h.post (fun _ _ => FV.inj))
  go_simp
  have CT := qof 1 w' (by decide) (by decide)
  rw [show ((1 : Int) : Rat) = q101 from Hq101.out.symm] at CT
  refine CT.mono ?_
  rintro e w'' ⟨za, rfl, ho, hb⟩
  exact ⟨_, rfl, ⟨za, rfl, ho.mono hb'.size, ho.blks⟩, hb⟩
 rintro _ ⟨y0, rfl⟩
 conv => arg 10; simp only [Act.put, List.setIfInBounds_toArray, List.set_cons_succ, List.set_cons_zero]
 refine Go.FreshS.wpF_reads rfl rfl rfl ?_ (fun w' hw' => ?_) ?_
 rotate_left
 ·have hb' := hw'.world
  have hs0 := (B3.out.below hb' B3.out.lt).cell (i := 0) rfl
  have hs1 := (B3.out.below hb' B3.out.lt).cell (i := 1) rfl
  have hs2 := (B3.out.below hb' B3.out.lt).cell (i := 2) rfl
  have hs3 := (B3.out.below hb' B3.out.lt).cell (i := 3) rfl
  have hsf := (B3.out.below hb' B3.out.lt).fz
  have hsl := (B3.out.below hb' B3.out.lt).lt
  clear hw'
  go_simp
  try rfl
 conv => arg 10; simp only [Act.put, List.setIfInBounds_toArray, List.set_cons_succ, List.set_cons_zero]
 refine Go.FreshS.wpF_spec rfl rfl rfl (fun w' hw' => ?_) ?_
 ·have hb' := hw'.world
  refine Go.FreshS.gives_of (Go.FreshS.PM (fun x : FV => .tuple #[x.v, .int .i64 6]) (fun x w' => ZqW w' x) (fun _ _ => False) w'.heap.size) ?_ (fun _ _ h => h.post (FV.injE 6))
  go_simp
  have f0 := Go.FreshS.made_of (val := (fun x : FV => x.v)) (Φ := fun x w' => DF w' V.heap.size x q101) (fun _ _ => FV.inj) (hw'.fact 0 (by kernel_rfl))
  have CT := qdivZ (f0).k (((f0).k).len LQq101.out (by decide : _ ≤ 900000)) (NC.out.below hb') (((NC.out.below hb')).len LQr.out (by decide : _ ≤ 900000)) HR0.out
  refine CT.mono ?_
  rintro e w'' ⟨za, rfl, ho, hb⟩
  exact ⟨_, rfl, ⟨za, rfl, (show ZqW w'' za from ho), fun _ h => False.elim h⟩, hb⟩
 rintro _ ⟨y2, rfl⟩
 conv => arg 10; simp only [Act.put, List.setIfInBounds_toArray, List.set_cons_succ, List.set_cons_zero]
 refine Go.FreshS.wpF_reads rfl rfl rfl ?_ (fun w' hw' => ?_) ?_
 rotate_left
 ·have hb' := hw'.world
  skip
  clear hw'
  go_simp
  try rfl
 conv => arg 10; simp only [Act.put, List.setIfInBounds_toArray, List.set_cons_succ, List.set_cons_zero]
 refine Go.FreshS.wpF_reads rfl rfl rfl ?_ (fun w' hw' => ?_) ?_
 rotate_left
 ·have hb' := hw'.world
  skip
  clear hw'
  go_simp
  try rfl
 conv => arg 10; simp only [Act.put, List.setIfInBounds_toArray, List.set_cons_succ, List.set_cons_zero]
 refine Go.FreshS.wpF_reads rfl rfl rfl ?_ (fun w' hw' => ?_) ?_
 rotate_left
 ·have hb' := hw'.world
  skip
  clear hw'
  go_simp
  try rfl
 conv => arg 10; simp only [Act.put, List.setIfInBounds_toArray, List.set_cons_succ, List.set_cons_zero]
 refine Go.FreshS.wpF_spec rfl rfl rfl (fun w' hw' => ?_) ?_
 ·have hb' := hw'.world
  refine Go.FreshS.gives_of (Go.FreshS.PB 28 4 V.heap.size w'.heap.size) ?_ (fun _ _ h => h.post)
  go_simp
  exact ⟨Go.FreshS.PB.new _ rfl hb'.size, (Below.refl _ _).alloc (Nat.le_refl _) _⟩
 rintro _ ⟨y6, rfl⟩
 conv => arg 10; simp only [Act.put, List.setIfInBounds_toArray, List.set_cons_succ, List.set_cons_zero]
 refine Go.FreshS.wpF_store rfl rfl 6 rfl rfl rfl rfl (fun _ => Iff.rfl) (fun w' hw' => ?_) ?_
 ·have hb' := hw'.world
  have hX := Go.FreshS.box_of (hw'.fact 6 (by kernel_rfl))
  obtain ⟨c0, c1, c2, c3, hB⟩ := shp4 hX.1
  have m0 := hB.cell (i := 0) rfl
  have m1 := hB.cell (i := 1) rfl
  have m2 := hB.cell (i := 2) rfl
  have m3 := hB.cell (i := 3) rfl
  have mf := hB.fz
  have ml := hB.lt
  refine Go.FreshS.stores_of ?_ (store4 hb' hX.2 hB (.bool y2.t.s) (.slice y2.t.a y2.t.n y2.t.c) (.bool y2.l.s) (.slice y2.l.a y2.l.n y2.l.c))
  clear hw'
  go_simp
  try rfl
 conv => arg 10; simp only [Act.put, List.setIfInBounds_toArray, List.set_cons_succ, List.set_cons_zero]
 refine Go.FreshS.wpF_nil (fun w103 hb hF => ?_)
 have BX102 := Lib.hid (show Bxs w103 y6 28 [.bool y2.t.s, .slice y2.t.a y2.t.n y2.t.c, .bool y2.l.s, .slice y2.l.a y2.l.n y2.l.c] from stored_bxs (hF.all 7))
 have N104 := Lib.hid (show ZqW w103 y2 from (Go.FreshS.made_of (val := (fun x : FV => .tuple #[x.v, .int .i64 6])) (Φ := fun x w' => ZqW w' x) (FV.injE 6) (hF.all 2)))
 clear hF
 have NC := Lib.hid (NC.out.below hb)
 have B3 := Lib.hid (B3.out.below hb B3.out.lt)
 have KG := Lib.hid (KG.out.trans (hb.mono KG.out.size))
 clear hb
 have SC := Lib.hid (scale_any ⟨xa, xn, xc⟩ P y2 0 k n 1 w103 (HX.out.below KG.out) HPB.out HXN.out (N104.out.z.bf _).any (N104.out.z.lf _) (LS.zero.lq (by decide) (by decide)) HK.out HKK.out)
 have d50 := BX102.out.cell (i := 0) rfl
 have d51 := BX102.out.cell (i := 1) rfl
 have d52 := BX102.out.cell (i := 2) rfl
 have d53 := BX102.out.cell (i := 3) rfl
 have d5f := BX102.out.fz
 have d5l := BX102.out.lt
 go_wp2_with fail
 with_reducible refine SC.out.mono ?_
 rintro e w9 ⟨y, rfl, hy, hb⟩
 have HY := Lib.hid (hy.mono KG.out.size)
 have KG := Lib.hid (KG.out.trans (hb.mono KG.out.size))
 clear hy hb SC
 go_wp2_with fail
 go_ret
 exact ⟨y, rfl, HY.out, KG.out⟩
set_option maxRecDepth 100000 in
set_option maxHeartbeats 4000000 in
theorem by_x (x : PV) (P : List Tm) (c : FV) (k n : Nat) (w : World) (hx : AP w x P) (hb : PB P n k 65535) (hxn : x.n ≤ 1000000) (hc : BF w c) (lc : LF c 900000) (hk : k ≤ 900000) (hkk : n * (k + 1 + 1) ≤ 900000) :
  Calls Tryz.prog 59 #[x.v, c.v] w fun e w' => ∃ y : PV, e = .returned y.v ∧ DP w' w.heap.size y (scaleP (0) P) ∧ Below w.heap.size w w' := by
 obtain ⟨V, hV⟩ : ∃ V, V = w.alloc (.cells #[.bool c.t.s, .slice c.t.a c.t.n c.t.c, .bool c.l.s, .slice c.l.a c.l.n c.l.c] 28) := ⟨_, rfl⟩
 have hbV : Below w.heap.size w V := by rw [hV]; exact (Below.refl _ _).alloc (Nat.le_refl _) _
 have B3 := Lib.hid (show Bxs V w.heap.size 28 [.bool c.t.s, .slice c.t.a c.t.n c.t.c, .bool c.l.s, .slice c.l.a c.l.n c.l.c] by rw [hV]; exact Bxs.new w 28 [.bool c.t.s, .slice c.t.a c.t.n c.t.c, .bool c.l.s, .slice c.l.a c.l.n c.l.c])
 have HX := Lib.hid hx; have HPB := Lib.hid hb; have HXN := Lib.hid hxn; have HK := Lib.hid hk; have HKK := Lib.hid hkk
 have HBC := Lib.hid hc; have HLC := Lib.hid lc
 clear hc lc
 have KG := Lib.hid hbV
 have HV := Lib.hid hV
 obtain ⟨xa, xn, xc⟩ := x
 clear hV hbV hx hb hxn hk hkk
 change Calls Tryz.prog 59 #[.slice xa xn xc, .agg #[.bool c.t.s, .slice c.t.a c.t.n c.t.c, .bool c.l.s, .slice c.l.a c.l.n c.l.c]] w _
 go_enter Tryz.func59, Tryz.ntmps59
 go_upto_region 1 with (fail)
 rw [show w.alloc (.cells #[.bool c.t.s, .slice c.t.a c.t.n c.t.c, .bool c.l.s, .slice c.l.a c.l.n c.l.c] 28) = V from HV.out.symm]
 obtain ⟨q101, hq101⟩ : ∃ z : Rat, z = ((1 : Int) : Rat) := ⟨_, rfl⟩
 have Hq101 := Lib.hid hq101
 have LQq101 := Lib.hid (show LQ q101 3 by rw [hq101]; exact LQ.int (by decide) (by decide))
 clear hq101
 go_upto_region 1 with (fail)
 refine Go.FreshS.wp_region_fresh 8 [(7, 6)] (Go.FreshS.spOf [(0, Go.FreshS.Sp.made (fun x : FV => x.v) (fun x w' => DF w' V.heap.size x q101) FV.blk), (2, Go.FreshS.Sp.made (fun x : FV => .tuple #[x.v, .int .i64 1]) (fun x w' => ZqW w' x) (fun _ _ => False)), (6, Go.FreshS.Sp.box 28 4 V.heap.size)])
  (fun w' => Below V.heap.size V w') (by kernel_rfl) (by kernel_rfl) (by kernel_rfl)
  (Go.FreshS.spOf_cons (Go.FreshS.Sp.made_keeps _ (fun _ _ _ h _ hk => h.kept hk) (Go.FreshS.notTaken (by kernel_rfl))) (Go.FreshS.spOf_cons (Go.FreshS.Sp.made_keeps _ (fun _ _ _ h _ _ => h) (Go.FreshS.notTaken (by kernel_rfl))) (Go.FreshS.spOf_cons (Go.FreshS.Sp.box_keeps _ _ _ _) (Go.FreshS.spOf_nil)))) (fun _ _ h hb => h.trans (hb.mono h.size)) ((Below.refl _ _).drew) ?_
 simp only [List.append_eq, List.cons_append, List.nil_append, List.take_succ_cons, List.take_zero, List.drop_succ_cons, List.drop_zero]
 refine Go.FreshS.wpF_spec rfl rfl rfl (fun w' hw' => ?_) ?_
 ·have hb' := hw'.world
  refine Go.FreshS.gives_of (Go.FreshS.PM (fun x : FV => x.v) (fun x w' => DF w' V.heap.size x q101) FV.blk w'.heap.size) ?_ (fun _ _ h => h.post (fun _ _ => FV.inj))
  go_simp
  have CT := qof 1 w' (by decide) (by decide)
  rw [show ((1 : Int) : Rat) = q101 from Hq101.out.symm] at CT
  refine CT.mono ?_
  rintro e w'' ⟨za, rfl, ho, hb⟩
  exact ⟨_, rfl, ⟨za, rfl, ho.mono hb'.size, ho.blks⟩, hb⟩
 rintro _ ⟨y0, rfl⟩
 conv => arg 10; simp only [Act.put, List.setIfInBounds_toArray, List.set_cons_succ, List.set_cons_zero]
 refine Go.FreshS.wpF_reads rfl rfl rfl ?_ (fun w' hw' => ?_) ?_
 rotate_left
 ·have hb' := hw'.world
  have hs0 := (B3.out.below hb' B3.out.lt).cell (i := 0) rfl
  have hs1 := (B3.out.below hb' B3.out.lt).cell (i := 1) rfl
  have hs2 := (B3.out.below hb' B3.out.lt).cell (i := 2) rfl
  have hs3 := (B3.out.below hb' B3.out.lt).cell (i := 3) rfl
  have hsf := (B3.out.below hb' B3.out.lt).fz
  have hsl := (B3.out.below hb' B3.out.lt).lt
  clear hw'
  go_simp
  try rfl
 conv => arg 10; simp only [Act.put, List.setIfInBounds_toArray, List.set_cons_succ, List.set_cons_zero]
 refine Go.FreshS.wpF_spec rfl rfl rfl (fun w' hw' => ?_) ?_
 ·have hb' := hw'.world
  refine Go.FreshS.gives_of (Go.FreshS.PM (fun x : FV => .tuple #[x.v, .int .i64 1]) (fun x w' => ZqW w' x) (fun _ _ => False) w'.heap.size) ?_ (fun _ _ h => h.post (FV.injE 1))
  go_simp
  have f0 := Go.FreshS.made_of (val := (fun x : FV => x.v)) (Φ := fun x w' => DF w' V.heap.size x q101) (fun _ _ => FV.inj) (hw'.fact 0 (by kernel_rfl))
  have CT := qdivX (f0).k (((f0).k).len LQq101.out (by decide : _ ≤ 900000)) (HBC.out.below (KG.out.trans (hb'.mono KG.out.size))) HLC.out
  refine CT.mono ?_
  rintro e w'' ⟨za, rfl, ho, hb⟩
  exact ⟨_, rfl, ⟨za, rfl, (show ZqW w'' za from ho), fun _ h => False.elim h⟩, hb⟩
 rintro _ ⟨y2, rfl⟩
 conv => arg 10; simp only [Act.put, List.setIfInBounds_toArray, List.set_cons_succ, List.set_cons_zero]
 refine Go.FreshS.wpF_reads rfl rfl rfl ?_ (fun w' hw' => ?_) ?_
 rotate_left
 ·have hb' := hw'.world
  skip
  clear hw'
  go_simp
  try rfl
 conv => arg 10; simp only [Act.put, List.setIfInBounds_toArray, List.set_cons_succ, List.set_cons_zero]
 refine Go.FreshS.wpF_reads rfl rfl rfl ?_ (fun w' hw' => ?_) ?_
 rotate_left
 ·have hb' := hw'.world
  skip
  clear hw'
  go_simp
  try rfl
 conv => arg 10; simp only [Act.put, List.setIfInBounds_toArray, List.set_cons_succ, List.set_cons_zero]
 refine Go.FreshS.wpF_reads rfl rfl rfl ?_ (fun w' hw' => ?_) ?_
 rotate_left
 ·have hb' := hw'.world
  skip
  clear hw'
  go_simp
  try rfl
 conv => arg 10; simp only [Act.put, List.setIfInBounds_toArray, List.set_cons_succ, List.set_cons_zero]
 refine Go.FreshS.wpF_spec rfl rfl rfl (fun w' hw' => ?_) ?_
 ·have hb' := hw'.world
  refine Go.FreshS.gives_of (Go.FreshS.PB 28 4 V.heap.size w'.heap.size) ?_ (fun _ _ h => h.post)
  go_simp
  exact ⟨Go.FreshS.PB.new _ rfl hb'.size, (Below.refl _ _).alloc (Nat.le_refl _) _⟩
 rintro _ ⟨y6, rfl⟩
 conv => arg 10; simp only [Act.put, List.setIfInBounds_toArray, List.set_cons_succ, List.set_cons_zero]
 refine Go.FreshS.wpF_store rfl rfl 6 rfl rfl rfl rfl (fun _ => Iff.rfl) (fun w' hw' => ?_) ?_
 ·have hb' := hw'.world
  have hX := Go.FreshS.box_of (hw'.fact 6 (by kernel_rfl))
  obtain ⟨c0, c1, c2, c3, hB⟩ := shp4 hX.1
  have m0 := hB.cell (i := 0) rfl
  have m1 := hB.cell (i := 1) rfl
  have m2 := hB.cell (i := 2) rfl
  have m3 := hB.cell (i := 3) rfl
  have mf := hB.fz
  have ml := hB.lt
  refine Go.FreshS.stores_of ?_ (store4 hb' hX.2 hB (.bool y2.t.s) (.slice y2.t.a y2.t.n y2.t.c) (.bool y2.l.s) (.slice y2.l.a y2.l.n y2.l.c))
  clear hw'
  go_simp
  try rfl
 conv => arg 10; simp only [Act.put, List.setIfInBounds_toArray, List.set_cons_succ, List.set_cons_zero]
 refine Go.FreshS.wpF_nil (fun w103 hb hF => ?_)
 have BX102 := Lib.hid (show Bxs w103 y6 28 [.bool y2.t.s, .slice y2.t.a y2.t.n y2.t.c, .bool y2.l.s, .slice y2.l.a y2.l.n y2.l.c] from stored_bxs (hF.all 7))
 have N104 := Lib.hid (show ZqW w103 y2 from (Go.FreshS.made_of (val := (fun x : FV => .tuple #[x.v, .int .i64 1])) (Φ := fun x w' => ZqW w' x) (FV.injE 1) (hF.all 2)))
 clear hF
 have B3 := Lib.hid (B3.out.below hb B3.out.lt)
 have KG := Lib.hid (KG.out.trans (hb.mono KG.out.size))
 clear hb
 have SC := Lib.hid (scale_any ⟨xa, xn, xc⟩ P y2 0 k n 1 w103 (HX.out.below KG.out) HPB.out HXN.out (N104.out.z.bf _).any (N104.out.z.lf _) (LS.zero.lq (by decide) (by decide)) HK.out HKK.out)
 have d50 := BX102.out.cell (i := 0) rfl
 have d51 := BX102.out.cell (i := 1) rfl
 have d52 := BX102.out.cell (i := 2) rfl
 have d53 := BX102.out.cell (i := 3) rfl
 have d5f := BX102.out.fz
 have d5l := BX102.out.lt
 go_wp2_with fail
 with_reducible refine SC.out.mono ?_
 rintro e w9 ⟨y, rfl, hy, hb⟩
 have HY := Lib.hid (hy.mono KG.out.size)
 have KG := Lib.hid (KG.out.trans (hb.mono KG.out.size))
 clear hy hb SC
 go_wp2_with fail
 go_ret
 exact ⟨y, rfl, HY.out, KG.out⟩
set_option maxRecDepth 100000 in
set_option maxHeartbeats 4000000 in
theorem prim_any (x : PV) (P : List Tm) (k n kc : Nat) (w : World) (hx : AP w x P) (hb : PB P n k 65535) (hxn : x.n ≤ 1000000) (hk : n * k + 1 ≤ 400000) (hk4 : k ≤ 400000) (hc : LQ (contP P) kc) (hc4 : kc ≤ 400000) (hkk : n * (k + kc + 1) ≤ 900000) :
  Calls Tryz.prog 19 #[x.v] w fun e w' => ∃ y : PV, e = .returned y.v ∧ DP w' w.heap.size y (primP P) ∧ Below w.heap.size w w' := by
 have CT := Lib.hid (content_any hx hxn hb.lq (Nat.le_trans (Nat.succ_le_succ (Nat.mul_le_mul_right _ hb.len)) hk) hk4)
 have HX := Lib.hid hx; have HPB := Lib.hid hb; have HXN := Lib.hid hxn; have HK4 := Lib.hid hk4; have HC := Lib.hid hc; have HC4 := Lib.hid hc4; have HKK := Lib.hid hkk
 obtain ⟨xa, xn, xc⟩ := x
 clear hx hb hxn hk hk4 hc hc4 hkk
 change Calls Tryz.prog 19 #[.slice xa xn xc] w _
 go_enter Tryz.func19, Tryz.ntmps19
 go_wp2_with fail
 with_reducible refine CT.out.mono ?_
 rintro e w1 ⟨c, rfl, hc, hb⟩
 have KG := Lib.hid hb
 have BY := Lib.hid (show Calls Tryz.prog 59 #[.slice xa xn xc, c.v] w1 fun e w' => ∃ y : PV, e = .returned y.v ∧ DP w' w1.heap.size y (primP P) ∧ Below w1.heap.size w1 w' from by
  by_cases h0 : contP P = 0
  ·have h := by_z ⟨xa, xn, xc⟩ P c (contP P) k n w1 (HX.out.below KG.out) HPB.out HXN.out hc.k (HC.out.up HC4.out) h0 (by have := HK4.out; omega) (Nat.le_trans (Nat.mul_le_mul_left _ (by have := HC.out.l; have h1 : lenB ((contP P).den : Int).natAbs ≠ 0 := (by rw [Int.natAbs_natCast]; exact fun e => absurd (lenB_eq_zero.1 e) (by have := (contP P).den_pos; omega)); omega)) HKK.out)
   unfold primP
   rw [h0, show (1 : Rat) / 0 = 0 by decide +kernel]
   exact h
  ·exact by_k ⟨xa, xn, xc⟩ P c (contP P) k n kc w1 (HX.out.below KG.out) HPB.out HXN.out hc.k (HC.out.up HC4.out) h0 (lq_inv HC.out) (by have := HK4.out; omega) HKK.out)
 clear hc hb CT
 go_wp2_with fail
 with_reducible refine BY.out.mono ?_
 rintro e w2 ⟨y, rfl, hy, hb⟩
 have HY := Lib.hid (hy.mono KG.out.size)
 have KG := Lib.hid (KG.out.trans (hb.mono KG.out.size))
 clear hy hb BY
 go_wp2_with fail
 go_ret
 exact ⟨y, rfl, HY.out, KG.out⟩
set_option maxRecDepth 100000 in
set_option maxHeartbeats 4000000 in
theorem monic_ne (o : Int) (x : PV) (w : World) (P : List Tm) (k n : Nat) (hx : KP w x P) (hb : PB P n k 65535) (hxn : x.n ≤ 1000000) (hne : P ≠ []) (hk : k ≤ 400000) (hkk : n * (k + k + 1) ≤ 900000) : Calls Tryz.prog 21 #[.int .u8 o, x.v] w fun e w' => ∃ (y : PV) (t : Tm), e = .returned y.v ∧ Lead (keyO o) P t ∧ DP w' w.heap.size y (scaleP (1 / t.2) P) ∧ Below w.heap.size w w' := by
 have LD := Lib.hid (lead_k o x P w hx.any (fun t ht => (hb.lq t ht).up (by omega)) hxn hne)
 have HX := Lib.hid hx; have HXN := Lib.hid hxn; have HPB := Lib.hid hb; have HK := Lib.hid hk; have HKK := Lib.hid hkk
 clear hx hb hxn hne hk hkk
 obtain ⟨xa, xn, xc⟩ := x
 change Calls Tryz.prog 21 #[.int .u8 o, .slice xa xn xc] w _
 go_enter Tryz.func21, Tryz.ntmps21
 go_wp2_with fail
 with_reducible refine LD.out.mono ?_
 rintro e w1 ⟨c, ⟨m, q⟩, rfl, hc, hld, hb⟩
 have KG := Lib.hid hb
 have HC := Lib.hid hc; have HLD := Lib.hid hld
 clear hc hld
 clear hb LD
 go_upto_region 2 with (fail)
 obtain ⟨V, hV⟩ : ∃ V, V = w1.alloc (.cells #[.bool c.t.s, .slice c.t.a c.t.n c.t.c, .bool c.l.s, .slice c.l.a c.l.n c.l.c, .int .u16 m.x, .int .u16 m.y, .int .u16 m.z, .int .u16 m.t] 50) := ⟨_, rfl⟩
 have hbV : Below w1.heap.size w1 V := by rw [hV]; exact (Below.refl _ _).alloc (Nat.le_refl _) _
 have B5 := Lib.hid (show Bxs V w1.heap.size 50 [.bool c.t.s, .slice c.t.a c.t.n c.t.c, .bool c.l.s, .slice c.l.a c.l.n c.l.c, .int .u16 m.x, .int .u16 m.y, .int .u16 m.z, .int .u16 m.t] by rw [hV]; exact Bxs.new w1 50 [.bool c.t.s, .slice c.t.a c.t.n c.t.c, .bool c.l.s, .slice c.l.a c.l.n c.l.c, .int .u16 m.x, .int .u16 m.y, .int .u16 m.z, .int .u16 m.t])
 rw [← hV]
 have KG := Lib.hid (KG.out.trans (hbV.mono KG.out.size))
 have HC := Lib.hid (HC.out.below hbV)
 have hq : LQ q k := HPB.out.lq _ HLD.out.1
 have BY := Lib.hid (by_k ⟨xa, xn, xc⟩ P c q k n k V (HX.out.below KG.out).any HPB.out HXN.out HC.out.k (hq.up HK.out) (HX.out.canon.non _ HLD.out.1) (lq_inv hq) (by have := HK.out; omega) HKK.out)
 clear hq
 clear hV hbV
 have d50 := B5.out.cell (i := 0) rfl
 have d51 := B5.out.cell (i := 1) rfl
 have d52 := B5.out.cell (i := 2) rfl
 have d53 := B5.out.cell (i := 3) rfl
 have d54 := B5.out.cell (i := 4) rfl
 have d55 := B5.out.cell (i := 5) rfl
 have d56 := B5.out.cell (i := 6) rfl
 have d57 := B5.out.cell (i := 7) rfl
 have d5f := B5.out.fz
 have d5l := B5.out.lt
 go_wp2_with fail
 with_reducible refine BY.out.mono ?_
 rintro e w2 ⟨y, rfl, hy, hb⟩
 have HY := Lib.hid (hy.mono KG.out.size)
 have KG := Lib.hid (KG.out.trans (hb.mono KG.out.size))
 clear hy hb BY
 go_wp2_with fail
 go_ret
 exact ⟨y, (m, q), rfl, HLD.out, HY.out, KG.out⟩
set_option maxRecDepth 100000 in
set_option maxHeartbeats 4000000 in
theorem monic_nil (o : Int) (x : PV) (w : World) (hx : AP w x []) (hxn : x.n ≤ 1000000) : Calls Tryz.prog 21 #[.int .u8 o, x.v] w fun e w' => ∃ y : PV, e = .returned y.v ∧ DP w' w.heap.size y [] ∧ Below w.heap.size w w' := by
 have LD := Lib.hid (lead_nil o x w hx hxn)
 have HX := Lib.hid hx; have HXN := Lib.hid hxn
 clear hx hxn
 obtain ⟨xa, xn, xc⟩ := x
 change Calls Tryz.prog 21 #[.int .u8 o, .slice xa xn xc] w _
 go_enter Tryz.func21, Tryz.ntmps21
 go_wp2_with fail
 with_reducible refine LD.out.mono ?_
 rintro e w1 ⟨rfl, hb⟩
 have KG := Lib.hid hb
 clear hb LD
 go_upto_region 2 with (fail)
 obtain ⟨V, hV⟩ : ∃ V, V = w1.alloc (.cells #[.bool false, .slice none 0 0, .bool false, .slice none 0 0, .int .u16 0, .int .u16 0, .int .u16 0, .int .u16 0] 50) := ⟨_, rfl⟩
 have hbV : Below w1.heap.size w1 V := by rw [hV]; exact (Below.refl _ _).alloc (Nat.le_refl _) _
 have B5 := Lib.hid (show Bxs V w1.heap.size 50 [.bool false, .slice none 0 0, .bool false, .slice none 0 0, .int .u16 0, .int .u16 0, .int .u16 0, .int .u16 0] by rw [hV]; exact Bxs.new w1 50 [.bool false, .slice none 0 0, .bool false, .slice none 0 0, .int .u16 0, .int .u16 0, .int .u16 0, .int .u16 0])
 rw [← hV]
 have KG := Lib.hid (KG.out.trans (hbV.mono KG.out.size))
 have BY := Lib.hid (by_x ⟨xa, xn, xc⟩ [] ⟨⟨false, none, 0, 0⟩, ⟨false, none, 0, 0⟩⟩ 0 0 V (HX.out.below KG.out) (PB.nil _ _ _) HXN.out (Zq.bf ⟨none, 0, none, 0, rfl⟩ V) ⟨Nat.zero_le _, Nat.zero_le _⟩ (by decide) (by decide))
 clear hV hbV
 have d50 := B5.out.cell (i := 0) rfl
 have d51 := B5.out.cell (i := 1) rfl
 have d52 := B5.out.cell (i := 2) rfl
 have d53 := B5.out.cell (i := 3) rfl
 have d54 := B5.out.cell (i := 4) rfl
 have d55 := B5.out.cell (i := 5) rfl
 have d56 := B5.out.cell (i := 6) rfl
 have d57 := B5.out.cell (i := 7) rfl
 have d5f := B5.out.fz
 have d5l := B5.out.lt
 go_wp2_with fail
 with_reducible refine BY.out.mono ?_
 rintro e w2 ⟨y, rfl, hy, hb⟩
 have HY := Lib.hid (hy.mono KG.out.size)
 have KG := Lib.hid (KG.out.trans (hb.mono KG.out.size))
 clear hy hb BY
 go_wp2_with fail
 go_ret
 exact ⟨y, rfl, HY.out, KG.out⟩
set_option maxRecDepth 100000 in
set_option maxHeartbeats 16000000 in
theorem qwholeB (x1 : FV) (p1 : Rat) (w : World) (h1 : AF w x1 p1) (b1 : LF x1 900000) (lq : LQ p1 900000) : Calls Tryz.prog 68 #[x1.v] w fun e w' => e = .returned (.bool (decide ((p1.den : Int) = 1))) ∧ Below w.heap.size w w' := by
 have KG := Lib.hid (Below.refl w.heap.size w)
 have N1 := Lib.hid h1
 have Bx1 := Lib.hid b1
 have LQp1 := Lib.hid lq
 clear h1 b1 lq
 obtain ⟨vd, hvd⟩ : ∃ v, v = decide ((p1.den : Int) = 1) := ⟨_, rfl⟩
 have Hvd := Lib.hid hvd
 clear hvd
 go_enter Tryz.func68, Tryz.ntmps68
 go_upto_region 1 with (fail)
 obtain ⟨v2, hV⟩ : ∃ V, V = w.alloc (.cells #[.bool x1.t.s, .slice x1.t.a x1.t.n x1.t.c, .bool x1.l.s, .slice x1.l.a x1.l.n x1.l.c] 28) := ⟨_, rfl⟩
 have hbV : Below w.heap.size w v2 := by rw [hV]; exact ((Below.refl _ _).alloc (Nat.le_refl _) _)
 have BX1 := Lib.hid (show Bxs v2 (w.heap.size) 28 [.bool x1.t.s, .slice x1.t.a x1.t.n x1.t.c, .bool x1.l.s, .slice x1.l.a x1.l.n x1.l.c] by have h := Bxs.new (w) 28 [.bool x1.t.s, .slice x1.t.a x1.t.n x1.t.c, .bool x1.l.s, .slice x1.l.a x1.l.n x1.l.c]; rw [hV]; exact h)
 rw [show w.alloc (.cells #[.bool x1.t.s, .slice x1.t.a x1.t.n x1.t.c, .bool x1.l.s, .slice x1.l.a x1.l.n x1.l.c] 28) = v2 from hV.symm]
 have KG := Lib.hid (KG.out.trans (hbV.mono KG.out.size))
 clear hV hbV
 have cBX10 := BX1.out.cell (i := 0) rfl
 have cBX11 := BX1.out.cell (i := 1) rfl
 have cBX12 := BX1.out.cell (i := 2) rfl
 have cBX13 := BX1.out.cell (i := 3) rfl
 have cBX1f := BX1.out.fz
 have cBX1l := BX1.out.lt
 go_wp2_with fail
 have CT := Lib.hid (qfit (N1.out.below KG.out) (LF.up Bx1.out (by decide : _ ≤ 900000)))
 with_reducible refine CT.out.mono ?_
 rintro e w3 ⟨x4, rfl, hN5, hb⟩
 have N5 := Lib.hid hN5
 clear hN5
 clear CT
 clear cBX10 cBX11 cBX12 cBX13 cBX1f cBX1l
 clear BX1
 have KG := Lib.hid (KG.out.trans (hb.mono KG.out.size))
 clear hb
 have hf1 := field_frac1 x4 w3
 go_wp2_with fail
 have CT := Lib.hid (unitN (N5.out).l.any ((N5.out).l.len (Lib.hid LQp1.out.l).out (by decide)))
 rw [show decide ((p1.den : Int) = 1) = vd from Hvd.out.symm] at CT
 with_reducible refine CT.out.mono ?_
 rintro e w6 ⟨rfl, hb⟩
 clear CT
 clear N5
 have KG := Lib.hid (KG.out.trans (hb.mono KG.out.size))
 clear hb
 go_wp2_with fail
 go_ret
 exact ⟨by rw [← Hvd.out]; rfl, KG.out⟩
set_option maxRecDepth 100000 in
set_option maxHeartbeats 16000000 in
theorem lsame7_k (x y : PV) (P : List Tm) (w : World) (hx : KP w x P) (hy : KP w y P) (hp : ∀ t ∈ P, LQ t.2 900000) (hn : P.length ≤ 1000000) : Calls Tryz.prog 18 #[x.v, y.v] w fun e w' => e = .returned (.bool true) ∧ Below w.heap.size w w' := by
 have SM := Lib.hid (same_k x y P w hx hy hp hn)
 clear hx hy hp hn
 obtain ⟨xa, xn, xc⟩ := x
 obtain ⟨ya, yn, yc⟩ := y
 change Calls Tryz.prog 18 #[.slice xa xn xc, .slice ya yn yc] w _
 go_enter Tryz.func18, Tryz.ntmps18
 go_wp2_with fail
 with_reducible refine SM.out.mono ?_
 rintro e w1 ⟨rfl, hb⟩
 have KG := Lib.hid hb
 clear hb SM
 go_wp2_with fail
 go_ret
 exact ⟨rfl, KG.out⟩
theorem psame7 {w : World} {x y : PV} {P Q : List Tm} {n k e : Nat} (hx : KP w x P) (hy : KP w y Q) (h : P = Q) (b : PC P n k e) (hk : k ≤ 900000) (hn : n ≤ 1000000) :
  Calls Tryz.prog 18 #[x.v, y.v] w fun e w' => e = .returned (.bool true) ∧ Below w.heap.size w w' := by
 subst h
 exact lsame7_k x y P w hx hy (b.lq hk) (Nat.le_trans b.b.len hn)
theorem sign_ne {q : Rat} (h : q ≠ 0) : cmpZ q.num 0 ≠ 0 := by
 have hn : q.num ≠ 0 := fun e => h (Rat.num_eq_zero.1 e)
 unfold cmpZ
 split
 ·omega
 ·split <;> omega
theorem AF.cases {w : World} {x : FV} {q : Rat} (h : AF w x q) : KF w x q ∨ (BF w x ∧ q = 0) := by
 obtain ⟨⟨o1, o2, r1, r2, hv⟩, l1, l2⟩ := h
 by_cases hk : okF x.t.s x.t.n o1 x.l.s x.l.n o2
 ·exact Or.inl (hv ▸ KF.raw r1 l1 r2 l2 hk)
 ·refine Or.inr ⟨⟨⟨o1, o2, r1, r2, hk⟩, l1, l2⟩, ?_⟩
  rw [← hv]
  unfold valF
  rw [if_neg hk]
theorem PC.cont {P : List Tm} {n k e : Nat} (h : PC P n k e) : LQ (contP P) (n * k + k + 1) := contP_lq h.c h.b.len h.b.lq
theorem PC.prim {P : List Tm} {n k e kc : Nat} (h : PC P n k e) (hc : LQ (contP P) kc) : PC (primP P) n (k + kc) e := ⟨scaleP_canon _ _, PB.prim h.c h.b hc⟩
theorem PC.monic {P : List Tm} {n k e : Nat} {o : Int} {m : Mo} {q : Rat} (h : PC P n k e) (hl : Lead (keyO o) P (m, q)) : PC (scaleP (1 / q) P) n (k + k) e := h.scale (lq_inv (h.b.lq _ hl.1))
theorem pcontent {w : World} {x : PV} {P : List Tm} {n k e : Nat} (hx : KP w x P) (b : PC P n k e) (hk : n * k + 1 ≤ 400000) (hk4 : k ≤ 400000) (hn : n ≤ 1000000) : Calls Tryz.prog 16 #[x.v] w (RF w (contP P)) :=
 content_any hx.any (Nat.le_trans (hx.n_le b) hn) b.b.lq (Nat.le_trans (Nat.succ_le_succ (Nat.mul_le_mul_right _ b.b.len)) hk) hk4
theorem pprim {w : World} {x : PV} {P : List Tm} {n k e kc : Nat} (hx : KP w x P) (b : PC P n k e) (hc : LQ (contP P) kc) (he : e ≤ 65535) (hk : n * k + 1 ≤ 400000) (hk4 : k ≤ 400000) (hc4 : kc ≤ 400000) (hkk : n * (k + kc + 1) ≤ 900000) (hn : n ≤ 1000000) :
  Calls Tryz.prog 19 #[x.v] w fun e w' => ∃ y : PV, e = .returned y.v ∧ DP w' w.heap.size y (primP P) ∧ Below w.heap.size w w' :=
 prim_any x P k n kc w hx.any (b.b.up (Nat.le_refl _) (Nat.le_refl _) he) (Nat.le_trans (hx.n_le b) hn) hk hk4 hc hc4 hkk
def RNil (w : World) (e : Ending) (w' : World) : Prop := ∃ a c, e = .returned (.slice a 0 c) ∧ Below w.heap.size w w'
theorem rnil_of {w : World} {e : Ending} {w' : World} (h : ∃ y : PV, e = .returned y.v ∧ DP w' w.heap.size y [] ∧ Below w.heap.size w w') : RNil w e w' := by
 obtain ⟨⟨a, n, c⟩, rfl, h2, h3⟩ := h
 obtain rfl : n = 0 := h2.k.len
 exact ⟨a, c, rfl, h3⟩
theorem pprim_n {w : World} {x : PV} (hx : AP w x []) (hn : x.n ≤ 1000000) : Calls Tryz.prog 19 #[x.v] w (RNil w) :=
 (prim_any x [] 0 0 1 w hx (PB.nil _ _ _) hn (by decide) (by decide) (LS.zero.lq (by decide) (by decide)) (by decide) (by decide)).mono fun _ _ h => rnil_of h
theorem pprim_nil (w : World) : Calls Tryz.prog 19 #[.slice none 0 0] w (RNil w) := pprim_n (x := ⟨none, 0, 0⟩) (KP.nil _ _ _).any (by decide)
theorem pmonic_n {w : World} {x : PV} (o : Int) (hx : AP w x []) (hn : x.n ≤ 1000000) : Calls Tryz.prog 21 #[.int .u8 o, x.v] w (RNil w) := (monic_nil o x w hx hn).mono fun _ _ h => rnil_of h
theorem pcontent_nil (w : World) : Calls Tryz.prog 16 #[.slice none 0 0] w (RF w 0) := content_0K ⟨none, 0, 0⟩ w (KP.nil _ _ _)
theorem pleadL {w : World} {x : PV} {P : List Tm} {n k e : Nat} {o : Int} {m : Mo} {q : Rat} (hx : KP w x P) (b : PC P n k e) (hl : Lead (keyO o) P (m, q)) (he : e ≤ 65535) (hk : k ≤ 900000) (hn : n ≤ 1000000) :
  Calls Tryz.prog 22 #[.int .u8 o, x.v] w fun e w' => ∃ y : FV, e = .returned (.tuple #[TV.v ⟨y, m⟩, .bool true]) ∧ DF w' w.heap.size y q ∧ Below w.heap.size w w' :=
 (plead o hx b hk hn (fun h => by have h1 := hl.1; rw [h] at h1; cases h1)).mono fun e w' ⟨y, t, h1, h2, h3, h4⟩ => by
  obtain rfl := lead_uniq (keyO_key o) b.c (fun t ht => (b.b.ex t ht).up he) h3 hl
  exact ⟨y, h1, h2, h4⟩
theorem pmonicL {w : World} {x : PV} {P : List Tm} {n k e : Nat} {o : Int} {m : Mo} {q : Rat} (hx : KP w x P) (b : PC P n k e) (hl : Lead (keyO o) P (m, q)) (he : e ≤ 65535) (hk : k ≤ 400000) (hn : n ≤ 1000000) (hkk : n * (k + k + 1) ≤ 900000) :
  Calls Tryz.prog 21 #[.int .u8 o, x.v] w fun e w' => ∃ y : PV, e = .returned y.v ∧ DP w' w.heap.size y (scaleP (1 / q) P) ∧ Below w.heap.size w w' :=
 (monic_ne o x w P k n hx (b.b.up (Nat.le_refl _) (Nat.le_refl _) he) (Nat.le_trans (hx.n_le b) hn) (fun h => by have h1 := hl.1; rw [h] at h1; cases h1) hk hkk).mono fun e w' ⟨y, t, h1, h2, h3, h4⟩ => by
  obtain rfl := lead_uniq (keyO_key o) b.c (fun t ht => (b.b.ex t ht).up he) h2 hl
  exact ⟨y, h1, h3, h4⟩
theorem lead_ex2 (o : Int) {P : List Tm} (h : P ≠ []) : ∃ m q, Lead (keyO o) P (m, q) := let ⟨t, ht⟩ := lead_ex (keyO o) h; ⟨t.1, t.2, ht⟩
set_option maxRecDepth 100000 in
set_option maxHeartbeats 16000000 in
theorem pprime {w : World} {x : PV} {Q : List Tm} {n k e : Nat} (hx : KP w x Q) (b : PC Q n k e) (hp : Prm Q) (hk4 : k ≤ 400000) (hn : n ≤ 1000000) :
  Calls Tryz.prog 25 #[x.v] w fun e w' => e = .returned (.bool true) ∧ Below w.heap.size w w' := by
 have OF := Lib.hid (ofN 0 w (by decide) (by decide))
 have HX := Lib.hid hx; have PCQ := Lib.hid b; have HP := Lib.hid hp; have HK4 := Lib.hid hk4; have HN := Lib.hid hn
 have HK9 := Lib.hid (show k ≤ 900000 by omega); have HN9 := Lib.hid (show n ≤ 1000000000 by omega)
 have hne := hp.some
 have hpos := List.length_pos_iff.2 hne
 have hxl := hx.len
 obtain ⟨L1, g1, g2, g3, g4⟩ := hx.ex
 have R1 := Lib.hid g1; have F1 := Lib.hid g3; have T1 := Lib.hid g4
 obtain ⟨xa, xn, xc⟩ := x
 have N1 := Lib.hid (show L1.length = xn from g2)
 have HXL := Lib.hid (show xn = Q.length from hxl)
 have HXP := Lib.hid (show 0 < xn by have := HXL.out; omega)
 obtain ⟨pb, po, rfl, hpb, hcs⟩ := g1.off (i := 0) (by rw [List.length_map, N1.out]; exact HXP.out)
 have HCS := Lib.hid hcs
 have KG := Lib.hid (Below.refl w.heap.size w)
 change Calls Tryz.prog 25 #[.slice (some ⟨pb, po, none⟩) xn xc] w _
 clear hx b hp hk4 hn hne hpos hxl g1 g2 g3 g4 hpb hcs
 go_enter Tryz.func25, Tryz.ntmps25
 go_wp2_with fail
 with_reducible refine OF.out.mono ?_
 rintro e w1 ⟨g, rfl, hg, hb⟩
 have HG := Lib.hid hg
 have KG := Lib.hid hb
 clear hg hb OF
 go_upto_region 2 with (fail)
 obtain ⟨V, hV⟩ : ∃ V, V = w1.alloc (.cells #[.bool g.s, .slice g.a g.n g.c] 26) := ⟨_, rfl⟩
 have hbV : Below w1.heap.size w1 V := by rw [hV]; exact (Below.refl _ _).alloc (Nat.le_refl _) _
 have B3 := Lib.hid (show Bxs V w1.heap.size 26 [.bool g.s, .slice g.a g.n g.c] by rw [hV]; exact Bxs.new w1 26 [.bool g.s, .slice g.a g.n g.c])
 obtain ⟨A3, hA3⟩ : ∃ A, A = w1.heap.size := ⟨_, rfl⟩
 have HA3 := Lib.hid (show w.heap.size ≤ A3 by rw [hA3]; exact KG.out.size)
 rw [← hV, ← hA3]
 rw [← hA3] at B3
 have HG := Lib.hid (HG.out.below hbV)
 have KG := Lib.hid (KG.out.trans (hbV.mono KG.out.size))
 clear hV hbV hA3
 go_wp2_with fail
 go_loopw [4] (fun i wr => ∃ (j : Nat) (g : NV), j ≤ xn ∧ i = .int .i64 j ∧ DN wr w.heap.size g (gT (Q.take j) 0 : Int) ∧ Bxs wr A3 26 [.bool g.s, .slice g.a g.n g.c] ∧ Below w.heap.size w wr) (fun i _ => xn - (intOf i).toNat)
 case atStart => exact ⟨0, g, Nat.zero_le _, rfl, HG.out, B3.out, KG.out⟩
 case round =>
  clear B3 KG HG
  obtain ⟨j, g, hj, rfl, hg, hb3, hb0⟩ := hrel
  have HJ := Lib.hid hj; have NG := Lib.hid hg; have B3 := Lib.hid hb3; have KG := Lib.hid hb0
  clear hj hg hb3 hb0
  have LG := Lib.hid (show lenB ((gT (Q.take j) 0 : Nat) : Int).natAbs ≤ 400000 from Nat.le_trans (by
   rw [Int.natAbs_natCast]
   exact gT_len (by rw [lenB_zero]; omega) fun u hu => ⟨HX.out.canon.non u (List.mem_of_mem_take hu), PCQ.out.b.lq u (List.mem_of_mem_take hu)⟩) HK4.out)
  by_cases hjn : j < xn
  ·have HJN := Lib.hid hjn
   have hjl : j < L1.length := by rw [N1.out]; exact hjn
   obtain ⟨e, he⟩ : ∃ e, L1[j]? = some e := ⟨_, List.getElem?_eq_getElem hjl⟩
   obtain ⟨t, q⟩ := e
   obtain ⟨c0, c1, c2, c3, _⟩ := RT.eight HCS.out (i := j) (t := t) (by rw [List.getElem?_map, he]; rfl)
   have HT0 := Lib.hid (show T0 w pb (po + j * 8) t from ⟨c0, c1, c2, c3⟩)
   have hmem := List.mem_of_getElem? he
   have HPJ := Lib.hid (show Q[j]? = some (t.m, q) by rw [← T1.out, List.getElem?_map, he]; rfl)
   have NT := Lib.hid (show KF w t.c q from F1.out _ hmem)
   have NTT := Lib.hid NT.out.t
   have hpm := List.mem_of_getElem? HPJ.out
   have LQq := Lib.hid (show LQ q 400000 from (PCQ.out.b.lq _ hpm).up HK4.out)
   have HDN := Lib.hid (show decide ((q.den : Int) = 1) = true from decide_eq_true (by rw [prm_den HP.out hpm]; rfl))
   have WH := Lib.hid (qwholeB t.c q wr (NT.out.below KG.out).any ((NT.out.below KG.out).len LQq.out (by decide)) (LQq.out.up (by decide)))
   rw [HDN.out] at WH
   have hlt : (j : Int) < (xn : Int) := by omega
   have ek : IntKind.i64.wrap ((j : Int) + 1) = (j : Int) + 1 := IntWalk.i64_in _ (by have := HJN.out; have := HXL.out; have := HN.out; have := PCQ.out.b.len; omega)
   have HEK := Lib.hid ek
   obtain ⟨e0, e1, e2, e3⟩ := (HT0.out.below KG.out).c
   clear he hjl hmem hpm c0 c1 c2 c3
   go_wp2_with fail
   with_reducible refine WH.out.mono ?_
   rintro e V ⟨rfl, hb⟩
   have NG := Lib.hid (NG.out.below hb)
   have B3 := Lib.hid (B3.out.below hb B3.out.lt)
   have KG := Lib.hid (KG.out.trans (hb.mono KG.out.size))
   have HSZ := Lib.hid KG.out.size
   clear hb WH e0 e1 e2 e3
   obtain ⟨zg, hzg⟩ : ∃ z, z = ((gT (Q.take j) 0 : Nat) : Int) := ⟨_, rfl⟩
   rw [← hzg] at NG
   have LZzg := Lib.hid (show lenB zg.natAbs ≤ 400000 by rw [hzg]; exact LG.out)
   have HZG := Lib.hid hzg
   clear hzg ek
   obtain ⟨z101, hz101⟩ : ∃ z : Int, z = ((Int.gcd zg q.num : Nat) : Int) := ⟨_, rfl⟩
   have Hz101 := Lib.hid hz101
   have LZz101 := Lib.hid (show lenB z101.natAbs ≤ 400000 by rw [hz101]; exact len_gcd (Nat.le_trans LZzg.out (by decide) : lenB zg.natAbs ≤ 400000) (Nat.le_trans (Lib.hid LQq.out.t).out (by decide) : lenB q.num.natAbs ≤ 400000))
   clear hz101
   go_upto_region 7 with (fail)
   refine Go.FreshS.wp_region_fresh 8 [] (Go.FreshS.spOf [(7, Go.FreshS.Sp.made (fun x : NV => x.v) (fun x w' => DN w' V.heap.size x z101) NV.blk)])
    (fun w' => Below V.heap.size V w') (by kernel_rfl) (by kernel_rfl) (by kernel_rfl)
    (Go.FreshS.spOf_cons (Go.FreshS.Sp.made_keeps _ (fun _ _ _ h _ hk => h.kept hk) (Go.FreshS.notTaken (by kernel_rfl))) (Go.FreshS.spOf_nil)) (fun _ _ h hb => h.trans (hb.mono h.size)) ((Below.refl _ _).drew) ?_
   simp only [List.append_eq, List.cons_append, List.nil_append, List.take_succ_cons, List.take_zero, List.drop_succ_cons, List.drop_zero]
   refine Go.FreshS.wpF_reads rfl rfl rfl ?_ (fun w' hw' => ?_) ?_
   rotate_left
   ·have hb' := hw'.world
    have hs0 := (B3.out.below hb' B3.out.lt).cell (i := 0) rfl
    have hs1 := (B3.out.below hb' B3.out.lt).cell (i := 1) rfl
    have hsf := (B3.out.below hb' B3.out.lt).fz
    have hsl := (B3.out.below hb' B3.out.lt).lt
    clear hw'
    go_simp
    try rfl
   conv => arg 10; simp only [Act.put, List.setIfInBounds_toArray, List.set_cons_succ, List.set_cons_zero]
   refine Go.FreshS.wpF_reads rfl rfl rfl ?_ (fun w' hw' => ?_) ?_
   rotate_left
   ·have hb' := hw'.world
    skip
    clear hw'
    go_simp
    try rfl
   conv => arg 10; simp only [Act.put, List.setIfInBounds_toArray, List.set_cons_succ, List.set_cons_zero]
   refine Go.FreshS.wpF_reads rfl rfl rfl ?_ (fun w' hw' => ?_) ?_
   rotate_left
   ·have hb' := hw'.world
    skip
    clear hw'
    go_simp
    try rfl
   conv => arg 10; simp only [Act.put, List.setIfInBounds_toArray, List.set_cons_succ, List.set_cons_zero]
   refine Go.FreshS.wpF_reads rfl rfl rfl ?_ (fun w' hw' => ?_) ?_
   rotate_left
   ·have hb' := hw'.world
    have hn := HJN.out
    have hn' : (j : Int) < (xn : Int) := by omega
    clear hw'
    go_simp
    try rfl
   conv => arg 10; simp only [Act.put, List.setIfInBounds_toArray, List.set_cons_succ, List.set_cons_zero]
   refine Go.FreshS.wpF_reads rfl rfl rfl ?_ (fun w' hw' => ?_) ?_
   rotate_left
   ·have hb' := hw'.world
    skip
    clear hw'
    go_simp
    try rfl
   conv => arg 10; simp only [Act.put, List.setIfInBounds_toArray, List.set_cons_succ, List.set_cons_zero]
   refine Go.FreshS.wpF_reads rfl rfl rfl ?_ (fun w' hw' => ?_) ?_
   rotate_left
   ·have hb' := hw'.world
    skip
    clear hw'
    go_simp
    try rfl
   conv => arg 10; simp only [Act.put, List.setIfInBounds_toArray, List.set_cons_succ, List.set_cons_zero]
   refine Go.FreshS.wpF_reads rfl rfl rfl ?_ (fun w' hw' => ?_) ?_
   rotate_left
   ·have hb' := hw'.world
    have d0 := (HT0.out.below (KG.out.trans (hb'.mono KG.out.size)))
    obtain ⟨e0, e1, e2, e3⟩ := d0.c
    clear hw'
    go_simp
    try rfl
   conv => arg 10; simp only [Act.put, List.setIfInBounds_toArray, List.set_cons_succ, List.set_cons_zero]
   refine Go.FreshS.wpF_spec rfl rfl rfl (fun w' hw' => ?_) ?_
   ·have hb' := hw'.world
    refine Go.FreshS.gives_of (Go.FreshS.PM (fun x : NV => x.v) (fun x w' => DN w' V.heap.size x z101) NV.blk w'.heap.size) ?_ (fun _ _ h => h.post @NV.inj)
    go_simp
    have CT := gcdN (NG.out.below hb').k.any ((NG.out.below hb').k.len LZzg.out (by decide)) (NTT.out.below (KG.out.trans (hb'.mono KG.out.size))).any ((NTT.out.below (KG.out.trans (hb'.mono KG.out.size))).len (Lib.hid LQq.out.t).out (by decide))
    rw [show ((Int.gcd zg q.num : Nat) : Int) = z101 from Hz101.out.symm] at CT
    refine CT.mono ?_
    rintro e w'' ⟨za, rfl, ho, hb⟩
    exact ⟨_, rfl, ⟨za, rfl, ho.mono hb'.size, ho.blks⟩, hb⟩
   rintro _ ⟨y7, rfl⟩
   conv => arg 10; simp only [Act.put, List.setIfInBounds_toArray, List.set_cons_succ, List.set_cons_zero]
   refine Go.FreshS.wpF_nil (fun w102 hb hF => ?_)
   have N103 := Lib.hid (show DN w102 V.heap.size y7 z101 from (Go.FreshS.made_of (val := fun x : NV => x.v) (Φ := fun x w' => DN w' V.heap.size x z101) @NV.inj (hF.all 7)))
   clear hF
   have NG := Lib.hid (NG.out.below hb)
   have B3 := Lib.hid (B3.out.below hb B3.out.lt)
   have KG := Lib.hid (KG.out.trans (hb.mono KG.out.size))
   clear hb
   have HNG := Lib.hid (show DN w102 w.heap.size y7 (gT (Q.take (j + 1)) 0 : Int) by
    rw [gT_take Q j _ HPJ.out]
    have h : z101 = ((Nat.gcd (gT (Q.take j) 0) q.num.natAbs : Nat) : Int) := by rw [Hz101.out, HZG.out]; rfl
    rw [← h]
    exact N103.out.mono HSZ.out)
   have ek := HEK.out
   have d30 := B3.out.cell (i := 0) rfl
   have d31 := B3.out.cell (i := 1) rfl
   have d3f := B3.out.fz
   have d3l := B3.out.lt
   go_wp2_with fail
   go_roundw
   case rel =>
    exact ⟨j + 1, y7, by have := HJN.out; omega, rfl, (HNG.out.setBxs B3.out (by decide) 0 _).setBxs (B3.out.put 0 _) (by decide) 1 _, (B3.out.put 0 _).put 1 _, (KG.out.setCell HA3.out _).setCell HA3.out _⟩
   case measure => simp [intOf]; have := HJN.out; omega
  ·have hge : ¬ ((j : Int) < (xn : Int)) := by omega
   have HJE := Lib.hid (show j = xn by have := HJ.out; omega)
   clear hjn
   have htk : Q.take j = Q := List.take_of_length_le (by rw [HJE.out, HXL.out]; exact Nat.le_refl _)
   obtain ⟨zg, hzg⟩ : ∃ z, z = ((gT (Q.take j) 0 : Nat) : Int) := ⟨_, rfl⟩
   have hz1 : zg = 1 := by rw [hzg, htk, prm_gcd HP.out]; rfl
   rw [← hzg] at NG
   have LZzg := Lib.hid (show lenB zg.natAbs ≤ 400000 by rw [hzg]; exact LG.out)
   have HZ1 := Lib.hid (show cmpZ zg 1 = 0 by rw [hz1]; decide)
   obtain ⟨V, hVr⟩ : ∃ V, V = wr := ⟨_, rfl⟩
   obtain ⟨⟨t, q⟩, he⟩ : ∃ e, L1[0]? = some e := ⟨_, List.getElem?_eq_getElem (by rw [N1.out]; exact HXP.out)⟩
   obtain ⟨c0, c1, c2, c3, _⟩ := RT.eight HCS.out (i := 0) (t := t) (by rw [List.getElem?_map, he]; rfl)
   have HT0 := Lib.hid (show T0 w pb po t from ⟨c0, c1, c2, c3⟩)
   have hmem := List.mem_of_getElem? he
   have hP0 : Q[0]? = some (t.m, q) := by rw [← T1.out, List.getElem?_map, he]; rfl
   have NT := Lib.hid (show KF w t.c q from F1.out _ hmem)
   have LQq := Lib.hid (show LQ q 400000 from (PCQ.out.b.lq _ (List.mem_of_getElem? hP0)).up HK4.out)
   have HS1 := Lib.hid (show cmpZ q.num 0 = 1 by
    match Q, hP0, HP.out with
    | u :: r, h, hp =>
     obtain rfl : u = (t.m, q) := by simpa using h
     have h1 : 0 < q.num := prm_sign hp
     unfold cmpZ
     rw [if_neg (by omega), if_pos h1])
   rw [← hVr]
   rw [← hVr] at NG B3 KG
   clear htk hzg hz1 he hmem hP0 c0 c1 c2 c3 hVr
   obtain ⟨zone, hzone⟩ : ∃ z : Int, z = (1 : Int) := ⟨_, rfl⟩
   have Hzone := Lib.hid hzone
   have LZzone := Lib.hid (show lenB zone.natAbs ≤ 3 by rw [hzone]; exact len1 (by decide) (by decide))
   clear hzone
   go_upto_region 8 with (fail)
   refine Go.FreshS.wp_region_fresh 21 [] (Go.FreshS.spOf [(5, Go.FreshS.Sp.know (.bool true)), (9, Go.FreshS.Sp.made (fun x : NV => x.v) (fun x w' => DN w' V.heap.size x zone) NV.blk), (10, Go.FreshS.Sp.know (.int .i64 0)), (18, Go.FreshS.Sp.know (.int .i64 1))])
    (fun w' => Below V.heap.size V w') (by kernel_rfl) (by kernel_rfl) (by kernel_rfl)
    (Go.FreshS.spOf_cons (Go.FreshS.Sp.know_keeps _ _) (Go.FreshS.spOf_cons (Go.FreshS.Sp.made_keeps _ (fun _ _ _ h _ hk => h.kept hk) (Go.FreshS.notTaken (by kernel_rfl))) (Go.FreshS.spOf_cons (Go.FreshS.Sp.know_keeps _ _) (Go.FreshS.spOf_cons (Go.FreshS.Sp.know_keeps _ _) (Go.FreshS.spOf_nil))))) (fun _ _ h hb => h.trans (hb.mono h.size)) ((Below.refl _ _).drew) ?_
   simp only [List.append_eq, List.cons_append, List.nil_append, List.take_succ_cons, List.take_zero, List.drop_succ_cons, List.drop_zero]
   refine Go.FreshS.wpF_reads rfl rfl rfl ?_ (fun w' hw' => ?_) ?_
   rotate_left
   ·have hb' := hw'.world
    skip
    clear hw'
    go_simp
    try rfl
   conv => arg 10; simp only [Act.put, List.setIfInBounds_toArray, List.set_cons_succ, List.set_cons_zero]
   refine Go.FreshS.wpF_reads rfl rfl rfl ?_ (fun w' hw' => ?_) ?_
   rotate_left
   ·have hb' := hw'.world
    skip
    clear hw'
    go_simp
    try rfl
   conv => arg 10; simp only [Act.put, List.setIfInBounds_toArray, List.set_cons_succ, List.set_cons_zero]
   refine Go.FreshS.wpF_reads rfl rfl rfl ?_ (fun w' hw' => ?_) ?_
   rotate_left
   ·have hb' := hw'.world
    have hn := HXP.out
    have hn' : (0 : Int) < (xn : Int) := by omega
    clear hw'
    go_simp
    try rfl
   conv => arg 10; simp only [Act.put, List.setIfInBounds_toArray, List.set_cons_succ, List.set_cons_zero]
   refine Go.FreshS.wpF_reads rfl rfl rfl ?_ (fun w' hw' => ?_) ?_
   rotate_left
   ·have hb' := hw'.world
    skip
    clear hw'
    go_simp
    try rfl
   conv => arg 10; simp only [Act.put, List.setIfInBounds_toArray, List.set_cons_succ, List.set_cons_zero]
   refine Go.FreshS.wpF_readsG (by rfl) rfl rfl ?_ (fun w' hw' => ?_) ?_
   rotate_left
   ·have hb' := hw'.world
    skip
    clear hw'
    go_simp
    try rfl
   conv => arg 10; simp only [Act.put, List.setIfInBounds_toArray, List.set_cons_succ, List.set_cons_zero]
   refine Go.FreshS.wpF_gspec (by rfl) rfl rfl (fun w' hw' => ?_) ?_
   ·have hb' := hw'.world
    refine Go.FreshS.gives_of (Go.FreshS.PK (.bool true)) ?_ (fun _ _ h => h.post)
    go_simp
    have CT := pcheck (HX.out.below (KG.out.trans (hb'.mono KG.out.size))) PCQ.out HK9.out HN9.out
    refine CT.mono ?_
    rintro e w'' ⟨rfl, hb⟩
    exact ⟨_, rfl, rfl, hb⟩
   rintro _ rfl
   conv => arg 10; simp only [Act.put, List.setIfInBounds_toArray, List.set_cons_succ, List.set_cons_zero]
   refine Go.FreshS.wpF_reads rfl rfl rfl ?_ (fun w' hw' => ?_) ?_
   rotate_left
   ·have hb' := hw'.world
    skip
    clear hw'
    go_simp
    try rfl
   conv => arg 10; simp only [Act.put, List.setIfInBounds_toArray, List.set_cons_succ, List.set_cons_zero]
   refine Go.FreshS.wpF_reads rfl rfl rfl ?_ (fun w' hw' => ?_) ?_
   rotate_left
   ·have hb' := hw'.world
    skip
    clear hw'
    go_simp
    try rfl
   conv => arg 10; simp only [Act.put, List.setIfInBounds_toArray, List.set_cons_succ, List.set_cons_zero]
   refine Go.FreshS.wpF_readsG (by rfl) rfl rfl ?_ (fun w' hw' => ?_) ?_
   rotate_left
   ·have hb' := hw'.world
    have hs0 := (B3.out.below hb' B3.out.lt).cell (i := 0) rfl
    have hs1 := (B3.out.below hb' B3.out.lt).cell (i := 1) rfl
    have hsf := (B3.out.below hb' B3.out.lt).fz
    have hsl := (B3.out.below hb' B3.out.lt).lt
    clear hw'
    go_simp
    try rfl
   conv => arg 10; simp only [Act.put, List.setIfInBounds_toArray, List.set_cons_succ, List.set_cons_zero]
   refine Go.FreshS.wpF_gspec (by rfl) rfl rfl (fun w' hw' => ?_) ?_
   ·have hb' := hw'.world
    refine Go.FreshS.gives_of (Go.FreshS.PM (fun x : NV => x.v) (fun x w' => DN w' V.heap.size x zone) NV.blk w'.heap.size) ?_ (fun _ _ h => h.post @NV.inj)
    go_simp
    have CT := ofZ 1 zone (Hzone.out.symm) w' (by decide) (by decide)
    refine CT.mono ?_
    rintro e w'' ⟨za, rfl, ho, hb⟩
    exact ⟨_, rfl, ⟨za, rfl, ho.mono hb'.size, ho.blks⟩, hb⟩
   rintro _ ⟨y9, rfl⟩
   conv => arg 10; simp only [Act.put, List.setIfInBounds_toArray, List.set_cons_succ, List.set_cons_zero]
   refine Go.FreshS.wpF_gspec (by rfl) rfl rfl (fun w' hw' => ?_) ?_
   ·have hb' := hw'.world
    refine Go.FreshS.gives_of (Go.FreshS.PK (.int .i64 0)) ?_ (fun _ _ h => h.post)
    go_simp
    have f9 := Go.FreshS.made_of (val := fun x : NV => x.v) (Φ := fun x w' => DN w' V.heap.size x zone) @NV.inj (hw'.fact 9 (by kernel_rfl))
    have CT := cmpN (NG.out.below hb').k.any ((NG.out.below hb').k.len LZzg.out (by decide)) f9.k.any (f9.k.len LZzone.out (by decide))
    rw [show cmpZ zg zone = 0 from (by rw [Hzone.out]; exact HZ1.out)] at CT
    refine CT.mono ?_
    rintro e w'' ⟨rfl, hb⟩
    exact ⟨_, rfl, rfl, hb⟩
   rintro _ rfl
   conv => arg 10; simp only [Act.put, List.setIfInBounds_toArray, List.set_cons_succ, List.set_cons_zero]
   refine Go.FreshS.wpF_readsG (by rfl) rfl rfl ?_ (fun w' hw' => ?_) ?_
   rotate_left
   ·have hb' := hw'.world
    skip
    clear hw'
    go_simp
    try rfl
   conv => arg 10; simp only [Act.put, List.setIfInBounds_toArray, List.set_cons_succ, List.set_cons_zero]
   refine Go.FreshS.wpF_reads rfl rfl rfl ?_ (fun w' hw' => ?_) ?_
   rotate_left
   ·have hb' := hw'.world
    skip
    clear hw'
    go_simp
    try rfl
   conv => arg 10; simp only [Act.put, List.setIfInBounds_toArray, List.set_cons_succ, List.set_cons_zero]
   refine Go.FreshS.wpF_reads rfl rfl rfl ?_ (fun w' hw' => ?_) ?_
   rotate_left
   ·have hb' := hw'.world
    skip
    clear hw'
    go_simp
    try rfl
   conv => arg 10; simp only [Act.put, List.setIfInBounds_toArray, List.set_cons_succ, List.set_cons_zero]
   refine Go.FreshS.wpF_readsG (by rfl) rfl rfl ?_ (fun w' hw' => ?_) ?_
   rotate_left
   ·have hb' := hw'.world
    skip
    clear hw'
    go_simp
    try rfl
   conv => arg 10; simp only [Act.put, List.setIfInBounds_toArray, List.set_cons_succ, List.set_cons_zero]
   refine Go.FreshS.wpF_readsG (by rfl) rfl rfl ?_ (fun w' hw' => ?_) ?_
   rotate_left
   ·have hb' := hw'.world
    have hn := HXP.out
    have hn' : (0 : Int) < (xn : Int) := by omega
    clear hw'
    go_simp
    try rfl
   conv => arg 10; simp only [Act.put, List.setIfInBounds_toArray, List.set_cons_succ, List.set_cons_zero]
   refine Go.FreshS.wpF_readsG (by rfl) rfl rfl ?_ (fun w' hw' => ?_) ?_
   rotate_left
   ·have hb' := hw'.world
    skip
    clear hw'
    go_simp
    try rfl
   conv => arg 10; simp only [Act.put, List.setIfInBounds_toArray, List.set_cons_succ, List.set_cons_zero]
   refine Go.FreshS.wpF_readsG (by rfl) rfl rfl ?_ (fun w' hw' => ?_) ?_
   rotate_left
   ·have hb' := hw'.world
    have d0 := (HT0.out.below (KG.out.trans (hb'.mono KG.out.size)))
    obtain ⟨e0, e1, e2, e3⟩ := d0.c
    clear hw'
    go_simp
    try rfl
   conv => arg 10; simp only [Act.put, List.setIfInBounds_toArray, List.set_cons_succ, List.set_cons_zero]
   refine Go.FreshS.wpF_gspec (by rfl) rfl rfl (fun w' hw' => ?_) ?_
   ·have hb' := hw'.world
    refine Go.FreshS.gives_of (Go.FreshS.PK (.int .i64 1)) ?_ (fun _ _ h => h.post)
    go_simp
    have CT := qsign ((NT.out.below (KG.out.trans (hb'.mono KG.out.size)))).any (((NT.out.below (KG.out.trans (hb'.mono KG.out.size)))).len LQq.out (by decide : _ ≤ 900000))
    rw [show cmpZ q.num 0 = 1 from HS1.out] at CT
    refine CT.mono ?_
    rintro e w'' ⟨rfl, hb⟩
    exact ⟨_, rfl, rfl, hb⟩
   rintro _ rfl
   conv => arg 10; simp only [Act.put, List.setIfInBounds_toArray, List.set_cons_succ, List.set_cons_zero]
   refine Go.FreshS.wpF_readsG (by rfl) rfl rfl ?_ (fun w' hw' => ?_) ?_
   rotate_left
   ·have hb' := hw'.world
    skip
    clear hw'
    go_simp
    try rfl
   conv => arg 10; simp only [Act.put, List.setIfInBounds_toArray, List.set_cons_succ, List.set_cons_zero]
   refine Go.FreshS.wpF_reads rfl rfl rfl ?_ (fun w' hw' => ?_) ?_
   rotate_left
   ·have hb' := hw'.world
    skip
    clear hw'
    go_simp
    try rfl
   conv => arg 10; simp only [Act.put, List.setIfInBounds_toArray, List.set_cons_succ, List.set_cons_zero]
   refine Go.FreshS.wpF_nil (fun w101 hb hF => ?_)
   clear hF
   have NG := Lib.hid (NG.out.below hb)
   have B3 := Lib.hid (B3.out.below hb B3.out.lt)
   have KG := Lib.hid (KG.out.trans (hb.mono KG.out.size))
   clear hb
   go_wp2_with fail
   go_ret
   exact ⟨rfl, KG.out⟩
theorem pmulk {w : World} {x y : PV} {P Q : List Tm} {n1 k1 e1 n2 k2 e2 : Nat} (hx : KP w x P) (b1 : PC P n1 k1 e1) (hy : KP w y Q) (b2 : PC Q n2 k2 e2) (hk : n1 * (k1 + k2 + 1) ≤ 900000) (h1 : k1 ≤ 900000) (h2 : k2 ≤ 900000) (hn : n1 * n2 ≤ 1000000) (hn1 : n1 ≤ 1000000) (hn2 : n2 ≤ 1000000) (he : e1 + e2 ≤ 65535) :
  Calls Tryz.prog 20 #[x.v, y.v] w fun e w' => ∃ z : PV, e = .returned (.tuple #[z.v, .int .i64 0]) ∧ DP w' w.heap.size z (mulP P Q) ∧ Below w.heap.size w w' :=
 mul_k x y P Q k1 k2 e1 e2 w hx hy b1.both b2.both (Nat.le_trans (Nat.mul_le_mul_right _ b1.b.len) hk) h1 h2 (Nat.le_trans (Nat.mul_le_mul b1.b.len b2.b.len) hn) (Nat.le_trans b1.b.len hn1) (Nat.le_trans b2.b.len hn2) he
theorem lead_dec {K : Mo → Int} {P : List Tm} {t : Tm} (h : (P.any (fun s => decide (s = t)) && P.all fun s => decide (K s.1 ≤ K t.1)) = true) : Lead K P t := by
 rw [Bool.and_eq_true] at h
 obtain ⟨s, hs, e⟩ := List.any_eq_true.1 h.1
 exact ⟨by rw [← of_decide_eq_true e]; exact hs, fun s hs => of_decide_eq_true (List.all_eq_true.1 h.2 s hs)⟩
theorem textQ_of7 {q : Rat} {n d : Int} (hn : q.num = n) (hd : (q.den : Int) = d) : textQ q = if d = 1 then Lib.itoa n else Lib.itoa n ++ 47 :: Lib.itoa d := by subst hn hd; rfl
theorem text_25 {q : Rat} (h : q.num = 2 ∧ (q.den : Int) = 5) : textQ q = [50, 47, 53] := by
 rw [textQ_of7 h.1 h.2, if_neg (by decide), show (2 : Int) = ((2 : Nat) : Int) from rfl, Lib.itoa_nonneg, Lib.decDigits_one (by decide), show (5 : Int) = ((5 : Nat) : Int) from rfl, Lib.itoa_nonneg, Lib.decDigits_one (by decide)]
 rfl
theorem text_n1 {q : Rat} (h : q.num = -1 ∧ (q.den : Int) = 1) : textQ q = [45, 49] := by
 rw [textQ_of7 h.1 h.2, if_pos rfl]
 decide +kernel
theorem text_0 {q : Rat} (h : q.num = 0 ∧ (q.den : Int) = 1) : textQ q = [48] := by
 rw [textQ_of7 h.1 h.2, if_pos rfl]
 decide +kernel
set_option maxRecDepth 100000 in
set_option maxHeartbeats 16000000 in
theorem frac7 {s : ByteArray} (q : Rat) (w : World) (hp : ∀ w, Calls Tryz.prog 69 #[.string s] w (RFE w q 0)) : Calls Tryz.prog 36 #[.string s] w (RF w q) := by
 obtain ⟨V0, hV⟩ : ∃ V, V = w.alloc (.cells #[.bool false, .slice none 0 0, .bool false, .slice none 0 0] 28) := ⟨_, rfl⟩
 have hbV : Below w.heap.size w V0 := by rw [hV]; exact (Below.refl _ _).alloc (Nat.le_refl _) _
 have B2 := Lib.hid (show Bxs V0 w.heap.size 28 [.bool false, .slice none 0 0, .bool false, .slice none 0 0] by rw [hV]; exact Bxs.new w 28 [.bool false, .slice none 0 0, .bool false, .slice none 0 0])
 have CT := Lib.hid (hp V0)
 have KG := Lib.hid hbV
 have HV := Lib.hid hV
 clear hV hbV hp
 go_enter Tryz.func36, Tryz.ntmps36
 go_upto_region 1 with (fail)
 rw [show w.alloc (.cells #[.bool false, .slice none 0 0, .bool false, .slice none 0 0] 28) = V0 from HV.out.symm]
 go_wp2_with fail
 with_reducible refine CT.out.mono ?_
 rintro e w1 ⟨y, rfl, hy, hb⟩
 have HY := Lib.hid (hy.mono KG.out.size)
 have B2 := Lib.hid (B2.out.below hb B2.out.lt)
 have KG := Lib.hid (KG.out.trans (hb.mono KG.out.size))
 clear hy hb CT
 go_upto_region 2 with (fail)
 obtain ⟨V, hV⟩ : ∃ V, V = w1.alloc (.cells #[.bool y.t.s, .slice y.t.a y.t.n y.t.c, .bool y.l.s, .slice y.l.a y.l.n y.l.c] 28) := ⟨_, rfl⟩
 have hbV : Below w1.heap.size w1 V := by rw [hV]; exact (Below.refl _ _).alloc (Nat.le_refl _) _
 have B3 := Lib.hid (show Bxs V w1.heap.size 28 [.bool y.t.s, .slice y.t.a y.t.n y.t.c, .bool y.l.s, .slice y.l.a y.l.n y.l.c] by rw [hV]; exact Bxs.new w1 28 [.bool y.t.s, .slice y.t.a y.t.n y.t.c, .bool y.l.s, .slice y.l.a y.l.n y.l.c])
 rw [← hV]
 have B2 := Lib.hid (B2.out.below hbV B2.out.lt)
 have HY := Lib.hid (HY.out.below hbV)
 have KG := Lib.hid (KG.out.trans (hbV.mono KG.out.size))
 have HD := Lib.hid (put4_df HY.out B2.out (by decide) (.bool y.t.s) (.slice y.t.a y.t.n y.t.c) (.bool y.l.s) (.slice y.l.a y.l.n y.l.c))
 have HB := Lib.hid (put4_below KG.out (Nat.le_refl _) (.bool y.t.s) (.slice y.t.a y.t.n y.t.c) (.bool y.l.s) (.slice y.l.a y.l.n y.l.c))
 clear hV hbV
 have d20 := B2.out.cell (i := 0) rfl
 have d21 := B2.out.cell (i := 1) rfl
 have d22 := B2.out.cell (i := 2) rfl
 have d23 := B2.out.cell (i := 3) rfl
 have d2f := B2.out.fz
 have d2l := B2.out.lt
 have d30 := B3.out.cell (i := 0) rfl
 have d31 := B3.out.cell (i := 1) rfl
 have d32 := B3.out.cell (i := 2) rfl
 have d33 := B3.out.cell (i := 3) rfl
 have d3f := B3.out.fz
 have d3l := B3.out.lt
 go_wp2_with fail
 exact bodyPost_ret (results_cell rfl _ _ _ _ _ _ _ rfl (put4_bxs B2.out ..) Tryz.underlying28 rfl (by kernel_rfl)) rfl ⟨y, rfl, HD.out, HB.out⟩
theorem formd2 : formT [50] := ⟨by decide +kernel, by decide +kernel, by decide +kernel⟩
theorem formd3 : formT [51] := ⟨by decide +kernel, by decide +kernel, by decide +kernel⟩
theorem formd5 : formT [53] := ⟨by decide +kernel, by decide +kernel, by decide +kernel⟩
theorem formd6 : formT [54] := ⟨by decide +kernel, by decide +kernel, by decide +kernel⟩
theorem pfrac_65 (w : World) : Calls Tryz.prog 36 #[.string ⟨#[54, 47, 53]⟩] w (RF w (((6 : Int) : Rat) / ((5 : Int) : Rat))) := frac7 _ w fun w =>
 qparse_y_ok (z1 := 6) (z2 := 5) w (by decide) (show Lib.cut [54, 47, 53] [47] = ([54], [53], true) by decide +kernel) (by decide) (by decide) (codeT_of _ formd6 (by decide +kernel)) (numT_of _ _ formd6 (by decide +kernel) (by decide +kernel)) (codeT_of _ formd5 (by decide +kernel)) (numT_of _ _ formd5 (by decide +kernel) (by decide +kernel)) ⟨53, [], rfl, by decide⟩ (by decide) (by decide)
theorem pfrac_32 (w : World) : Calls Tryz.prog 36 #[.string ⟨#[51, 47, 50]⟩] w (RF w (((3 : Int) : Rat) / ((2 : Int) : Rat))) := frac7 _ w fun w =>
 qparse_y_ok (z1 := 3) (z2 := 2) w (by decide) (show Lib.cut [51, 47, 50] [47] = ([51], [50], true) by decide +kernel) (by decide) (by decide) (codeT_of _ formd3 (by decide +kernel)) (numT_of _ _ formd3 (by decide +kernel) (by decide +kernel)) (codeT_of _ formd2 (by decide +kernel)) (numT_of _ _ formd2 (by decide +kernel) (by decide +kernel)) ⟨50, [], rfl, by decide⟩ (by decide) (by decide)
theorem pfrac_23 (w : World) : Calls Tryz.prog 36 #[.string ⟨#[50, 47, 51]⟩] w (RF w (((2 : Int) : Rat) / ((3 : Int) : Rat))) := frac7 _ w fun w =>
 qparse_y_ok (z1 := 2) (z2 := 3) w (by decide) (show Lib.cut [50, 47, 51] [47] = ([50], [51], true) by decide +kernel) (by decide) (by decide) (codeT_of _ formd2 (by decide +kernel)) (numT_of _ _ formd2 (by decide +kernel) (by decide +kernel)) (codeT_of _ formd3 (by decide +kernel)) (numT_of _ _ formd3 (by decide +kernel) (by decide +kernel)) ⟨51, [], rfl, by decide⟩ (by decide) (by decide)
set_option maxRecDepth 100000 in
set_option maxHeartbeats 16000000 in
theorem palive7 (w : World) (htab : Tab w) : Calls Tryz.prog 8 #[] w fun e w' => e = .returned (.bool true) ∧ Below w.heap.size w w' := by
 have HT := Lib.hid htab
 have KG := Lib.hid (Below.refl w.heap.size w)
 clear htab
 obtain ⟨p1, hp1⟩ : ∃ z : List Tm, z = letP 0 := ⟨_, rfl⟩
 have Hp1 := Lib.hid hp1
 have PCp1 := Lib.hid (show PC p1 1 3 1 by rw [hp1]; exact PC.letter 0)
 clear hp1
 obtain ⟨p5, hp5⟩ : ∃ z : List Tm, z = letP 1 := ⟨_, rfl⟩
 have Hp5 := Lib.hid hp5
 have PCp5 := Lib.hid (show PC p5 1 3 1 by rw [hp5]; exact PC.letter 1)
 clear hp5
 obtain ⟨q9, hq9⟩ : ∃ z : Rat, z = ((4 : Int) : Rat) := ⟨_, rfl⟩
 have Hq9 := Lib.hid hq9
 have LQq9 := Lib.hid (show LQ q9 3 by rw [hq9]; exact LQ.int (by decide) (by decide))
 clear hq9
 obtain ⟨p13, hp13⟩ : ∃ z : List Tm, z = scaleP q9 p1 := ⟨_, rfl⟩
 have Hp13 := Lib.hid hp13
 have PCp13 := Lib.hid (show PC p13 1 6 1 by rw [hp13]; exact PCp1.out.scale LQq9.out)
 clear hp13
 obtain ⟨q17, hq17⟩ : ∃ z : Rat, z = ((6 : Int) : Rat) / ((5 : Int) : Rat) := ⟨_, rfl⟩
 have Hq17 := Lib.hid hq17
 have LQq17 := Lib.hid (show LQ q17 3 by rw [hq17]; exact LQ.of (by decide) (by decide) (by decide) (by decide) (by decide))
 clear hq17
 obtain ⟨p21, hp21⟩ : ∃ z : List Tm, z = nf [(Mo.one, q17)] := ⟨_, rfl⟩
 have Hp21 := Lib.hid hp21
 have PCp21 := Lib.hid (show PC p21 1 4 0 by rw [hp21]; exact PC.of LQq17.out)
 clear hp21
 obtain ⟨p25, hp25⟩ : ∃ z : List Tm, z = subP p13 p21 := ⟨_, rfl⟩
 have Hp25 := Lib.hid hp25
 have PCp25 := Lib.hid (show PC p25 2 15 1 by rw [hp25]; exact PCp13.out.sub PCp21.out 7 1 (by decide) (by decide) (by decide) (by decide))
 clear hp25
 obtain ⟨q29, hq29⟩ : ∃ z : Rat, z = ((10 : Int) : Rat) := ⟨_, rfl⟩
 have Hq29 := Lib.hid hq29
 have LQq29 := Lib.hid (show LQ q29 3 by rw [hq29]; exact LQ.int (by decide) (by decide))
 clear hq29
 obtain ⟨p33, hp33⟩ : ∃ z : List Tm, z = scaleP q29 p1 := ⟨_, rfl⟩
 have Hp33 := Lib.hid hp33
 have PCp33 := Lib.hid (show PC p33 1 6 1 by rw [hp33]; exact PCp1.out.scale LQq29.out)
 clear hp33
 obtain ⟨q37, hq37⟩ : ∃ z : Rat, z = ((3 : Int) : Rat) := ⟨_, rfl⟩
 have Hq37 := Lib.hid hq37
 have LQq37 := Lib.hid (show LQ q37 3 by rw [hq37]; exact LQ.int (by decide) (by decide))
 clear hq37
 obtain ⟨p41, hp41⟩ : ∃ z : List Tm, z = nf [(Mo.one, q37)] := ⟨_, rfl⟩
 have Hp41 := Lib.hid hp41
 have PCp41 := Lib.hid (show PC p41 1 4 0 by rw [hp41]; exact PC.of LQq37.out)
 clear hp41
 obtain ⟨p45, hp45⟩ : ∃ z : List Tm, z = subP p33 p41 := ⟨_, rfl⟩
 have Hp45 := Lib.hid hp45
 have PCp45 := Lib.hid (show PC p45 2 15 1 by rw [hp45]; exact PCp33.out.sub PCp41.out 7 1 (by decide) (by decide) (by decide) (by decide))
 clear hp45
 obtain ⟨q49, hq49⟩ : ∃ z : Rat, z = ((-1 : Int) : Rat) := ⟨_, rfl⟩
 have Hq49 := Lib.hid hq49
 have LQq49 := Lib.hid (show LQ q49 3 by rw [hq49]; exact LQ.int (by decide) (by decide))
 clear hq49
 obtain ⟨p53, hp53⟩ : ∃ z : List Tm, z = scaleP q49 p1 := ⟨_, rfl⟩
 have Hp53 := Lib.hid hp53
 have PCp53 := Lib.hid (show PC p53 1 6 1 by rw [hp53]; exact PCp1.out.scale LQq49.out)
 clear hp53
 obtain ⟨p57, hp57⟩ : ∃ z : List Tm, z = mulP p5 p5 := ⟨_, rfl⟩
 have Hp57 := Lib.hid hp57
 have PCp57 := Lib.hid (show PC p57 1 7 2 by rw [hp57]; exact PCp5.out.mul PCp5.out)
 clear hp57
 obtain ⟨q61, hq61⟩ : ∃ z : Rat, z = ((2 : Int) : Rat) := ⟨_, rfl⟩
 have Hq61 := Lib.hid hq61
 have LQq61 := Lib.hid (show LQ q61 3 by rw [hq61]; exact LQ.int (by decide) (by decide))
 clear hq61
 obtain ⟨p65, hp65⟩ : ∃ z : List Tm, z = scaleP q61 p1 := ⟨_, rfl⟩
 have Hp65 := Lib.hid hp65
 have PCp65 := Lib.hid (show PC p65 1 6 1 by rw [hp65]; exact PCp1.out.scale LQq61.out)
 clear hp65
 obtain ⟨p72, hp72⟩ : ∃ z : List Tm, z = scaleP q37 p57 := ⟨_, rfl⟩
 have Hp72 := Lib.hid hp72
 have PCp72 := Lib.hid (show PC p72 1 10 2 by rw [hp72]; exact PCp57.out.scale LQq37.out)
 clear hp72
 obtain ⟨p76, hp76⟩ : ∃ z : List Tm, z = addP p65 p72 := ⟨_, rfl⟩
 have Hp76 := Lib.hid hp76
 have PCp76 := Lib.hid (show PC p76 2 21 2 by rw [hp76]; exact PCp65.out.add PCp72.out 10 2 (by decide) (by decide) (by decide) (by decide))
 clear hp76
 obtain ⟨u0, hu0⟩ : ∃ z : Rat, z = ((2 : Int) : Rat) := ⟨_, rfl⟩
 have Hu0 := Lib.hid hu0
 have LQu0 := Lib.hid (show LQ u0 3 by rw [hu0]; exact LQ.int (by decide) (by decide))
 clear hu0
 have HLO0 := Lib.hid (show Lead (keyO 0) p76 (⟨1, 0, 0, 0⟩, u0) from by simp only [Hu0.out, Hp76.out, Hp72.out, Hp65.out, Hq61.out, Hp57.out, Hp53.out, Hq49.out, Hp45.out, Hp41.out, Hq37.out, Hp33.out, Hq29.out, Hp25.out, Hp21.out, Hq17.out, Hp13.out, Hq9.out, Hp5.out, Hp1.out]; exact lead_dec (by decide +kernel))
 obtain ⟨u1, hu1⟩ : ∃ z : Rat, z = ((3 : Int) : Rat) := ⟨_, rfl⟩
 have Hu1 := Lib.hid hu1
 have LQu1 := Lib.hid (show LQ u1 3 by rw [hu1]; exact LQ.int (by decide) (by decide))
 clear hu1
 have HLO1 := Lib.hid (show Lead (keyO 1) p76 (⟨0, 2, 0, 0⟩, u1) from by simp only [Hu1.out, Hu0.out, Hp76.out, Hp72.out, Hp65.out, Hq61.out, Hp57.out, Hp53.out, Hq49.out, Hp45.out, Hp41.out, Hq37.out, Hp33.out, Hq29.out, Hp25.out, Hp21.out, Hq17.out, Hp13.out, Hq9.out, Hp5.out, Hp1.out]; exact lead_dec (by decide +kernel))
 obtain ⟨q80, hq80⟩ : ∃ z : Rat, z = contP p25 := ⟨_, rfl⟩
 have Hq80 := Lib.hid hq80
 have LQq80 := Lib.hid (show LQ q80 46 by rw [hq80]; exact PCp25.out.cont)
 clear hq80
 obtain ⟨p85, hp85⟩ : ∃ z : List Tm, z = primP p25 := ⟨_, rfl⟩
 have Hp85 := Lib.hid hp85
 have PCp85 := Lib.hid (show PC p85 2 61 1 by rw [hp85]; exact PCp25.out.prim (PCp25.out.cont))
 clear hp85
 obtain ⟨q90, hq90⟩ : ∃ z : Rat, z = contP p53 := ⟨_, rfl⟩
 have Hq90 := Lib.hid hq90
 have LQq90 := Lib.hid (show LQ q90 13 by rw [hq90]; exact PCp53.out.cont)
 clear hq90
 obtain ⟨p95, hp95⟩ : ∃ z : List Tm, z = primP p53 := ⟨_, rfl⟩
 have Hp95 := Lib.hid hp95
 have PCp95 := Lib.hid (show PC p95 1 19 1 by rw [hp95]; exact PCp53.out.prim (PCp53.out.cont))
 clear hp95
 obtain ⟨q100, hq100⟩ : ∃ z : Rat, z = (0 : Rat) := ⟨_, rfl⟩
 have Hq100 := Lib.hid hq100
 have LQq100 := Lib.hid (show LQ q100 1 by rw [hq100]; exact LS.zero.lq (by decide) (by decide))
 clear hq100
 obtain ⟨p112, hp112⟩ : ∃ z : List Tm, z = scaleP (1 / u0) p76 := ⟨_, rfl⟩
 have Hp112 := Lib.hid hp112
 have PCp112 := Lib.hid (show PC p112 2 42 2 by rw [hp112]; exact PCp76.out.monic HLO0.out)
 clear hp112
 obtain ⟨q116, hq116⟩ : ∃ z : Rat, z = ((3 : Int) : Rat) / ((2 : Int) : Rat) := ⟨_, rfl⟩
 have Hq116 := Lib.hid hq116
 have LQq116 := Lib.hid (show LQ q116 3 by rw [hq116]; exact LQ.of (by decide) (by decide) (by decide) (by decide) (by decide))
 clear hq116
 obtain ⟨p120, hp120⟩ : ∃ z : List Tm, z = scaleP q116 p57 := ⟨_, rfl⟩
 have Hp120 := Lib.hid hp120
 have PCp120 := Lib.hid (show PC p120 1 10 2 by rw [hp120]; exact PCp57.out.scale LQq116.out)
 clear hp120
 obtain ⟨p124, hp124⟩ : ∃ z : List Tm, z = addP p1 p120 := ⟨_, rfl⟩
 have Hp124 := Lib.hid hp124
 have PCp124 := Lib.hid (show PC p124 2 21 2 by rw [hp124]; exact PCp1.out.add PCp120.out 10 2 (by decide) (by decide) (by decide) (by decide))
 clear hp124
 obtain ⟨p129, hp129⟩ : ∃ z : List Tm, z = scaleP (1 / u1) p76 := ⟨_, rfl⟩
 have Hp129 := Lib.hid hp129
 have PCp129 := Lib.hid (show PC p129 2 42 2 by rw [hp129]; exact PCp76.out.monic HLO1.out)
 clear hp129
 obtain ⟨q133, hq133⟩ : ∃ z : Rat, z = ((2 : Int) : Rat) / ((3 : Int) : Rat) := ⟨_, rfl⟩
 have Hq133 := Lib.hid hq133
 have LQq133 := Lib.hid (show LQ q133 3 by rw [hq133]; exact LQ.of (by decide) (by decide) (by decide) (by decide) (by decide))
 clear hq133
 obtain ⟨p137, hp137⟩ : ∃ z : List Tm, z = scaleP q133 p1 := ⟨_, rfl⟩
 have Hp137 := Lib.hid hp137
 have PCp137 := Lib.hid (show PC p137 1 6 1 by rw [hp137]; exact PCp1.out.scale LQq133.out)
 clear hp137
 obtain ⟨p141, hp141⟩ : ∃ z : List Tm, z = addP p137 p57 := ⟨_, rfl⟩
 have Hp141 := Lib.hid hp141
 have PCp141 := Lib.hid (show PC p141 2 15 2 by rw [hp141]; exact PCp137.out.add PCp57.out 7 2 (by decide) (by decide) (by decide) (by decide))
 clear hp141
 go_enter Tryz.func8, Tryz.ntmps8
 go_wp2_with fail
 have CT := Lib.hid (show Calls Tryz.prog 34 #[.int .i64 0] w _ from letter_k 0 (by decide) w)
 rw [show letP 0 = p1 from Hp1.out.symm] at CT
 with_reducible refine CT.out.mono ?_
 rintro e w2 ⟨z3, rfl, hN4, hb⟩
 have N4 := Lib.hid hN4
 clear hN4
 clear CT
 have KG := Lib.hid (KG.out.trans (hb.mono KG.out.size))
 clear hb
 go_wp2_with fail
 have CT := Lib.hid (show Calls Tryz.prog 34 #[.int .i64 1] w2 _ from letter_k 1 (by decide) w2)
 rw [show letP 1 = p5 from Hp5.out.symm] at CT
 with_reducible refine CT.out.mono ?_
 rintro e w6 ⟨z7, rfl, hN8, hb⟩
 have N8 := Lib.hid hN8
 clear hN8
 clear CT
 have N4 := Lib.hid (N4.out.below hb)
 have KG := Lib.hid (KG.out.trans (hb.mono KG.out.size))
 clear hb
 go_wp2_with fail
 have CT := Lib.hid (qof 4 w6 (by decide) (by decide))
 rw [show ((4 : Int) : Rat) = q9 from Hq9.out.symm] at CT
 with_reducible refine CT.out.mono ?_
 rintro e w10 ⟨x11, rfl, hN12, hb⟩
 have N12 := Lib.hid hN12
 clear hN12
 clear CT
 have N4 := Lib.hid (N4.out.below hb)
 have N8 := Lib.hid (N8.out.below hb)
 have KG := Lib.hid (KG.out.trans (hb.mono KG.out.size))
 clear hb
 go_wp2_with fail
 have CT := Lib.hid (pscale N4.out.k PCp1.out (N12.out).k.any (((N12.out).k).len LQq9.out (by decide : _ ≤ 900000)) LQq9.out (by decide) (by decide) (by decide) (by decide))
 rw [show scaleP q9 p1 = p13 from Hp13.out.symm] at CT
 with_reducible refine CT.out.mono ?_
 rintro e w14 ⟨z15, rfl, hN16, hb⟩
 have N16 := Lib.hid hN16
 clear hN16
 clear CT
 have N4 := Lib.hid (N4.out.below hb)
 have N8 := Lib.hid (N8.out.below hb)
 clear N12
 have KG := Lib.hid (KG.out.trans (hb.mono KG.out.size))
 clear hb
 go_wp2_with fail
 have CT := Lib.hid (pfrac_65 w14)
 rw [show ((6 : Int) : Rat) / ((5 : Int) : Rat) = q17 from Hq17.out.symm] at CT
 with_reducible refine CT.out.mono ?_
 rintro e w18 ⟨x19, rfl, hN20, hb⟩
 have N20 := Lib.hid hN20
 clear hN20
 clear CT
 have N4 := Lib.hid (N4.out.below hb)
 have N8 := Lib.hid (N8.out.below hb)
 have N16 := Lib.hid (N16.out.below hb)
 have KG := Lib.hid (KG.out.trans (hb.mono KG.out.size))
 clear hb
 go_wp2_with fail
 have CT := Lib.hid (pof (N20.out).k.any (((N20.out).k).len LQq17.out (by decide : _ ≤ 900000)) LQq17.out (by decide))
 rw [show nf [(Mo.one, q17)] = p21 from Hp21.out.symm] at CT
 with_reducible refine CT.out.mono ?_
 rintro e w22 ⟨z23, rfl, hN24, hb⟩
 have N24 := Lib.hid hN24
 clear hN24
 clear CT
 have N4 := Lib.hid (N4.out.below hb)
 have N8 := Lib.hid (N8.out.below hb)
 have N16 := Lib.hid (N16.out.below hb)
 clear N20
 have KG := Lib.hid (KG.out.trans (hb.mono KG.out.size))
 clear hb
 go_wp2_with fail
 have CT := Lib.hid (psub N16.out.k PCp13.out N24.out.k PCp21.out 7 (by decide) (by decide) (by decide) (by decide) (by decide) (by decide))
 rw [show subP p13 p21 = p25 from Hp25.out.symm] at CT
 with_reducible refine CT.out.mono ?_
 rintro e w26 ⟨z27, rfl, hN28, hb⟩
 have N28 := Lib.hid hN28
 clear hN28
 clear CT
 have N4 := Lib.hid (N4.out.below hb)
 have N8 := Lib.hid (N8.out.below hb)
 clear N16
 clear N24
 have KG := Lib.hid (KG.out.trans (hb.mono KG.out.size))
 clear hb
 go_wp2_with fail
 have CT := Lib.hid (qof 10 w26 (by decide) (by decide))
 rw [show ((10 : Int) : Rat) = q29 from Hq29.out.symm] at CT
 with_reducible refine CT.out.mono ?_
 rintro e w30 ⟨x31, rfl, hN32, hb⟩
 have N32 := Lib.hid hN32
 clear hN32
 clear CT
 have N4 := Lib.hid (N4.out.below hb)
 have N8 := Lib.hid (N8.out.below hb)
 have N28 := Lib.hid (N28.out.below hb)
 have KG := Lib.hid (KG.out.trans (hb.mono KG.out.size))
 clear hb
 go_wp2_with fail
 have CT := Lib.hid (pscale N4.out.k PCp1.out (N32.out).k.any (((N32.out).k).len LQq29.out (by decide : _ ≤ 900000)) LQq29.out (by decide) (by decide) (by decide) (by decide))
 rw [show scaleP q29 p1 = p33 from Hp33.out.symm] at CT
 with_reducible refine CT.out.mono ?_
 rintro e w34 ⟨z35, rfl, hN36, hb⟩
 have N36 := Lib.hid hN36
 clear hN36
 clear CT
 have N4 := Lib.hid (N4.out.below hb)
 have N8 := Lib.hid (N8.out.below hb)
 have N28 := Lib.hid (N28.out.below hb)
 clear N32
 have KG := Lib.hid (KG.out.trans (hb.mono KG.out.size))
 clear hb
 go_wp2_with fail
 have CT := Lib.hid (qof 3 w34 (by decide) (by decide))
 rw [show ((3 : Int) : Rat) = q37 from Hq37.out.symm] at CT
 with_reducible refine CT.out.mono ?_
 rintro e w38 ⟨x39, rfl, hN40, hb⟩
 have N40 := Lib.hid hN40
 clear hN40
 clear CT
 have N4 := Lib.hid (N4.out.below hb)
 have N8 := Lib.hid (N8.out.below hb)
 have N28 := Lib.hid (N28.out.below hb)
 have N36 := Lib.hid (N36.out.below hb)
 have KG := Lib.hid (KG.out.trans (hb.mono KG.out.size))
 clear hb
 go_wp2_with fail
 have CT := Lib.hid (pof (N40.out).k.any (((N40.out).k).len LQq37.out (by decide : _ ≤ 900000)) LQq37.out (by decide))
 rw [show nf [(Mo.one, q37)] = p41 from Hp41.out.symm] at CT
 with_reducible refine CT.out.mono ?_
 rintro e w42 ⟨z43, rfl, hN44, hb⟩
 have N44 := Lib.hid hN44
 clear hN44
 clear CT
 have N4 := Lib.hid (N4.out.below hb)
 have N8 := Lib.hid (N8.out.below hb)
 have N28 := Lib.hid (N28.out.below hb)
 have N36 := Lib.hid (N36.out.below hb)
 clear N40
 have KG := Lib.hid (KG.out.trans (hb.mono KG.out.size))
 clear hb
 go_wp2_with fail
 have CT := Lib.hid (psub N36.out.k PCp33.out N44.out.k PCp41.out 7 (by decide) (by decide) (by decide) (by decide) (by decide) (by decide))
 rw [show subP p33 p41 = p45 from Hp45.out.symm] at CT
 with_reducible refine CT.out.mono ?_
 rintro e w46 ⟨z47, rfl, hN48, hb⟩
 have N48 := Lib.hid hN48
 clear hN48
 clear CT
 have N4 := Lib.hid (N4.out.below hb)
 have N8 := Lib.hid (N8.out.below hb)
 have N28 := Lib.hid (N28.out.below hb)
 clear N36
 clear N44
 have KG := Lib.hid (KG.out.trans (hb.mono KG.out.size))
 clear hb
 go_wp2_with fail
 have CT := Lib.hid (qof (-1) w46 (by decide) (by decide))
 rw [show ((-1 : Int) : Rat) = q49 from Hq49.out.symm] at CT
 with_reducible refine CT.out.mono ?_
 rintro e w50 ⟨x51, rfl, hN52, hb⟩
 have N52 := Lib.hid hN52
 clear hN52
 clear CT
 have N4 := Lib.hid (N4.out.below hb)
 have N8 := Lib.hid (N8.out.below hb)
 have N28 := Lib.hid (N28.out.below hb)
 have N48 := Lib.hid (N48.out.below hb)
 have KG := Lib.hid (KG.out.trans (hb.mono KG.out.size))
 clear hb
 go_wp2_with fail
 have CT := Lib.hid (pscale N4.out.k PCp1.out (N52.out).k.any (((N52.out).k).len LQq49.out (by decide : _ ≤ 900000)) LQq49.out (by decide) (by decide) (by decide) (by decide))
 rw [show scaleP q49 p1 = p53 from Hp53.out.symm] at CT
 with_reducible refine CT.out.mono ?_
 rintro e w54 ⟨z55, rfl, hN56, hb⟩
 have N56 := Lib.hid hN56
 clear hN56
 clear CT
 have N4 := Lib.hid (N4.out.below hb)
 have N8 := Lib.hid (N8.out.below hb)
 have N28 := Lib.hid (N28.out.below hb)
 have N48 := Lib.hid (N48.out.below hb)
 clear N52
 have KG := Lib.hid (KG.out.trans (hb.mono KG.out.size))
 clear hb
 go_wp2_with fail
 have CT := Lib.hid (pmulk N8.out.k PCp5.out N8.out.k PCp5.out (by decide) (by decide) (by decide) (by decide) (by decide) (by decide) (by decide))
 rw [show mulP p5 p5 = p57 from Hp57.out.symm] at CT
 with_reducible refine CT.out.mono ?_
 rintro e w58 ⟨z59, rfl, hN60, hb⟩
 have N60 := Lib.hid hN60
 clear hN60
 clear CT
 have N4 := Lib.hid (N4.out.below hb)
 clear N8
 have N28 := Lib.hid (N28.out.below hb)
 have N48 := Lib.hid (N48.out.below hb)
 have N56 := Lib.hid (N56.out.below hb)
 have KG := Lib.hid (KG.out.trans (hb.mono KG.out.size))
 clear hb
 go_wp2_with fail
 have CT := Lib.hid (qof 2 w58 (by decide) (by decide))
 rw [show ((2 : Int) : Rat) = q61 from Hq61.out.symm] at CT
 with_reducible refine CT.out.mono ?_
 rintro e w62 ⟨x63, rfl, hN64, hb⟩
 have N64 := Lib.hid hN64
 clear hN64
 clear CT
 have N4 := Lib.hid (N4.out.below hb)
 have N28 := Lib.hid (N28.out.below hb)
 have N48 := Lib.hid (N48.out.below hb)
 have N56 := Lib.hid (N56.out.below hb)
 have N60 := Lib.hid (N60.out.below hb)
 have KG := Lib.hid (KG.out.trans (hb.mono KG.out.size))
 clear hb
 go_wp2_with fail
 have CT := Lib.hid (pscale N4.out.k PCp1.out (N64.out).k.any (((N64.out).k).len LQq61.out (by decide : _ ≤ 900000)) LQq61.out (by decide) (by decide) (by decide) (by decide))
 rw [show scaleP q61 p1 = p65 from Hp65.out.symm] at CT
 with_reducible refine CT.out.mono ?_
 rintro e w66 ⟨z67, rfl, hN68, hb⟩
 have N68 := Lib.hid hN68
 clear hN68
 clear CT
 have N4 := Lib.hid (N4.out.below hb)
 have N28 := Lib.hid (N28.out.below hb)
 have N48 := Lib.hid (N48.out.below hb)
 have N56 := Lib.hid (N56.out.below hb)
 have N60 := Lib.hid (N60.out.below hb)
 clear N64
 have KG := Lib.hid (KG.out.trans (hb.mono KG.out.size))
 clear hb
 go_wp2_with fail
 have CT := Lib.hid (qof 3 w66 (by decide) (by decide))
 rw [show ((3 : Int) : Rat) = q37 from Hq37.out.symm] at CT
 with_reducible refine CT.out.mono ?_
 rintro e w69 ⟨x70, rfl, hN71, hb⟩
 have N71 := Lib.hid hN71
 clear hN71
 clear CT
 have N4 := Lib.hid (N4.out.below hb)
 have N28 := Lib.hid (N28.out.below hb)
 have N48 := Lib.hid (N48.out.below hb)
 have N56 := Lib.hid (N56.out.below hb)
 have N60 := Lib.hid (N60.out.below hb)
 have N68 := Lib.hid (N68.out.below hb)
 have KG := Lib.hid (KG.out.trans (hb.mono KG.out.size))
 clear hb
 go_wp2_with fail
 have CT := Lib.hid (pscale N60.out.k PCp57.out (N71.out).k.any (((N71.out).k).len LQq37.out (by decide : _ ≤ 900000)) LQq37.out (by decide) (by decide) (by decide) (by decide))
 rw [show scaleP q37 p57 = p72 from Hp72.out.symm] at CT
 with_reducible refine CT.out.mono ?_
 rintro e w73 ⟨z74, rfl, hN75, hb⟩
 have N75 := Lib.hid hN75
 clear hN75
 clear CT
 have N4 := Lib.hid (N4.out.below hb)
 have N28 := Lib.hid (N28.out.below hb)
 have N48 := Lib.hid (N48.out.below hb)
 have N56 := Lib.hid (N56.out.below hb)
 have N60 := Lib.hid (N60.out.below hb)
 have N68 := Lib.hid (N68.out.below hb)
 clear N71
 have KG := Lib.hid (KG.out.trans (hb.mono KG.out.size))
 clear hb
 go_wp2_with fail
 have CT := Lib.hid (padd N68.out.k PCp65.out N75.out.k PCp72.out 10 (by decide) (by decide) (by decide) (by decide))
 rw [show addP p65 p72 = p76 from Hp76.out.symm] at CT
 with_reducible refine CT.out.mono ?_
 rintro e w77 ⟨z78, rfl, hN79, hb⟩
 have N79 := Lib.hid hN79
 clear hN79
 clear CT
 have N4 := Lib.hid (N4.out.below hb)
 have N28 := Lib.hid (N28.out.below hb)
 have N48 := Lib.hid (N48.out.below hb)
 have N56 := Lib.hid (N56.out.below hb)
 have N60 := Lib.hid (N60.out.below hb)
 clear N68
 clear N75
 have KG := Lib.hid (KG.out.trans (hb.mono KG.out.size))
 clear hb
 go_wp2_with fail
 have CT := Lib.hid (pcontent N28.out.k PCp25.out (by decide) (by decide) (by decide))
 rw [show contP p25 = q80 from Hq80.out.symm] at CT
 with_reducible refine CT.out.mono ?_
 rintro e w81 ⟨x82, rfl, hN83, hb⟩
 have N83 := Lib.hid hN83
 clear hN83
 clear CT
 have N4 := Lib.hid (N4.out.below hb)
 have N28 := Lib.hid (N28.out.below hb)
 have N48 := Lib.hid (N48.out.below hb)
 have N56 := Lib.hid (N56.out.below hb)
 have N60 := Lib.hid (N60.out.below hb)
 have N79 := Lib.hid (N79.out.below hb)
 have KG := Lib.hid (KG.out.trans (hb.mono KG.out.size))
 clear hb
 go_wp2_with fail
 have CT := Lib.hid (qtext_two x82 q80 w81 (HT.out.on KG.out) (N83.out).k.any (((N83.out).k).len LQq80.out (by decide : _ ≤ 100)) (LQq80.out.up (by decide : _ ≤ 101)) (by simp only [Hq80.out, Hu1.out, Hu0.out, Hp76.out, Hp72.out, Hp65.out, Hq61.out, Hp57.out, Hp53.out, Hq49.out, Hp45.out, Hp41.out, Hq37.out, Hp33.out, Hq29.out, Hp25.out, Hp21.out, Hq17.out, Hp13.out, Hq9.out, Hp5.out, Hp1.out]; decide +kernel))
 rw [show textQ q80 = [50, 47, 53] from text_25 (by simp only [Hq80.out, Hu1.out, Hu0.out, Hp76.out, Hp72.out, Hp65.out, Hq61.out, Hp57.out, Hp53.out, Hq49.out, Hp45.out, Hp41.out, Hq37.out, Hp33.out, Hq29.out, Hp25.out, Hp21.out, Hq17.out, Hp13.out, Hq9.out, Hp5.out, Hp1.out]; decide +kernel)] at CT
 with_reducible refine CT.out.mono ?_
 rintro e w84 ⟨rfl, hb⟩
 clear CT
 have N4 := Lib.hid (N4.out.below hb)
 have N28 := Lib.hid (N28.out.below hb)
 have N48 := Lib.hid (N48.out.below hb)
 have N56 := Lib.hid (N56.out.below hb)
 have N60 := Lib.hid (N60.out.below hb)
 have N79 := Lib.hid (N79.out.below hb)
 clear N83
 have KG := Lib.hid (KG.out.trans (hb.mono KG.out.size))
 clear hb
 go_wp2_with fail
 have CT := Lib.hid (pprim N28.out.k PCp25.out (show LQ (contP p25) 46 from PCp25.out.cont) (by decide) (by decide) (by decide) (by decide) (by decide) (by decide))
 rw [show primP p25 = p85 from Hp85.out.symm] at CT
 with_reducible refine CT.out.mono ?_
 rintro e w86 ⟨z87, rfl, hN88, hb⟩
 have N88 := Lib.hid hN88
 clear hN88
 clear CT
 have N4 := Lib.hid (N4.out.below hb)
 clear N28
 have N48 := Lib.hid (N48.out.below hb)
 have N56 := Lib.hid (N56.out.below hb)
 have N60 := Lib.hid (N60.out.below hb)
 have N79 := Lib.hid (N79.out.below hb)
 have KG := Lib.hid (KG.out.trans (hb.mono KG.out.size))
 clear hb
 go_wp2_with fail
 have CT := Lib.hid (psame7 N88.out.k N48.out.k (by simp only [Hp85.out, Hq80.out, Hu1.out, Hu0.out, Hp76.out, Hp72.out, Hp65.out, Hq61.out, Hp57.out, Hp53.out, Hq49.out, Hp45.out, Hp41.out, Hq37.out, Hp33.out, Hq29.out, Hp25.out, Hp21.out, Hq17.out, Hp13.out, Hq9.out, Hp5.out, Hp1.out]; decide +kernel) PCp85.out (by decide) (by decide))
 with_reducible refine CT.out.mono ?_
 rintro e w89 ⟨rfl, hb⟩
 clear CT
 have N4 := Lib.hid (N4.out.below hb)
 clear N48
 have N56 := Lib.hid (N56.out.below hb)
 have N60 := Lib.hid (N60.out.below hb)
 have N79 := Lib.hid (N79.out.below hb)
 clear N88
 have KG := Lib.hid (KG.out.trans (hb.mono KG.out.size))
 clear hb
 go_wp2_with fail
 have CT := Lib.hid (pcontent N56.out.k PCp53.out (by decide) (by decide) (by decide))
 rw [show contP p53 = q90 from Hq90.out.symm] at CT
 with_reducible refine CT.out.mono ?_
 rintro e w91 ⟨x92, rfl, hN93, hb⟩
 have N93 := Lib.hid hN93
 clear hN93
 clear CT
 have N4 := Lib.hid (N4.out.below hb)
 have N56 := Lib.hid (N56.out.below hb)
 have N60 := Lib.hid (N60.out.below hb)
 have N79 := Lib.hid (N79.out.below hb)
 have KG := Lib.hid (KG.out.trans (hb.mono KG.out.size))
 clear hb
 go_wp2_with fail
 have CT := Lib.hid (qtext_one x92 q90 w91 (HT.out.on KG.out) (N93.out).k.any (((N93.out).k).len LQq90.out (by decide : _ ≤ 100)) (LQq90.out.up (by decide : _ ≤ 101)) (by simp only [Hq90.out, Hp85.out, Hq80.out, Hu1.out, Hu0.out, Hp76.out, Hp72.out, Hp65.out, Hq61.out, Hp57.out, Hp53.out, Hq49.out, Hp45.out, Hp41.out, Hq37.out, Hp33.out, Hq29.out, Hp25.out, Hp21.out, Hq17.out, Hp13.out, Hq9.out, Hp5.out, Hp1.out]; decide +kernel))
 rw [show textQ q90 = [45, 49] from text_n1 (by simp only [Hq90.out, Hp85.out, Hq80.out, Hu1.out, Hu0.out, Hp76.out, Hp72.out, Hp65.out, Hq61.out, Hp57.out, Hp53.out, Hq49.out, Hp45.out, Hp41.out, Hq37.out, Hp33.out, Hq29.out, Hp25.out, Hp21.out, Hq17.out, Hp13.out, Hq9.out, Hp5.out, Hp1.out]; decide +kernel)] at CT
 with_reducible refine CT.out.mono ?_
 rintro e w94 ⟨rfl, hb⟩
 clear CT
 have N4 := Lib.hid (N4.out.below hb)
 have N56 := Lib.hid (N56.out.below hb)
 have N60 := Lib.hid (N60.out.below hb)
 have N79 := Lib.hid (N79.out.below hb)
 clear N93
 have KG := Lib.hid (KG.out.trans (hb.mono KG.out.size))
 clear hb
 go_wp2_with fail
 have CT := Lib.hid (pprim N56.out.k PCp53.out (show LQ (contP p53) 13 from PCp53.out.cont) (by decide) (by decide) (by decide) (by decide) (by decide) (by decide))
 rw [show primP p53 = p95 from Hp95.out.symm] at CT
 with_reducible refine CT.out.mono ?_
 rintro e w96 ⟨z97, rfl, hN98, hb⟩
 have N98 := Lib.hid hN98
 clear hN98
 clear CT
 have N4 := Lib.hid (N4.out.below hb)
 clear N56
 have N60 := Lib.hid (N60.out.below hb)
 have N79 := Lib.hid (N79.out.below hb)
 have KG := Lib.hid (KG.out.trans (hb.mono KG.out.size))
 clear hb
 go_wp2_with fail
 have CT := Lib.hid (psame7 N98.out.k N4.out.k (by simp only [Hp95.out, Hq90.out, Hp85.out, Hq80.out, Hu1.out, Hu0.out, Hp76.out, Hp72.out, Hp65.out, Hq61.out, Hp57.out, Hp53.out, Hq49.out, Hp45.out, Hp41.out, Hq37.out, Hp33.out, Hq29.out, Hp25.out, Hp21.out, Hq17.out, Hp13.out, Hq9.out, Hp5.out, Hp1.out]; decide +kernel) PCp95.out (by decide) (by decide))
 with_reducible refine CT.out.mono ?_
 rintro e w99 ⟨rfl, hb⟩
 clear CT
 have N4 := Lib.hid (N4.out.below hb)
 have N60 := Lib.hid (N60.out.below hb)
 have N79 := Lib.hid (N79.out.below hb)
 clear N98
 have KG := Lib.hid (KG.out.trans (hb.mono KG.out.size))
 clear hb
 go_wp2_with fail
 have CT := Lib.hid (pcontent_nil w99)
 rw [show (0 : Rat) = q100 from Hq100.out.symm] at CT
 with_reducible refine CT.out.mono ?_
 rintro e w101 ⟨x102, rfl, hN103, hb⟩
 have N103 := Lib.hid hN103
 clear hN103
 clear CT
 have N4 := Lib.hid (N4.out.below hb)
 have N60 := Lib.hid (N60.out.below hb)
 have N79 := Lib.hid (N79.out.below hb)
 have KG := Lib.hid (KG.out.trans (hb.mono KG.out.size))
 clear hb
 go_wp2_with fail
 have CT := Lib.hid (qtext_one x102 q100 w101 (HT.out.on KG.out) (N103.out).k.any (((N103.out).k).len LQq100.out (by decide : _ ≤ 100)) (LQq100.out.up (by decide : _ ≤ 101)) (by simp only [Hq100.out, Hp95.out, Hq90.out, Hp85.out, Hq80.out, Hu1.out, Hu0.out, Hp76.out, Hp72.out, Hp65.out, Hq61.out, Hp57.out, Hp53.out, Hq49.out, Hp45.out, Hp41.out, Hq37.out, Hp33.out, Hq29.out, Hp25.out, Hp21.out, Hq17.out, Hp13.out, Hq9.out, Hp5.out, Hp1.out]; decide +kernel))
 rw [show textQ q100 = [48] from text_0 (by simp only [Hq100.out, Hp95.out, Hq90.out, Hp85.out, Hq80.out, Hu1.out, Hu0.out, Hp76.out, Hp72.out, Hp65.out, Hq61.out, Hp57.out, Hp53.out, Hq49.out, Hp45.out, Hp41.out, Hq37.out, Hp33.out, Hq29.out, Hp25.out, Hp21.out, Hq17.out, Hp13.out, Hq9.out, Hp5.out, Hp1.out]; decide +kernel)] at CT
 with_reducible refine CT.out.mono ?_
 rintro e w104 ⟨rfl, hb⟩
 clear CT
 have N4 := Lib.hid (N4.out.below hb)
 have N60 := Lib.hid (N60.out.below hb)
 have N79 := Lib.hid (N79.out.below hb)
 clear N103
 have KG := Lib.hid (KG.out.trans (hb.mono KG.out.size))
 clear hb
 go_wp2_with fail
 have CT := Lib.hid (pcontent_nil w104)
 rw [show (0 : Rat) = q100 from Hq100.out.symm] at CT
 with_reducible refine CT.out.mono ?_
 rintro e w105 ⟨x106, rfl, hN107, hb⟩
 have N107 := Lib.hid hN107
 clear hN107
 clear CT
 have N4 := Lib.hid (N4.out.below hb)
 have N60 := Lib.hid (N60.out.below hb)
 have N79 := Lib.hid (N79.out.below hb)
 have KG := Lib.hid (KG.out.trans (hb.mono KG.out.size))
 clear hb
 go_wp2_with fail
 have CT := Lib.hid (qcheck (N107.out).k (((N107.out).k).len LQq100.out (by decide : _ ≤ 900000)))
 with_reducible refine CT.out.mono ?_
 rintro e w108 ⟨rfl, hb⟩
 clear CT
 have N4 := Lib.hid (N4.out.below hb)
 have N60 := Lib.hid (N60.out.below hb)
 have N79 := Lib.hid (N79.out.below hb)
 clear N107
 have KG := Lib.hid (KG.out.trans (hb.mono KG.out.size))
 clear hb
 go_wp2_with fail
 have CT := Lib.hid (pprim_nil w108)
 with_reducible refine CT.out.mono ?_
 rintro e w109 ⟨a110, c111, rfl, hb⟩
 clear CT
 have N4 := Lib.hid (N4.out.below hb)
 have N60 := Lib.hid (N60.out.below hb)
 have N79 := Lib.hid (N79.out.below hb)
 have KG := Lib.hid (KG.out.trans (hb.mono KG.out.size))
 clear hb
 go_wp2_with fail
 have CT := Lib.hid (pmonicL N79.out.k PCp76.out HLO0.out (by decide) (by decide) (by decide) (by decide))
 rw [show scaleP (1 / u0) p76 = p112 from Hp112.out.symm] at CT
 with_reducible refine CT.out.mono ?_
 rintro e w113 ⟨z114, rfl, hN115, hb⟩
 have N115 := Lib.hid hN115
 clear hN115
 clear CT
 have N4 := Lib.hid (N4.out.below hb)
 have N60 := Lib.hid (N60.out.below hb)
 have N79 := Lib.hid (N79.out.below hb)
 have KG := Lib.hid (KG.out.trans (hb.mono KG.out.size))
 clear hb
 go_wp2_with fail
 have CT := Lib.hid (pfrac_32 w113)
 rw [show ((3 : Int) : Rat) / ((2 : Int) : Rat) = q116 from Hq116.out.symm] at CT
 with_reducible refine CT.out.mono ?_
 rintro e w117 ⟨x118, rfl, hN119, hb⟩
 have N119 := Lib.hid hN119
 clear hN119
 clear CT
 have N4 := Lib.hid (N4.out.below hb)
 have N60 := Lib.hid (N60.out.below hb)
 have N79 := Lib.hid (N79.out.below hb)
 have N115 := Lib.hid (N115.out.below hb)
 have KG := Lib.hid (KG.out.trans (hb.mono KG.out.size))
 clear hb
 go_wp2_with fail
 have CT := Lib.hid (pscale N60.out.k PCp57.out (N119.out).k.any (((N119.out).k).len LQq116.out (by decide : _ ≤ 900000)) LQq116.out (by decide) (by decide) (by decide) (by decide))
 rw [show scaleP q116 p57 = p120 from Hp120.out.symm] at CT
 with_reducible refine CT.out.mono ?_
 rintro e w121 ⟨z122, rfl, hN123, hb⟩
 have N123 := Lib.hid hN123
 clear hN123
 clear CT
 have N4 := Lib.hid (N4.out.below hb)
 have N60 := Lib.hid (N60.out.below hb)
 have N79 := Lib.hid (N79.out.below hb)
 have N115 := Lib.hid (N115.out.below hb)
 clear N119
 have KG := Lib.hid (KG.out.trans (hb.mono KG.out.size))
 clear hb
 go_wp2_with fail
 have CT := Lib.hid (padd N4.out.k PCp1.out N123.out.k PCp120.out 10 (by decide) (by decide) (by decide) (by decide))
 rw [show addP p1 p120 = p124 from Hp124.out.symm] at CT
 with_reducible refine CT.out.mono ?_
 rintro e w125 ⟨z126, rfl, hN127, hb⟩
 have N127 := Lib.hid hN127
 clear hN127
 clear CT
 have N4 := Lib.hid (N4.out.below hb)
 have N60 := Lib.hid (N60.out.below hb)
 have N79 := Lib.hid (N79.out.below hb)
 have N115 := Lib.hid (N115.out.below hb)
 clear N123
 have KG := Lib.hid (KG.out.trans (hb.mono KG.out.size))
 clear hb
 go_wp2_with fail
 have CT := Lib.hid (psame7 N115.out.k N127.out.k (by simp only [Hp124.out, Hp120.out, Hq116.out, Hp112.out, Hq100.out, Hp95.out, Hq90.out, Hp85.out, Hq80.out, Hu1.out, Hu0.out, Hp76.out, Hp72.out, Hp65.out, Hq61.out, Hp57.out, Hp53.out, Hq49.out, Hp45.out, Hp41.out, Hq37.out, Hp33.out, Hq29.out, Hp25.out, Hp21.out, Hq17.out, Hp13.out, Hq9.out, Hp5.out, Hp1.out]; decide +kernel) PCp112.out (by decide) (by decide))
 with_reducible refine CT.out.mono ?_
 rintro e w128 ⟨rfl, hb⟩
 clear CT
 have N4 := Lib.hid (N4.out.below hb)
 have N60 := Lib.hid (N60.out.below hb)
 have N79 := Lib.hid (N79.out.below hb)
 clear N115
 clear N127
 have KG := Lib.hid (KG.out.trans (hb.mono KG.out.size))
 clear hb
 go_wp2_with fail
 have CT := Lib.hid (pmonicL N79.out.k PCp76.out HLO1.out (by decide) (by decide) (by decide) (by decide))
 rw [show scaleP (1 / u1) p76 = p129 from Hp129.out.symm] at CT
 with_reducible refine CT.out.mono ?_
 rintro e w130 ⟨z131, rfl, hN132, hb⟩
 have N132 := Lib.hid hN132
 clear hN132
 clear CT
 have N4 := Lib.hid (N4.out.below hb)
 have N60 := Lib.hid (N60.out.below hb)
 clear N79
 have KG := Lib.hid (KG.out.trans (hb.mono KG.out.size))
 clear hb
 go_wp2_with fail
 have CT := Lib.hid (pfrac_23 w130)
 rw [show ((2 : Int) : Rat) / ((3 : Int) : Rat) = q133 from Hq133.out.symm] at CT
 with_reducible refine CT.out.mono ?_
 rintro e w134 ⟨x135, rfl, hN136, hb⟩
 have N136 := Lib.hid hN136
 clear hN136
 clear CT
 have N4 := Lib.hid (N4.out.below hb)
 have N60 := Lib.hid (N60.out.below hb)
 have N132 := Lib.hid (N132.out.below hb)
 have KG := Lib.hid (KG.out.trans (hb.mono KG.out.size))
 clear hb
 go_wp2_with fail
 have CT := Lib.hid (pscale N4.out.k PCp1.out (N136.out).k.any (((N136.out).k).len LQq133.out (by decide : _ ≤ 900000)) LQq133.out (by decide) (by decide) (by decide) (by decide))
 rw [show scaleP q133 p1 = p137 from Hp137.out.symm] at CT
 with_reducible refine CT.out.mono ?_
 rintro e w138 ⟨z139, rfl, hN140, hb⟩
 have N140 := Lib.hid hN140
 clear hN140
 clear CT
 clear N4
 have N60 := Lib.hid (N60.out.below hb)
 have N132 := Lib.hid (N132.out.below hb)
 clear N136
 have KG := Lib.hid (KG.out.trans (hb.mono KG.out.size))
 clear hb
 go_wp2_with fail
 have CT := Lib.hid (padd N140.out.k PCp137.out N60.out.k PCp57.out 7 (by decide) (by decide) (by decide) (by decide))
 rw [show addP p137 p57 = p141 from Hp141.out.symm] at CT
 with_reducible refine CT.out.mono ?_
 rintro e w142 ⟨z143, rfl, hN144, hb⟩
 have N144 := Lib.hid hN144
 clear hN144
 clear CT
 clear N60
 have N132 := Lib.hid (N132.out.below hb)
 clear N140
 have KG := Lib.hid (KG.out.trans (hb.mono KG.out.size))
 clear hb
 go_wp2_with fail
 have CT := Lib.hid (psame7 N132.out.k N144.out.k (by simp only [Hp141.out, Hp137.out, Hq133.out, Hp129.out, Hp124.out, Hp120.out, Hq116.out, Hp112.out, Hq100.out, Hp95.out, Hq90.out, Hp85.out, Hq80.out, Hu1.out, Hu0.out, Hp76.out, Hp72.out, Hp65.out, Hq61.out, Hp57.out, Hp53.out, Hq49.out, Hp45.out, Hp41.out, Hq37.out, Hp33.out, Hq29.out, Hp25.out, Hp21.out, Hq17.out, Hp13.out, Hq9.out, Hp5.out, Hp1.out]; decide +kernel) PCp129.out (by decide) (by decide))
 with_reducible refine CT.out.mono ?_
 rintro e w145 ⟨rfl, hb⟩
 clear CT
 clear N132
 clear N144
 have KG := Lib.hid (KG.out.trans (hb.mono KG.out.size))
 clear hb
 go_wp2_with fail
 go_ret
 exact ⟨rfl, KG.out⟩
end Go.Proofs.YthcccdjfedbnfaaGreatDoor.Pol

